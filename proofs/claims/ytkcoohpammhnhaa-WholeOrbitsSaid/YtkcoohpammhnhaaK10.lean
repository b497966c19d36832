/-
  Contracts: oSite, oLeast, oContains, oSame.
-/
import Derived.Test.YtkcoohpammhnhaaK9
namespace Go.Fx
open Go Go.Proofs
set_option maxRecDepth 100000
set_option linter.unusedVariables false
set_option linter.unusedSimpArgs false
set_option linter.unusedSectionVars false
noncomputable def C_oSite : Contract := { args := [.list .op, .agg .pt], res := [.list .int, .int .i64], pre := fun _ => True, F := fun x => ((siL x.1 x.2.1 : List Int), (ocE x.1 [x.2.1] : Int), ()) }
def T_oSite (g : List Op3) (p : Pt) : Prop :=
  (True ∧
∀ z2 : Int,
(z2 = ocE g [p] →
(((!(decide (z2 = 0))) = true →
 ([], (z2, ())) = (siL g p, (ocE g [p], ()))) ∧
((!(decide (z2 = 0))) = false →
(True ∧
∀ z5 : List Pt,
(z5 = imP g p →
(siInv z5 p [] 0 ∧
∀ z7 : List Int,
∀ z8 : Int,
((decide ((-9223372036854775808) ≤ z8)) = true →
((decide (z8 ≤ 9223372036854775807)) = true →
(siInv z5 p z7 z8 →
(lfit 8 z7 →
(((decide (z8 < (z5.length : Int))) = true →
 (inB z5 z8 ∧
 ((((decide (((z5.getD (z8).toNat (Pt.mk 0 (V3.mk 0 0 0)))).M = p.M)) && ((decide ((((z5.getD (z8).toNat (Pt.mk 0 (V3.mk 0 0 0)))).X).x = p.X.x)) && ((decide ((((z5.getD (z8).toNat (Pt.mk 0 (V3.mk 0 0 0)))).X).y = p.X.y)) && ((decide ((((z5.getD (z8).toNat (Pt.mk 0 (V3.mk 0 0 0)))).X).z = p.X.z)) && true)))) = true →
  (lfit 8 (lapp z7 [z8]) ∧
  (siInv z5 p (lapp z7 [z8]) ((w64 (z8 + 1))) ∧
  ((decide (0 ≤ lnX z5 ((w64 (z8 + 1))))) = true ∧
  (decide (lnX z5 ((w64 (z8 + 1))) < lnX z5 z8)) = true)))) ∧
 (((decide (((z5.getD (z8).toNat (Pt.mk 0 (V3.mk 0 0 0)))).M = p.M)) && ((decide ((((z5.getD (z8).toNat (Pt.mk 0 (V3.mk 0 0 0)))).X).x = p.X.x)) && ((decide ((((z5.getD (z8).toNat (Pt.mk 0 (V3.mk 0 0 0)))).X).y = p.X.y)) && ((decide ((((z5.getD (z8).toNat (Pt.mk 0 (V3.mk 0 0 0)))).X).z = p.X.z)) && true)))) = false →
 (siInv z5 p z7 ((w64 (z8 + 1))) ∧
 ((decide (0 ≤ lnX z5 ((w64 (z8 + 1))))) = true ∧
 (decide (lnX z5 ((w64 (z8 + 1))) < lnX z5 z8)) = true)))))) ∧
((decide (z8 < (z5.length : Int))) = false →
(z7, (0, ())) = (siL g p, (ocE g [p], ())))))))))))))))
theorem r_oSite (x : HL C_oSite.args) : runs (env0 [(33, C_ocheck.hid), (34, C_oimages.hid)] [(15, 6, { fix := [(.tmp 19, .list .pt), (.cell 3, .agg .pt)], vars := [(.tmp 7, .list .int), (.tmp 21, .int .i64)], inv := fun y v => siInv y.1 y.2.1 v.1 v.2.1, mu := fun y v => lnX y.1 v.2.1 })] []) 400 15 C_oSite x = T_oSite x.1 x.2.1 := by kernel_rfl
theorem p_oSite (g : List Op3) (p : Pt) (h0 : (Sh.list .op).okA g) (h1 : (Sh.agg .pt).okA p) : T_oSite g p := by
  unfold T_oSite
  refine ⟨trivial, fun e he => ⟨fun q => ?_, fun q => ⟨trivial, fun l hl => ⟨⟨Int.le_refl _, by omega, rfl⟩, fun s i _ _ hI hfit => ⟨fun hi => ?_, fun hi => ?_⟩⟩⟩⟩⟩
  · have hne : ocE g [p] ≠ 0 := by rw [← he]; simpa using q
    unfold siL; rw [if_neg hne, he]
  · have hz : ocE g [p] = 0 := by rw [← he]; simpa using q
    have hl2 : g.length ≤ 192 := (oc_P hz).2.2
    have hll : l.length = g.length := by rw [hl, imP_len]
    have hi := of_decide_eq_true hi
    have i0 := hI.1
    have hs := si_lenI hI
    have e1 : w64 (i + 1) = i + 1 := w64_id (by omega) (by omega)
    have m1 : decide (0 ≤ lnX l (w64 (i + 1))) = true := decide_eq_true (by unfold lnX; omega)
    have m2 : decide (lnX l (w64 (i + 1)) < lnX l i) = true := decide_eq_true (by unfold lnX; omega)
    have nx : siInv l p (if l.getD i.toNat (Pt.mk 0 (V3.mk 0 0 0)) = p then s ++ [i] else s) (i + 1) := si_next hI hi
    rw [e1] at m1 m2 ⊢
    rw [eqPc]
    refine ⟨⟨i0, hi⟩, fun c => ⟨?_, ?_, m1, m2⟩, fun c => ⟨?_, m1, m2⟩⟩
    · show (s ++ [i]).length * 8 ≤ 140737488355328
      rw [List.length_append]; simp only [List.length_singleton]; omega
    · rwa [if_pos (of_decide_eq_true c)] at nx
    · rwa [if_neg (of_decide_eq_false c)] at nx
  · have hz : ocE g [p] = 0 := by rw [← he]; simpa using q
    have hi := of_decide_eq_false hi
    have hll : l.length = g.length := by rw [hl, imP_len]
    have : i.toNat = g.length := by have := hI.2.1; omega
    unfold siL; rw [if_pos hz, hz, hI.2.2, this, hl]
theorem s_oSite : Sound Try.prog 15 C_oSite :=
  sound_of_eq (env0_ok (.cons s_ocheck.hid (.cons s_oimages.hid (.nil)))) (fun x => T_oSite x.1 x.2.1) r_oSite fun x ok hp => p_oSite x.1 x.2.1 ok.1 ok.2.1
noncomputable def C_oLeast : Contract := { args := [.list .op, .agg .pt], res := [.agg .pt, .int .i64, .int .i64], pre := fun _ => True, F := fun x => ((lsP x.1 x.2.1 : Pt), (lsI x.1 x.2.1 : Int), (ocE x.1 [x.2.1] : Int), ()) }
def T_oLeast (g : List Op3) (p : Pt) : Prop :=
  (True ∧
∀ z2 : Int,
(z2 = ocE g [p] →
(((!(decide (z2 = 0))) = true →
 ((Pt.mk 0 (V3.mk 0 0 0)), (0, (z2, ()))) = (lsP g p, (lsI g p, (ocE g [p], ())))) ∧
((!(decide (z2 = 0))) = false →
(True ∧
∀ z5 : List Pt,
(z5 = imP g p →
(((decide ((z5.length : Int) < 1)) = true →
 Bad 55) ∧
((decide ((z5.length : Int) < 1)) = false →
(inB z5 0 ∧
(mnInv z5 (((z5.getD 0 (Pt.mk 0 (V3.mk 0 0 0))))) 1 ∧
∀ z8 : Pt,
∀ z9 : Int,
((decide ((-9223372036854775808) ≤ z9)) = true →
((decide (z9 ≤ 9223372036854775807)) = true →
(mnInv z5 z8 z9 →
(((decide (z9 < (z5.length : Int))) = true →
 (inB z5 z9 ∧
 (True ∧
 (((decide (ordX (((z5.getD (z9).toNat (Pt.mk 0 (V3.mk 0 0 0))))) z8 < 0)) = true →
  (inB z5 z9 ∧
  (mnInv z5 (((z5.getD (z9).toNat (Pt.mk 0 (V3.mk 0 0 0))))) ((w64 (z9 + 1))) ∧
  ((decide (0 ≤ lnX z5 ((w64 (z9 + 1))))) = true ∧
  (decide (lnX z5 ((w64 (z9 + 1))) < lnX z5 z9)) = true)))) ∧
 ((decide (ordX (((z5.getD (z9).toNat (Pt.mk 0 (V3.mk 0 0 0))))) z8 < 0)) = false →
 (mnInv z5 z8 ((w64 (z9 + 1))) ∧
 ((decide (0 ≤ lnX z5 ((w64 (z9 + 1))))) = true ∧
 (decide (lnX z5 ((w64 (z9 + 1))) < lnX z5 z9)) = true))))))) ∧
((decide (z9 < (z5.length : Int))) = false →
(True ∧
(z8, (idxX z5 z8, (0, ()))) = (lsP g p, (lsI g p, (ocE g [p], ())))))))))))))))))))
theorem r_oLeast (x : HL C_oLeast.args) : runs (env0 [(33, C_ocheck.hid), (34, C_oimages.hid), (36, C_oorder.hid), (42, C_oIndex.hid)] [(41, 5, { fix := [(.tmp 0, .list .pt)], vars := [(.cell 5, .agg .pt), (.tmp 6, .int .i64)], inv := fun y v => mnInv y.1 v.1 v.2.1, mu := fun y v => lnX y.1 v.2.1 })] []) 400 18 C_oLeast x = T_oLeast x.1 x.2.1 := by kernel_rfl
theorem p_oLeast (g : List Op3) (p : Pt) (h0 : (Sh.list .op).okA g) (h1 : (Sh.agg .pt).okA p) : T_oLeast g p := by
  unfold T_oLeast
  refine ⟨trivial, fun e he => ⟨fun q => ?_, fun q => ⟨trivial, fun l hl => ⟨fun h => ?_, fun h => ⟨⟨Int.le_refl _, by have := of_decide_eq_false h; omega⟩, mn_init (by have := of_decide_eq_false h; omega), fun m i _ _ hI => ⟨fun hi => ?_, fun hi => ⟨trivial, ?_⟩⟩⟩⟩⟩⟩⟩
  · have hne : ocE g [p] ≠ 0 := by rw [← he]; simpa using q
    unfold lsP lsI; rw [if_neg hne, if_neg hne, he]; rfl
  · have hz : ocE g [p] = 0 := by rw [← he]; simpa using q
    have h := of_decide_eq_true h
    exact absurd (hl ▸ List.eq_nil_of_length_eq_zero (by omega) : imP g p = []) (im_ne hz)
  · have hz : ocE g [p] = 0 := by rw [← he]; simpa using q
    have hl2 : g.length ≤ 192 := (oc_P hz).2.2
    have hll : l.length = g.length := by rw [hl, imP_len]
    have hi := of_decide_eq_true hi
    have i0 := hI.1
    have e1 : w64 (i + 1) = i + 1 := w64_id (by omega) (by omega)
    have m1 : decide (0 ≤ lnX l (w64 (i + 1))) = true := decide_eq_true (by unfold lnX; omega)
    have m2 : decide (lnX l (w64 (i + 1)) < lnX l i) = true := decide_eq_true (by unfold lnX; omega)
    have nx : mnInv l (if ordX (l.getD i.toNat (Pt.mk 0 (V3.mk 0 0 0))) m < 0 then l.getD i.toNat (Pt.mk 0 (V3.mk 0 0 0)) else m) (i + 1) := mn_next hI hi
    rw [e1] at m1 m2 ⊢
    refine ⟨⟨by omega, hi⟩, trivial, fun c => ⟨⟨by omega, hi⟩, ?_, m1, m2⟩, fun c => ⟨?_, m1, m2⟩⟩
    · rwa [if_pos (of_decide_eq_true c)] at nx
    · rwa [if_neg (of_decide_eq_false c)] at nx
  · have hz : ocE g [p] = 0 := by rw [← he]; simpa using q
    unfold lsP lsI; rw [if_pos hz, if_pos hz, hz, hI.2.2, take_end (of_decide_eq_false hi), hl]
theorem s_oLeast : Sound Try.prog 18 C_oLeast :=
  sound_of_eq (env0_ok (.cons s_ocheck.hid (.cons s_oimages.hid (.cons s_oorder.hid (.cons s_oIndex.hid (.nil)))))) (fun x => T_oLeast x.1 x.2.1) r_oLeast fun x ok hp => p_oLeast x.1 x.2.1 ok.1 ok.2.1
noncomputable def C_oContains : Contract := { args := [.list .pt, .agg .pt], res := [.bool], pre := fun _ => True, F := fun x => ((conX x.1 x.2.1 : Bool), ()) }
def T_oContains (l : List Pt) (x : Pt) : Prop :=
  (True ∧
∀ z2 : Int,
(z2 = idxX l x →
((decide (0 ≤ z2)), ()) = (conX l x, ())))
theorem r_oContains (x : HL C_oContains.args) : runs (env0 [(42, C_oIndex.hid)] [] []) 400 43 C_oContains x = T_oContains x.1 x.2.1 := by kernel_rfl
theorem p_oContains (l : List Pt) (x : Pt) (h0 : (Sh.list .pt).okA l) (h1 : (Sh.agg .pt).okA x) : T_oContains l x := by
  exact ⟨trivial, fun a ha => by rw [ha]; rfl⟩
theorem s_oContains : Sound Try.prog 43 C_oContains :=
  sound_of_eq (env0_ok (.cons s_oIndex.hid (.nil))) (fun x => T_oContains x.1 x.2.1) r_oContains fun x ok hp => p_oContains x.1 x.2.1 ok.1 ok.2.1
noncomputable def C_oSame : Contract := { args := [.list .op, .agg .pt, .agg .pt], res := [.bool, .int .i64], pre := fun _ => True, F := fun x => ((saB x.1 x.2.1 x.2.2.1 : Bool), (saE x.1 x.2.1 x.2.2.1 : Int), ()) }
def T_oSame (g : List Op3) (p : Pt) (q : Pt) : Prop :=
  (True ∧
∀ z3 : Int,
(z3 = ocE g ([p, q]) →
(((!(decide (p.M = q.M))) = true →
 (((decide (z3 = 0)) = true →
  (false, (6, ())) = (saB g p q, (saE g p q, ()))) ∧
 ((decide (z3 = 0)) = false →
 (((decide (6 < z3)) = true →
  (false, (6, ())) = (saB g p q, (saE g p q, ()))) ∧
 ((decide (6 < z3)) = false →
 (((!(decide (z3 = 0))) = true →
  (false, (z3, ())) = (saB g p q, (saE g p q, ()))) ∧
 ((!(decide (z3 = 0))) = false →
 (True ∧
 (True ∧
 (conX (imP g p) q, (0, ())) = (saB g p q, (saE g p q, ()))))))))))) ∧
((!(decide (p.M = q.M))) = false →
(((!(decide (z3 = 0))) = true →
 (false, (z3, ())) = (saB g p q, (saE g p q, ()))) ∧
((!(decide (z3 = 0))) = false →
(True ∧
(True ∧
(conX (imP g p) q, (0, ())) = (saB g p q, (saE g p q, ()))))))))))
theorem r_oSame (x : HL C_oSame.args) : runs (env0 [(33, C_ocheck.hid), (34, C_oimages.hid), (43, C_oContains.hid)] [] []) 400 20 C_oSame x = T_oSame x.1 x.2.1 x.2.2.1 := by kernel_rfl
theorem p_oSame (g : List Op3) (p : Pt) (q : Pt) (h0 : (Sh.list .op).okA g) (h1 : (Sh.agg .pt).okA p) (h2 : (Sh.agg .pt).okA q) : T_oSame g p q := by
  have hle := oc_le g [p, q]
  unfold T_oSame
  rw [conX_iff]
  refine ⟨trivial, fun e he => ⟨fun hm => ⟨fun k => ?_, fun k => ⟨fun k2 => ?_, fun _ => ⟨fun k3 => ?_, fun k3 => absurd k (by simpa using k3)⟩⟩⟩, fun hm => ⟨fun k => ?_, fun k => ⟨trivial, trivial, ?_⟩⟩⟩⟩
  · have hm : p.M ≠ q.M := by simpa using hm
    have k : ocE g [p, q] = 0 := by rw [← he]; exact of_decide_eq_true k
    have : saE g p q = 6 := by unfold saE; rw [if_pos k, if_neg hm]
    unfold saB; rw [this]; rfl
  · have := of_decide_eq_true k2; omega
  · have k3 : ocE g [p, q] ≠ 0 := by rw [← he]; simpa using k3
    have : saE g p q = e := by unfold saE; rw [if_neg k3, he]
    unfold saB; rw [this, if_neg (by rw [he]; exact k3)]
  · have k3 : ocE g [p, q] ≠ 0 := by rw [← he]; simpa using k
    have : saE g p q = e := by unfold saE; rw [if_neg k3, he]
    unfold saB; rw [this, if_neg (by rw [he]; exact k3)]
  · have hm : p.M = q.M := by simpa using hm
    have k3 : ocE g [p, q] = 0 := by rw [← he]; simpa using k
    have : saE g p q = 0 := by unfold saE; rw [if_pos k3, if_pos hm]
    unfold saB; rw [this, if_pos rfl]
theorem s_oSame : Sound Try.prog 20 C_oSame :=
  sound_of_eq (env0_ok (.cons s_ocheck.hid (.cons s_oimages.hid (.cons s_oContains.hid (.nil))))) (fun x => T_oSame x.1 x.2.1 x.2.2.1) r_oSame fun x ok hp => p_oSame x.1 x.2.1 x.2.2.1 ok.1 ok.2.1 ok.2.2.1
end Go.Fx
