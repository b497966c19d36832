/-
  Contracts: GroupLeast.
-/
import Derived.Test.YtjojlcakpoacjaaK20
import Derived.Test.YtjojlcakpoacjaaGg
namespace Go.Fx
open Go Go.Proofs
set_option maxRecDepth 100000
set_option linter.unusedVariables false
set_option linter.unusedSimpArgs false
set_option linter.unusedSectionVars false
noncomputable def C_GroupLeast : Contract := { args := [.list .op, .int .i64], res := [.bool], pre := fun x => rchO x.1, F := fun x => ((true : Bool), ()) }
def T_GroupLeast (l : List Op3) (s : Int) : Prop :=
  (True ∧
∀ z2 : Bool,
(z2 = true →
(((!z2) = true →
 (false, ()) = (true, ())) ∧
((!z2) = false →
(True ∧
∀ z5 : List Op3,
(z5 = l →
(True ∧
∀ z7 : List Op3,
(z7 = cloL z5 →
∀ z9 : Int,
(z9 = cloE z5 →
(((!(decide (z9 = 0))) = true →
 (((decide ((z7.length : Int) = 0)) = true →
  (((decide (z9 = 2)) = true →
   (true, ()) = (true, ())) ∧
  ((decide (z9 = 2)) = false →
  (((decide (z9 = 3)) = true →
   (true, ()) = (true, ())) ∧
  ((decide (z9 = 3)) = false →
  (((decide (z9 = 4)) = true →
   (true, ()) = (true, ())) ∧
  ((decide (z9 = 4)) = false →
  ((decide (z9 = 5)), ()) = (true, ())))))))) ∧
 ((decide ((z7.length : Int) = 0)) = false →
 (false, ()) = (true, ())))) ∧
((!(decide (z9 = 0))) = false →
(True ∧
∀ z12 : Int,
(z12 = chkE z7 →
(((!(decide (z12 = 0))) = true →
 (false, ()) = (true, ())) ∧
((!(decide (z12 = 0))) = false →
(((decide (192 < (z7.length : Int))) = true →
 (false, ()) = (true, ())) ∧
((decide (192 < (z7.length : Int))) = false →
(((decide ((z7.length : Int) < 1)) = true →
 (false, ()) = (true, ())) ∧
((decide ((z7.length : Int) < 1)) = false →
(rgP (l.length : Int) 0 ∧
∀ z17 : Int,
((decide ((-9223372036854775808) ≤ z17)) = true →
((decide (z17 ≤ 9223372036854775807)) = true →
(rgP (l.length : Int) z17 →
(((decide (z17 < (l.length : Int))) = true →
 (inB l z17 ∧
 (True ∧
 ∀ z22 : Int,
 (z22 = fndI z7 (((l.getD (z17).toNat zerO))) →
 ∀ z24 : Int,
 (z24 = fndE z7 (((l.getD (z17).toNat zerO))) →
 (((!(decide (z24 = 0))) = true →
  (false, ()) = (true, ())) ∧
 ((!(decide (z24 = 0))) = false →
 (rgP (l.length : Int) ((w64 (z17 + 1))) ∧
 ((decide (0 ≤ rgMu (l.length : Int) ((w64 (z17 + 1))))) = true ∧
 (decide (rgMu (l.length : Int) ((w64 (z17 + 1))) < rgMu (l.length : Int) z17)) = true))))))))) ∧
((decide (z17 < (l.length : Int))) = false →
(rgP (z7.length : Int) 0 ∧
∀ z22 : Int,
((decide ((-9223372036854775808) ≤ z22)) = true →
((decide (z22 ≤ 9223372036854775807)) = true →
(rgP (z7.length : Int) z22 →
(((decide (z22 < (z7.length : Int))) = true →
 (inB z7 z22 ∧
 (((decide (0 < z22)) = true →
  (inB z7 ((w64 (z22 - 1))) ∧
  (True ∧
  (((decide (0 ≤ cmpO (((z7.getD ((w64 (z22 - 1))).toNat zerO))) (((z7.getD (z22).toNat zerO))))) = true →
   (false, ()) = (true, ())) ∧
  ((decide (0 ≤ cmpO (((z7.getD ((w64 (z22 - 1))).toNat zerO))) (((z7.getD (z22).toNat zerO))))) = false →
  (rgP (z7.length : Int) ((w64 (z22 + 1))) ∧
  ((decide (0 ≤ rgMu (z7.length : Int) ((w64 (z22 + 1))))) = true ∧
  (decide (rgMu (z7.length : Int) ((w64 (z22 + 1))) < rgMu (z7.length : Int) z22)) = true))))))) ∧
 ((decide (0 < z22)) = false →
 (rgP (z7.length : Int) ((w64 (z22 + 1))) ∧
 ((decide (0 ≤ rgMu (z7.length : Int) ((w64 (z22 + 1))))) = true ∧
 (decide (rgMu (z7.length : Int) ((w64 (z22 + 1))) < rgMu (z7.length : Int) z22)) = true)))))) ∧
((decide (z22 < (z7.length : Int))) = false →
(True ∧
∀ z27 : List M3,
(z27 = rotL z7 →
∀ z29 : Int,
(z29 = chkE z7 →
(True ∧
∀ z31 : List V3,
(z31 = cenL z7 →
∀ z33 : Int,
(z33 = chkE z7 →
(True ∧
∀ z35 : List Op3,
(z35 = z7 →
(True ∧
∀ z37 : List Op3,
(z37 = cloL z35 →
∀ z39 : Int,
(z39 = cloE z35 →
(tuP l [] (((l.length : Int) - 1)) ∧
∀ z41 : List Op3,
∀ z42 : Int,
((decide ((-9223372036854775808) ≤ z42)) = true →
((decide (z42 ≤ 9223372036854775807)) = true →
(tuP l z41 z42 →
(lfit 96 z41 →
(((decide (0 ≤ z42)) = true →
 (inB l z42 ∧
 (lfit 96 (lapp z41 ([((l.getD (z42).toNat zerO))])) ∧
 (tuP l (lapp z41 ([((l.getD (z42).toNat zerO))])) ((w64 (z42 - 1))) ∧
 ((decide (0 ≤ tuMu ((w64 (z42 - 1))))) = true ∧
 (decide (tuMu ((w64 (z42 - 1))) < tuMu z42)) = true))))) ∧
((decide (0 ≤ z42)) = false →
(((decide ((z41.length : Int) < 192)) = true →
 (((z7.length : Int) ≠ 0) ∧
 (((z7.length : Int) ≠ 0) ∧
 (inB z7 ((Int.tmod (((Int.tmod s (z7.length : Int)) + (z7.length : Int))) (z7.length : Int))) ∧
 (lfit 96 (lapp z41 ([((z7.getD ((Int.tmod (((Int.tmod s (z7.length : Int)) + (z7.length : Int))) (z7.length : Int))).toNat zerO))])) ∧
 (True ∧
 ∀ z49 : List Op3,
 (z49 = cloL (lapp z41 ([((z7.getD ((Int.tmod (((Int.tmod s (z7.length : Int)) + (z7.length : Int))) (z7.length : Int))).toNat zerO))])) →
 ∀ z51 : Int,
 (z51 = cloE (lapp z41 ([((z7.getD ((Int.tmod (((Int.tmod s (z7.length : Int)) + (z7.length : Int))) (z7.length : Int))).toNat zerO))])) →
 (((decide (z29 = 0)) = true →
  (((decide (z33 = 0)) = true →
   (((decide (z39 = 0)) = true →
    (((decide (z51 = 0)) = true →
     (((decide ((w64 (((z27.length : Int) * (z31.length : Int)))) = (z7.length : Int))) = true →
      (True ∧
      ∀ z58 : Bool,
      (z58 = smO z37 z7 →
      ((z58 = true →
       (True ∧
       ∀ z61 : Bool,
       (z61 = smO z49 z7 →
       (z61, ()) = (true, ())))) ∧
      (z58 = false →
      (false, ()) = (true, ())))))) ∧
     ((decide ((w64 (((z27.length : Int) * (z31.length : Int)))) = (z7.length : Int))) = false →
     (false, ()) = (true, ())))) ∧
    ((decide (z51 = 0)) = false →
    (false, ()) = (true, ())))) ∧
   ((decide (z39 = 0)) = false →
   (false, ()) = (true, ())))) ∧
  ((decide (z33 = 0)) = false →
  (false, ()) = (true, ())))) ∧
 ((decide (z29 = 0)) = false →
 (false, ()) = (true, ()))))))))))) ∧
((decide ((z41.length : Int) < 192)) = false →
(True ∧
∀ z49 : List Op3,
(z49 = cloL z41 →
∀ z51 : Int,
(z51 = cloE z41 →
(((decide (z29 = 0)) = true →
 (((decide (z33 = 0)) = true →
  (((decide (z39 = 0)) = true →
   (((decide (z51 = 0)) = true →
    (((decide ((w64 (((z27.length : Int) * (z31.length : Int)))) = (z7.length : Int))) = true →
     (True ∧
     ∀ z58 : Bool,
     (z58 = smO z37 z7 →
     ((z58 = true →
      (True ∧
      ∀ z61 : Bool,
      (z61 = smO z49 z7 →
      (z61, ()) = (true, ())))) ∧
     (z58 = false →
     (false, ()) = (true, ())))))) ∧
    ((decide ((w64 (((z27.length : Int) * (z31.length : Int)))) = (z7.length : Int))) = false →
    (false, ()) = (true, ())))) ∧
   ((decide (z51 = 0)) = false →
   (false, ()) = (true, ())))) ∧
  ((decide (z39 = 0)) = false →
  (false, ()) = (true, ())))) ∧
 ((decide (z33 = 0)) = false →
 (false, ()) = (true, ())))) ∧
((decide (z29 = 0)) = false →
(false, ()) = (true, ())))))))))))))))))))))))))))))))))))))))))))))))))))))))))
theorem r_GroupLeast (x : HL C_GroupLeast.args) : runs (env0 [(26, C_awake5.hid), (27, C_r5Twin.hid), (14, C_gClose.hid), (16, C_gCheck.hid), (18, C_gFind.hid), (17, C_opCompare.hid), (23, C_gRotations.hid), (24, C_gCentring.hid), (29, C_r5Same.hid)] [(11, 9, { fix := [(.tmp 65, .list .op)], vars := [(.tmp 67, .int .i64)], inv := fun y v => rgP (lenI y.1) v.1, mu := fun y v => rgMu (lenI y.1) v.1 }), (11, 16, { fix := [(.tmp 80, .list .op)], vars := [(.tmp 82, .int .i64)], inv := fun y v => rgP (lenI y.1) v.1, mu := fun y v => rgMu (lenI y.1) v.1 }), (11, 26, { fix := [(.tmp 0, .list .op)], vars := [(.tmp 19, .list .op), (.tmp 20, .int .i64)], inv := fun y v => tuP y.1 v.1 v.2.1, mu := fun y v => tuMu v.2.1 })] []) 400 11 C_GroupLeast x = T_GroupLeast x.1 x.2.1 := by kernel_rfl
theorem p_GroupLeast (l : List Op3) (s : Int) (h0 : (Sh.list .op).okA l) (h1 : (Sh.int .i64).okA s) (hp : rchO l) : T_GroupLeast l s := by
  unfold T_GroupLeast
  have hr : l.length * 96 ≤ 140737488351232 := hp
  refine ⟨trivial, fun z hz => ⟨fun h => absurd (hz ▸ h) (by decide), fun _ => ⟨trivial, fun a ha => ?_⟩⟩⟩
  subst ha
  refine ⟨trivial, fun g hg e he => ⟨fun hne => ?_, fun hze => ?_⟩⟩
  · have hne' : ¬ cloE a = 0 := by rw [← he]; simpa using hne
    obtain ⟨hv, hn⟩ := (cloE_vals a).resolve_left hne'
    rw [← he] at hv
    rw [hg, hn]
    refine ⟨fun _ => ⟨fun _ => rfl, fun h2 => ⟨fun _ => rfl, fun h3 => ⟨fun _ => rfl, fun h4 => ?_⟩⟩⟩, fun h => absurd h (by decide)⟩
    have h2 := of_decide_eq_false h2
    have h3 := of_decide_eq_false h3
    have h4 := of_decide_eq_false h4
    rw [decide_eq_true (show e = 5 by omega)]
  have hz0 : cloE a = 0 := by rw [← he]; simpa using hze
  have hI := clo_isG hz0
  rw [← hg] at hI
  have hc := isG_chk hI
  have hlen := hI.len
  have hone := List.length_pos_of_mem ((hI.mem _).2 .one)
  obtain ⟨hga, _⟩ := cloE_zero hz0
  have hF := gE_frm hga
  have hst := stB_iff.1 (isG_st hI)
  refine ⟨trivial, fun c hcc => ⟨fun h => absurd h (by rw [hcc, hc]; decide), fun _ => ⟨fun h => absurd (of_decide_eq_true h) (by omega), fun _ => ⟨fun h => absurd (of_decide_eq_true h) (by omega), fun _ => ⟨rg_init a, fun i _ _ hK => ⟨fun hi => ?_, fun _ => ⟨rg_init g, fun i _ _ hK => ⟨fun hi => ?_, fun _ => ?_⟩⟩⟩⟩⟩⟩⟩⟩
  · have hi := of_decide_eq_true hi
    refine ⟨⟨hK.1, hi⟩, trivial, fun x hx y hy => ⟨fun h => absurd h ?_, fun _ => rg_next (by omega) hK hi⟩⟩
    rw [hy, fnd_ok hc ((hI.mem _).2 (Gen.mem hF (getD_mem hK.1 hi zerO)))]; decide
  · have hi := of_decide_eq_true hi
    refine ⟨⟨hK.1, hi⟩, fun h0 => ?_, fun _ => rg_next (by omega) hK hi⟩
    have h0 := of_decide_eq_true h0
    have ew : w64 (i - 1) = i - 1 := w64_id (by omega) (by omega)
    rw [ew]
    refine ⟨⟨by omega, by omega⟩, trivial, fun h => absurd (of_decide_eq_true h) ?_, fun _ => rg_next (by omega) hK hi⟩
    have := hst (i - 1).toNat (by omega)
    rw [show (i - 1).toNat + 1 = i.toNat by omega] at this
    omega
  refine ⟨trivial, fun r hr1 f hf => ⟨trivial, fun v hv f2 hf2 => ⟨trivial, fun g2 hg2 => ⟨trivial, fun g3 hg3 f3 hf3 => ⟨tu_init a, fun t i _ _ hT hfit => ⟨fun hi => ?_, fun hi => ?_⟩⟩⟩⟩⟩⟩
  · have hi := of_decide_eq_true hi
    exact ⟨⟨hi, hT.2.1⟩, tu_fit hr hT _, tu_next (by omega) hT hi⟩
  have ht := tu_end hT (of_decide_eq_false hi)
  obtain ⟨k1, k2⟩ := isG_clo hI (gE_of hI.len hI.frm) (isG_self hI)
  have hprod := rot_cen hI
  have hw : w64 (((r.length : Int) * (v.length : Int))) = (g.length : Int) := by
    have e1 : ((r.length : Int) * (v.length : Int)) = (g.length : Int) := by rw [hr1, hv, ← hprod]; simp
    rw [e1]; exact w64_id (by omega) (by omega)
  have halen : a.length ≤ 192 := gE_len hga
  have fin : ∀ (x : List Op3) (y : Int), x = g → y = 0 → ((decide (f = 0) = true → ((decide (f2 = 0) = true → ((decide (f3 = 0) = true → ((decide (y = 0) = true → ((decide (w64 (((r.length : Int) * (v.length : Int))) = (g.length : Int)) = true → (True ∧ ∀ z58 : Bool, (z58 = smO g3 g → ((z58 = true → (True ∧ ∀ z61 : Bool, (z61 = smO x g → (z61, ()) = (true, ())))) ∧ (z58 = false → (false, ()) = (true, ())))))) ∧ (decide (w64 (((r.length : Int) * (v.length : Int))) = (g.length : Int)) = false → (false, ()) = (true, ())))) ∧ (decide (y = 0) = false → (false, ()) = (true, ())))) ∧ (decide (f3 = 0) = false → (false, ()) = (true, ())))) ∧ (decide (f2 = 0) = false → (false, ()) = (true, ())))) ∧ (decide (f = 0) = false → (false, ()) = (true, ()))) := fun x y hx hy => by
    have q1 : f = 0 := hf.trans hc
    have q2 : f2 = 0 := hf2.trans hc
    have q3 : f3 = 0 := by rw [hf3, hg2]; exact k2
    have q4 : g3 = g := by rw [hg3, hg2]; exact k1
    rw [q1, q2, q3, hy, q4, hx, hw, smO_self]
    refine ⟨fun _ => ⟨fun _ => ⟨fun _ => ⟨fun _ => ⟨fun _ => ⟨trivial, fun b hb => ⟨fun _ => ⟨trivial, fun b2 hb2 => by rw [hb2]⟩, fun h => absurd (hb ▸ h) (by decide)⟩⟩, fun h => absurd h (by simp)⟩, fun h => absurd h (by decide)⟩, fun h => absurd h (by decide)⟩, fun h => absurd h (by decide)⟩, fun h => absurd h (by decide)⟩
  have same : ∀ x : Op3, x ∈ g → t.length < 192 → cloL (lapp t [x]) = g ∧ cloE (lapp t [x]) = 0 := fun x hx hl => by
    have hmem : ∀ o, o ∈ lapp t [x] ↔ o ∈ a ∨ o = x := fun o => by
      show o ∈ t ++ [x] ↔ _
      rw [List.mem_append, List.mem_singleton, ht, List.mem_reverse]
    refine isG_clo hI (gE_of (by show (t ++ [x]).length ≤ 192; rw [List.length_append]; simp; omega) fun o ho => ?_) fun y => ⟨fun hy => gen_sub (fun o ho => Gen.mem ?_ ((hmem o).2 (.inl ho))) hy, fun hy => gen_sub (fun o ho => ?_) hy⟩
    · rcases (hmem o).1 ho with h | h
      · exact hF o h
      · rw [h]; exact hI.frm x hx
    · intro o' ho'
      rcases (hmem o').1 ho' with h | h
      · exact hF o' h
      · rw [h]; exact hI.frm x hx
    · rcases (hmem o).1 ho with h | h
      · exact Gen.mem hF h
      · rw [h]; exact (hI.mem x).1 hx
  refine ⟨fun hl => ?_, fun hl => ⟨trivial, fun x hx y hy => ?_⟩⟩
  · have hl := of_decide_eq_true hl
    have hgl : (g.length : Int) ≠ 0 := by omega
    have hb := idx_in s hone
    refine ⟨hgl, hgl, hb, tu_fit hr hT _, trivial, fun x hx y hy => ?_⟩
    obtain ⟨s1, s2⟩ := same _ (getD_mem hb.1 hb.2 zerO) (by omega)
    exact fin x y (hx.trans s1) (hy.trans s2)
  · have hall : ∀ o, o ∈ t ↔ o ∈ a := fun o => by rw [ht, List.mem_reverse]
    obtain ⟨s1, s2⟩ := isG_clo (m := t) hI (gE_of (by rw [ht, List.length_reverse]; exact halen) fun o ho => hF o ((hall o).1 ho)) fun y => ⟨fun hy => gen_sub (fun o ho => Gen.mem (fun o' ho' => hF o' ((hall o').1 ho')) ((hall o).2 ho)) hy, fun hy => gen_sub (fun o ho => Gen.mem hF ((hall o).1 ho)) hy⟩
    exact fin x y (hx.trans s1) (hy.trans s2)
theorem s_GroupLeast : Sound Try.prog 11 C_GroupLeast :=
  sound_of_eq (env0_ok (.cons s_awake5.hid (.cons s_r5Twin.hid (.cons s_gClose.hid (.cons s_gCheck.hid (.cons s_gFind.hid (.cons s_opCompare.hid (.cons s_gRotations.hid (.cons s_gCentring.hid (.cons s_r5Same.hid (.nil))))))))))) (fun x => T_GroupLeast x.1 x.2.1) r_GroupLeast fun x ok hp => p_GroupLeast x.1 x.2.1 ok.1 ok.2.1 hp
end Go.Fx
