/-
  Contracts: sMeet, sJoin.
-/
import Derived.Test.YtcadkndjcneedaaGreatK8
namespace Go.Fx
open Go Go.Proofs
set_option maxRecDepth 100000
set_option linter.unusedVariables false
set_option linter.unusedSimpArgs false
set_option linter.unusedSectionVars false
noncomputable def C_sMeet : Contract := { args := [.list .op, .list .op], res := [.list .op, .int .i64], pre := fun _ => True, F := fun x => ((meL x.1 x.2.1 : List Op3), (two x.1 x.2.1 : Int), ()) }
def T_sMeet (g : List Op3) (h : List Op3) : Prop :=
  (True ∧
∀ z2 : Int,
(z2 = skE ([g, h]) →
(((!(decide (z2 = 0))) = true →
 ([], (z2, ())) = (meL g h, (two g h, ()))) ∧
((!(decide (z2 = 0))) = false →
(plInv h [] 0 ∧
∀ z5 : List (Op3 × Int),
∀ z6 : Int,
((decide ((-9223372036854775808) ≤ z6)) = true →
((decide (z6 ≤ 9223372036854775807)) = true →
(plInv h z5 z6 →
(((decide (z6 < (h.length : Int))) = true →
 (inB h z6 ∧
 (plInv h ((mset eqO z5 (((h.getD (z6).toNat zerO))) z6)) ((w64 (z6 + 1))) ∧
 ((decide (0 ≤ opMu h ((w64 (z6 + 1))))) = true ∧
 (decide (opMu h ((w64 (z6 + 1))) < opMu h z6)) = true)))) ∧
((decide (z6 < (h.length : Int))) = false →
(meI g h [] 0 ∧
∀ z11 : List Op3,
∀ z12 : Int,
((decide ((-9223372036854775808) ≤ z12)) = true →
((decide (z12 ≤ 9223372036854775807)) = true →
(meI g h z11 z12 →
(lfit 96 z11 →
(((decide (z12 < (g.length : Int))) = true →
 (inB g z12 ∧
 (((mhas eqO z5 (((g.getD (z12).toNat zerO)))) = true →
  (lfit 96 (lapp z11 ([((g.getD (z12).toNat zerO))])) ∧
  (meI g h (lapp z11 ([((g.getD (z12).toNat zerO))])) ((w64 (z12 + 1))) ∧
  ((decide (0 ≤ opMu g ((w64 (z12 + 1))))) = true ∧
  (decide (opMu g ((w64 (z12 + 1))) < opMu g z12)) = true)))) ∧
 ((mhas eqO z5 (((g.getD (z12).toNat zerO)))) = false →
 (meI g h z11 ((w64 (z12 + 1))) ∧
 ((decide (0 ≤ opMu g ((w64 (z12 + 1))))) = true ∧
 (decide (opMu g ((w64 (z12 + 1))) < opMu g z12)) = true)))))) ∧
((decide (z12 < (g.length : Int))) = false →
(z11, (0, ())) = (meL g h, (two g h, ())))))))))))))))))))
theorem r_sMeet (x : HL C_sMeet.args) : runs (env0 [(23, C_scheck.hid)] [(24, 3, { fix := [(.tmp 7, .list .op)], vars := [(.itmp 3, .map .op), (.tmp 9, .int .i64)], inv := fun y v => plInv y.1 v.1 v.2.1, mu := fun y v => opMu y.1 v.2.1 }), (6, 7, { fix := [], vars := [(.tmp 8, .list .op), (.tmp 24, .int .i64)], inv := fun y v => meI x.1 x.2.1 v.1 v.2.1, mu := fun y v => opMu x.1 v.2.1 })] []) 400 6 C_sMeet x = T_sMeet x.1 x.2.1 := by kernel_rfl
theorem p_sMeet (g : List Op3) (h : List Op3) (h0 : (Sh.list .op).okA g) (h1 : (Sh.list .op).okA h) : T_sMeet g h := by
  have hb : g.length * 96 ≤ room := h0.2
  have hb2 : h.length * 96 ≤ room := h1.2
  unfold T_sMeet
  refine ⟨trivial, fun e he => ?_⟩
  have he : e = two g h := he
  refine ⟨fun hq => ?_, fun hq => ?_⟩
  · have hne : two g h ≠ 0 := by rw [← he]; simpa using hq
    unfold meL
    rw [if_neg hne, he]
  have hz : two g h = 0 := by rw [← he]; simpa using hq
  refine ⟨pl_init h, fun m j _ _ hP => ⟨fun hj => ⟨⟨hP.1, of_decide_eq_true hj⟩, pl_next hb2 hP (of_decide_eq_true hj)⟩, fun hj => ?_⟩⟩
  have hm := pl_end hP (of_decide_eq_false hj)
  have hmm : ∀ p, mhas eqO m p = memO h p := fun p => by rw [Bool.eq_iff_iff, hm.1, memO_iff]
  refine ⟨me_0 g h, fun l i _ _ hI hl => ⟨fun hi => ?_, fun hi => ?_⟩⟩
  · have hi := of_decide_eq_true hi
    rw [hmm]
    obtain ⟨n1, n2, n3⟩ := me_next hb hI hi
    exact ⟨⟨hI.1.1, hi⟩, fun q => ⟨(n1 q).1, (n1 q).2, n3⟩, fun q => ⟨n2 q, n3⟩⟩
  · rw [me_end hz hI (of_decide_eq_false hi), hz]
theorem s_sMeet : Sound Tryz.prog 6 C_sMeet :=
  sound_of_eqs (fun x => env0 [(23, C_scheck.hid)] [(24, 3, { fix := [(.tmp 7, .list .op)], vars := [(.itmp 3, .map .op), (.tmp 9, .int .i64)], inv := fun y v => plInv y.1 v.1 v.2.1, mu := fun y v => opMu y.1 v.2.1 }), (6, 7, { fix := [], vars := [(.tmp 8, .list .op), (.tmp 24, .int .i64)], inv := fun y v => meI x.1 x.2.1 v.1 v.2.1, mu := fun y v => opMu x.1 v.2.1 })] []) (fun _ => rfl) (fun _ => env0_ok (.cons s_scheck.hid (.nil))) (fun x => T_sMeet x.1 x.2.1) r_sMeet fun x ok hp => p_sMeet x.1 x.2.1 ok.1 ok.2.1
noncomputable def C_sJoin : Contract := { args := [.list .op, .list .op], res := [.list .op, .int .i64], pre := fun _ => True, F := fun x => ((joL x.1 x.2.1 : List Op3), (joE x.1 x.2.1 : Int), ()) }
def T_sJoin (g : List Op3) (h : List Op3) : Prop :=
  (True ∧
∀ z2 : Int,
(z2 = skE ([g, h]) →
(((!(decide (z2 = 0))) = true →
 ([], (z2, ())) = (joL g h, (joE g h, ()))) ∧
((!(decide (z2 = 0))) = false →
(plInv g [] 0 ∧
∀ z5 : List (Op3 × Int),
∀ z6 : Int,
((decide ((-9223372036854775808) ≤ z6)) = true →
((decide (z6 ≤ 9223372036854775807)) = true →
(plInv g z5 z6 →
(((decide (z6 < (g.length : Int))) = true →
 (inB g z6 ∧
 (plInv g ((mset eqO z5 (((g.getD (z6).toNat zerO))) z6)) ((w64 (z6 + 1))) ∧
 ((decide (0 ≤ opMu g ((w64 (z6 + 1))))) = true ∧
 (decide (opMu g ((w64 (z6 + 1))) < opMu g z6)) = true)))) ∧
((decide (z6 < (g.length : Int))) = false →
(nonE g ∧
(lfit 96 (lapp [] g) ∧
(joI g h (lapp [] g) 0 ∧
∀ z11 : List Op3,
∀ z12 : Int,
((decide ((-9223372036854775808) ≤ z12)) = true →
((decide (z12 ≤ 9223372036854775807)) = true →
(joI g h z11 z12 →
(lfit 96 z11 →
(((decide (z12 < (h.length : Int))) = true →
 (inB h z12 ∧
 (((!(mhas eqO z5 (((h.getD (z12).toNat zerO))))) = true →
  (lfit 96 (lapp z11 ([((h.getD (z12).toNat zerO))])) ∧
  (joI g h (lapp z11 ([((h.getD (z12).toNat zerO))])) ((w64 (z12 + 1))) ∧
  ((decide (0 ≤ opMu h ((w64 (z12 + 1))))) = true ∧
  (decide (opMu h ((w64 (z12 + 1))) < opMu h z12)) = true)))) ∧
 ((!(mhas eqO z5 (((h.getD (z12).toNat zerO))))) = false →
 (joI g h z11 ((w64 (z12 + 1))) ∧
 ((decide (0 ≤ opMu h ((w64 (z12 + 1))))) = true ∧
 (decide (opMu h ((w64 (z12 + 1))) < opMu h z12)) = true)))))) ∧
((decide (z12 < (h.length : Int))) = false →
(((decide (192 < (z11.length : Int))) = true →
 ([], (5, ())) = (joL g h, (joE g h, ()))) ∧
((decide (192 < (z11.length : Int))) = false →
(True ∧
∀ z19 : List Op3,
(z19 = cloL z11 →
∀ z21 : Int,
(z21 = cloE z11 →
(z19, (z21, ())) = (joL g h, (joE g h, ()))))))))))))))))))))))))))
theorem r_sJoin (x : HL C_sJoin.args) : runs (env0 [(23, C_scheck.hid), (26, C_gClose.hid)] [(24, 3, { fix := [(.tmp 7, .list .op)], vars := [(.itmp 3, .map .op), (.tmp 9, .int .i64)], inv := fun y v => plInv y.1 v.1 v.2.1, mu := fun y v => opMu y.1 v.2.1 }), (7, 7, { fix := [], vars := [(.tmp 8, .list .op), (.tmp 26, .int .i64)], inv := fun y v => joI x.1 x.2.1 v.1 v.2.1, mu := fun y v => opMu x.2.1 v.2.1 })] []) 1500 7 C_sJoin x = T_sJoin x.1 x.2.1 := by kernel_rfl
theorem p_sJoin (g : List Op3) (h : List Op3) (h0 : (Sh.list .op).okA g) (h1 : (Sh.list .op).okA h) : T_sJoin g h := by
  have hb : g.length * 96 ≤ room := h0.2
  have hb2 : h.length * 96 ≤ room := h1.2
  unfold T_sJoin
  refine ⟨trivial, fun e he => ?_⟩
  have he : e = two g h := he
  refine ⟨fun hq => ?_, fun hq => ?_⟩
  · have hne : two g h ≠ 0 := by rw [← he]; simpa using hq
    unfold joL joE
    rw [if_neg hne, if_neg hne, he]
  have hz : two g h = 0 := by rw [← he]; simpa using hq
  obtain ⟨hg, hh⟩ := two_zero.1 hz
  have g192 := chk_len hg
  have h192 := chk_len hh
  refine ⟨pl_init g, fun m j _ _ hP => ⟨fun hj => ⟨⟨hP.1, of_decide_eq_true hj⟩, pl_next hb hP (of_decide_eq_true hj)⟩, fun hj => ?_⟩⟩
  have hm := pl_end hP (of_decide_eq_false hj)
  have hmm : ∀ p, mhas eqO m p = memO g p := fun p => by rw [Bool.eq_iff_iff, hm.1, memO_iff]
  refine ⟨fun c => (by have := (chk_grp hg).2.2.1; rw [c] at this; cases this), by show ([] ++ g).length * 96 ≤ 140737488355328; rw [List.nil_append]; omega, jo_0 g h, fun l i _ _ hI hl => ⟨fun hi => ?_, fun hi => ?_⟩⟩
  · have hi := of_decide_eq_true hi
    rw [hmm]
    obtain ⟨n1, n2, n3⟩ := jo_next g192 hb2 h192 hI hi
    exact ⟨⟨hI.1.1, hi⟩, fun q => ⟨(n1 (by simpa using q)).1, (n1 (by simpa using q)).2, n3⟩, fun q => ⟨n2 (by simpa using q), n3⟩⟩
  · rw [jo_end hI (of_decide_eq_false hi)]
    unfold joL joE
    rw [if_pos hz, if_pos hz]
    refine ⟨fun q => ?_, fun q => ⟨trivial, fun z hz2 y hy => ?_⟩⟩
    · rw [if_pos (of_decide_eq_true q), if_pos (of_decide_eq_true q)]
    · rw [if_neg (of_decide_eq_false q), if_neg (of_decide_eq_false q), hz2, hy]
theorem s_sJoin : Sound Tryz.prog 7 C_sJoin :=
  sound_of_eqs (fun x => env0 [(23, C_scheck.hid), (26, C_gClose.hid)] [(24, 3, { fix := [(.tmp 7, .list .op)], vars := [(.itmp 3, .map .op), (.tmp 9, .int .i64)], inv := fun y v => plInv y.1 v.1 v.2.1, mu := fun y v => opMu y.1 v.2.1 }), (7, 7, { fix := [], vars := [(.tmp 8, .list .op), (.tmp 26, .int .i64)], inv := fun y v => joI x.1 x.2.1 v.1 v.2.1, mu := fun y v => opMu x.2.1 v.2.1 })] []) (fun _ => rfl) (fun _ => env0_ok (.cons s_scheck.hid (.cons s_gClose.hid (.nil)))) (fun x => T_sJoin x.1 x.2.1) r_sJoin fun x ok hp => p_sJoin x.1 x.2.1 ok.1 ok.2.1
end Go.Fx
