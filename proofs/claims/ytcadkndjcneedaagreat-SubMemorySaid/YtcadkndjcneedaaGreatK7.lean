/-
  Contracts: scheck, swithin, sWithin, sboth.
-/
import Derived.Test.YtcadkndjcneedaaGreatK6
namespace Go.Fx
open Go Go.Proofs
set_option maxRecDepth 100000
set_option linter.unusedVariables false
set_option linter.unusedSimpArgs false
set_option linter.unusedSectionVars false
noncomputable def C_scheck : Contract := { args := [.lists .op], res := [.int .i64], pre := fun _ => True, F := fun x => ((skE x.1 : Int), ()) }
def T_scheck (l : List (List Op3)) : Prop :=
  (skI l 0 0 ∧
∀ z1 : Int,
((decide ((-9223372036854775808) ≤ z1)) = true →
((decide (z1 ≤ 9223372036854775807)) = true →
∀ z4 : Int,
((decide ((-9223372036854775808) ≤ z4)) = true →
((decide (z4 ≤ 9223372036854775807)) = true →
(skI l z4 z1 →
(((decide (z4 < (l.length : Int))) = true →
 (inB l z4 ∧
 (True ∧
 ∀ z9 : Int,
 (z9 = chkE ((l.getD (z4).toNat [])) →
 (((!(decide (z9 = 0))) = true →
  (((decide (z1 = 0)) = true →
   (skI l ((w64 (z4 + 1))) z9 ∧
   ((decide (0 ≤ skMu l ((w64 (z4 + 1))))) = true ∧
   (decide (skMu l ((w64 (z4 + 1))) < skMu l z4)) = true))) ∧
  ((decide (z1 = 0)) = false →
  (((decide (z9 < z1)) = true →
   (skI l ((w64 (z4 + 1))) z9 ∧
   ((decide (0 ≤ skMu l ((w64 (z4 + 1))))) = true ∧
   (decide (skMu l ((w64 (z4 + 1))) < skMu l z4)) = true))) ∧
  ((decide (z9 < z1)) = false →
  (skI l ((w64 (z4 + 1))) z1 ∧
  ((decide (0 ≤ skMu l ((w64 (z4 + 1))))) = true ∧
  (decide (skMu l ((w64 (z4 + 1))) < skMu l z4)) = true))))))) ∧
 ((!(decide (z9 = 0))) = false →
 (skI l ((w64 (z4 + 1))) z1 ∧
 ((decide (0 ≤ skMu l ((w64 (z4 + 1))))) = true ∧
 (decide (skMu l ((w64 (z4 + 1))) < skMu l z4)) = true)))))))) ∧
((decide (z4 < (l.length : Int))) = false →
(z1, ()) = (skE l, ())))))))))
theorem r_scheck (x : HL C_scheck.args) : runs (env0 [(46, C_gCheck.hid)] [(23, 3, { fix := [(.tmp 7, .lists .op)], vars := [(.tmp 3, .int .i64), (.tmp 9, .int .i64)], inv := fun y v => skI y.1 v.2.1 v.1, mu := fun y v => skMu y.1 v.2.1 })] []) 400 23 C_scheck x = T_scheck x.1 := by kernel_rfl
theorem p_scheck (l : List (List Op3)) (h0 : (Sh.lists .op).okA l) : T_scheck l := by
  have hb : l.length * 24 ≤ room := h0.2
  unfold T_scheck
  refine ⟨sk_0 l, fun e _ _ i _ _ hI => ⟨fun hi => ?_, fun hi => ?_⟩⟩
  · have hi := of_decide_eq_true hi
    obtain ⟨s1, s2, s3⟩ := sk_next hb hI hi
    refine ⟨s1, trivial, fun z hz => ?_⟩
    rw [← hz] at s2
    refine ⟨fun hq => ?_, fun hq => ?_⟩
    · have hq : z ≠ 0 := by simpa using hq
      refine ⟨fun he => ?_, fun he => ⟨fun hl => ?_, fun hl => ?_⟩⟩
      · have e1 : lsF e z = z := if_pos (.inl (of_decide_eq_true he))
        rw [e1] at s2; exact ⟨s2, s3⟩
      · have e1 : lsF e z = z := if_pos (.inr ⟨hq, of_decide_eq_true hl⟩)
        rw [e1] at s2; exact ⟨s2, s3⟩
      · have e1 : lsF e z = e := if_neg (fun c => c.elim (of_decide_eq_false he) fun c => of_decide_eq_false hl c.2)
        rw [e1] at s2; exact ⟨s2, s3⟩
    · have hq : z = 0 := by simpa using hq
      have e1 : lsF e z = e := by
        unfold lsF
        rw [hq]
        split
        · rename_i c
          exact c.elim (fun c => c.symm) fun c => absurd rfl c.1
        · rfl
      rw [e1] at s2; exact ⟨s2, s3⟩
  · rw [sk_end hI (of_decide_eq_false hi)]
theorem s_scheck : Sound Tryz.prog 23 C_scheck :=
  sound_of_eq (env0_ok (.cons s_gCheck.hid (.nil))) (fun x => T_scheck x.1) r_scheck fun x ok hp => p_scheck x.1 ok.1
noncomputable def C_swithin : Contract := { args := [.list .op, .list .op], res := [.list .int, .bool], pre := fun x => grP x.1, F := fun x => ((wiL x.1 x.2.1 : List Int), (wiB x.1 x.2.1 : Bool), ()) }
def T_swithin (g : List Op3) (h : List Op3) : Prop :=
  (plInv g [] 0 ∧
∀ z2 : List (Op3 × Int),
∀ z3 : Int,
((decide ((-9223372036854775808) ≤ z3)) = true →
((decide (z3 ≤ 9223372036854775807)) = true →
(plInv g z2 z3 →
(((decide (z3 < (g.length : Int))) = true →
 (inB g z3 ∧
 (plInv g ((mset eqO z2 (((g.getD (z3).toNat zerO))) z3)) ((w64 (z3 + 1))) ∧
 ((decide (0 ≤ opMu g ((w64 (z3 + 1))))) = true ∧
 (decide (opMu g ((w64 (z3 + 1))) < opMu g z3)) = true)))) ∧
((decide (z3 < (g.length : Int))) = false →
(wiI g h [] 0 ∧
∀ z8 : List Int,
∀ z9 : Int,
((decide ((-9223372036854775808) ≤ z9)) = true →
((decide (z9 ≤ 9223372036854775807)) = true →
(wiI g h z8 z9 →
(lfit 8 z8 →
(((decide (z9 < (h.length : Int))) = true →
 (inB h z9 ∧
 (((!(mhas eqO z2 (((h.getD (z9).toNat zerO))))) = true →
  ([], (false, ())) = (wiL g h, (wiB g h, ()))) ∧
 ((!(mhas eqO z2 (((h.getD (z9).toNat zerO))))) = false →
 (lfit 8 (lapp z8 ([(mgetD eqO z2 (((h.getD (z9).toNat zerO))))])) ∧
 (wiI g h (lapp z8 ([(mgetD eqO z2 (((h.getD (z9).toNat zerO))))])) ((w64 (z9 + 1))) ∧
 ((decide (0 ≤ opMu h ((w64 (z9 + 1))))) = true ∧
 (decide (opMu h ((w64 (z9 + 1))) < opMu h z9)) = true))))))) ∧
((decide (z9 < (h.length : Int))) = false →
(z8, (true, ())) = (wiL g h, (wiB g h, ())))))))))))))))
theorem r_swithin (x : HL C_swithin.args) : runs (env0 [] [(24, 3, { fix := [(.tmp 7, .list .op)], vars := [(.itmp 3, .map .op), (.tmp 9, .int .i64)], inv := fun y v => plInv y.1 v.1 v.2.1, mu := fun y v => opMu y.1 v.2.1 }), (31, 4, { fix := [], vars := [(.tmp 7, .list .int), (.tmp 16, .int .i64)], inv := fun y v => wiI x.1 x.2.1 v.1 v.2.1, mu := fun y v => opMu x.2.1 v.2.1 })] []) 400 31 C_swithin x = T_swithin x.1 x.2.1 := by kernel_rfl
theorem p_swithin (g : List Op3) (h : List Op3) (h0 : (Sh.list .op).okA g) (h1 : (Sh.list .op).okA h) (hp : grP g) : T_swithin g h := by
  have hb : g.length * 96 ≤ room := h0.2
  have hb2 : h.length * 96 ≤ room := h1.2
  have hnd := (chk_grp hp).2.1
  unfold T_swithin
  refine ⟨pl_init g, fun m j _ _ hP => ⟨fun hj => ⟨⟨hP.1, of_decide_eq_true hj⟩, pl_next hb hP (of_decide_eq_true hj)⟩, fun hj => ?_⟩⟩
  have hm := pl_end hP (of_decide_eq_false hj)
  refine ⟨wi_0 g h, fun l i _ _ hI hl => ⟨fun hi => ?_, fun hi => ?_⟩⟩
  · have hi := of_decide_eq_true hi
    refine ⟨⟨hI.1.1, hi⟩, fun hq => ?_, fun hq => ?_⟩
    · have hn : h.getD i.toNat zerO ∉ g := fun c => by rw [(hm.1 _).2 c] at hq; cases hq
      have e := wi_no hI.1.1 hi hn
      unfold wiL
      rw [e]; rfl
    · have hin : h.getD i.toNat zerO ∈ g := (hm.1 _).1 (by simpa using hq)
      rw [pl_get hnd hm hin]
      exact wi_next hb2 hI hi hin
  · obtain ⟨e1, e2⟩ := wi_end hI (of_decide_eq_false hi)
    rw [e1, e2]
theorem s_swithin : Sound Tryz.prog 31 C_swithin :=
  sound_of_eqs (fun x => env0 [] [(24, 3, { fix := [(.tmp 7, .list .op)], vars := [(.itmp 3, .map .op), (.tmp 9, .int .i64)], inv := fun y v => plInv y.1 v.1 v.2.1, mu := fun y v => opMu y.1 v.2.1 }), (31, 4, { fix := [], vars := [(.tmp 7, .list .int), (.tmp 16, .int .i64)], inv := fun y v => wiI x.1 x.2.1 v.1 v.2.1, mu := fun y v => opMu x.2.1 v.2.1 })] []) (fun _ => rfl) (fun _ => env0_ok (.nil)) (fun x => T_swithin x.1 x.2.1) r_swithin fun x ok hp => p_swithin x.1 x.2.1 ok.1 ok.2.1 hp
noncomputable def C_sWithin : Contract := { args := [.list .op, .list .op], res := [.bool, .int .i64], pre := fun _ => True, F := fun x => ((siB x.1 x.2.1 : Bool), (two x.1 x.2.1 : Int), ()) }
def T_sWithin (g : List Op3) (h : List Op3) : Prop :=
  (True ∧
∀ z2 : Int,
(z2 = skE ([g, h]) →
(((!(decide (z2 = 0))) = true →
 (false, (z2, ())) = (siB g h, (two g h, ()))) ∧
((!(decide (z2 = 0))) = false →
(grP g ∧
∀ z5 : List Int,
(z5 = wiL g h →
∀ z7 : Bool,
(z7 = wiB g h →
(z7, (0, ())) = (siB g h, (two g h, ())))))))))
theorem r_sWithin (x : HL C_sWithin.args) : runs (env0 [(23, C_scheck.hid), (31, C_swithin.hid)] [] []) 400 11 C_sWithin x = T_sWithin x.1 x.2.1 := by kernel_rfl
theorem p_sWithin (g : List Op3) (h : List Op3) (h0 : (Sh.list .op).okA g) (h1 : (Sh.list .op).okA h) : T_sWithin g h := by
  unfold T_sWithin
  refine ⟨trivial, fun e he => ⟨fun hq => ?_, fun hq => ?_⟩⟩
  · have he : e = two g h := he
    have hne : two g h ≠ 0 := by rw [← he]; simpa using hq
    unfold siB
    rw [if_neg hne, he]
  · have he : e = two g h := he
    have hz : two g h = 0 := by rw [← he]; simpa using hq
    refine ⟨(two_zero.1 hz).1, fun l hl b hb => ?_⟩
    unfold siB
    rw [if_pos hz, hb, hz]
theorem s_sWithin : Sound Tryz.prog 11 C_sWithin :=
  sound_of_eq (env0_ok (.cons s_scheck.hid (.cons s_swithin.hid (.nil)))) (fun x => T_sWithin x.1 x.2.1) r_sWithin fun x ok hp => p_sWithin x.1 x.2.1 ok.1 ok.2.1
noncomputable def C_sboth : Contract := { args := [.list .op, .list .op], res := [.lists .int, .list .int, .int .i64], pre := fun _ => True, F := fun x => ((boT x.1 x.2.1 : List (List Int)), (boL x.1 x.2.1 : List Int), (boE x.1 x.2.1 : Int), ()) }
def T_sboth (g : List Op3) (h : List Op3) : Prop :=
  (True ∧
∀ z2 : Int,
(z2 = skE ([g, h]) →
(((!(decide (z2 = 0))) = true →
 ([], ([], (z2, ()))) = (boT g h, (boL g h, (boE g h, ())))) ∧
((!(decide (z2 = 0))) = false →
(grP g ∧
∀ z5 : List Int,
(z5 = wiL g h →
∀ z7 : Bool,
(z7 = wiB g h →
(((!z7) = true →
 ([], ([], (6, ()))) = (boT g h, (boL g h, (boE g h, ())))) ∧
((!z7) = false →
(True ∧
∀ z10 : List (List Int),
(z10 = tabL g →
∀ z12 : Int,
(z12 = chkE g →
(z10, (z5, (z12, ()))) = (boT g h, (boL g h, (boE g h, ())))))))))))))))
theorem r_sboth (x : HL C_sboth.args) : runs (env0 [(23, C_scheck.hid), (31, C_swithin.hid), (27, C_gTable.hid)] [] []) 400 28 C_sboth x = T_sboth x.1 x.2.1 := by kernel_rfl
theorem p_sboth (g : List Op3) (h : List Op3) (h0 : (Sh.list .op).okA g) (h1 : (Sh.list .op).okA h) : T_sboth g h := by
  unfold T_sboth
  refine ⟨trivial, fun e he => ?_⟩
  have he : e = two g h := he
  refine ⟨fun hq => ?_, fun hq => ?_⟩
  · have hne : two g h ≠ 0 := by rw [← he]; simpa using hq
    have h2 : boE g h = e := by unfold boE; rw [if_neg hne, he]
    unfold boT boL
    rw [h2, if_neg (by rw [he]; exact hne), if_neg (by rw [he]; exact hne)]
  have hz : two g h = 0 := by rw [← he]; simpa using hq
  refine ⟨(two_zero.1 hz).1, fun l hl b hb => ⟨fun hq2 => ?_, fun hq2 => ⟨trivial, fun t ht e2 he2 => ?_⟩⟩⟩
  · have hq2 : ¬ wiB g h = true := by rw [← hb]; simpa using hq2
    have h2 : boE g h = 6 := by unfold boE; rw [if_pos hz, if_neg hq2]
    unfold boT boL
    rw [h2]; rfl
  · have hq2 : wiB g h = true := by rw [← hb]; simpa using hq2
    have h2 : boE g h = 0 := by unfold boE; rw [if_pos hz, if_pos hq2]
    unfold boT boL
    rw [h2, if_pos rfl, if_pos rfl, ht, hl, he2, (two_zero.1 hz).1]
theorem s_sboth : Sound Tryz.prog 28 C_sboth :=
  sound_of_eq (env0_ok (.cons s_scheck.hid (.cons s_swithin.hid (.cons s_gTable.hid (.nil))))) (fun x => T_sboth x.1 x.2.1) r_sboth fun x ok hp => p_sboth x.1 x.2.1 ok.1 ok.2.1
end Go.Fx
