/-
  Contracts: r6two, r6At, r6In, r6within, r6DocMeet, r6square, r6cut.
-/
import Derived.Test.YtcadkndjcneedaaGreatK14
import Derived.Test.YtcadkndjcneedaaGreatHk
namespace Go.Fx
open Go Go.Proofs
set_option maxRecDepth 100000
set_option linter.unusedVariables false
set_option linter.unusedSimpArgs false
set_option linter.unusedSectionVars false
noncomputable def C_r6two : Contract := { args := [.list .op, .list .op], res := [.int .i64], pre := fun _ => True, F := fun x => ((two x.1 x.2.1 : Int), ()) }
def T_r6two (g : List Op3) (h : List Op3) : Prop :=
  (True ∧
∀ z2 : Int,
(z2 = chkE g →
(True ∧
∀ z4 : Int,
(z4 = chkE h →
(((decide (z2 = 0)) = true →
 (z4, ()) = (two g h, ())) ∧
((decide (z2 = 0)) = false →
(((!(decide (z4 = 0))) = true →
 (((decide (z4 < z2)) = true →
  (z4, ()) = (two g h, ())) ∧
 ((decide (z4 < z2)) = false →
 (z2, ()) = (two g h, ())))) ∧
((!(decide (z4 = 0))) = false →
(z2, ()) = (two g h, ())))))))))
theorem r_r6two (x : HL C_r6two.args) : runs (env0 [(41, C_r5DocCheck.hid)] [] []) 400 32 C_r6two x = T_r6two x.1 x.2.1 := by kernel_rfl
theorem p_r6two (g : List Op3) (h : List Op3) (h0 : (Sh.list .op).okA g) (h1 : (Sh.list .op).okA h) : T_r6two g h := by
  unfold T_r6two
  refine ⟨trivial, fun a ha => ⟨trivial, fun b hb => ?_⟩⟩
  obtain ⟨t1, t2⟩ := r6_two ha hb
  refine ⟨fun q => by rw [t1 (of_decide_eq_true q)], fun q => ?_⟩
  obtain ⟨u1, u2⟩ := t2 (of_decide_eq_false q)
  refine ⟨fun q2 => ⟨fun q3 => ?_, fun q3 => ?_⟩, fun q2 => ?_⟩
  · rw [(u1 (by simpa using q2)).1 (of_decide_eq_true q3)]
  · rw [(u1 (by simpa using q2)).2 (of_decide_eq_false q3)]
  · rw [u2 (by simpa using q2)]
theorem s_r6two : Sound Tryz.prog 32 C_r6two :=
  sound_of_eq (env0_ok (.cons s_r5DocCheck.hid (.nil))) (fun x => T_r6two x.1 x.2.1) r_r6two fun x ok hp => p_r6two x.1 x.2.1 ok.1 ok.2.1
noncomputable def C_r6At : Contract := { args := [.list .op, .agg .op], res := [.int .i64], pre := fun _ => True, F := fun x => ((idxO x.1 x.2.1 : Int), ()) }
def T_r6At (g : List Op3) (o : Op3) : Prop :=
  (idInv g o 0 ∧
∀ z2 : Int,
((decide ((-9223372036854775808) ≤ z2)) = true →
((decide (z2 ≤ 9223372036854775807)) = true →
(idInv g o z2 →
(((decide (z2 < (g.length : Int))) = true →
 (inB g z2 ∧
 ((((decide ((((g.getD (z2).toNat zerO)).R).xx = o.R.xx)) && ((decide ((((g.getD (z2).toNat zerO)).R).xy = o.R.xy)) && ((decide ((((g.getD (z2).toNat zerO)).R).xz = o.R.xz)) && ((decide ((((g.getD (z2).toNat zerO)).R).yx = o.R.yx)) && ((decide ((((g.getD (z2).toNat zerO)).R).yy = o.R.yy)) && ((decide ((((g.getD (z2).toNat zerO)).R).yz = o.R.yz)) && ((decide ((((g.getD (z2).toNat zerO)).R).zx = o.R.zx)) && ((decide ((((g.getD (z2).toNat zerO)).R).zy = o.R.zy)) && ((decide ((((g.getD (z2).toNat zerO)).R).zz = o.R.zz)) && ((decide ((((g.getD (z2).toNat zerO)).T).x = o.T.x)) && ((decide ((((g.getD (z2).toNat zerO)).T).y = o.T.y)) && ((decide ((((g.getD (z2).toNat zerO)).T).z = o.T.z)) && true)))))))))))) = true →
  (z2, ()) = (idxO g o, ())) ∧
 (((decide ((((g.getD (z2).toNat zerO)).R).xx = o.R.xx)) && ((decide ((((g.getD (z2).toNat zerO)).R).xy = o.R.xy)) && ((decide ((((g.getD (z2).toNat zerO)).R).xz = o.R.xz)) && ((decide ((((g.getD (z2).toNat zerO)).R).yx = o.R.yx)) && ((decide ((((g.getD (z2).toNat zerO)).R).yy = o.R.yy)) && ((decide ((((g.getD (z2).toNat zerO)).R).yz = o.R.yz)) && ((decide ((((g.getD (z2).toNat zerO)).R).zx = o.R.zx)) && ((decide ((((g.getD (z2).toNat zerO)).R).zy = o.R.zy)) && ((decide ((((g.getD (z2).toNat zerO)).R).zz = o.R.zz)) && ((decide ((((g.getD (z2).toNat zerO)).T).x = o.T.x)) && ((decide ((((g.getD (z2).toNat zerO)).T).y = o.T.y)) && ((decide ((((g.getD (z2).toNat zerO)).T).z = o.T.z)) && true)))))))))))) = false →
 (idInv g o ((w64 (z2 + 1))) ∧
 ((decide (0 ≤ opMu g ((w64 (z2 + 1))))) = true ∧
 (decide (opMu g ((w64 (z2 + 1))) < opMu g z2)) = true)))))) ∧
((decide (z2 < (g.length : Int))) = false →
((-1), ()) = (idxO g o, ())))))))
theorem r_r6At (x : HL C_r6At.args) : runs (env0 [] [(42, 2, { fix := [(.tmp 7, .list .op), (.cell 3, .agg .op)], vars := [(.tmp 9, .int .i64)], inv := fun y v => idInv y.1 y.2.1 v.1, mu := fun y v => opMu y.1 v.1 })] []) 400 42 C_r6At x = T_r6At x.1 x.2.1 := by kernel_rfl
theorem p_r6At (g : List Op3) (o : Op3) (h0 : (Sh.list .op).okA g) (h1 : (Sh.agg .op).okA o) : T_r6At g o := by
  have hb : g.length * 96 ≤ room := h0.2
  unfold T_r6At
  refine ⟨⟨by omega, by omega, fun k hk => by simp at hk⟩, fun i _ _ hI => ⟨fun hi => ?_, fun hi => by rw [show idxO g o = -1 from id_miss hI (of_decide_eq_false hi)]⟩⟩
  have hi := of_decide_eq_true hi
  rw [eqOc']
  refine ⟨⟨hI.1, hi⟩, fun h => ?_, fun h => ?_⟩
  · rw [show idxO g o = i from id_hit hI hi _ (of_decide_eq_true h)]
  · have := id_next (b := 96) (by decide) hb hI hi _ (of_decide_eq_false h)
    exact ⟨this.1, decide_eq_true this.2.1, decide_eq_true this.2.2⟩
theorem s_r6At : Sound Tryz.prog 42 C_r6At :=
  sound_of_eq (env0_ok (.nil)) (fun x => T_r6At x.1 x.2.1) r_r6At fun x ok hp => p_r6At x.1 x.2.1 ok.1 ok.2.1
noncomputable def C_r6In : Contract := { args := [.list .op, .agg .op], res := [.bool], pre := fun _ => True, F := fun x => ((memO x.1 x.2.1 : Bool), ()) }
def T_r6In (g : List Op3) (o : Op3) : Prop :=
  (True ∧
∀ z2 : Int,
(z2 = idxO g o →
((decide (0 ≤ z2)), ()) = (memO g o, ())))
theorem r_r6In (x : HL C_r6In.args) : runs (env0 [(42, C_r6At.hid)] [] []) 400 33 C_r6In x = T_r6In x.1 x.2.1 := by kernel_rfl
theorem p_r6In (g : List Op3) (o : Op3) (h0 : (Sh.list .op).okA g) (h1 : (Sh.agg .op).okA o) : T_r6In g o := by
  unfold T_r6In
  have e : decide (0 ≤ idxO g o) = memO g o := by
    rw [Bool.eq_iff_iff, decide_eq_true_iff, memO_iff]
    have := idxD_neg (l := g) (x := o)
    have e2 : idxO g o = idxD g o := rfl
    rw [e2]
    constructor
    · intro h
      exact Classical.byContradiction fun c => by have := this.2 c; omega
    · intro h
      refine Classical.byContradiction fun c => this.1 (by omega) h
  exact ⟨trivial, fun z hz => by rw [hz, e]⟩
theorem s_r6In : Sound Tryz.prog 33 C_r6In :=
  sound_of_eq (env0_ok (.cons s_r6At.hid (.nil))) (fun x => T_r6In x.1 x.2.1) r_r6In fun x ok hp => p_r6In x.1 x.2.1 ok.1 ok.2.1
noncomputable def C_r6within : Contract := { args := [.list .op, .list .op], res := [.bool], pre := fun _ => True, F := fun x => ((wiB x.1 x.2.1 : Bool), ()) }
def T_r6within (g : List Op3) (h : List Op3) : Prop :=
  (r6wI g h 0 ∧
∀ z2 : Int,
((decide ((-9223372036854775808) ≤ z2)) = true →
((decide (z2 ≤ 9223372036854775807)) = true →
(r6wI g h z2 →
(((decide (z2 < (h.length : Int))) = true →
 (inB h z2 ∧
 (True ∧
 ∀ z7 : Bool,
 (z7 = memO g (((h.getD (z2).toNat zerO))) →
 (((!z7) = true →
  (false, ()) = (wiB g h, ())) ∧
 ((!z7) = false →
 (r6wI g h ((w64 (z2 + 1))) ∧
 ((decide (0 ≤ opMu h ((w64 (z2 + 1))))) = true ∧
 (decide (opMu h ((w64 (z2 + 1))) < opMu h z2)) = true)))))))) ∧
((decide (z2 < (h.length : Int))) = false →
(true, ()) = (wiB g h, ())))))))
theorem r_r6within (x : HL C_r6within.args) : runs (env0 [(33, C_r6In.hid)] [(37, 2, { fix := [], vars := [(.tmp 9, .int .i64)], inv := fun y v => r6wI x.1 x.2.1 v.1, mu := fun y v => opMu x.2.1 v.1 })] []) 400 37 C_r6within x = T_r6within x.1 x.2.1 := by kernel_rfl
theorem p_r6within (g : List Op3) (h : List Op3) (h0 : (Sh.list .op).okA g) (h1 : (Sh.list .op).okA h) : T_r6within g h := by
  have hb : h.length * 96 ≤ room := h1.2
  unfold T_r6within
  refine ⟨r6w_0 g h, fun i _ _ hI => ⟨fun hi => ?_, fun hi => by rw [r6w_end hI (of_decide_eq_false hi)]⟩⟩
  have hi := of_decide_eq_true hi
  refine ⟨⟨hI.1.1, hi⟩, trivial, fun b hb2 => ⟨fun q => ?_, fun q => r6w_next hb hI hi (memO_iff.1 (by rw [← hb2]; simpa using q))⟩⟩
  rw [wi_no hI.1.1 hi fun c => by rw [hb2, memO_iff.2 c] at q; cases q]
theorem s_r6within : Sound Tryz.prog 37 C_r6within :=
  sound_of_eqs (fun x => env0 [(33, C_r6In.hid)] [(37, 2, { fix := [], vars := [(.tmp 9, .int .i64)], inv := fun y v => r6wI x.1 x.2.1 v.1, mu := fun y v => opMu x.2.1 v.1 })] []) (fun _ => rfl) (fun _ => env0_ok (.cons s_r6In.hid (.nil))) (fun x => T_r6within x.1 x.2.1) r_r6within fun x ok hp => p_r6within x.1 x.2.1 ok.1 ok.2.1
noncomputable def C_r6DocMeet : Contract := { args := [.list .op, .list .op], res := [.list .op, .int .i64], pre := fun _ => True, F := fun x => ((meL x.1 x.2.1 : List Op3), (two x.1 x.2.1 : Int), ()) }
def T_r6DocMeet (g : List Op3) (h : List Op3) : Prop :=
  (True ∧
∀ z2 : Int,
(z2 = two g h →
(((!(decide (z2 = 0))) = true →
 ([], (z2, ())) = (meL g h, (two g h, ()))) ∧
((!(decide (z2 = 0))) = false →
(meI g h [] 0 ∧
∀ z5 : List Op3,
∀ z6 : Int,
((decide ((-9223372036854775808) ≤ z6)) = true →
((decide (z6 ≤ 9223372036854775807)) = true →
(meI g h z5 z6 →
(lfit 96 z5 →
(((decide (z6 < (g.length : Int))) = true →
 (inB g z6 ∧
 (True ∧
 ∀ z12 : Bool,
 (z12 = memO h (((g.getD (z6).toNat zerO))) →
 ((z12 = true →
  (lfit 96 (lapp z5 ([((g.getD (z6).toNat zerO))])) ∧
  (meI g h (lapp z5 ([((g.getD (z6).toNat zerO))])) ((w64 (z6 + 1))) ∧
  ((decide (0 ≤ opMu g ((w64 (z6 + 1))))) = true ∧
  (decide (opMu g ((w64 (z6 + 1))) < opMu g z6)) = true)))) ∧
 (z12 = false →
 (meI g h z5 ((w64 (z6 + 1))) ∧
 ((decide (0 ≤ opMu g ((w64 (z6 + 1))))) = true ∧
 (decide (opMu g ((w64 (z6 + 1))) < opMu g z6)) = true)))))))) ∧
((decide (z6 < (g.length : Int))) = false →
(z5, (0, ())) = (meL g h, (two g h, ())))))))))))))
theorem r_r6DocMeet (x : HL C_r6DocMeet.args) : runs (env0 [(32, C_r6two.hid), (33, C_r6In.hid)] [(14, 6, { fix := [], vars := [(.tmp 7, .list .op), (.tmp 18, .int .i64)], inv := fun y v => meI x.1 x.2.1 v.1 v.2.1, mu := fun y v => opMu x.1 v.2.1 })] []) 400 14 C_r6DocMeet x = T_r6DocMeet x.1 x.2.1 := by kernel_rfl
theorem p_r6DocMeet (g : List Op3) (h : List Op3) (h0 : (Sh.list .op).okA g) (h1 : (Sh.list .op).okA h) : T_r6DocMeet g h := by
  have hb : g.length * 96 ≤ room := h0.2
  unfold T_r6DocMeet
  refine ⟨trivial, fun e he => ⟨fun q => ?_, fun q => ?_⟩⟩
  · have hne : two g h ≠ 0 := by rw [← he]; simpa using q
    unfold meL
    rw [if_neg hne, he]
  have hz : two g h = 0 := by rw [← he]; simpa using q
  refine ⟨me_0 g h, fun l i _ _ hI hl => ⟨fun hi => ?_, fun hi => ?_⟩⟩
  · have hi := of_decide_eq_true hi
    obtain ⟨n1, n2, n3⟩ := me_next hb hI hi
    refine ⟨⟨hI.1.1, hi⟩, trivial, fun b hb2 => ⟨fun q => ?_, fun q => ?_⟩⟩
    · rw [hb2] at q; exact ⟨(n1 q).1, (n1 q).2, n3⟩
    · rw [hb2] at q; exact ⟨n2 q, n3⟩
  · rw [me_end hz hI (of_decide_eq_false hi), hz]
theorem s_r6DocMeet : Sound Tryz.prog 14 C_r6DocMeet :=
  sound_of_eqs (fun x => env0 [(32, C_r6two.hid), (33, C_r6In.hid)] [(14, 6, { fix := [], vars := [(.tmp 7, .list .op), (.tmp 18, .int .i64)], inv := fun y v => meI x.1 x.2.1 v.1 v.2.1, mu := fun y v => opMu x.1 v.2.1 })] []) (fun _ => rfl) (fun _ => env0_ok (.cons s_r6two.hid (.cons s_r6In.hid (.nil)))) (fun x => T_r6DocMeet x.1 x.2.1) r_r6DocMeet fun x ok hp => p_r6DocMeet x.1 x.2.1 ok.1 ok.2.1
noncomputable def C_r6square : Contract := { args := [.int .i64], res := [.lists .bool], pre := fun x => n192 x.1, F := fun x => ((sqB x.1 : List (List Bool)), ()) }
def T_r6square (n : Int) : Prop :=
  ((leP 0 n ∧
 lfit 24 (lrep n ([] : List Bool))) ∧
(sqI n (lrep n ([] : List Bool)) 0 ∧
∀ z1 : List (List Bool),
∀ z2 : Int,
((decide ((-9223372036854775808) ≤ z2)) = true →
((decide (z2 ≤ 9223372036854775807)) = true →
(sqI n z1 z2 →
(lfit 24 z1 →
(((decide (z2 < ((lrep n ([] : List Bool)).length : Int))) = true →
 ((leP 0 n ∧
  lfit 1 (lrep n false)) ∧
 (inB z1 z2 ∧
 (sqI n (lset z1 z2 (lrep n false)) ((w64 (z2 + 1))) ∧
 ((decide (0 ≤ cuM n ((w64 (z2 + 1))))) = true ∧
 (decide (cuM n ((w64 (z2 + 1))) < cuM n z2)) = true))))) ∧
((decide (z2 < ((lrep n ([] : List Bool)).length : Int))) = false →
(z1, ()) = (sqB n, ())))))))))
theorem r_r6square (x : HL C_r6square.args) : runs (env0 [] [(38, 3, { fix := [], vars := [(.tmp 3, .lists .bool), (.tmp 9, .int .i64)], inv := fun y v => sqI x.1 v.1 v.2.1, mu := fun y v => cuM x.1 v.2.1 })] []) 400 38 C_r6square x = T_r6square x.1 := by kernel_rfl
theorem p_r6square (n : Int) (h0 : (Sh.int .i64).okA n) (hp : n192 n) : T_r6square n := by
  have hn : n192 n := hp
  unfold T_r6square
  have hl : ((lrep n ([] : List Bool)).length : Int) = n := by simp [lrep]; have := hn.1; omega
  rw [hl]
  refine ⟨⟨hn.1, by show (lrep n ([] : List Bool)).length * 24 ≤ 140737488355328; have := hn.2; omega⟩, sq_0 hn, fun l i _ _ hI _ => ⟨fun hi => ?_, fun hi => by rw [sq_end hn hI (of_decide_eq_false hi)]⟩⟩
  obtain ⟨n1, n2, n3⟩ := sq_next hn hI (of_decide_eq_true hi)
  exact ⟨⟨hn.1, by show (lrep n false).length * 1 ≤ 140737488355328; simp [lrep]; have := hn.2; omega⟩, n1, n2, n3⟩
theorem s_r6square : Sound Tryz.prog 38 C_r6square :=
  sound_of_eqs (fun x => env0 [] [(38, 3, { fix := [], vars := [(.tmp 3, .lists .bool), (.tmp 9, .int .i64)], inv := fun y v => sqI x.1 v.1 v.2.1, mu := fun y v => cuM x.1 v.2.1 })] []) (fun _ => rfl) (fun _ => env0_ok (.nil)) (fun x => T_r6square x.1) r_r6square fun x ok hp => p_r6square x.1 ok.1 hp
noncomputable def C_r6cut : Contract := { args := [.int .i64, .lists .bool], res := [.lists .int], pre := fun x => cuP x.1 x.2.1, F := fun x => ((cuL x.1 x.2.1 : List (List Int)), ()) }
def T_r6cut (n : Int) (a : List (List Bool)) : Prop :=
  (cuO n a [] 0 ∧
∀ z2 : List (List Int),
∀ z3 : Int,
((decide ((-9223372036854775808) ≤ z3)) = true →
((decide (z3 ≤ 9223372036854775807)) = true →
(cuO n a z2 z3 →
(lfit 24 z2 →
(((decide (z3 < n)) = true →
 (cuF a z3 true 0 ∧
 ∀ z9 : Bool,
 ∀ z10 : Int,
 ((decide ((-9223372036854775808) ≤ z10)) = true →
 ((decide (z10 ≤ 9223372036854775807)) = true →
 (cuF a z3 z9 z10 →
 (((decide (z10 < z3)) = true →
  (inB a z10 ∧
  (inB ((a.getD (z10).toNat [])) z3 ∧
  (((((a.getD (z10).toNat [])).getD (z3).toNat false) = true →
   (cuF a z3 false ((w64 (z10 + 1))) ∧
   ((decide (0 ≤ cuM z3 ((w64 (z10 + 1))))) = true ∧
   (decide (cuM z3 ((w64 (z10 + 1))) < cuM z3 z10)) = true))) ∧
  ((((a.getD (z10).toNat [])).getD (z3).toNat false) = false →
  (cuF a z3 z9 ((w64 (z10 + 1))) ∧
  ((decide (0 ≤ cuM z3 ((w64 (z10 + 1))))) = true ∧
  (decide (cuM z3 ((w64 (z10 + 1))) < cuM z3 z10)) = true))))))) ∧
 ((decide (z10 < z3)) = false →
 (((!z9) = true →
  (cuO n a z2 ((w64 (z3 + 1))) ∧
  ((decide (0 ≤ cuM n ((w64 (z3 + 1))))) = true ∧
  (decide (cuM n ((w64 (z3 + 1))) < cuM n z3)) = true))) ∧
 ((!z9) = false →
 (cuI n a z3 [] z3 ∧
 ∀ z16 : List Int,
 ∀ z17 : Int,
 ((decide ((-9223372036854775808) ≤ z17)) = true →
 ((decide (z17 ≤ 9223372036854775807)) = true →
 (cuI n a z3 z16 z17 →
 (lfit 8 z16 →
 (((decide (z17 < n)) = true →
  (inB a z3 ∧
  (inB ((a.getD (z3).toNat [])) z17 ∧
  (((((a.getD (z3).toNat [])).getD (z17).toNat false) = true →
   (lfit 8 (lapp z16 [z17]) ∧
   (cuI n a z3 (lapp z16 [z17]) ((w64 (z17 + 1))) ∧
   ((decide (0 ≤ cuM n ((w64 (z17 + 1))))) = true ∧
   (decide (cuM n ((w64 (z17 + 1))) < cuM n z17)) = true)))) ∧
  ((((a.getD (z3).toNat [])).getD (z17).toNat false) = false →
  (cuI n a z3 z16 ((w64 (z17 + 1))) ∧
  ((decide (0 ≤ cuM n ((w64 (z17 + 1))))) = true ∧
  (decide (cuM n ((w64 (z17 + 1))) < cuM n z17)) = true))))))) ∧
 ((decide (z17 < n)) = false →
 (lfit 24 (lapp z2 [z16]) ∧
 (cuO n a (lapp z2 [z16]) ((w64 (z3 + 1))) ∧
 ((decide (0 ≤ cuM n ((w64 (z3 + 1))))) = true ∧
 (decide (cuM n ((w64 (z3 + 1))) < cuM n z3)) = true))))))))))))))))))) ∧
((decide (z3 < n)) = false →
(z2, ()) = (cuL n a, ()))))))))
theorem r_r6cut (x : HL C_r6cut.args) : runs (env0 [] [(40, 3, { fix := [], vars := [(.tmp 5, .lists .int), (.tmp 6, .int .i64)], inv := fun y v => cuO x.1 x.2.1 v.1 v.2.1, mu := fun y v => cuM x.1 v.2.1 }), (40, 7, { fix := [(.tmp 6, .int .i64)], vars := [(.tmp 7, .bool), (.tmp 8, .int .i64)], inv := fun y v => cuF x.2.1 y.1 v.1 v.2.1, mu := fun y v => cuM y.1 v.2.1 }), (40, 14, { fix := [(.tmp 6, .int .i64)], vars := [(.tmp 9, .list .int), (.tmp 10, .int .i64)], inv := fun y v => cuI x.1 x.2.1 y.1 v.1 v.2.1, mu := fun y v => cuM x.1 v.2.1 })] []) 1500 40 C_r6cut x = T_r6cut x.1 x.2.1 := by kernel_rfl
theorem p_r6cut (n : Int) (a : List (List Bool)) (h0 : (Sh.int .i64).okA n) (h1 : (Sh.lists .bool).okA a) (hp : cuP n a) : T_r6cut n a := by
  have hP : cuP n a := hp
  have hn := hP.1
  unfold T_r6cut
  refine ⟨cuO_0 hn, fun r i _ _ hO hr => ⟨fun hi => ?_, fun hi => by rw [cuO_end hO (of_decide_eq_false hi)]⟩⟩
  have hi := of_decide_eq_true hi
  have i0 := hO.1.1
  refine ⟨cuF_0 i0, fun b j _ _ hF => ⟨fun hj => ?_, fun hj => ?_⟩⟩
  · obtain ⟨n1, n2, n3, n4, n5⟩ := cuF_next hP hi hF (of_decide_eq_true hj)
    exact ⟨n1, n2, fun q => ⟨n3 q, n5⟩, fun q => ⟨n4 q, n5⟩⟩
  · have hc := cuF_end hF (of_decide_eq_false hj)
    refine ⟨fun q => cuO_skip hn hO hi (by rw [← hc]; simpa using q), fun q => ⟨cuI_0 i0 hi, fun c k _ _ hI hcl => ⟨fun hk => ?_, fun hk => cuO_add hn hO hi (by rw [← hc]; simpa using q) hI (of_decide_eq_false hk)⟩⟩⟩
    obtain ⟨n1, n2, n3, n4, n5⟩ := cuI_next hP i0 hi hI (of_decide_eq_true hk)
    exact ⟨n1, n2, fun q => ⟨(n3 q).1, (n3 q).2, n5⟩, fun q => ⟨n4 q, n5⟩⟩
theorem s_r6cut : Sound Tryz.prog 40 C_r6cut :=
  sound_of_eqs (fun x => env0 [] [(40, 3, { fix := [], vars := [(.tmp 5, .lists .int), (.tmp 6, .int .i64)], inv := fun y v => cuO x.1 x.2.1 v.1 v.2.1, mu := fun y v => cuM x.1 v.2.1 }), (40, 7, { fix := [(.tmp 6, .int .i64)], vars := [(.tmp 7, .bool), (.tmp 8, .int .i64)], inv := fun y v => cuF x.2.1 y.1 v.1 v.2.1, mu := fun y v => cuM y.1 v.2.1 }), (40, 14, { fix := [(.tmp 6, .int .i64)], vars := [(.tmp 9, .list .int), (.tmp 10, .int .i64)], inv := fun y v => cuI x.1 x.2.1 y.1 v.1 v.2.1, mu := fun y v => cuM x.1 v.2.1 })] []) (fun _ => rfl) (fun _ => env0_ok (.nil)) (fun x => T_r6cut x.1 x.2.1) r_r6cut fun x ok hp => p_r6cut x.1 x.2.1 ok.1 ok.2.1 hp
end Go.Fx
