/-
  Contracts: GroupBroken.
-/
import Derived.Test.YtjojlcakpoacjaaK22
import Derived.Test.YtjojlcakpoacjaaGm
namespace Go.Fx
open Go Go.Proofs
set_option maxRecDepth 100000
set_option linter.unusedVariables false
set_option linter.unusedSimpArgs false
set_option linter.unusedSectionVars false
noncomputable def C_GroupBroken : Contract := { args := [.list .op, .int .i64, .int .i64], res := [.bool], pre := fun _ => True, F := fun x => ((true : Bool), ()) }
def T_GroupBroken (l : List Op3) (i : Int) (j : Int) : Prop :=
  (True ∧
∀ z3 : Bool,
(z3 = true →
(((!z3) = true →
 (false, ()) = (true, ())) ∧
((!z3) = false →
(True ∧
∀ z6 : List Op3,
(z6 = l →
(True ∧
∀ z8 : List Op3,
(z8 = cloL z6 →
∀ z10 : Int,
(z10 = cloE z6 →
(((!(decide (z10 = 0))) = true →
 (true, ()) = (true, ())) ∧
((!(decide (z10 = 0))) = false →
((((z8.length : Int) ≠ 0) ∧
 (((z8.length : Int) ≠ 0) ∧
 (((z8.length : Int) ≠ 0) ∧
 (((z8.length : Int) ≠ 0) ∧
 (inB z8 ((Int.tmod (((Int.tmod i (z8.length : Int)) + (z8.length : Int))) (z8.length : Int))) ∧
 inB z8 ((Int.tmod (((Int.tmod j (z8.length : Int)) + (z8.length : Int))) (z8.length : Int)))))))) ∧
∀ z13 : Int,
((decide ((-9223372036854775808) ≤ z13)) = true →
((decide (z13 ≤ 9223372036854775807)) = true →
∀ z16 : Int,
((decide ((-9223372036854775808) ≤ z16)) = true →
((decide (z16 ≤ 9223372036854775807)) = true →
((inB z8 z13 ∧
 inB z8 z16) →
((leP 0 0 ∧
 (leP 0 z13 ∧
 leP z13 (z8.length : Int))) ∧
(True ∧
((leP 0 ((w64 (z13 + 1))) ∧
 (leP ((w64 (z13 + 1))) (z8.length : Int) ∧
 leP (z8.length : Int) (z8.length : Int))) ∧
(lfit 96 (lapp (lsub z8 0 z13) (lsub z8 ((w64 (z13 + 1))) (((z8.length : Int) - (w64 (z13 + 1)))))) ∧
((((decide (2 < (z8.length : Int))) = true →
  (True ∧
  (((!(decide (chkE (lapp (lsub z8 0 z13) (lsub z8 ((w64 (z13 + 1))) (((z8.length : Int) - (w64 (z13 + 1)))))) = 5))) = true →
   (false, ()) = (true, ())) ∧
  ((!(decide (chkE (lapp (lsub z8 0 z13) (lsub z8 ((w64 (z13 + 1))) (((z8.length : Int) - (w64 (z13 + 1)))))) = 5))) = false →
  (((decide ((z8.length : Int) = 2)) = true →
   (True ∧
   (inB z8 z13 ∧
   (True ∧
   (((!((decide (chkE (lapp (lsub z8 0 z13) (lsub z8 ((w64 (z13 + 1))) (((z8.length : Int) - (w64 (z13 + 1)))))) = 0)) == (!((decide ((((z8.getD (z13).toNat zerO)).R).xx = oneO.R.xx)) && ((decide ((((z8.getD (z13).toNat zerO)).R).xy = oneO.R.xy)) && ((decide ((((z8.getD (z13).toNat zerO)).R).xz = oneO.R.xz)) && ((decide ((((z8.getD (z13).toNat zerO)).R).yx = oneO.R.yx)) && ((decide ((((z8.getD (z13).toNat zerO)).R).yy = oneO.R.yy)) && ((decide ((((z8.getD (z13).toNat zerO)).R).yz = oneO.R.yz)) && ((decide ((((z8.getD (z13).toNat zerO)).R).zx = oneO.R.zx)) && ((decide ((((z8.getD (z13).toNat zerO)).R).zy = oneO.R.zy)) && ((decide ((((z8.getD (z13).toNat zerO)).R).zz = oneO.R.zz)) && ((decide ((((z8.getD (z13).toNat zerO)).T).x = oneO.T.x)) && ((decide ((((z8.getD (z13).toNat zerO)).T).y = oneO.T.y)) && ((decide ((((z8.getD (z13).toNat zerO)).T).z = oneO.T.z)) && true))))))))))))))) = true →
    (false, ()) = (true, ())) ∧
   ((!((decide (chkE (lapp (lsub z8 0 z13) (lsub z8 ((w64 (z13 + 1))) (((z8.length : Int) - (w64 (z13 + 1)))))) = 0)) == (!((decide ((((z8.getD (z13).toNat zerO)).R).xx = oneO.R.xx)) && ((decide ((((z8.getD (z13).toNat zerO)).R).xy = oneO.R.xy)) && ((decide ((((z8.getD (z13).toNat zerO)).R).xz = oneO.R.xz)) && ((decide ((((z8.getD (z13).toNat zerO)).R).yx = oneO.R.yx)) && ((decide ((((z8.getD (z13).toNat zerO)).R).yy = oneO.R.yy)) && ((decide ((((z8.getD (z13).toNat zerO)).R).yz = oneO.R.yz)) && ((decide ((((z8.getD (z13).toNat zerO)).R).zx = oneO.R.zx)) && ((decide ((((z8.getD (z13).toNat zerO)).R).zy = oneO.R.zy)) && ((decide ((((z8.getD (z13).toNat zerO)).R).zz = oneO.R.zz)) && ((decide ((((z8.getD (z13).toNat zerO)).T).x = oneO.T.x)) && ((decide ((((z8.getD (z13).toNat zerO)).T).y = oneO.T.y)) && ((decide ((((z8.getD (z13).toNat zerO)).T).z = oneO.T.z)) && true))))))))))))))) = false →
   True)))))) ∧
  ((decide ((z8.length : Int) = 2)) = false →
  True)))))) ∧
 ((decide (2 < (z8.length : Int))) = false →
 (((decide ((z8.length : Int) = 2)) = true →
  (True ∧
  (inB z8 z13 ∧
  (True ∧
  (((!((decide (chkE (lapp (lsub z8 0 z13) (lsub z8 ((w64 (z13 + 1))) (((z8.length : Int) - (w64 (z13 + 1)))))) = 0)) == (!((decide ((((z8.getD (z13).toNat zerO)).R).xx = oneO.R.xx)) && ((decide ((((z8.getD (z13).toNat zerO)).R).xy = oneO.R.xy)) && ((decide ((((z8.getD (z13).toNat zerO)).R).xz = oneO.R.xz)) && ((decide ((((z8.getD (z13).toNat zerO)).R).yx = oneO.R.yx)) && ((decide ((((z8.getD (z13).toNat zerO)).R).yy = oneO.R.yy)) && ((decide ((((z8.getD (z13).toNat zerO)).R).yz = oneO.R.yz)) && ((decide ((((z8.getD (z13).toNat zerO)).R).zx = oneO.R.zx)) && ((decide ((((z8.getD (z13).toNat zerO)).R).zy = oneO.R.zy)) && ((decide ((((z8.getD (z13).toNat zerO)).R).zz = oneO.R.zz)) && ((decide ((((z8.getD (z13).toNat zerO)).T).x = oneO.T.x)) && ((decide ((((z8.getD (z13).toNat zerO)).T).y = oneO.T.y)) && ((decide ((((z8.getD (z13).toNat zerO)).T).z = oneO.T.z)) && true))))))))))))))) = true →
   (false, ()) = (true, ())) ∧
  ((!((decide (chkE (lapp (lsub z8 0 z13) (lsub z8 ((w64 (z13 + 1))) (((z8.length : Int) - (w64 (z13 + 1)))))) = 0)) == (!((decide ((((z8.getD (z13).toNat zerO)).R).xx = oneO.R.xx)) && ((decide ((((z8.getD (z13).toNat zerO)).R).xy = oneO.R.xy)) && ((decide ((((z8.getD (z13).toNat zerO)).R).xz = oneO.R.xz)) && ((decide ((((z8.getD (z13).toNat zerO)).R).yx = oneO.R.yx)) && ((decide ((((z8.getD (z13).toNat zerO)).R).yy = oneO.R.yy)) && ((decide ((((z8.getD (z13).toNat zerO)).R).yz = oneO.R.yz)) && ((decide ((((z8.getD (z13).toNat zerO)).R).zx = oneO.R.zx)) && ((decide ((((z8.getD (z13).toNat zerO)).R).zy = oneO.R.zy)) && ((decide ((((z8.getD (z13).toNat zerO)).R).zz = oneO.R.zz)) && ((decide ((((z8.getD (z13).toNat zerO)).T).x = oneO.T.x)) && ((decide ((((z8.getD (z13).toNat zerO)).T).y = oneO.T.y)) && ((decide ((((z8.getD (z13).toNat zerO)).T).z = oneO.T.z)) && true))))))))))))))) = false →
  True)))))) ∧
 ((decide ((z8.length : Int) = 2)) = false →
 True)))) ∧
(True →
((((!(decide (z13 = z16))) = true →
  (True ∧
  ∀ z22 : List Op3,
  (z22 = z8 →
  (inB z22 z16 ∧
  (inB z22 z13 ∧
  (inB z22 z13 ∧
  (inB (lset z22 z13 (((z22.getD (z16).toNat zerO)))) z16 ∧
  (True ∧
  ∀ z24 : Int,
  (z24 = chkE (lset (lset z22 z13 (((z22.getD (z16).toNat zerO)))) z16 (((z22.getD (z13).toNat zerO)))) →
  (((!(decide (z24 = 5))) = true →
   (false, ()) = (true, ())) ∧
  ((!(decide (z24 = 5))) = false →
  True))))))))))) ∧
 ((!(decide (z13 = z16))) = false →
 True)) ∧
(True →
((((decide ((z8.length : Int) < 192)) = true →
  ((leP 0 0 ∧
   (leP 0 ((w64 (z13 + 1))) ∧
   leP ((w64 (z13 + 1))) (z8.length : Int))) ∧
  (True ∧
  ((leP 0 z13 ∧
   (leP z13 (z8.length : Int) ∧
   leP (z8.length : Int) (z8.length : Int))) ∧
  (lfit 96 (lapp (lsub z8 0 ((w64 (z13 + 1)))) (lsub z8 z13 (((z8.length : Int) - z13)))) ∧
  (True ∧
  ∀ z23 : Int,
  (z23 = chkE (lapp (lsub z8 0 ((w64 (z13 + 1)))) (lsub z8 z13 (((z8.length : Int) - z13)))) →
  (((!(decide (z23 = 5))) = true →
   (false, ()) = (true, ())) ∧
  ((!(decide (z23 = 5))) = false →
  True))))))))) ∧
 ((decide ((z8.length : Int) < 192)) = false →
 True)) ∧
(True →
(inB z8 z13 ∧
(inB z8 z16 ∧
(True ∧
(((!(decide (cloE ([((z8.getD (z13).toNat zerO)), ((z8.getD (z16).toNat zerO))]) = 0))) = true →
 (false, ()) = (true, ())) ∧
((!(decide (cloE ([((z8.getD (z13).toNat zerO)), ((z8.getD (z16).toNat zerO))]) = 0))) = false →
((((cloL ([((z8.getD (z13).toNat zerO)), ((z8.getD (z16).toNat zerO))])).length : Int) ≠ 0) ∧
(((!(decide ((Int.tmod (z8.length : Int) (((cloL ([((z8.getD (z13).toNat zerO)), ((z8.getD (z16).toNat zerO))])).length : Int))) = 0))) = true →
 (false, ()) = (true, ())) ∧
((!(decide ((Int.tmod (z8.length : Int) (((cloL ([((z8.getD (z13).toNat zerO)), ((z8.getD (z16).toNat zerO))])).length : Int))) = 0))) = false →
(rgP (((cloL ([((z8.getD (z13).toNat zerO)), ((z8.getD (z16).toNat zerO))])).length : Int)) 0 ∧
∀ z25 : Int,
((decide ((-9223372036854775808) ≤ z25)) = true →
((decide (z25 ≤ 9223372036854775807)) = true →
(rgP (((cloL ([((z8.getD (z13).toNat zerO)), ((z8.getD (z16).toNat zerO))])).length : Int)) z25 →
(((decide (z25 < ((cloL ([((z8.getD (z13).toNat zerO)), ((z8.getD (z16).toNat zerO))])).length : Int))) = true →
 (inB (cloL ([((z8.getD (z13).toNat zerO)), ((z8.getD (z16).toNat zerO))])) z25 ∧
 (((decide (5 < z25)) = true →
  (true, ()) = (true, ())) ∧
 ((decide (5 < z25)) = false →
 (True ∧
 ∀ z31 : Int,
 (z31 = fndI z8 ((((cloL ([((z8.getD (z13).toNat zerO)), ((z8.getD (z16).toNat zerO))])).getD (z25).toNat zerO))) →
 ∀ z33 : Int,
 (z33 = fndE z8 ((((cloL ([((z8.getD (z13).toNat zerO)), ((z8.getD (z16).toNat zerO))])).getD (z25).toNat zerO))) →
 (((!(decide (z33 = 0))) = true →
  (false, ()) = (true, ())) ∧
 ((!(decide (z33 = 0))) = false →
 (rgP (((cloL ([((z8.getD (z13).toNat zerO)), ((z8.getD (z16).toNat zerO))])).length : Int)) ((w64 (z25 + 1))) ∧
 ((decide (0 ≤ rgMu (((cloL ([((z8.getD (z13).toNat zerO)), ((z8.getD (z16).toNat zerO))])).length : Int)) ((w64 (z25 + 1))))) = true ∧
 (decide (rgMu (((cloL ([((z8.getD (z13).toNat zerO)), ((z8.getD (z16).toNat zerO))])).length : Int)) ((w64 (z25 + 1))) < rgMu (((cloL ([((z8.getD (z13).toNat zerO)), ((z8.getD (z16).toNat zerO))])).length : Int)) z25)) = true))))))))))) ∧
((decide (z25 < ((cloL ([((z8.getD (z13).toNat zerO)), ((z8.getD (z16).toNat zerO))])).length : Int))) = false →
(true, ()) = (true, ()))))))))))))))))))))))))))))))))))))))))))
theorem r_GroupBroken (x : HL C_GroupBroken.args) : runs (env0 [(26, C_awake5.hid), (27, C_r5Twin.hid), (14, C_gClose.hid), (16, C_gCheck.hid), (18, C_gFind.hid), (37, C_r5One)] [(9, 24, { fix := [(.tmp 134, .list .op)], vars := [(.tmp 136, .int .i64)], inv := fun y v => rgP (lenI y.1) v.1, mu := fun y v => rgMu (lenI y.1) v.1 })] [(9, 8, { fix := [(.tmp 7, .list .op)], vars := [(.tmp 1, .int .i64), (.tmp 2, .int .i64)], inv := fun y v => inB y.1 v.1 ∧ inB y.1 v.2.1, mu := fun y v => 0 }), (9, 11, { fix := [], vars := [], inv := fun y v => True, mu := fun y v => 0 }), (9, 16, { fix := [], vars := [], inv := fun y v => True, mu := fun y v => 0 }), (9, 20, { fix := [], vars := [], inv := fun y v => True, mu := fun y v => 0 })]) 400 9 C_GroupBroken x = T_GroupBroken x.1 x.2.1 x.2.2.1 := by kernel_rfl
theorem p_GroupBroken (l : List Op3) (i : Int) (j : Int) (h0 : (Sh.list .op).okA l) (h1 : (Sh.int .i64).okA i) (h2 : (Sh.int .i64).okA j) : T_GroupBroken l i j := by
  unfold T_GroupBroken
  refine ⟨trivial, fun z hz => ⟨fun h => absurd (hz ▸ h) (by decide), fun _ => ⟨trivial, fun a ha => ⟨trivial, fun g hg e he => ⟨fun _ => rfl, fun hze => ?_⟩⟩⟩⟩⟩
  subst ha
  have hz0 : cloE a = 0 := by rw [← he]; simpa using hze
  have hI := clo_isG hz0
  rw [← hg] at hI
  have hc := isG_chk hI
  have hlen := hI.len
  have hone := List.length_pos_of_mem ((hI.mem _).2 .one)
  have hgl : (g.length : Int) ≠ 0 := by omega
  refine ⟨⟨hgl, hgl, hgl, hgl, idx_in i hone, idx_in j hone⟩, fun i _ _ j _ _ hij => ?_⟩
  obtain ⟨hi, hj⟩ := hij
  have hi0 : 0 ≤ i := hi.1
  have hi1 : i < (g.length : Int) := hi.2
  have ew : w64 (i + 1) = i + 1 := w64_id (by omega) (by omega)
  have hk : i.toNat < g.length := by omega
  rw [ew, less_eq hi, twice_eq hi, eqOc']
  have f1 : lfit 96 (lessL g i.toNat) := by show (lessL g i.toNat).length * 96 ≤ 140737488355328; rw [less_len hk]; omega
  have f2 : lfit 96 (twcL g i.toNat) := by show (g.take (i.toNat + 1) ++ g.drop i.toNat).length * 96 ≤ 140737488355328; rw [List.length_append, List.length_take, List.length_drop]; omega
  have b1 : leP 0 0 ∧ (leP 0 i ∧ leP i (g.length : Int)) := ⟨Int.le_refl _, hi0, Int.le_of_lt hi1⟩
  have b2 : leP 0 (i + 1) ∧ (leP (i + 1) (g.length : Int) ∧ leP (g.length : Int) (g.length : Int)) := ⟨by show (0 : Int) ≤ i + 1; omega, hi1, Int.le_refl _⟩
  have b3 : leP 0 0 ∧ (leP 0 (i + 1) ∧ leP (i + 1) (g.length : Int)) := ⟨Int.le_refl _, by show (0 : Int) ≤ i + 1; omega, hi1⟩
  have b4 : leP 0 i ∧ (leP i (g.length : Int) ∧ leP (g.length : Int) (g.length : Int)) := ⟨hi0, Int.le_of_lt hi1, Int.le_refl _⟩
  have two : ∀ h2 : (g.length : Int) = 2, ¬ (!(decide (chkE (lessL g i.toNat) = 0) == !decide (g.getD i.toNat zerO = oneO))) = true := fun h2 h => by
    rw [two_less hc hi h2] at h
    cases hd : decide (g.getD i.toNat zerO = oneO) <;> rw [hd] at h <;> cases h
  have hpi := getD_mem hi0 hi1 zerO
  have hpj := getD_mem hj.1 hj.2 zerO
  obtain ⟨p1, p2⟩ := part_clo hc (m := [g.getD i.toNat zerO, g.getD j.toNat zerO]) (fun o ho => by
    simp only [List.mem_cons, List.not_mem_nil, or_false] at ho
    rcases ho with rfl | rfl
    · exact hpi
    · exact hpj) (by simp)
  have p3 := clo_chk p1
  generalize hp : cloL [g.getD i.toNat zerO, g.getD j.toNat zerO] = p at p2 p3
  have p4 := List.length_pos_of_mem (chk_grp p3).2.2.1
  have p5 := chk_len p3
  refine ⟨b1, trivial, b2, f1, ⟨fun h2 => ⟨trivial, fun h => absurd h (by rw [less_5 hc hi (of_decide_eq_true h2)]; decide), fun _ => ⟨fun h => absurd (of_decide_eq_true h) (by have := of_decide_eq_true h2; omega), fun _ => trivial⟩⟩, fun _ => ⟨fun h => ⟨trivial, hi, trivial, fun h3 => absurd h3 (two (of_decide_eq_true h)), fun _ => trivial⟩, fun _ => trivial⟩⟩, fun _ => ⟨⟨fun hne => ⟨trivial, fun t ht => ?_⟩, fun _ => trivial⟩, fun _ => ⟨⟨fun h192 => ⟨b3, trivial, b4, f2, trivial, fun z hz => ⟨fun h => absurd h (by rw [hz, twice_5 hc hi (of_decide_eq_true h192)]; decide), fun _ => trivial⟩⟩, fun _ => trivial⟩, fun _ => ?_⟩⟩⟩
  · have hne : i ≠ j := by simpa using hne
    subst ht
    refine ⟨hj, hi, hi, ⟨hj.1, by rw [lset_len]; exact hj.2⟩, trivial, fun z hz => ⟨fun h => absurd h (by rw [hz, swap_5 hc hi hj hne]; decide), fun _ => trivial⟩⟩
  · refine ⟨hi, hj, trivial, fun h => absurd h (by rw [p1]; decide), fun _ => ⟨by omega, fun h => absurd h (by rw [grp_tmod hc p3 p2]; decide), fun _ => ⟨rg_init p, fun k _ _ hK => ⟨fun hk => ⟨⟨hK.1, of_decide_eq_true hk⟩, fun _ => rfl, fun _ => ⟨trivial, fun x hx y hy => ⟨fun h => absurd h ?_, fun _ => rg_next (by omega) hK (of_decide_eq_true hk)⟩⟩⟩, fun _ => rfl⟩⟩⟩⟩
    rw [hy, fnd_ok hc (p2 _ (getD_mem hK.1 (of_decide_eq_true hk) zerO))]; decide
theorem s_GroupBroken : Sound Try.prog 9 C_GroupBroken :=
  sound_of_eq (env0_ok (.cons s_awake5.hid (.cons s_r5Twin.hid (.cons s_gClose.hid (.cons s_gCheck.hid (.cons s_gFind.hid (.cons s_r5One (.nil)))))))) (fun x => T_GroupBroken x.1 x.2.1 x.2.2.1) r_GroupBroken fun x ok hp => p_GroupBroken x.1 x.2.1 x.2.2.1 ok.1 ok.2.1 ok.2.2.1
end Go.Fx
