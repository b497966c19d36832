/-
  Contracts: OrbitCounts.
-/
import Derived.Test.YtkcoohpammhnhaaK16
namespace Go.Fx
open Go Go.Proofs
set_option maxRecDepth 100000
set_option linter.unusedVariables false
set_option linter.unusedSimpArgs false
set_option linter.unusedSectionVars false
noncomputable def C_OrbitCounts : Contract := { args := [.list .op, .agg .pt], res := [.bool], pre := fun _ => True, F := fun x => ((true : Bool), ()) }
def T_OrbitCounts (g : List Op3) (p : Pt) : Prop :=
  (True ∧
∀ z2 : Bool,
(z2 = true →
(((!z2) = true →
 (false, ()) = (true, ())) ∧
((!z2) = false →
(True ∧
(True ∧
(True ∧
(True ∧
(True ∧
∀ z5 : List Op3,
(z5 = g →
(True ∧
∀ z7 : Int,
(z7 = chkE z5 →
(((!(decide (z7 = 0))) = true →
 (((!(decide (ocE g [p] = 0))) = true →
  (((decide (ocE g [p] = ocE g [p])) = true →
   (((decide (((ofL g p).length : Int) = 0)) = true →
    ((decide (((siL g p).length : Int) = 0)), ()) = (true, ())) ∧
   ((decide (((ofL g p).length : Int) = 0)) = false →
   (false, ()) = (true, ())))) ∧
  ((decide (ocE g [p] = ocE g [p])) = false →
  (false, ()) = (true, ())))) ∧
 ((!(decide (ocE g [p] = 0))) = false →
 (false, ()) = (true, ())))) ∧
((!(decide (z7 = 0))) = false →
(True ∧
∀ z10 : Bool,
(z10 = frmP p →
(((!z10) = true →
 (((!(decide (ocE g [p] = 0))) = true →
  (((decide (ocE g [p] = ocE g [p])) = true →
   (((decide (((ofL g p).length : Int) = 0)) = true →
    ((decide (((siL g p).length : Int) = 0)), ()) = (true, ())) ∧
   ((decide (((ofL g p).length : Int) = 0)) = false →
   (false, ()) = (true, ())))) ∧
  ((decide (ocE g [p] = ocE g [p])) = false →
  (false, ()) = (true, ())))) ∧
 ((!(decide (ocE g [p] = 0))) = false →
 (false, ()) = (true, ())))) ∧
((!z10) = false →
(((!(decide (ocE g [p] = 0))) = true →
 (false, ()) = (true, ())) ∧
((!(decide (ocE g [p] = 0))) = false →
(((!(decide (ocE g [p] = 0))) = true →
 (false, ()) = (true, ())) ∧
((!(decide (ocE g [p] = 0))) = false →
(((!(decide ((w64 ((((ofL g p).length : Int) * ((siL g p).length : Int)))) = (g.length : Int)))) = true →
 (false, ()) = (true, ())) ∧
((!(decide ((w64 ((((ofL g p).length : Int) * ((siL g p).length : Int)))) = (g.length : Int)))) = false →
((leP 0 (((ofL g p).length : Int)) ∧
 lfit 8 ((lrep (((ofL g p).length : Int)) (0 : Int)))) ∧
(tmP g p (ofL g p) ((lrep (((ofL g p).length : Int)) (0 : Int))) 0 ∧
∀ z16 : List Int,
∀ z17 : Int,
((decide ((-9223372036854775808) ≤ z17)) = true →
((decide (z17 ≤ 9223372036854775807)) = true →
(tmP g p (ofL g p) z16 z17 →
(eqP (z16.length : Int) ((((lrep (((ofL g p).length : Int)) (0 : Int))).length : Int)) →
(((decide (z17 < (g.length : Int))) = true →
 (inB g z17 ∧
 (True ∧
 ∀ z23 : Pt,
 (z23 = appP (((g.getD (z17).toNat zerO))) p →
 ∀ z25 : Int,
 (z25 = appE (((g.getD (z17).toNat zerO))) p →
 (tiP (ofL g p) z23 z16 z16 0 false ∧
 ∀ z27 : List Int,
 ∀ z28 : Int,
 ((decide ((-9223372036854775808) ≤ z28)) = true →
 ((decide (z28 ≤ 9223372036854775807)) = true →
 ∀ z31 : Bool,
 (tiP (ofL g p) z23 z16 z27 z28 z31 →
 (eqP (z27.length : Int) (z16.length : Int) →
 (((decide (z28 < ((ofL g p).length : Int))) = true →
  (inB (ofL g p) z28 ∧
  ((((decide ((((ofL g p).getD (z28).toNat (Pt.mk 0 (V3.mk 0 0 0)))).M = z23.M)) && ((decide (((((ofL g p).getD (z28).toNat (Pt.mk 0 (V3.mk 0 0 0)))).X).x = z23.X.x)) && ((decide (((((ofL g p).getD (z28).toNat (Pt.mk 0 (V3.mk 0 0 0)))).X).y = z23.X.y)) && ((decide (((((ofL g p).getD (z28).toNat (Pt.mk 0 (V3.mk 0 0 0)))).X).z = z23.X.z)) && true)))) = true →
   (inB z27 z28 ∧
   (inB z27 z28 ∧
   (tiP (ofL g p) z23 z16 (lset z27 z28 ((w64 (((z27.getD (z28).toNat 0) + 1))))) ((w64 (z28 + 1))) true ∧
   ((decide (0 ≤ lnX (ofL g p) ((w64 (z28 + 1))))) = true ∧
   (decide (lnX (ofL g p) ((w64 (z28 + 1))) < lnX (ofL g p) z28)) = true))))) ∧
  (((decide ((((ofL g p).getD (z28).toNat (Pt.mk 0 (V3.mk 0 0 0)))).M = z23.M)) && ((decide (((((ofL g p).getD (z28).toNat (Pt.mk 0 (V3.mk 0 0 0)))).X).x = z23.X.x)) && ((decide (((((ofL g p).getD (z28).toNat (Pt.mk 0 (V3.mk 0 0 0)))).X).y = z23.X.y)) && ((decide (((((ofL g p).getD (z28).toNat (Pt.mk 0 (V3.mk 0 0 0)))).X).z = z23.X.z)) && true)))) = false →
  (tiP (ofL g p) z23 z16 z27 ((w64 (z28 + 1))) z31 ∧
  ((decide (0 ≤ lnX (ofL g p) ((w64 (z28 + 1))))) = true ∧
  (decide (lnX (ofL g p) ((w64 (z28 + 1))) < lnX (ofL g p) z28)) = true)))))) ∧
 ((decide (z28 < ((ofL g p).length : Int))) = false →
 (((!(decide (z25 = 0))) = true →
  (false, ()) = (true, ())) ∧
 ((!(decide (z25 = 0))) = false →
 (((!z31) = true →
  (false, ()) = (true, ())) ∧
 ((!z31) = false →
 (tmP g p (ofL g p) z27 ((w64 (z17 + 1))) ∧
 ((decide (0 ≤ opMu g ((w64 (z17 + 1))))) = true ∧
 (decide (opMu g ((w64 (z17 + 1))) < opMu g z17)) = true)))))))))))))))))) ∧
((decide (z17 < (g.length : Int))) = false →
(rgP (z16.length : Int) 0 ∧
∀ z23 : Int,
((decide ((-9223372036854775808) ≤ z23)) = true →
((decide (z23 ≤ 9223372036854775807)) = true →
(rgP (z16.length : Int) z23 →
(((decide (z23 < (z16.length : Int))) = true →
 (inB z16 z23 ∧
 (((!(decide ((z16.getD (z23).toNat 0) = ((siL g p).length : Int)))) = true →
  (false, ()) = (true, ())) ∧
 ((!(decide ((z16.getD (z23).toNat 0) = ((siL g p).length : Int)))) = false →
 (((decide (0 < z23)) = true →
  (inB (ofL g p) ((w64 (z23 - 1))) ∧
  (inB (ofL g p) z23 ∧
  (True ∧
  (((decide (0 ≤ ordX ((((ofL g p).getD ((w64 (z23 - 1))).toNat (Pt.mk 0 (V3.mk 0 0 0))))) ((((ofL g p).getD (z23).toNat (Pt.mk 0 (V3.mk 0 0 0))))))) = true →
   (false, ()) = (true, ())) ∧
  ((decide (0 ≤ ordX ((((ofL g p).getD ((w64 (z23 - 1))).toNat (Pt.mk 0 (V3.mk 0 0 0))))) ((((ofL g p).getD (z23).toNat (Pt.mk 0 (V3.mk 0 0 0))))))) = false →
  (((!(decide (ordXE ((((ofL g p).getD ((w64 (z23 - 1))).toNat (Pt.mk 0 (V3.mk 0 0 0))))) ((((ofL g p).getD (z23).toNat (Pt.mk 0 (V3.mk 0 0 0))))) = 0))) = true →
   (false, ()) = (true, ())) ∧
  ((!(decide (ordXE ((((ofL g p).getD ((w64 (z23 - 1))).toNat (Pt.mk 0 (V3.mk 0 0 0))))) ((((ofL g p).getD (z23).toNat (Pt.mk 0 (V3.mk 0 0 0))))) = 0))) = false →
  (rgP (z16.length : Int) ((w64 (z23 + 1))) ∧
  ((decide (0 ≤ inMu z16 ((w64 (z23 + 1))))) = true ∧
  (decide (inMu z16 ((w64 (z23 + 1))) < inMu z16 z23)) = true)))))))))) ∧
 ((decide (0 < z23)) = false →
 (rgP (z16.length : Int) ((w64 (z23 + 1))) ∧
 ((decide (0 ≤ inMu z16 ((w64 (z23 + 1))))) = true ∧
 (decide (inMu z16 ((w64 (z23 + 1))) < inMu z16 z23)) = true)))))))) ∧
((decide (z23 < (z16.length : Int))) = false →
(styP g (siL g p) [] 0 ∧
∀ z28 : List Op3,
∀ z29 : Int,
((decide ((-9223372036854775808) ≤ z29)) = true →
((decide (z29 ≤ 9223372036854775807)) = true →
(styP g (siL g p) z28 z29 →
(lfit 96 z28 →
(((decide (z29 < ((siL g p).length : Int))) = true →
 (inB (siL g p) z29 ∧
 (((decide (((siL g p).getD (z29).toNat 0) < 0)) = true →
  (false, ()) = (true, ())) ∧
 ((decide (((siL g p).getD (z29).toNat 0) < 0)) = false →
 (((decide ((g.length : Int) ≤ ((siL g p).getD (z29).toNat 0))) = true →
  (false, ()) = (true, ())) ∧
 ((decide ((g.length : Int) ≤ ((siL g p).getD (z29).toNat 0))) = false →
 (inB g (((siL g p).getD (z29).toNat 0)) ∧
 (lfit 96 (lapp z28 ([((g.getD (((siL g p).getD (z29).toNat 0)).toNat zerO))])) ∧
 (styP g (siL g p) (lapp z28 ([((g.getD (((siL g p).getD (z29).toNat 0)).toNat zerO))])) ((w64 (z29 + 1))) ∧
 ((decide (0 ≤ inMu (siL g p) ((w64 (z29 + 1))))) = true ∧
 (decide (inMu (siL g p) ((w64 (z29 + 1))) < inMu (siL g p) z29)) = true)))))))))) ∧
((decide (z29 < ((siL g p).length : Int))) = false →
(True ∧
∀ z35 : Int,
(z35 = chkE z28 →
((decide (z35 = 0)), ()) = (true, ()))))))))))))))))))))))))))))))))))))))))))))))))
theorem r_OrbitCounts (x : HL C_OrbitCounts.args) : runs (env0 [(10, C_awake9.hid), (12, C_r5Twin.hid), (11, C_oOf.hid), (15, C_oSite.hid), (24, C_gCheck.hid), (25, C_fForm.hid), (26, C_opApply.hid), (27, C_fOrder.hid)] [(6, 11, { fix := [(.tmp 85, .list .op), (.cell 3, .agg .pt), (.tmp 5, .list .pt)], vars := [(.itmp 9, .list .int), (.tmp 87, .int .i64)], inv := fun y v => tmP y.1 y.2.1 y.2.2.1 v.1 v.2.1, mu := fun y v => opMu y.1 v.2.1 }), (6, 16, { fix := [(.tmp 97, .list .pt), (.cell 12, .agg .pt), (.tmp 9, .list .int)], vars := [(.itmp 9, .list .int), (.tmp 99, .int .i64), (.tmp 14, .bool)], inv := fun y v => tiP y.1 y.2.1 y.2.2.1 v.1 v.2.1 v.2.2.1, mu := fun y v => lnX y.1 v.2.1 }), (6, 26, { fix := [(.tmp 121, .list .int)], vars := [(.tmp 123, .int .i64)], inv := fun y v => rgP (lenI y.1) v.1, mu := fun y v => inMu y.1 v.1 }), (6, 37, { fix := [(.tmp 0, .list .op), (.tmp 154, .list .int)], vars := [(.tmp 21, .list .op), (.tmp 156, .int .i64)], inv := fun y v => styP y.1 y.2.1 v.1 v.2.1, mu := fun y v => inMu y.2.1 v.2.1 })] []) 400 6 C_OrbitCounts x = T_OrbitCounts x.1 x.2.1 := by kernel_rfl
theorem p_OrbitCounts (g : List Op3) (p : Pt) (h0 : (Sh.list .op).okA g) (h1 : (Sh.agg .pt).okA p) : T_OrbitCounts g p := by
  have hb : g.length * 96 ≤ room := h0.2
  unfold T_OrbitCounts
  have bad : ocE g [p] ≠ 0 → (((!(decide (ocE g [p] = 0))) = true → (((decide (ocE g [p] = ocE g [p])) = true → (((decide (((ofL g p).length : Int) = 0)) = true → ((decide (((siL g p).length : Int) = 0)), ()) = (true, ())) ∧ ((decide (((ofL g p).length : Int) = 0)) = false → (false, ()) = (true, ())))) ∧ ((decide (ocE g [p] = ocE g [p])) = false → (false, ()) = (true, ())))) ∧ ((!(decide (ocE g [p] = 0))) = false → (false, ()) = (true, ()))) := fun hn => by
    obtain ⟨n1, n2⟩ := of_ne hn
    rw [n1, n2]
    exact ⟨fun _ => ⟨fun _ => ⟨fun _ => rfl, fun h => absurd h (by decide)⟩, fun h => absurd h (by simp)⟩, fun h => absurd (show ocE g [p] = 0 by simpa using h) hn⟩
  refine ⟨trivial, fun z hz => ⟨fun h => absurd (hz ▸ h) (by decide), fun _ => ⟨trivial, trivial, trivial, trivial, trivial, fun g' hg' => ⟨trivial, fun e he => ⟨fun h => ?_, fun h => ⟨trivial, fun b hb' => ⟨fun h2 => ?_, fun h2 => ?_⟩⟩⟩⟩⟩⟩⟩
  · have hn : chkE g ≠ 0 := by rw [← hg', ← he]; simpa using h
    exact bad (oc_ne fun c => hn c.1)
  · have hn : ¬ frmP p = true := by rw [← hb']; simpa using h2
    exact bad (oc_ne fun c => hn c.2)
  simp only [eqPc]
  have hc : chkE g = 0 := by rw [← hg', ← he]; simpa using h
  have hf : frmP p = true := by rw [← hb']; simpa using h2
  have hz0 : ocE g [p] = 0 := oc_of hf hc
  have hl2 : g.length ≤ 192 := (oc_P hz0).2.2
  have lp := of_len hz0
  have ls := siL_len g p
  have ht := of_times hz0
  have hprod : w64 (((ofL g p).length : Int) * ((siL g p).length : Int)) = (g.length : Int) := by
    rw [← Int.natCast_mul, ← ht]; exact w64_id (by omega) (by omega)
  have hbnd : ∀ k : Int, 0 ≤ k → k < 192 → w64 (k + 1) = k + 1 := fun k k0 hk => w64_id (by omega) (by omega)
  rw [hprod, hz0]
  refine ⟨fun h => absurd h (by decide), fun _ => ⟨fun h => absurd h (by decide), fun _ => ⟨fun h => absurd h (by simp), fun _ => ⟨⟨by show (0 : Int) ≤ _; omega, ?_⟩, tm_init g p _, fun t i _ _ hI hlen => ⟨fun hi => ?_, fun hi => ⟨rg_init t, fun k _ _ hK => ⟨fun hk => ?_, fun _ => ⟨sty_init g _, fun m k2 _ _ hS hfit => ⟨fun hk2 => ?_, fun hk2 => ⟨trivial, fun e5 he5 => ?_⟩⟩⟩⟩⟩⟩⟩⟩⟩⟩
  · show (lrep ((ofL g p).length : Int) (0 : Int)).length * 8 ≤ 140737488355328
    unfold lrep; rw [List.length_replicate]; omega
  · have hi := of_decide_eq_true hi
    have i0 := hI.1
    obtain ⟨e1, e2, e3⟩ := opMu_next hb i0 hi
    have hgo := getD_mem i0 hi zerO
    refine ⟨⟨i0, hi⟩, trivial, fun x hx e4 he4 => ⟨ti_init _ _ _, fun u k _ _ b2 hT hlu => ⟨fun hk => ?_, fun hk => ?_⟩⟩⟩
    · have hk := of_decide_eq_true hk
      have k0 := hT.1
      have f1 := hbnd k k0 (by omega)
      have hkl : k.toNat < (ofL g p).length := by omega
      have hbn := tm_bnd hI hkl
      have hut : u.length = t.length := hT.2.2.1
      have htl : t.length = (ofL g p).length := hI.2.2.1
      rw [f1]
      refine ⟨⟨k0, hk⟩, fun c => ⟨⟨k0, by omega⟩, ⟨k0, by omega⟩, ti_hit hT hk htl ⟨hbn.1, by omega⟩ (of_decide_eq_true c), decide_eq_true (by unfold lnX; omega), decide_eq_true (by unfold lnX; omega)⟩, fun c => ⟨ti_miss hT hk (of_decide_eq_false c), decide_eq_true (by unfold lnX; omega), decide_eq_true (by unfold lnX; omega)⟩⟩
    · obtain ⟨n1, n2⟩ := ti_end hT (of_decide_eq_false hk) hI hi (by rw [hx]; exact (imP_get i0 hi).symm)
      have hmem : x ∈ ofL g p := (of_mem hz0).2 (by rw [hx]; exact List.mem_map_of_mem (f := fun o => appP o p) hgo)
      have e40 : e4 = 0 := by rw [he4]; exact (app_eq hz0 hgo).2
      rw [e1] at e2 e3 ⊢
      refine ⟨fun h => absurd h (by rw [e40]; decide), fun _ => ⟨fun h => absurd h (by rw [n2, decide_eq_true hmem]; decide), fun _ => ⟨n1, e2, e3⟩⟩⟩
  · have hk := of_decide_eq_true hk
    have k0 := hK.1
    have hi2 := of_decide_eq_false hi
    have htl : t.length = (ofL g p).length := hI.2.2.1
    have f1 := hbnd k k0 (by omega)
    have hkl : k.toNat < (ofL g p).length := by omega
    have hin := g_atX hkl
    have hval : t.getD k.toNat 0 = ((siL g p).length : Int) := by
      have hig : i.toNat = g.length := by have := hI.2.1; omega
      rw [hI.2.2.2 _ hkl, List.take_of_length_le (by rw [imP_len]; omega), si_len hz0, fibX_eq hz0 ((of_mem hz0).1 hin)]
    have mm : rgP (t.length : Int) (k + 1) ∧ ((decide (0 ≤ inMu t (k + 1))) = true ∧ (decide (inMu t (k + 1) < inMu t k)) = true) := ⟨⟨by omega, by omega⟩, decide_eq_true (by unfold inMu; omega), decide_eq_true (by unfold inMu; omega)⟩
    rw [f1, hval]
    refine ⟨⟨k0, hk⟩, fun h => absurd h (by simp), fun _ => ⟨fun c => ?_, fun _ => mm⟩⟩
    have c := of_decide_eq_true c
    rw [w64_id (x := k - 1) (by omega) (by omega)]
    have hlt := of_step hz0 (i := k) c (by omega)
    have hok1 := im_ok hz0 _ ((of_mem hz0).1 (g_atX (l := ofL g p) (k := (k - 1).toNat) (by omega)))
    have hok2 := im_ok hz0 _ ((of_mem hz0).1 hin)
    have hE : ordXE ((ofL g p).getD (k - 1).toNat zerP) ((ofL g p).getD k.toNat zerP) = 0 := by unfold ordXE; rw [if_pos ⟨hok1.1, hok2.1⟩]
    refine ⟨⟨by omega, by omega⟩, ⟨k0, by omega⟩, trivial, fun h => absurd (of_decide_eq_true h) (by have hlt : ordX ((ofL g p).getD (k - 1).toNat (Pt.mk 0 (V3.mk 0 0 0))) ((ofL g p).getD k.toNat (Pt.mk 0 (V3.mk 0 0 0))) < 0 := hlt; omega), fun _ => ⟨fun h => absurd h (by rw [show ordXE ((ofL g p).getD (k - 1).toNat (Pt.mk 0 (V3.mk 0 0 0))) ((ofL g p).getD k.toNat (Pt.mk 0 (V3.mk 0 0 0))) = 0 from hE]; decide), fun _ => mm⟩⟩
  · have hk2 := of_decide_eq_true hk2
    have k0 := hS.1
    have f1 := hbnd k2 k0 (by omega)
    have hin := si_in hz0 (getD_mem k0 hk2 (0 : Int))
    have hml : m.length = k2.toNat := by rw [hS.2.2]; unfold mapsL; rw [List.length_map, List.length_take]; omega
    rw [f1]
    refine ⟨⟨k0, hk2⟩, fun h => absurd (of_decide_eq_true h) (by have := hin.1; omega), fun _ => ⟨fun h => absurd (of_decide_eq_true h) (by have := hin.2; omega), fun _ => ⟨hin, ?_, sty_next hS hk2, decide_eq_true (by unfold inMu; omega), decide_eq_true (by unfold inMu; omega)⟩⟩⟩
    show (m ++ [_]).length * 96 ≤ 140737488355328
    rw [List.length_append]; simp only [List.length_singleton]; omega
  · have hm : m = mapsL g (siL g p) := by rw [hS.2.2, take_end (of_decide_eq_false hk2)]
    rw [he5, hm, si_chk hz0]; rfl
theorem s_OrbitCounts : Sound Try.prog 6 C_OrbitCounts :=
  sound_of_eq (env0_ok (.cons s_awake9.hid (.cons s_r5Twin.hid (.cons s_oOf.hid (.cons s_oSite.hid (.cons s_gCheck.hid (.cons s_fForm.hid (.cons s_opApply.hid (.cons s_fOrder.hid (.nil)))))))))) (fun x => T_OrbitCounts x.1 x.2.1) r_OrbitCounts fun x ok hp => p_OrbitCounts x.1 x.2.1 ok.1 ok.2.1
end Go.Fx
