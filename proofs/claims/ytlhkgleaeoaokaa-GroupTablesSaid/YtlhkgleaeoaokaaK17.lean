/-
  Contracts: GroupTables.
-/
import Derived.Test.YtlhkgleaeoaokaaK16
namespace Go.Fx
open Go Go.Proofs
set_option maxRecDepth 100000
set_option linter.unusedVariables false
set_option linter.unusedSimpArgs false
set_option linter.unusedSectionVars false
noncomputable def C_GroupTables : Contract := { args := [.list .op], res := [.bool], pre := fun _ => True, F := fun x => ((true : Bool), ()) }
def T_GroupTables (g : List Op3) : Prop :=
  (True ∧
∀ z1 : Bool,
(z1 = true →
(((!z1) = true →
 (false, ()) = (true, ())) ∧
((!z1) = false →
(True ∧
∀ z4 : List Op3,
(z4 = g →
(True ∧
∀ z6 : List (List Int),
(z6 = tabL z4 →
∀ z8 : Int,
(z8 = chkE z4 →
(True ∧
∀ z10 : List (List Int),
(z10 = tabL g →
∀ z12 : Int,
(z12 = chkE g →
(((!(decide (z8 = z12))) = true →
 (false, ()) = (true, ())) ∧
((!(decide (z8 = z12))) = false →
(((!(decide ((z6.length : Int) = (z10.length : Int)))) = true →
 (false, ()) = (true, ())) ∧
((!(decide ((z6.length : Int) = (z10.length : Int)))) = false →
(rgP (z6.length : Int) 0 ∧
∀ z16 : Int,
((decide ((-9223372036854775808) ≤ z16)) = true →
((decide (z16 ≤ 9223372036854775807)) = true →
(rgP (z6.length : Int) z16 →
(((decide (z16 < (z6.length : Int))) = true →
 (inB z6 z16 ∧
 (inB z10 z16 ∧
 (True ∧
 (((!smI ((z6.getD (z16).toNat [])) ((z10.getD (z16).toNat []))) = true →
  (false, ()) = (true, ())) ∧
 ((!smI ((z6.getD (z16).toNat [])) ((z10.getD (z16).toNat []))) = false →
 (rgP (z6.length : Int) ((w64 (z16 + 1))) ∧
 ((decide (0 ≤ rgMu (z6.length : Int) ((w64 (z16 + 1))))) = true ∧
 (decide (rgMu (z6.length : Int) ((w64 (z16 + 1))) < rgMu (z6.length : Int) z16)) = true)))))))) ∧
((decide (z16 < (z6.length : Int))) = false →
(True ∧
∀ z21 : List Op3,
(z21 = g →
(True ∧
∀ z23 : List Int,
(z23 = invL z21 →
∀ z25 : Int,
(z25 = chkE z21 →
(True ∧
∀ z27 : List Int,
(z27 = diL g →
∀ z29 : Int,
(z29 = chkE g →
(True ∧
∀ z31 : Bool,
(z31 = smI z23 z27 →
(((!z31) = true →
 (false, ()) = (true, ())) ∧
((!z31) = false →
(((!(decide (z25 = z29))) = true →
 (false, ()) = (true, ())) ∧
((!(decide (z25 = z29))) = false →
(tkP z10 z6 0 ∧
∀ z35 : List (List Int),
∀ z36 : Int,
((decide ((-9223372036854775808) ≤ z36)) = true →
((decide (z36 ≤ 9223372036854775807)) = true →
(tkP z10 z35 z36 →
(lfit 24 z35 →
(((decide (z36 < (z6.length : Int))) = true →
 (inB z35 z36 ∧
 (tkIn z10 z35 z36 0 ∧
 ∀ z42 : List (List Int),
 ∀ z43 : Int,
 ((decide ((-9223372036854775808) ≤ z43)) = true →
 ((decide (z43 ≤ 9223372036854775807)) = true →
 (tkIn z10 z42 z36 z43 →
 (lfit 24 z42 →
 (((decide (z43 < (((z35.getD (z36).toNat [])).length : Int))) = true →
  (inB z42 z36 ∧
  (inB ((z42.getD (z36).toNat [])) z43 ∧
  (tkIn z10 (lset z42 z36 (lset ((z42.getD (z36).toNat [])) z43 ((w64 (((w64 (1000 * z36)) + z43)))))) z36 ((w64 (z43 + 1))) ∧
  ((decide (0 ≤ rgMu ((((z10.getD (z36).toNat [])).length : Int)) ((w64 (z43 + 1))))) = true ∧
  (decide (rgMu ((((z10.getD (z36).toNat [])).length : Int)) ((w64 (z43 + 1))) < rgMu ((((z10.getD (z36).toNat [])).length : Int)) z43)) = true))))) ∧
 ((decide (z43 < (((z35.getD (z36).toNat [])).length : Int))) = false →
 (inB z42 z36 ∧
 ((eqP z36 z36 ∧
  lfit 8 (lapp ((z42.getD (z36).toNat [])) ([((-1) - z36)]))) ∧
 (tkP z10 (lset z42 z36 (lapp ((z42.getD (z36).toNat [])) ([((-1) - z36)]))) ((w64 (z36 + 1))) ∧
 ((decide (0 ≤ rgMu (z10.length : Int) ((w64 (z36 + 1))))) = true ∧
 (decide (rgMu (z10.length : Int) ((w64 (z36 + 1))) < rgMu (z10.length : Int) z36)) = true))))))))))))) ∧
((decide (z36 < (z6.length : Int))) = false →
(rgP (z35.length : Int) 0 ∧
∀ z42 : Int,
((decide ((-9223372036854775808) ≤ z42)) = true →
((decide (z42 ≤ 9223372036854775807)) = true →
(rgP (z35.length : Int) z42 →
(((decide (z42 < (z35.length : Int))) = true →
 (inB z35 z42 ∧
 (inB z35 z42 ∧
 (inB ((z35.getD (z42).toNat [])) (((((z35.getD (z42).toNat [])).length : Int) - 1)) ∧
 (((!(decide ((((z35.getD (z42).toNat [])).getD (((((z35.getD (z42).toNat [])).length : Int) - 1)).toNat 0) = ((-1) - z42)))) = true →
  (false, ()) = (true, ())) ∧
 ((!(decide ((((z35.getD (z42).toNat [])).getD (((((z35.getD (z42).toNat [])).length : Int) - 1)).toNat 0) = ((-1) - z42)))) = false →
 (((decide (0 < ((((z35.getD (z42).toNat [])).length : Int) - 1))) = true →
  (inB z35 z42 ∧
  (inB ((z35.getD (z42).toNat [])) 0 ∧
  (((!(decide ((((z35.getD (z42).toNat [])).getD 0 0) = (w64 (1000 * z42))))) = true →
   (false, ()) = (true, ())) ∧
  ((!(decide ((((z35.getD (z42).toNat [])).getD 0 0) = (w64 (1000 * z42))))) = false →
  (rgP (z35.length : Int) ((w64 (z42 + 1))) ∧
  ((decide (0 ≤ rgMu (z35.length : Int) ((w64 (z42 + 1))))) = true ∧
  (decide (rgMu (z35.length : Int) ((w64 (z42 + 1))) < rgMu (z35.length : Int) z42)) = true))))))) ∧
 ((decide (0 < ((((z35.getD (z42).toNat [])).length : Int) - 1))) = false →
 (rgP (z35.length : Int) ((w64 (z42 + 1))) ∧
 ((decide (0 ≤ rgMu (z35.length : Int) ((w64 (z42 + 1))))) = true ∧
 (decide (rgMu (z35.length : Int) ((w64 (z42 + 1))) < rgMu (z35.length : Int) z42)) = true)))))))))) ∧
((decide (z42 < (z35.length : Int))) = false →
(True ∧
∀ z47 : List Op3,
(z47 = g →
(True ∧
∀ z49 : List (List Int),
(z49 = tabL z47 →
∀ z51 : Int,
(z51 = chkE z47 →
(rgP (z49.length : Int) 0 ∧
∀ z53 : Int,
((decide ((-9223372036854775808) ≤ z53)) = true →
((decide (z53 ≤ 9223372036854775807)) = true →
(rgP (z49.length : Int) z53 →
(((decide (z53 < (z49.length : Int))) = true →
 (inB z49 z53 ∧
 (inB z10 z53 ∧
 (True ∧
 (((!smI ((z49.getD (z53).toNat [])) ((z10.getD (z53).toNat []))) = true →
  (false, ()) = (true, ())) ∧
 ((!smI ((z49.getD (z53).toNat [])) ((z10.getD (z53).toNat []))) = false →
 (rgP (z49.length : Int) ((w64 (z53 + 1))) ∧
 ((decide (0 ≤ rgMu (z49.length : Int) ((w64 (z53 + 1))))) = true ∧
 (decide (rgMu (z49.length : Int) ((w64 (z53 + 1))) < rgMu (z49.length : Int) z53)) = true)))))))) ∧
((decide (z53 < (z49.length : Int))) = false →
((decide ((z49.length : Int) = (z10.length : Int))), ()) = (true, ())))))))))))))))))))))))))))))))))))))))))))))))))))))))))))))
theorem r_GroupTables (x : HL C_GroupTables.args) : runs (env0 [(4, C_awake5.hid), (6, C_r5Twin.hid), (5, C_gTable.hid), (7, C_r5DocTable.hid), (9, C_gInverses.hid), (10, C_r5DocInverses.hid), (8, C_ints5.hid)] [(3, 8, { fix := [(.tmp 3, .lists .int)], vars := [(.tmp 42, .int .i64)], inv := fun y v => rgP (lenI y.1) v.1, mu := fun y v => rgMu (lenI y.1) v.1 }), (3, 18, { fix := [(.tmp 5, .lists .int)], vars := [(.tmp 3, .lists .int), (.tmp 78, .int .i64)], inv := fun y v => tkP y.1 v.1 v.2.1, mu := fun y v => rgMu (lenI y.1) v.2.1 }), (3, 21, { fix := [(.tmp 5, .lists .int), (.tmp 10, .int .i64)], vars := [(.tmp 3, .lists .int), (.tmp 86, .int .i64)], inv := fun y v => tkIn y.1 v.1 y.2.1 v.2.1, mu := fun y v => rgMu (lenI (nthD y.1 y.2.1 [])) v.2.1 }), (3, 28, { fix := [(.tmp 3, .lists .int)], vars := [(.tmp 114, .int .i64)], inv := fun y v => rgP (lenI y.1) v.1, mu := fun y v => rgMu (lenI y.1) v.1 }), (3, 36, { fix := [(.tmp 14, .lists .int)], vars := [(.tmp 157, .int .i64)], inv := fun y v => rgP (lenI y.1) v.1, mu := fun y v => rgMu (lenI y.1) v.1 })] []) 400 3 C_GroupTables x = T_GroupTables x.1 := by kernel_rfl
theorem p_GroupTables (g : List Op3) (h0 : (Sh.list .op).okA g) : T_GroupTables g := by
  unfold T_GroupTables
  have sm : ∀ l : List Int, smI l l = true := fun l => by simp [smI]
  obtain ⟨hn, hr⟩ := tab_small g
  have R0 := fun k => hr k
  have loopEq : ∀ t : List (List Int), t.length ≤ 192 → ∀ i : Int, rgP (t.length : Int) i → i < (t.length : Int) → (rgP (t.length : Int) (w64 (i + 1)) ∧ ((decide (0 ≤ rgMu (t.length : Int) (w64 (i + 1)))) = true ∧ (decide (rgMu (t.length : Int) (w64 (i + 1)) < rgMu (t.length : Int) i)) = true)) := fun t ht i hI hi => rg_next (by omega) hI hi
  refine ⟨trivial, fun z1 h1 => ⟨fun h => absurd h (by rw [h1]; decide), fun _ => ⟨trivial, fun z4 h4 => ⟨trivial, fun u hu z8 h8 => ⟨trivial, fun z10 h10 z12 h12 => ?_⟩⟩⟩⟩⟩
  subst h4
  have e6 : u = z10 := hu.trans h10.symm
  subst e6
  rw [← hu] at hn hr
  refine ⟨fun h => absurd h (by rw [h8, h12]; simp), fun _ => ⟨fun h => absurd h (by simp), fun _ => ⟨rg_init u, fun i _ _ hI => ⟨fun hi => ?_, fun _ => ⟨trivial, fun z21 h21 => ⟨trivial, fun z23 h23 z25 h25 => ⟨trivial, fun z27 h27 z29 h29 => ⟨trivial, fun z31 h31 => ⟨fun h => absurd h (by rw [h31, h23, h27, h21, ← inv_doc, sm]; decide), fun _ => ⟨fun h => absurd h (by rw [h25, h29, h21]; simp), fun _ => ⟨tk_init u, fun t i _ _ hT _ => ⟨fun hi => ?_, fun hi => ?_⟩⟩⟩⟩⟩⟩⟩⟩⟩⟩⟩⟩
  · have hi := of_decide_eq_true hi
    exact ⟨⟨hI.1, hi⟩, ⟨hI.1, hi⟩, trivial, fun h => absurd h (by rw [sm]; decide), fun _ => loopEq u hn i hI hi⟩
  · have hi := of_decide_eq_true hi
    have i0 := hT.1.1
    have hl : i < (t.length : Int) := by rw [hT.2.1]; exact hi
    have ei : w64 (i + 1) = i + 1 := w64_id (by omega) (by omega)
    have hrow : t.getD i.toNat [] = u.getD i.toNat [] := hT.2.2.2 _ (Nat.le_refl _)
    refine ⟨⟨i0, hl⟩, tk_in hT hi, fun s j _ _ hS _ => ?_⟩
    have hrl := hr i.toNat
    have hsl : i < (s.length : Int) := by rw [hS.2.1]; exact hi
    rw [hrow, ei]
    refine ⟨fun hj => ?_, fun hj => ⟨⟨i0, hsl⟩, ⟨rfl, ?_⟩, tk_out hS (of_decide_eq_false hj), decide_eq_true (by unfold rgMu; omega), decide_eq_true (by unfold rgMu; omega)⟩⟩
    · have hj := of_decide_eq_true hj
      have j0 := hS.2.2.2.2.2.1.1
      have ej : w64 (j + 1) = j + 1 := w64_id (by omega) (by omega)
      rw [ej]
      exact ⟨⟨i0, hsl⟩, ⟨j0, by rw [hS.2.2.2.2.1]; exact hj⟩, tk_step hS hj hn hrl, decide_eq_true (by unfold rgMu; omega), decide_eq_true (by unfold rgMu; omega)⟩
    · show (lapp (s.getD i.toNat []) [(-1) - i]).length * 8 ≤ 140737488355328
      have : (lapp (s.getD i.toNat []) [(-1) - i]).length = (s.getD i.toNat []).length + 1 := by unfold lapp; simp
      rw [this, hS.2.2.2.2.1]; omega
  · have hfull : i = (u.length : Int) := by have := of_decide_eq_false hi; have := hT.1.2; omega
    have htl : t.length ≤ 192 := by rw [hT.2.1]; exact hn
    refine ⟨rg_init t, fun k _ _ hK => ⟨fun hk => ?_, fun _ => ⟨trivial, fun z47 h47 => ⟨trivial, fun z49 h49 z51 h51 => ?_⟩⟩⟩⟩
    · have hk := of_decide_eq_true hk
      have k0 := hK.1
      obtain ⟨r1, r2, r3⟩ := hT.2.2.1 k.toNat (by rw [hT.2.1] at hk; omega)
      have hkn : ((k.toNat : Nat) : Int) = k := by omega
      have hrl := hr k.toNat
      have nx := loopEq t htl k hK hk
      have hlen : (((t.getD k.toNat []).length : Int) - 1) = ((u.getD k.toNat []).length : Int) := by rw [r1]; omega
      have hlast : (t.getD k.toNat []).getD ((((t.getD k.toNat []).length : Int) - 1)).toNat 0 = (-1) - k := by
        rw [hlen, Int.toNat_natCast, r2, hkn]
      refine ⟨⟨k0, hk⟩, ⟨k0, hk⟩, ⟨by omega, by omega⟩, fun h => absurd h (by rw [hlast]; simp), fun _ => ⟨fun hp => ?_, fun _ => nx⟩⟩
      have hp := of_decide_eq_true hp
      rw [hlen] at hp
      have hfirst : (t.getD k.toNat []).getD 0 0 = w64 (1000 * k) := by
        rw [r3 (by omega), hkn, w64_id (by omega) (by omega)]
      exact ⟨⟨k0, hk⟩, ⟨Int.le_refl _, by omega⟩, fun h => absurd h (by rw [hfirst]; simp), fun _ => nx⟩
    · have e49 : z49 = u := by rw [h49, h47, hu]
      rw [e49]
      refine ⟨rg_init u, fun k _ _ hK => ⟨fun hk => ?_, fun _ => by rw [decide_eq_true rfl]⟩⟩
      have hk := of_decide_eq_true hk
      exact ⟨⟨hK.1, hk⟩, ⟨hK.1, hk⟩, trivial, fun h => absurd h (by rw [sm]; decide), fun _ => loopEq u hn k hK hk⟩
theorem s_GroupTables : Sound Try.prog 3 C_GroupTables :=
  sound_of_eq (env0_ok (.cons s_awake5.hid (.cons s_r5Twin.hid (.cons s_gTable.hid (.cons s_r5DocTable.hid (.cons s_gInverses.hid (.cons s_r5DocInverses.hid (.cons s_ints5.hid (.nil))))))))) (fun x => T_GroupTables x.1) r_GroupTables fun x ok hp => p_GroupTables x.1 ok.1
end Go.Fx
