/-
  Layer 7 in Lean: the document's Group, which puts each told map into its place; BasisGroups.
-/
import Derived.Test.YtkchandelfmoaaaGreatBj
import Derived.Test.YtkchandelfmoaaaGreatGf
set_option linter.unusedSimpArgs false
set_option linter.unusedVariables false
set_option linter.unusedSectionVars false
namespace Go.Fx
open Go
def shtO (g : List Op3) : Prop := g.length ≤ 1000
def sprO (g : List Op3) : List Op3 := g ++ [Op3.mk zerO.R (V3.mk 77 0 0), Op3.mk zerO.R (V3.mk 78 0 0)]
def dgS (c : Chg) (g : List Op3) (k : Nat) : List Op3 := insO ((g.take k).map (tol c))
def dgI (c : Chg) (g l : List Op3) (i : Int) : Prop := (0 ≤ i ∧ i ≤ (g.length : Int)) ∧ l = dgS c g i.toNat ∧ ∀ o ∈ g.take i.toNat, errM (tol c o).R = 0
def dgN (c : Chg) (g : List Op3) (k : Int) (l : List Op3) (i : Int) : Prop := 0 ≤ i ∧ i.toNat ≤ (dgS c g k.toNat).length ∧ l = (dgS c g k.toNat).take i.toNat ++ tol c (g.getD k.toNat zerO) :: (dgS c g k.toNat).drop i.toNat ∧ ∀ x ∈ (dgS c g k.toNat).drop i.toNat, 0 < cmpO x (tol c (g.getD k.toNat zerO))
def dgMu (i : Int) : Int := i
theorem dgS_len (c : Chg) (g : List Op3) (k : Nat) : (dgS c g k).length = (g.take k).length := by
  unfold dgS; rw [(insO_perm _).length_eq, List.length_map]
theorem dgS_next {c : Chg} {g : List Op3} {k : Nat} (h : k < g.length) : dgS c g (k + 1) = putO (dgS c g k) (tol c (g.getD k zerO)) := by
  have ht : g.take (k + 1) = g.take k ++ [g.getD k zerO] := by
    rw [List.take_add_one]; simp [List.getD, h]
  unfold dgS
  rw [ht, List.map_append, List.map_cons, List.map_nil, insO_snoc]
theorem dg_init (c : Chg) (g : List Op3) : dgI c g [] 0 := ⟨⟨Int.le_refl _, by omega⟩, rfl, fun o ho => by simp at ho⟩
theorem dg_bad {c : Chg} {g l : List Op3} {i : Int} (hz : lst2 (uniE c.P) (chkE g) = 0) (h : dgI c g l i) (hi : i < (g.length : Int)) {e : Int} (he : errM (tol c (g.getD i.toNat zerO)).R = e) (hne : e ≠ 0) : bgE c g = e ∧ bgL c g = [] := bg_bad hz h.1.1 hi he hne
theorem dg_end {c : Chg} {g l : List Op3} {i : Int} (hz : lst2 (uniE c.P) (chkE g) = 0) (h : dgI c g l i) (hi : ¬ i < (g.length : Int)) : bgE c g = 0 ∧ l = bgL c g := by
  obtain ⟨⟨h0, h1⟩, h2, h3⟩ := h
  obtain ⟨q1, q2⟩ := bg_end (l := (g.take i.toNat).map (tol c)) hz ⟨h0, h1, rfl, h3⟩ hi
  exact ⟨q1, h2.trans q2⟩
theorem dn_init {c : Chg} {g l : List Op3} {k : Int} (h : dgI c g l k) (hk : k < (g.length : Int)) : dgN c g k (lapp l [tol c (g.getD k.toNat zerO)]) (((lapp l [tol c (g.getD k.toNat zerO)]).length : Int) - 1) := by
  have hl : (lapp l [tol c (g.getD k.toNat zerO)]).length = l.length + 1 := by unfold lapp; simp
  have e : (((lapp l [tol c (g.getD k.toNat zerO)]).length : Int) - 1).toNat = l.length := by rw [hl]; omega
  refine ⟨by rw [hl]; omega, by rw [e, h.2.1]; exact Nat.le_refl _, ?_, fun x hx => ?_⟩
  · rw [e, ← h.2.1, List.take_length, List.drop_length]; rfl
  · rw [e, ← h.2.1, List.drop_length] at hx; cases hx
theorem dn_at {c : Chg} {g l : List Op3} {k i : Int} (h : dgN c g k l i) : l.getD i.toNat zerO = tol c (g.getD k.toNat zerO) ∧ i < (l.length : Int) ∧ l.length = (dgS c g k.toNat).length + 1 ∧ ∀ j : Nat, j < i.toNat → l.getD j zerO = (dgS c g k.toNat).getD j zerO := by
  obtain ⟨h0, h1, h2, h3⟩ := h
  have ht : ((dgS c g k.toNat).take i.toNat).length = i.toNat := by rw [List.length_take]; omega
  refine ⟨?_, ?_, ?_, fun j hj => ?_⟩
  · rw [h2, List.getD_eq_getElem?_getD, List.getElem?_append_right (by omega), ht, Nat.sub_self]; rfl
  · rw [h2, List.length_append, ht, List.length_cons]; omega
  · rw [h2, List.length_append, ht, List.length_cons, List.length_drop]; omega
  · rw [h2, List.getD_eq_getElem?_getD, List.getD_eq_getElem?_getD, List.getElem?_append_left (by omega), List.getElem?_take_of_lt hj, ← List.getD_eq_getElem?_getD]
theorem dn_step {c : Chg} {g l : List Op3} {k i : Int} (h : dgN c g k l i) (hi : 0 < i) (hc : 0 < cmpO (l.getD (i - 1).toNat zerO) (l.getD i.toNat zerO)) : dgN c g k (lset (lset l (i - 1) (l.getD i.toNat zerO)) i (l.getD (i - 1).toNat zerO)) (i - 1) := by
  obtain ⟨a1, a2, a3, a4⟩ := dn_at h
  obtain ⟨h0, h1, h2, h3⟩ := h
  generalize hs : dgS c g k.toNat = s at *
  generalize hb : tol c (g.getD k.toNat zerO) = b at *
  obtain ⟨m, hm⟩ : ∃ m : Nat, i = (m : Int) + 1 := ⟨(i - 1).toNat, by omega⟩
  subst hm
  have e1 : ((m : Int) + 1).toNat = m + 1 := by omega
  have e2 : ((m : Int) + 1 - 1).toNat = m := by omega
  rw [e1] at a1 a4 h1 h2 h3
  rw [e1, e2] at hc
  have hm : m < s.length := by omega
  have hx : l.getD m zerO = s[m] := by rw [a4 m (by omega)]; simp [List.getD, hm]
  have hd : s.drop m = s[m] :: s.drop (m + 1) := List.drop_eq_getElem_cons hm
  have htk : s.take (m + 1) = s.take m ++ [s[m]] := by rw [List.take_add_one]; simp [hm]
  unfold dgN
  rw [hs, hb, e2]
  refine ⟨by omega, by omega, ?_, fun x hx' => ?_⟩
  · rw [e1, a1, hx]
    have hlt : (s.take m).length = m := by rw [List.length_take]; omega
    have : l = s.take m ++ (s[m] :: b :: s.drop (m + 1)) := h2.trans (by rw [htk, List.append_assoc]; rfl)
    rw [this]
    unfold lset
    rw [e1, e2, List.set_append_right _ _ (by omega), List.set_append_right _ _ (by simp [hlt]), hlt, Nat.sub_self, show m + 1 - m = 1 by omega, hd]
    rfl
  · rw [hd] at hx'
    rcases List.mem_cons.1 hx' with rfl | hx'
    · rw [hx, a1] at hc; exact hc
    · exact h3 x hx'
theorem dn_fin {c : Chg} {g l l0 : List Op3} {k i : Int} (hI : dgI c g l0 k) (hk : k < (g.length : Int)) (he : errM (tol c (g.getD k.toNat zerO)).R = 0) (h : dgN c g k l i) (hi : ¬ 0 < i ∨ ¬ 0 < cmpO (l.getD (i - 1).toNat zerO) (l.getD i.toNat zerO)) : dgI c g l (k + 1) := by
  obtain ⟨a1, a2, a3, a4⟩ := dn_at h
  obtain ⟨⟨k0, k1⟩, _, hall⟩ := hI
  have hkn : (k + 1).toNat = k.toNat + 1 := by omega
  have hkl : k.toNat < g.length := by omega
  refine ⟨⟨by omega, by omega⟩, ?_, fun o ho => ?_⟩
  · obtain ⟨h0, h1, h2, h3⟩ := h
    rw [hkn, dgS_next hkl]
    have hso : ordO (dgS c g k.toNat) := insO_ord _
    generalize hs : dgS c g k.toNat = s at *
    generalize tol c (g.getD k.toNat zerO) = b at *
    refine ord_unique ?_ (putO_ord b hso) ?_
    · rw [h2, ordO, List.pairwise_append]
      have hs2 : (s.take i.toNat ++ s.drop i.toNat).Pairwise fun a b => cmpO a b ≤ 0 := by rw [List.take_append_drop]; exact hso
      rw [List.pairwise_append] at hs2
      have hbx : ∀ x ∈ s.drop i.toNat, cmpO b x ≤ 0 := fun x hx => by have := h3 x hx; rw [cmpO_anti x b]; omega
      refine ⟨hs2.1, List.pairwise_cons.2 ⟨hbx, hs2.2.1⟩, fun x hx y hy => ?_⟩
      rcases List.mem_cons.1 hy with rfl | hy
      · rcases hi with hi | hi
        · rw [show i.toNat = 0 by omega] at hx; simp at hx
        · by_cases hi0 : 0 < i
          · obtain ⟨m, hm⟩ : ∃ m : Nat, i = (m : Int) + 1 := ⟨(i - 1).toNat, by omega⟩
            subst hm
            have e1 : ((m : Int) + 1).toNat = m + 1 := by omega
            have e2 : ((m : Int) + 1 - 1).toNat = m := by omega
            rw [e1] at a1 a4 h1 hx
            rw [e1, e2, a1, a4 m (by omega)] at hi
            have hml : m < s.length := by omega
            have hsm : s.getD m zerO = s[m] := by simp [List.getD, hml]
            rw [hsm] at hi
            obtain ⟨j, hj, rfl⟩ := List.getElem_of_mem hx
            rw [List.length_take] at hj
            have hxj : (s.take (m + 1))[j]'(by rw [List.length_take]; exact hj) = s[j]'(by omega) := by simp
            rw [hxj]
            have hsm2 : cmpO s[m] y ≤ 0 := by omega
            by_cases hjm : j = m
            · subst hjm; exact hsm2
            · have := (List.pairwise_iff_getElem.1 hso) j m (by omega) hml (by omega)
              exact (cmpO_trans _ _ _).1 this hsm2
          · rw [show i.toNat = 0 by omega] at hx; simp at hx
      · exact hs2.2.2 x hx y hy
    · rw [h2]
      refine List.perm_middle.trans (List.Perm.trans ?_ (putO_perm b s).symm)
      rw [List.take_append_drop]
  · have ht : g.take (k + 1).toNat = g.take k.toNat ++ [g.getD k.toNat zerO] := by
      rw [hkn, List.take_add_one]; simp [List.getD, hkl]
    rw [ht] at ho
    rcases List.mem_append.1 ho with ho | ho
    · exact hall o ho
    · rw [List.mem_singleton.1 ho]; exact he
theorem bgL_len (c : Chg) (g : List Op3) : (bgL c g).length ≤ 192 := by
  by_cases h : bgE c g = 0
  · obtain ⟨_, hg, hl, _⟩ := bgE_zero h
    rw [hl, (insO_perm _).length_eq, List.length_map]; exact chk_len hg
  · unfold bgL; rw [if_neg h]; simp
theorem dcl_sht (l : List Op3) : shtO (dclL l) := by
  have := cloL_len l
  rw [(clo_doc l).1] at this
  unfold shtO; omega
theorem zmin_len (l : List Op3) : zmin (l.length : Int) 200 = ((lsub l 0 (zmin (l.length : Int) 200)).length : Int) ∧ shtO (lsub l 0 (zmin (l.length : Int) 200)) ∧ leP 0 (zmin (l.length : Int) 200) ∧ leP (zmin (l.length : Int) 200) (l.length : Int) := by
  have h : zmin (l.length : Int) 200 ≤ 200 ∧ zmin (l.length : Int) 200 ≤ (l.length : Int) ∧ 0 ≤ zmin (l.length : Int) 200 := by unfold zmin; split <;> omega
  generalize zmin (l.length : Int) 200 = n at *
  have hl : (lsub l 0 n).length = n.toNat := by unfold lsub; rw [List.length_take, List.length_drop]; omega
  refine ⟨by rw [hl]; omega, ?_, ?_, ?_⟩
  · unfold shtO; rw [hl]; omega
  · exact h.2.2
  · exact h.2.1
theorem spr_sub (g : List Op3) : lsub (sprO g) 0 (g.length : Int) = g := by
  unfold lsub sprO; simp
theorem spr_len (g : List Op3) : (sprO g).length = g.length + 2 := by unfold sprO; simp
theorem spr_0 (g : List Op3) : ((sprO g).getD (g.length : Int).toNat zerO).T.x = 77 := by
  unfold sprO; simp [List.getD, List.getElem?_append_right]
theorem spr_1 (g : List Op3) : ((sprO g).getD ((g.length : Int) + 1).toNat zerO).T.x = 78 := by
  have : ((g.length : Int) + 1).toNat = g.length + 1 := by omega
  rw [this]; unfold sprO; simp [List.getD, List.getElem?_append_right]
/-- What one turn of the law's loop is asked: g, of length n; then K. -/
def bgItr (c : Chg) (g : List Op3) (n : Int) (K : Prop) : Prop :=
  (shtO g ∧
  ∀ z10 : List Op3,
  (z10 = sprO g →
  (True ∧
  ((leP 0 0 ∧
  (leP 0 n ∧
  leP n (z10.length : Int))) ∧
  (True ∧
  (True ∧
  ∀ z12 : List Op3,
  (z12 = bgL c g →
  ∀ z14 : Int,
  (z14 = bgE c g →
  (True ∧
  ∀ z16 : Bool,
  (z16 = smO (bgL c (lsub z10 0 n)) z12 →
  (((!z16) = true →
  (false, ()) = (true, ())) ∧
  ((!z16) = false →
  (((!(decide (bgE c (lsub z10 0 n) = z14))) = true →
  (false, ()) = (true, ())) ∧
  ((!(decide (bgE c (lsub z10 0 n) = z14))) = false →
  ((leP 0 0 ∧
  (leP 0 n ∧
  leP n (z10.length : Int))) ∧
  (True ∧
  ∀ z20 : Bool,
  (z20 = smO (lsub z10 0 n) g →
  ((z20 = true →
  (inB z10 n ∧
  (((decide ((((z10.getD (n).toNat zerO)).T).x = 77)) = true →
  (inB z10 ((n + 1)) ∧
  (((!(decide ((((z10.getD ((n + 1)).toNat zerO)).T).x = 78))) = true →
  (false, ()) = (true, ())) ∧
  ((!(decide ((((z10.getD ((n + 1)).toNat zerO)).T).x = 78))) = false →
  (bwI (bgL c (lsub z10 0 n)) 0 ∧
  ∀ z25 : List Op3,
  ∀ z26 : Int,
  ((decide ((-9223372036854775808) ≤ z26)) = true →
  ((decide (z26 ≤ 9223372036854775807)) = true →
  (bwI z25 z26 →
  (eqP (z25.length : Int) (((bgL c (lsub z10 0 n)).length : Int)) →
  (((decide (z26 < ((bgL c (lsub z10 0 n)).length : Int))) = true →
  (inB z25 z26 ∧
  (bwI (lset z25 z26 (zerO)) ((w64 (z26 + 1))) ∧
  ((decide (0 ≤ opMu (lset z25 z26 (zerO)) ((w64 (z26 + 1))))) = true ∧
  (decide (opMu (lset z25 z26 (zerO)) ((w64 (z26 + 1))) < opMu z25 z26)) = true)))) ∧
  ((decide (z26 < ((bgL c (lsub z10 0 n)).length : Int))) = false →
  (lfit 96 (lapp z25 ([zerO, zerO])) ∧
  (True ∧
  ((leP 0 0 ∧
  (leP 0 n ∧
  leP n (z10.length : Int))) ∧
  (True ∧
  (((decide (((lapp z25 ([zerO, zerO])).length : Int) < 2)) = true →
  (false, ()) = (true, ())) ∧
  ((decide (((lapp z25 ([zerO, zerO])).length : Int) < 2)) = false →
  (True ∧
  ∀ z33 : Bool,
  (z33 = smO (bgL c (lsub z10 0 n)) z12 →
  (((!z33) = true →
  (false, ()) = (true, ())) ∧
  ((!z33) = false →
  ((leP 0 0 ∧
  (leP 0 n ∧
  leP n (z10.length : Int))) ∧
  (True ∧
  ∀ z36 : Bool,
  (z36 = smO (lsub z10 0 n) g →
  ((z36 = true →
  (inB z10 n ∧
  (((decide ((((z10.getD (n).toNat zerO)).T).x = 77)) = true →
  (inB z10 ((n + 1)) ∧
  (((!(decide ((((z10.getD ((n + 1)).toNat zerO)).T).x = 78))) = true →
  (false, ()) = (true, ())) ∧
  ((!(decide ((((z10.getD ((n + 1)).toNat zerO)).T).x = 78))) = false →
  K)))) ∧
  ((decide ((((z10.getD (n).toNat zerO)).T).x = 77)) = false →
  (false, ()) = (true, ()))))) ∧
  (z36 = false →
  (false, ()) = (true, ()))))))))))))))))))))))))))) ∧
  ((decide ((((z10.getD (n).toNat zerO)).T).x = 77)) = false →
  (false, ()) = (true, ()))))) ∧
  (z20 = false →
  (false, ()) = (true, ()))))))))))))))))))))
theorem bg_itr (c : Chg) (g : List Op3) (n : Int) (hn : n = (g.length : Int)) (hs : shtO g) (K : Prop) (k : K) : bgItr c g n K := by
  subst hn
  have sm : ∀ l : List Op3, smO l l = true := fun l => by simp [smO]
  have g0 := spr_0 g
  have g1 := spr_1 g
  have sl := spr_len g
  refine ⟨hs, fun A hA => ?_⟩
  subst hA
  have le : leP 0 0 ∧ (leP 0 (g.length : Int) ∧ leP (g.length : Int) ((sprO g).length : Int)) := ⟨Int.le_refl _, by unfold leP; omega, by unfold leP; omega⟩
  have in0 : inB (sprO g) (g.length : Int) := ⟨by omega, by omega⟩
  have in1 : inB (sprO g) ((g.length : Int) + 1) := ⟨by omega, by omega⟩
  simp only [spr_sub]
  have hL := bgL_len c g
  refine ⟨trivial, le, trivial, trivial, fun B hB E hE => ⟨trivial, fun s hs => ⟨fun h => absurd h (by rw [hs, hB, sm]; decide), fun _ => ⟨fun h => absurd h (by rw [hE]; simp), fun _ => ⟨le, trivial, fun t ht => ⟨fun _ => ⟨in0, ⟨fun _ => ⟨in1, ⟨fun h => absurd h (by rw [g1]; decide), fun _ => ⟨⟨Int.le_refl _, by omega⟩, fun a i _ _ hI hq => ⟨fun hi => ?_, fun hi => ?_⟩⟩⟩⟩, fun h => absurd h (by rw [g0]; decide)⟩⟩, fun h => absurd h (by rw [ht, sm]; decide)⟩⟩⟩⟩⟩⟩
  · have hi := of_decide_eq_true hi
    have hq : (a.length : Int) = ((bgL c g).length : Int) := hq
    have i0 := hI.1
    have e1 : w64 (i + 1) = i + 1 := w64_id (by omega) (by omega)
    have ll : (lset a i zerO).length = a.length := by unfold lset; simp
    rw [e1]
    refine ⟨⟨i0, by omega⟩, ⟨by omega, by rw [ll]; omega⟩, decide_eq_true ?_, decide_eq_true ?_⟩ <;> (unfold opMu; rw [ll]; omega)
  · have hq : (a.length : Int) = ((bgL c g).length : Int) := hq
    have l2 : (lapp a [zerO, zerO]).length = a.length + 2 := by unfold lapp; simp
    refine ⟨?_, trivial, le, trivial, ⟨fun h => absurd (of_decide_eq_true h) (by rw [l2]; omega), fun _ => ⟨trivial, fun u hu => ⟨fun h => absurd h (by rw [hu, hB, sm]; decide), fun _ => ⟨le, trivial, fun v hv => ⟨fun _ => ⟨in0, ⟨fun _ => ⟨in1, ⟨fun h => absurd h (by rw [g1]; decide), fun _ => k⟩⟩, fun h => absurd h (by rw [g0]; decide)⟩⟩, fun h => absurd h (by rw [hv, sm]; decide)⟩⟩⟩⟩⟩⟩
    show (lapp a [zerO, zerO]).length * 96 ≤ 140737488355328
    rw [l2]; omega
end Go.Fx
