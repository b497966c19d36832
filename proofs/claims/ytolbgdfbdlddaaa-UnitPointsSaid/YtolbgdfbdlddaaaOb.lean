/-
  Layer 9 in Lean: orbits, what the statements say of them.
-/
import Derived.Test.YtolbgdfbdlddaaaOa
import Derived.Test.YtolbgdfbdlddaaaGk
set_option linter.unusedSimpArgs false
set_option linter.unusedVariables false
set_option linter.unusedSectionVars false
namespace Go.Fx
open Go
/-- How often x is in l. -/
def cntX (l : List Pt) (x : Pt) : Nat := (l.filter fun y => decide (y = x)).length
theorem cntX_snoc (l : List Pt) (a x : Pt) : cntX (l ++ [a]) x = cntX l x + (if a = x then 1 else 0) := by
  unfold cntX
  rw [List.filter_append, List.length_append]
  congr 1
  by_cases e : a = x <;> simp [e]
theorem cntX_le (l : List Pt) (x : Pt) : cntX l x ≤ l.length := List.length_filter_le _ _
theorem plc_cnt (l : List Pt) (x : Pt) : ∀ {n : Nat}, n ≤ l.length → (plcX l x n).length = cntX (l.take n) x
  | 0, _ => rfl
  | n + 1, h => by
    have ih := plc_cnt l x (n := n) (by omega)
    have ht : l.take (n + 1) = l.take n ++ [l.getD n zerP] := by
      have := take_succ (l := l) (i := (n : Int)) (by omega) (by omega) zerP
      rwa [show ((n : Int) + 1).toNat = n + 1 by omega, show ((n : Int)).toNat = n by omega] at this
    rw [plcX_snoc, ht, cntX_snoc, ← ih]
    split <;> simp
theorem cnt_im (g : List Op3) (p x : Pt) : cntX (imP g p) x = (g.filter fun o => decide (appP o p = x)).length := by
  unfold cntX imP
  rw [List.filter_map, List.length_map]; rfl
def mapsL (g : List Op3) (s : List Int) : List Op3 := s.map fun i => g.getD i.toNat zerO
theorem maps_plc (g : List Op3) (p x : Pt) : ∀ {n : Nat}, n ≤ g.length → mapsL g (plcX (imP g p) x n) = (g.take n).filter fun o => decide (appP o p = x)
  | 0, _ => rfl
  | n + 1, h => by
    have ih := maps_plc g p x (n := n) (by omega)
    have ht : g.take (n + 1) = g.take n ++ [g.getD n zerO] := by
      have := take_succ (l := g) (i := (n : Int)) (by omega) (by omega) zerO
      rwa [show ((n : Int) + 1).toNat = n + 1 by omega, show ((n : Int)).toNat = n by omega] at this
    have hg : (imP g p).getD n zerP = appP (g.getD n zerO) p := by
      have := imP_get (g := g) (p := p) (i := (n : Int)) (by omega) (by omega)
      rwa [show ((n : Int)).toNat = n by omega] at this
    rw [plcX_snoc, ht, List.filter_append, ← ih, hg]
    by_cases e : appP (g.getD n zerO) p = x
    · rw [if_pos e, List.filter_cons_of_pos (by simpa using e)]
      unfold mapsL
      rw [List.map_append]; rfl
    · rw [if_neg e, List.filter_cons_of_neg (by simpa using e)]; simp
/-- What lies in a group in its order, holds the one that leaves all, and is closed, is a group. -/
theorem sub_chk {g : List Op3} (hc : chkE g = 0) (P : Op3 → Bool) (h1 : P oneO = true) (h2 : ∀ a ∈ g, ∀ b ∈ g, P a = true → P b = true → P (mulO a b) = true) : chkE (g.filter P) = 0 := by
  obtain ⟨hF, hnd, hone, hcl⟩ := chk_grp hc
  have hst := stB_iff.1 (grpB_iff.1 (chk_zero hc).2).1
  have hpw : g.Pairwise fun a b => cmpO a b < 0 := by
    rw [List.pairwise_iff_getElem]
    intro i j hi hj hij
    have := stP_lt hst hij hj
    rwa [show g.getD i zerO = g[i] by simp [List.getD, hi], show g.getD j zerO = g[j] by simp [List.getD, hj]] at this
  have hz : gE (g.filter P) = 0 := gE_of (Nat.le_trans (List.length_filter_le _ _) (chk_len hc)) fun o ho => hF o (List.mem_filter.1 ho).1
  unfold chkE
  rw [if_pos hz, if_pos]
  refine grpB_iff.2 ⟨stB_iff.2 fun k hk => ?_, memO_iff.2 (List.mem_filter.2 ⟨hone, h1⟩), clsB_iff.2 fun a ha b hb => ?_⟩
  · have h := hpw.filter P
    rw [List.pairwise_iff_getElem] at h
    have := h k (k + 1) (by omega) hk (by omega)
    rwa [show (g.filter P).getD k zerO = (g.filter P)[k] by simp [List.getD, show k < (g.filter P).length by omega], show (g.filter P).getD (k + 1) zerO = (g.filter P)[k + 1] by simp [List.getD, hk]]
  · obtain ⟨a1, a2⟩ := List.mem_filter.1 ha
    obtain ⟨b1, b2⟩ := List.mem_filter.1 hb
    exact List.mem_filter.2 ⟨hcl a a1 b b1, h2 a a1 b b1 a2 b2⟩
section
variable {g : List Op3} {p : Pt} (hz : ocE g [p] = 0)
include hz
theorem or_c : chkE g = 0 := (oc_one hz).2
theorem or_f : frmP p = true := (oc_one hz).1
theorem im_iff {x : Pt} : x ∈ imP g p ↔ ∃ o ∈ g, appX o p = x := by
  rw [imP_eq (oc_P hz)]
  exact List.mem_map
theorem im_self : p ∈ imP g p := (im_iff hz).2 ⟨oneO, (chk_grp (or_c hz)).2.2.1, appX_one (or_f hz)⟩
theorem im_ne : imP g p ≠ [] := fun h => by have := im_self hz; rw [h] at this; cases this
theorem actX {a b : Op3} (ha : a ∈ g) (hb : b ∈ g) : mulO a b ∈ g ∧ appX (mulO a b) p = appX a (appX b p) := ⟨(chk_grp (or_c hz)).2.2.2 a ha b hb, appX_mul a b (or_f hz)⟩
theorem oc_move {a : Op3} : ocE g [appX a p] = 0 := oc_of (frm_appX a (or_f hz)) (or_c hz)
theorem backX {a : Op3} (ha : a ∈ g) : ∃ c ∈ g, appX c (appX a p) = p ∧ (mulO c a = oneO ∧ mulO a c = oneO) := by
  obtain ⟨c, hc, e1, e2⟩ := grp_left (or_c hz) ha
  exact ⟨c, hc, by rw [← appX_mul c a (or_f hz), e1, appX_one (or_f hz)], e1, e2⟩
theorem im_move {a : Op3} (ha : a ∈ g) (x : Pt) : x ∈ imP g (appX a p) ↔ x ∈ imP g p := by
  rw [im_iff hz, im_iff (oc_move hz)]
  constructor
  · rintro ⟨o, ho, rfl⟩
    exact ⟨mulO o a, (actX hz ho ha).1, (actX hz ho ha).2⟩
  · rintro ⟨o, ho, rfl⟩
    obtain ⟨c, hc, e, _⟩ := backX hz ha
    exact ⟨mulO o c, (actX hz ho hc).1, by rw [appX_mul o c (frm_appX a (or_f hz)), e]⟩
theorem im_ok : ∀ q ∈ imP g p, frmP q = true ∧ q.M = p.M := imP_frm (oc_P hz)
theorem of_st : stG ordX (ofL g p) := by unfold ofL; rw [if_pos hz]; exact unqG_st (toX p.M) (im_ok hz)
theorem of_mem {x : Pt} : x ∈ ofL g p ↔ x ∈ imP g p := by unfold ofL; rw [if_pos hz]; exact unqG_mem
theorem of_move {a : Op3} (ha : a ∈ g) : ofL g (appX a p) = ofL g p := by
  conv => lhs; unfold ofL
  rw [if_pos (oc_move hz)]
  exact unqG_eq (toX p.M) (im_ok (oc_move hz)) (of_st hz) fun x => (im_move hz ha x).trans (of_mem hz).symm
theorem of_nodup : (ofL g p).Nodup := stG_nodup (toX p.M) (fun x hx => im_ok hz x ((of_mem hz).1 hx)) (of_st hz)
theorem of_head : (ofL g p).getD 0 zerP = lsP g p ∧ 0 < (ofL g p).length := by
  unfold lsP
  rw [if_pos hz]
  exact min_head (im_ok hz) (im_ne hz) (of_st hz) fun x => of_mem hz
theorem of_len : (ofL g p).length ≤ g.length := by
  unfold ofL; rw [if_pos hz]
  exact Nat.le_trans (unqG_len _) (by rw [imP_len]; exact Nat.le_refl _)
theorem ls_move {a : Op3} (ha : a ∈ g) : lsP g (appX a p) = lsP g p := by
  rw [← (of_head hz).1, ← (of_head (oc_move hz)).1, of_move hz ha]
theorem app_eq {o : Op3} (ho : o ∈ g) : appP o p = appX o p ∧ appE o p = 0 := appP_frm ((chk_grp (or_c hz)).1 o ho) (or_f hz)
theorem fibX_le {a : Op3} (ha : a ∈ g) (x : Pt) : (g.filter fun o => decide (appP o p = x)).length ≤ (g.filter fun o => decide (appP o p = appX a x)).length := by
  obtain ⟨hF, hnd, _, hcl⟩ := chk_grp (or_c hz)
  have hm : ∀ y ∈ g.filter (fun o => decide (appP o p = x)), y ∈ g ∧ appX y p = x := fun y hy => by
    obtain ⟨h1, h2⟩ := List.mem_filter.1 hy
    exact ⟨h1, by rw [← (app_eq hz h1).1]; exact of_decide_eq_true h2⟩
  have hn : ((g.filter fun o => decide (appP o p = x)).map (mulO a)).Nodup := nodup_map (hnd.filter _) fun y hy z hz' e => mul_cancel (or_c hz) ha (hm y hy).1 (hm z hz').1 e
  have := nodup_le (m := g.filter fun o => decide (appP o p = appX a x)) hn fun y hy => by
    obtain ⟨z, hz', rfl⟩ := List.mem_map.1 hy
    obtain ⟨h1, h2⟩ := hm z hz'
    obtain ⟨h3, h4⟩ := actX hz ha h1
    refine List.mem_filter.2 ⟨h3, decide_eq_true ?_⟩
    rw [(app_eq hz h3).1, h4, h2]
  rwa [List.length_map] at this
theorem fibX_eq {x : Pt} (hx : x ∈ imP g p) : cntX (imP g p) x = cntX (imP g p) p := by
  rw [cnt_im, cnt_im]
  obtain ⟨a, ha, rfl⟩ := (im_iff hz).1 hx
  obtain ⟨c, hc, e, _⟩ := backX hz ha
  have h1 := fibX_le hz ha p
  have h2 := fibX_le hz hc (appX a p)
  rw [e] at h2
  omega
theorem si_len : (siL g p).length = cntX (imP g p) p := by
  unfold siL
  rw [if_pos hz, plc_cnt _ _ (by rw [imP_len]; exact Nat.le_refl _), List.take_of_length_le (by rw [imP_len]; exact Nat.le_refl _)]
theorem of_times : g.length = (ofL g p).length * (siL g p).length := by
  rw [si_len hz]
  refine sum_fibG (fun o => appP o p) _ _ g (of_nodup hz) (fun o ho => (of_mem hz).2 (List.mem_map_of_mem (f := fun o => appP o p) ho)) fun m hm => ?_
  rw [← fibX_eq hz ((of_mem hz).1 hm), cnt_im]
theorem si_maps : mapsL g (siL g p) = g.filter fun o => decide (appP o p = p) := by
  unfold siL
  rw [if_pos hz, maps_plc g p p (Nat.le_refl _), List.take_of_length_le (Nat.le_refl _)]
theorem si_chk : chkE (mapsL g (siL g p)) = 0 := by
  rw [si_maps hz]
  obtain ⟨hF, hnd, hone, hcl⟩ := chk_grp (or_c hz)
  refine sub_chk (or_c hz) _ (decide_eq_true ?_) fun a ha b hb h1 h2 => decide_eq_true ?_
  · rw [(app_eq hz hone).1, appX_one (or_f hz)]
  · have h1 := of_decide_eq_true h1
    have h2 := of_decide_eq_true h2
    rw [(app_eq hz ha).1] at h1
    rw [(app_eq hz hb).1] at h2
    obtain ⟨h3, h4⟩ := actX hz ha hb
    rw [(app_eq hz h3).1, h4, h2, h1]
theorem si_in {i : Int} (hi : i ∈ siL g p) : inB g i := by
  unfold siL at hi
  rw [if_pos hz] at hi
  unfold plcX at hi
  obtain ⟨k, hk, rfl⟩ := List.mem_map.1 hi
  have := List.mem_range.1 (List.mem_filter.1 hk).1
  exact ⟨by omega, by omega⟩
end
end Go.Fx
