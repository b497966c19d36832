/-
  Layer 10 in Lean: places of a grid as points of the cell.
-/
import Derived.Test.YtolbgdfbdlddaaaUk
import Derived.Test.YtolbgdfbdlddaaaOd
set_option linter.unusedSimpArgs false
set_option linter.unusedVariables false
set_option linter.unusedSectionVars false
namespace Go.Fx
open Go
def ptU (n a : V3) : Pt := Pt.mk 192 (V3.mk (a.x * (192 / n.x)) (a.y * (192 / n.y)) (a.z * (192 / n.z)))
/-- The sides divide 192. -/
def dvU (n : V3) : Prop := n.x ∣ 192 ∧ n.y ∣ 192 ∧ n.z ∣ 192
theorem side_u {m : Int} (hm : 1 ≤ m) (h : m ∣ 192) : m * (192 / m) = 192 ∧ 0 < 192 / m ∧ 192 / m ≤ 192 := by
  have e := Int.mul_ediv_cancel' h
  have h1 : 192 / m ≤ 192 := Int.ediv_le_self _ (by omega)
  refine ⟨e, ?_, h1⟩
  refine Classical.byContradiction fun c => ?_
  have : 192 / m ≤ 0 := by omega
  have : m * (192 / m) ≤ m * 0 := Int.mul_le_mul_of_nonneg_left this (by omega)
  omega
theorem mul_w {m a : Int} (hm : 1 ≤ m) (h : m ∣ 192) (a0 : 0 ≤ a) (a1 : a < m) : 0 ≤ a * (192 / m) ∧ a * (192 / m) < 192 := by
  obtain ⟨e, p, _⟩ := side_u hm h
  refine ⟨Int.mul_nonneg a0 (by omega), ?_⟩
  have : a * (192 / m) < m * (192 / m) := Int.mul_lt_mul_of_pos_right a1 p
  omega
theorem pt_frm {n a : V3} (hs : Sid n) (hd : dvU n) (ha : inG n a = true) : frmP (ptU n a) = true := by
  obtain ⟨h1, h2, h3⟩ := inG_iff.1 ha
  exact frmP_iff.2 ⟨.inr (.inr (.inr rfl)), mul_w hs.x0 hd.1 h1.1 h1.2, mul_w hs.y0 hd.2.1 h2.1 h2.2, mul_w hs.z0 hd.2.2 h3.1 h3.2⟩
theorem mul_j {m a b : Int} (hm : 1 ≤ m) (h : m ∣ 192) (e : a * (192 / m) = b * (192 / m)) : a = b := Int.eq_of_mul_eq_mul_right (by have := (side_u hm h).2.1; omega) e
theorem pt_inj {n a b : V3} (hs : Sid n) (hd : dvU n) (h : ptU n a = ptU n b) : a = b := by
  have h1 := congrArg (fun p : Pt => p.X) h
  have hx := congrArg V3.x h1
  have hy := congrArg V3.y h1
  have hz := congrArg V3.z h1
  exact V3.ext3 (mul_j hs.x0 hd.1 hx) (mul_j hs.y0 hd.2.1 hy) (mul_j hs.z0 hd.2.2 hz)
/-- A share in 192nds. -/
theorem share_u {r p q a : Int} (hp : 1 ≤ p) (hq : 1 ≤ q) (dp : p ∣ 192) (dq : q ∣ 192) (h : q ∣ r * p) : r * p / q * a * (192 / p) = r * (a * (192 / q)) := by
  obtain ⟨e1, _, _⟩ := side_u hp dp
  obtain ⟨e2, _, _⟩ := side_u hq dq
  have e3 := Int.ediv_mul_cancel h
  generalize r * p / q = u at *
  generalize 192 / p = v at *
  generalize 192 / q = w at *
  refine Int.eq_of_mul_eq_mul_left (show p * q ≠ 0 from Int.ne_of_gt (Int.mul_pos (by omega) (by omega))) ?_
  calc p * q * (u * a * v) = (u * q) * a * (p * v) := by
        simp only [Int.mul_assoc, Int.mul_left_comm, Int.mul_comm]
    _ = (r * p) * a * (q * w) := by rw [e3, e1, e2]
    _ = p * q * (r * (a * w)) := by simp only [Int.mul_assoc, Int.mul_left_comm, Int.mul_comm]
theorem share_t {t p : Int} (hp : 1 ≤ p) (dp : p ∣ 192) (h : (24 : Int) ∣ t * p) : t * p / 24 * (192 / p) = 8 * t := by
  obtain ⟨e1, _, _⟩ := side_u hp dp
  have e3 := Int.ediv_mul_cancel h
  generalize t * p / 24 = u at *
  generalize 192 / p = v at *
  refine Int.eq_of_mul_eq_mul_left (show p * 24 ≠ 0 from Int.ne_of_gt (Int.mul_pos (by omega) (by omega))) ?_
  calc p * 24 * (u * v) = (u * 24) * (p * v) := by simp only [Int.mul_assoc, Int.mul_left_comm, Int.mul_comm]
    _ = (t * p) * (p * v) := by rw [e3]
    _ = (t * p) * 192 := by rw [e1]
    _ = p * 24 * (8 * t) := by
      rw [show (192 : Int) = 24 * 8 from rfl]
      simp only [Int.mul_assoc, Int.mul_left_comm, Int.mul_comm]
theorem part_u {r1 r2 r3 t p p1 p2 p3 a1 a2 a3 : Int} (hp : 1 ≤ p) (h1 : 1 ≤ p1) (h2 : 1 ≤ p2) (h3 : 1 ≤ p3) (dp : p ∣ 192) (d1 : p1 ∣ 192) (d2 : p2 ∣ 192) (d3 : p3 ∣ 192)
    (f1 : p1 ∣ r1 * p) (f2 : p2 ∣ r2 * p) (f3 : p3 ∣ r3 * p) (f4 : (24 : Int) ∣ t * p) :
    (r1 * (a1 * (192 / p1)) + r2 * (a2 * (192 / p2)) + r3 * (a3 * (192 / p3)) + 8 * t) % 192 = (t * p / 24 + r1 * p / p1 * a1 + r2 * p / p2 * a2 + r3 * p / p3 * a3) % p * (192 / p) := by
  obtain ⟨e1, e2, _⟩ := side_u hp dp
  have m := mod_up (a := t * p / 24 + r1 * p / p1 * a1 + r2 * p / p2 * a2 + r3 * p / p3 * a3) (m := p) (k := 192 / p)
  have b0 := Int.emod_nonneg (t * p / 24 + r1 * p / p1 * a1 + r2 * p / p2 * a2 + r3 * p / p3 * a3) (show p ≠ 0 by omega)
  have b1 := Int.emod_lt_of_pos (t * p / 24 + r1 * p / p1 * a1 + r2 * p / p2 * a2 + r3 * p / p3 * a3) (show 0 < p by omega)
  have c := mul_w hp dp b0 b1
  rw [e1] at m
  rw [Int.emod_eq_of_lt c.1 c.2, Int.add_mul, Int.add_mul, Int.add_mul, share_u hp h1 dp d1 f1, share_u hp h2 dp d2 f2, share_u hp h3 dp d3 f3, share_t hp dp f4] at m
  rw [m]
  congr 1
  omega
/-- A map sends a place as a point where it sends the place. -/
theorem pt_mov {o : Op3} {n : V3} (hs : Sid n) (hd : dvU n) (hf : Fit o n) (a : V3) : appX o (ptU n a) = ptU n (movV o n a) := by
  obtain ⟨x0, _, y0, _, z0, _, _⟩ := hs
  obtain ⟨dx, dy, dz⟩ := hd
  refine Pt.ext' rfl ?_
  exact V3.ext3 (part_u x0 x0 y0 z0 dx dx dy dz hf.xx hf.xy hf.xz hf.tx) (part_u y0 x0 y0 z0 dy dx dy dz hf.yx hf.yy hf.yz hf.ty) (part_u z0 x0 y0 z0 dz dx dy dz hf.zx hf.zy hf.zz hf.tz)
section
variable {g : List Op3} {n : V3}
/-- The orbit of a first place has as many points as its count. -/
theorem of_ct (h : fuE g n = 0) (hd : dvU n) {j : Nat} (hj : j < plN n) (hf : loP g n j = j) : ocE g [ptU n (atV n j)] = 0 ∧ (ofL g (ptU n (atV n j))).length = ctN (mvN n) g (plN n) j := by
  obtain ⟨hc, hn, hs, hfB, hfF⟩ := fu_zero h
  have hA := fu_act h
  have hin : ∀ k, k < plN n → inG n (atV n (k : Nat)) = true := fun k hk => at_in hs (by omega) (by unfold plN at hk; omega)
  have hz : ocE g [ptU n (atV n j)] = 0 := oc_of (pt_frm hs hd (hin j hj)) hc
  refine ⟨hz, ?_⟩
  have hnd : (((List.range (plN n)).filter fun i => decide (loN (mvN n) g i = j)).map fun i => ptU n (atV n (i : Nat))).Nodup := by
    refine nodup_map (List.nodup_range.filter _) fun x hx y hy e => ?_
    have h1 := pt_inj hs hd e
    have h2 := num_at hs (x : Int)
    have h3 := num_at hs (y : Int)
    rw [h1, h3] at h2
    omega
  have hp := (List.perm_ext_iff_of_nodup (of_nodup hz) hnd).2 fun x => ?_
  · have := hp.length_eq
    rw [List.length_map] at this
    exact this
  · rw [of_mem hz, im_iff hz, List.mem_map]
    constructor
    · rintro ⟨o, ho, rfl⟩
      refine ⟨mvN n o j, List.mem_filter.2 ⟨List.mem_range.2 (hA.lt o ho j hj), decide_eq_true ((lo_move hA hj ho).trans hf)⟩, ?_⟩
      rw [mv_at hs, pt_mov hs hd (hfF o ho)]
    · rintro ⟨i, hi, rfl⟩
      obtain ⟨i1, i2⟩ := List.mem_filter.1 hi
      have i1 := List.mem_range.1 i1
      have i2 := of_decide_eq_true i2
      have hm : i ∈ imgN (mvN n) g j := (lo_iff hA hj i1).1 (i2.trans hf.symm)
      obtain ⟨o, ho, rfl⟩ := List.mem_map.1 hm
      exact ⟨o, ho, by rw [mv_at hs, pt_mov hs hd (hfF o ho)]⟩
theorem fs_at {i : Int} (h : inB (fsA g n) i) : ∃ j, j < plN n ∧ loP g n j = j ∧ (fsA g n).getD i.toNat (V3.mk 0 0 0) = atV n (j : Nat) ∧ (csA g n).getD i.toNat 0 = ((ctN (mvN n) g (plN n) j : Nat) : Int) ∧ inB (csA g n) i := by
  obtain ⟨i0, i1⟩ := h
  obtain ⟨l1, l2, l3⟩ := fs_lenP (g := g) (n := n)
  have hi : i.toNat < (fsP g n (plN n)).length := by omega
  have hm : (fsP g n (plN n))[i.toNat] ∈ fsP g n (plN n) := List.getElem_mem hi
  have hm2 : (fsP g n (plN n))[i.toNat] < plN n ∧ loP g n (fsP g n (plN n))[i.toNat] = (fsP g n (plN n))[i.toNat] := by
    have := List.mem_filter.1 (show (fsP g n (plN n))[i.toNat] ∈ (List.range (plN n)).filter (isF (mvN n) g) from hm)
    exact ⟨List.mem_range.1 this.1, of_decide_eq_true this.2⟩
  refine ⟨_, hm2.1, hm2.2, ?_, ?_, i0, by omega⟩
  · unfold fsA fsL
    simp only [List.getD_eq_getElem?_getD, List.getElem?_map, List.getElem?_eq_getElem hi, Option.map_some, Option.getD_some]
  · unfold csA csL
    simp only [List.getD_eq_getElem?_getD, List.getElem?_map, List.getElem?_eq_getElem hi, Option.map_some, Option.getD_some]
end
theorem ptU_w {n a : V3} (hs : Sid n) (hd : dvU n) (ha : inG n a = true) : Pt.mk 192 (V3.mk (w64 (a.x * Int.tdiv 192 n.x)) (w64 (a.y * Int.tdiv 192 n.y)) (w64 (a.z * Int.tdiv 192 n.z))) = ptU n a := by
  obtain ⟨h1, h2, h3⟩ := inG_iff.1 ha
  have b1 := mul_w hs.x0 hd.1 h1.1 h1.2
  have b2 := mul_w hs.y0 hd.2.1 h2.1 h2.2
  have b3 := mul_w hs.z0 hd.2.2 h3.1 h3.2
  have t : ∀ m : Int, Int.tdiv 192 m = 192 / m := fun m => Int.tdiv_eq_ediv_of_nonneg (by omega)
  rw [t, t, t, w64_id (by omega) (by omega), w64_id (by omega) (by omega), w64_id (by omega) (by omega)]; rfl
end Go.Fx
