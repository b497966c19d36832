/-
  WholeIndices in Lean: indices that a group turns into one another; how many; phases; told in another way.
-/
import Derived.Test.YthoicknhjjlnjaaGreatFc
import Derived.Test.YthoicknhjjlnjaaGreatBj
set_option linter.unusedSimpArgs false
set_option linter.unusedVariables false
set_option linter.unusedSectionVars false
namespace Go.Fx
open Go

/-! ### Loops -/
def cntN (g : List Op3) (h : V3) : Int := if hkE g h = 0 then (((rotL g).filter fun r => decide (tuV r h = h)).length : Int) else 0
def ctI (h : V3) (m : List M3) (n i : Int) : Prop := (0 ≤ i ∧ i ≤ (m.length : Int)) ∧ n = (((m.take i.toNat).filter fun r => decide (tuV r h = h)).length : Int)
def ctM (m : List M3) (i : Int) : Int := (m.length : Int) - i
theorem ct_init (h : V3) (m : List M3) : ctI h m 0 0 := ⟨⟨Int.le_refl _, by omega⟩, rfl⟩
theorem ct_next {h : V3} {m : List M3} {n i : Int} (hI : ctI h m n i) (hi : i < (m.length : Int)) (d : M3) : (tuV (m.getD i.toNat d) h = h → ctI h m (n + 1) (i + 1)) ∧ (¬ tuV (m.getD i.toNat d) h = h → ctI h m n (i + 1)) := by
  obtain ⟨⟨h0, h1⟩, h2⟩ := hI
  constructor <;> intro e <;> refine ⟨⟨by omega, by omega⟩, ?_⟩ <;> rw [take_succ h0 hi d, List.filter_append, List.length_append, h2]
  · rw [List.filter_cons_of_pos (by simpa using e)]; simp
  · rw [List.filter_cons_of_neg (by simpa using e)]; simp
theorem ct_end {h : V3} {m : List M3} {n i : Int} (hI : ctI h m n i) (hi : ¬ i < (m.length : Int)) : n = ((m.filter fun r => decide (tuV r h = h)).length : Int) := by
  rw [hI.2, List.take_of_length_le (by omega)]
theorem ct_bnd {h : V3} {m : List M3} {n i : Int} (hI : ctI h m n i) : 0 ≤ n ∧ n ≤ (m.length : Int) := by
  have := List.length_filter_le (fun r => decide (tuV r h = h)) (m.take i.toNat)
  rw [List.length_take] at this
  rw [hI.2]; omega
def fsB (g : List Op3) (x : Nat) : Bool := (List.range x).all fun j => !eqM (g.getD j zerO).R (g.getD x zerO).R
def unI (g : List Op3) (u x : Int) : Prop := (0 ≤ x ∧ x ≤ (g.length : Int)) ∧ u = (((List.range x.toNat).filter (fsB g)).length : Int)
def frI (g : List Op3) (x : Int) (b : Bool) (y : Int) : Prop := (0 ≤ y ∧ y ≤ x) ∧ b = (List.range y.toNat).all fun j => !eqM (g.getD j zerO).R (g.getD x.toNat zerO).R
def unM (x y : Int) : Int := x - y
theorem un_init (g : List Op3) : unI g 0 0 := ⟨⟨Int.le_refl _, by omega⟩, rfl⟩
theorem fr_init (g : List Op3) {x : Int} (h : 0 ≤ x) : frI g x true 0 := ⟨⟨Int.le_refl _, h⟩, rfl⟩
theorem fr_next {g : List Op3} {x y : Int} {b : Bool} (h : frI g x b y) (hy : y < x) : (eqM (g.getD y.toNat zerO).R (g.getD x.toNat zerO).R = true → frI g x false (y + 1)) ∧ (eqM (g.getD y.toNat zerO).R (g.getD x.toNat zerO).R = false → frI g x b (y + 1)) := by
  obtain ⟨⟨h0, h1⟩, h2⟩ := h
  have e : (y + 1).toNat = y.toNat + 1 := by omega
  constructor <;> intro he <;> refine ⟨⟨by omega, by omega⟩, ?_⟩ <;> rw [e, List.range_succ, List.all_append, List.all_cons, List.all_nil, he]
  · simp
  · rw [← h2]; simp
theorem un_next {g : List Op3} {u x y : Int} {b : Bool} (h : unI g u x) (hx : x < (g.length : Int)) (hf : frI g x b y) (hy : ¬ y < x) : (b = true → unI g (u + 1) (x + 1)) ∧ (b = false → unI g u (x + 1)) := by
  obtain ⟨⟨h0, h1⟩, h2⟩ := h
  have e : (x + 1).toNat = x.toNat + 1 := by omega
  have ey : y = x := by have := hf.1; omega
  subst ey
  have eb : b = fsB g y.toNat := hf.2
  constructor <;> intro hb <;> refine ⟨⟨by omega, by omega⟩, ?_⟩ <;> rw [e, List.range_succ, List.filter_append, List.length_append, h2]
  · rw [List.filter_cons_of_pos (by rw [← eb]; exact hb)]; simp
  · rw [List.filter_cons_of_neg (by rw [← eb, hb]; decide)]; simp
theorem un_bnd {g : List Op3} {u x : Int} (h : unI g u x) : 0 ≤ u ∧ u ≤ x := by
  have := List.length_filter_le (fsB g) (List.range x.toNat)
  rw [List.length_range] at this
  rw [h.2]; have := h.1; omega

/-! ### How many -/
def uqM (g : List Op3) : List M3 := ((List.range g.length).filter (fsB g)).map fun i => (g.getD i zerO).R
theorem fsB_iff {g : List Op3} {x : Nat} : fsB g x = true ↔ ∀ j, j < x → (g.getD j zerO).R ≠ (g.getD x zerO).R := by
  unfold fsB
  rw [List.all_eq_true]
  constructor
  · intro h j hj e
    have := h j (List.mem_range.2 hj)
    rw [eqM_iff.2 e] at this; cases this
  · intro h j hj
    cases e : eqM (g.getD j zerO).R (g.getD x zerO).R with
    | false => rfl
    | true => exact absurd (eqM_iff.1 e) (h j (List.mem_range.1 hj))
theorem uqM_nodup (g : List Op3) : (uqM g).Nodup := by
  have hr : ((List.range g.length).filter (fsB g)).Nodup := List.nodup_range.filter _
  refine nodup_map hr fun x hx y hy e => ?_
  have hx := fsB_iff.1 (List.mem_filter.1 hx).2
  have hy := fsB_iff.1 (List.mem_filter.1 hy).2
  rcases Nat.lt_trichotomy x y with h | h | h
  · exact absurd e (hy x h)
  · exact h
  · exact absurd e.symm (hx y h)
theorem uqM_mem {g : List Op3} : ∀ n : Nat, n < g.length → (g.getD n zerO).R ∈ uqM g := fun n => by
  induction n using Nat.strongRecOn with
  | _ n ih =>
    intro hn
    cases hf : fsB g n with
    | true => exact List.mem_map.2 ⟨n, List.mem_filter.2 ⟨List.mem_range.2 hn, hf⟩, rfl⟩
    | false =>
      have : ¬ ∀ j, j < n → (g.getD j zerO).R ≠ (g.getD n zerO).R := fun h => by rw [fsB_iff.2 h] at hf; cases hf
      obtain ⟨j, hj⟩ := Classical.not_forall.1 this
      obtain ⟨h1, h2⟩ := Classical.not_imp.1 hj
      rw [← Classical.not_not.1 h2]
      exact ih j h1 (by omega)
theorem rot_P {g : List Op3} (hg : chkE g = 0) : (rotL g).Nodup ∧ (∀ o ∈ g, o.R ∈ rotL g) ∧ ∀ m ∈ rotL g, ∃ o ∈ g, o.R = m := by
  have hr : RotP g := by
    have := rot_all g [] (by simpa using (isG_grp hg).ord) ⟨by simp [rotF], (fun o ho => by cases ho), (fun m hm => by simp [rotF] at hm), fun m hm => by simp [rotF] at hm⟩
    simpa using this
  have e1 : rotL g = rotF g := by unfold rotL; rw [if_pos hg]
  rw [e1]
  exact ⟨hr.nodup, hr.mem, hr.has⟩
section
variable {g : List Op3} {h : V3} (hz : hkE g h = 0)
include hz
theorem hof_nodup : (hofL g h).Nodup := by
  unfold hofL
  rw [if_pos hz]
  exact stG_nodup toV (fun _ _ => trivial) (unqG_st toV fun _ _ => trivial)
theorem hbo_nodup : (hboL g h).Nodup := by
  unfold hboL
  rw [if_pos hz]
  exact stG_nodup toV (fun _ _ => trivial) (unqG_st toV fun _ _ => trivial)
theorem hof_self : h ∈ hofL g h := (hof_mem hz).2 ⟨oneO, (chk_grp (hk_zero hz).2).2.2.1, by
  show h = rowZ (oneZ 1) h
  cases h; simp [rowZ, appZ, traZ, oneZ]⟩
/-- As many maps turn h into each of them. -/
theorem fib_row {a : Op3} (ha : a ∈ g) : (g.filter fun o => decide (rowZ o.R h = rowZ a.R h)).length = (g.filter fun o => decide (rowZ o.R h = h)).length := by
  have hg := (hk_zero hz).2
  obtain ⟨gF, gN, g1, gM⟩ := chk_grp hg
  have rc : ∀ {c d : Op3}, c ∈ g → mulO c d = oneO → ∀ {x y : Op3}, x ∈ g → y ∈ g → mulO x c = mulO y c → x = y := fun hc e x y hx hy h => canc e (gF _ hx).T (gF _ hy).T h
  obtain ⟨c, hc, c1, c2⟩ := grp_left hg ha
  have ec : rowZ c.R (rowZ a.R h) = h := by
    rw [← row_mul, show mulZ a.R c.R = oneZ 1 from congrArg Op3.R c2]
    cases h; simp [rowZ, appZ, traZ, oneZ]
  refine Nat.le_antisymm ?_ ?_
  · have hn : ((g.filter fun o => decide (rowZ o.R h = rowZ a.R h)).map fun o => mulO o c).Nodup := nodup_map (gN.filter _) fun x hx y hy e => rc hc c1 (List.mem_filter.1 hx).1 (List.mem_filter.1 hy).1 e
    have := nodup_le (m := g.filter fun o => decide (rowZ o.R h = h)) hn fun y hy => by
      obtain ⟨x, hx, rfl⟩ := List.mem_map.1 hy
      obtain ⟨x1, x2⟩ := List.mem_filter.1 hx
      refine List.mem_filter.2 ⟨gM _ x1 _ hc, decide_eq_true ?_⟩
      show rowZ (mulZ x.R c.R) h = h
      rw [row_mul, of_decide_eq_true x2, ec]
    rwa [List.length_map] at this
  · have hn : ((g.filter fun o => decide (rowZ o.R h = h)).map fun o => mulO o a).Nodup := nodup_map (gN.filter _) fun x hx y hy e => rc ha c2 (List.mem_filter.1 hx).1 (List.mem_filter.1 hy).1 e
    have := nodup_le (m := g.filter fun o => decide (rowZ o.R h = rowZ a.R h)) hn fun y hy => by
      obtain ⟨x, hx, rfl⟩ := List.mem_map.1 hy
      obtain ⟨x1, x2⟩ := List.mem_filter.1 hx
      refine List.mem_filter.2 ⟨gM _ x1 _ ha, decide_eq_true ?_⟩
      show rowZ (mulZ x.R a.R) h = _
      rw [row_mul, of_decide_eq_true x2]
    rwa [List.length_map] at this
theorem hof_times : g.length = (hofL g h).length * (g.filter fun o => decide (rowZ o.R h = h)).length :=
  sum_fibG (fun o => rowZ o.R h) _ _ g (hof_nodup hz) (fun o ho => (hof_mem hz).2 ⟨o, ho, rfl⟩) fun m hm => by
    obtain ⟨a, ha, rfl⟩ := (hof_mem hz).1 hm
    exact fib_row hz ha
theorem stab_times : (g.filter fun o => decide (rowZ o.R h = h)).length = ((rotL g).filter fun r => decide (tuV r h = h)).length * (fibO g (oneZ 1)).length := by
  obtain ⟨hh, hg⟩ := hk_zero hz
  obtain ⟨r1, r2, r3⟩ := rot_P hg
  have gF := (chk_grp hg).1
  refine sum_fib g _ _ _ (r1.filter _) (fun o ho => ?_) fun m hm => ?_
  · obtain ⟨o1, o2⟩ := List.mem_filter.1 ho
    refine List.mem_filter.2 ⟨r2 o o1, decide_eq_true ?_⟩
    rw [(tu_row (gF o o1) hh).1]; exact of_decide_eq_true o2
  · obtain ⟨m1, m2⟩ := List.mem_filter.1 hm
    obtain ⟨o, ho, rfl⟩ := r3 m m1
    rw [← fib_eq hg ho]
    have : fibO (g.filter fun o => decide (rowZ o.R h = h)) o.R = fibO g o.R := by
      unfold fibO
      rw [List.filter_filter]
      refine List.filter_congr fun x hx => ?_
      cases e : eqM x.R o.R with
      | false => rfl
      | true =>
        have e1 : rowZ x.R h = h := by
          rw [eqM_iff.1 e, ← (tu_row (gF o ho) hh).1]; exact of_decide_eq_true m2
        simp [e1]
    rw [this]
/-- How often an index is left, and how many there are of it, make the group's matrices. -/
theorem cnt_times : ((hofL g h).length : Int) * cntN g h = (((List.range g.length).filter (fsB g)).length : Int) ∧ 0 ≤ cntN g h ∧ cntN g h ≤ 192 := by
  obtain ⟨hh, hg⟩ := hk_zero hz
  have e1 := hof_times hz
  rw [stab_times hz] at e1
  have e2 : g.length = (uqM g).length * (fibO g (oneZ 1)).length := sum_fib g _ (uqM g) g (uqM_nodup g) (fun o ho => by
    obtain ⟨n, hn, rfl⟩ := List.getElem_of_mem ho
    have := uqM_mem (g := g) n hn
    rwa [show g.getD n zerO = g[n] by simp [List.getD, hn]] at this) fun m hm => by
    obtain ⟨n, hn, rfl⟩ := List.mem_map.1 hm
    have hn := List.mem_range.1 (List.mem_filter.1 hn).1
    have hm : g.getD n zerO ∈ g := by rw [show g.getD n zerO = g[n] by simp [List.getD, hn]]; exact List.getElem_mem hn
    exact fib_eq hg hm
  have hc : 0 < (fibO g (oneZ 1)).length := List.length_pos_of_mem (fib_mem.2 ⟨(chk_grp hg).2.2.1, rfl⟩)
  have e3 : (uqM g).length = ((List.range g.length).filter (fsB g)).length := by unfold uqM; rw [List.length_map]
  have e4 : (hofL g h).length * ((rotL g).filter fun r => decide (tuV r h = h)).length = (uqM g).length := by
    rw [← Nat.mul_assoc] at e1
    exact Nat.eq_of_mul_eq_mul_right hc (e1.symm.trans e2)
  have e5 : cntN g h = (((rotL g).filter fun r => decide (tuV r h = h)).length : Int) := by unfold cntN; rw [if_pos hz]
  rw [e5, ← e3, ← e4]
  refine ⟨by rw [Int.natCast_mul], by omega, ?_⟩
  have h1 := List.length_filter_le (fun r => decide (tuV r h = h)) (rotL g)
  have h2 := rotL_len g
  have h3 := chk_len hg
  omega
/-! ### Centric -/
theorem cen_iff : ceB g h = true ↔ negV h ∈ hofL g h := by
  obtain ⟨hh, hg⟩ := hk_zero hz
  have gF := (chk_grp hg).1
  have en : ngV h = negV h := by
    obtain ⟨a, b, c⟩ := okH_B hh
    exact ng_neg ⟨by omega, by omega, by omega⟩
  unfold ceB cenJ
  rw [if_pos hz, decide_eq_true_iff, fst_iff (p := fun o => cenB o h), hof_mem hz]
  constructor
  · rintro ⟨o, ho, e⟩
    have := of_decide_eq_true e
    rw [(tu_row (gF o ho) hh).1, en] at this
    exact ⟨o, ho, this.symm⟩
  · rintro ⟨o, ho, e⟩
    refine ⟨o, ho, decide_eq_true ?_⟩
    rw [(tu_row (gF o ho) hh).1, en]; exact e.symm
theorem cen_both : ceB g h = decide (((hboL g h).length : Int) = ((hofL g h).length : Int)) := by
  obtain ⟨hh, hg⟩ := hk_zero hz
  obtain ⟨gF, gN, g1, gM⟩ := chk_grp hg
  have hm : ∀ x, x ∈ hboL g h ↔ x ∈ hofL g h ∨ ∃ y ∈ hofL g h, x = negV y := fun x => by
    unfold hboL
    rw [if_pos hz, unqG_mem, List.mem_append, List.mem_map]
    constructor
    · rintro (h | ⟨y, hy, rfl⟩)
      · exact .inl h
      · obtain ⟨o, ho, rfl⟩ := (hof_mem hz).1 hy
        exact .inr ⟨_, hy, ng_neg (tu_row (gF o ho) hh).2⟩
    · rintro (h | ⟨y, hy, rfl⟩)
      · exact .inl h
      · obtain ⟨o, ho, rfl⟩ := (hof_mem hz).1 hy
        exact .inr ⟨_, hy, ng_neg (tu_row (gF o ho) hh).2⟩
  rw [Bool.eq_iff_iff, cen_iff hz, decide_eq_true_iff]
  constructor
  · intro hc
    obtain ⟨m, hm0, em⟩ := (hof_mem hz).1 hc
    have l1 := nodup_le (m := hofL g h) (hbo_nodup hz) fun x hx => by
      rcases (hm x).1 hx with e | ⟨y, hy, rfl⟩
      · exact e
      · obtain ⟨o, ho, rfl⟩ := (hof_mem hz).1 hy
        refine (hof_mem hz).2 ⟨mulO m o, gM _ hm0 _ ho, ?_⟩
        show _ = rowZ (mulZ m.R o.R) h
        rw [row_mul, ← em, row_neg]
    have l2 := nodup_le (m := hboL g h) (hof_nodup hz) fun x hx => (hm x).2 (.inl hx)
    omega
  · intro hl
    refine Classical.byContradiction fun hc => ?_
    have l2 := nodup_le (m := hboL g h) (l := negV h :: hofL g h) (List.nodup_cons.2 ⟨hc, hof_nodup hz⟩) fun x hx => by
      rcases List.mem_cons.1 hx with rfl | hx
      · exact (hm _).2 (.inr ⟨h, hof_self hz, rfl⟩)
      · exact (hm x).2 (.inl hx)
    rw [List.length_cons] at l2
    omega
/-- What a map of the group turns is as it was. -/
theorem turn_all {t : V3} (ht : t ∈ hofL g h) (ok : okH t = true) : hkE g t = 0 ∧ isB g t = isB g h ∧ ceB g t = ceB g h := by
  obtain ⟨hh, hg⟩ := hk_zero hz
  obtain ⟨gF, gN, g1, gM⟩ := chk_grp hg
  obtain ⟨a, ha, rfl⟩ := (hof_mem hz).1 ht
  have e : hkE g (rowZ a.R h) = 0 := by unfold hkE; rw [if_pos ok]; exact hg
  refine ⟨e, ?_, ?_⟩
  · unfold isB
    rw [if_pos e, if_pos hz, why_row hg hh ha ok]
  · obtain ⟨c, hc, c1, c2⟩ := grp_left hg ha
    have ec : rowZ c.R (rowZ a.R h) = h := by
      rw [← row_mul, show mulZ a.R c.R = oneZ 1 from congrArg Op3.R c2]
      cases h; simp [rowZ, appZ, traZ, oneZ]
    rw [Bool.eq_iff_iff, cen_iff e, cen_iff hz, hof_mem e, hof_mem hz]
    constructor
    · rintro ⟨m, hm, em⟩
      refine ⟨mulO (mulO a m) c, gM _ (gM _ ha _ hm) _ hc, ?_⟩
      show _ = rowZ (mulZ (mulZ a.R m.R) c.R) h
      rw [row_mul, row_mul, ← em, row_neg, ec]
    · rintro ⟨m, hm, em⟩
      refine ⟨mulO (mulO c m) a, gM _ (gM _ hc _ hm) _ ha, ?_⟩
      show _ = rowZ (mulZ (mulZ c.R m.R) a.R) (rowZ a.R h)
      rw [row_mul, row_mul, ec, ← em, row_neg]
end

/-! ### Phases -/
def prdO (x y : Op3) : Op3 := Op3.mk (wM (mulZ x.R y.R)) (V3.mk (amo (w64 (w64 (dotV (V3.mk x.R.xx x.R.xy x.R.xz) y.T) + x.T.x)) 24) (amo (w64 (w64 (dotV (V3.mk x.R.yx x.R.yy x.R.yz) y.T) + x.T.y)) 24) (amo (w64 (w64 (dotV (V3.mk x.R.zx x.R.zy x.R.zz) y.T) + x.T.z)) 24))
theorem prd_mul {x y : Op3} (hx : Frm x) (hy : Frm y) : prdO x y = mulO x y := by
  obtain ⟨t1, t2, t3⟩ := inT_iff.1 hy.T
  obtain ⟨u1, u2, u3⟩ := inT_iff.1 hx.T
  have yB : BndV 23 y.T := ⟨by omega, by omega, by omega⟩
  have key : ∀ r : V3, BndV 1000 r → ∀ t : Int, 0 ≤ t ∧ t ≤ 23 → amo (w64 (w64 (dotV r y.T) + t)) 24 = (dotV r y.T + t) % 24 := fun r hr t ht => by
    have := dot_B hr yB
    unfold amo
    rw [w64_id (x := dotV r y.T) (by omega) (by omega), w64_id (by omega) (by omega)]
  unfold prdO
  rw [wM_id (by decide) (mulZ_B hx.B hy.B), key _ ⟨hx.B.xx, hx.B.xy, hx.B.xz⟩ _ u1, key _ ⟨hx.B.yx, hx.B.yy, hx.B.yz⟩ _ u2, key _ ⟨hx.B.zx, hx.B.zy, hx.B.zz⟩ _ u3]
  rfl
theorem ht_ok {o : Op3} (ho : Frm o) {h : V3} (hh : okH h = true) : htE o h = 0 ∧ htV o h = rowZ o.R h ∧ hpI o h = dotH h o.T % 24 := by
  have e : htE o h = 0 := by unfold htE; rw [if_pos hh, errO_ok.2 ho]
  exact ⟨e, by unfold htV; rw [if_pos e, (tu_row ho hh).1], by unfold hpI; rw [if_pos e, ph_dot ho hh]⟩
theorem phase_add {x y : Op3} {h : V3} : (dotH h x.T % 24 + dotH (rowZ x.R h) y.T % 24 - dotH h (mulO x y).T % 24) % 24 = 0 := by
  have e : dotH h (mulO x y).T % 24 = dotH h (addV (appZ x.R y.T) x.T) % 24 := dot_eqV (eqV_mod 24 _)
  rw [e, dot_add, ← row_dot]
  omega
theorem phase_amo {p q r : Int} (hp : 0 ≤ p ∧ p < 24) (hq : 0 ≤ q ∧ q < 24) (hr : 0 ≤ r ∧ r < 24) (h : (p + q - r) % 24 = 0) : amo (w64 (w64 (p + q) - r)) 24 = 0 := by
  rw [w64_id (x := p + q) (by omega) (by omega), w64_id (by omega) (by omega)]
  exact h
/-- What makes an index absent. -/
theorem why_say {g : List Op3} {h : V3} (hz : hkE g h = 0) (hb : isB g h = true) : wyE g h = 0 ∧ rowZ (wyO g h).R h = h ∧ ¬ dotH h (wyO g h).T % 24 = 0 ∧ tuV (wyO g h).R h = h ∧ Int.tmod (w64 (dotV h (wyO g h).T)) 24 ≠ 0 := by
  obtain ⟨hh, hg⟩ := hk_zero hz
  have hw : whyB g h = true := by unfold isB at hb; rw [if_pos hz] at hb; exact hb
  have e : wyE g h = 0 := by unfold wyE; rw [if_pos hz, if_pos hw]
  have hi := of_decide_eq_true hw
  have eo : wyO g h = g.getD (whyI g h).toNat zerO := by unfold wyO whyO; rw [if_pos e, if_pos hi]
  have hlt := (fst_at (p := fun o => absB o h) hi zerO).1
  have hm : g.getD (whyI g h).toNat zerO ∈ g := getD_mem hi hlt zerO
  have ho := (chk_grp hg).1 _ hm
  have ha := why_at hw
  rw [← eo] at hm ho ha
  obtain ⟨a1, a2⟩ := (abs_iff ho hh).1 ha
  refine ⟨e, a1, a2, by rw [(tu_row ho hh).1]; exact a1, ?_⟩
  obtain ⟨t1, t2, t3⟩ := inT_iff.1 ho.T
  have hd := dot_B (okH_B hh) (show BndV 23 (wyO g h).T from ⟨by omega, by omega, by omega⟩)
  have a2 : ¬ dotV h (wyO g h).T % 24 = 0 := a2
  rw [w64_id (by omega) (by omega)]
  intro h0
  exact a2 (Int.emod_eq_zero_of_dvd (Int.dvd_of_tmod_eq_zero h0))
theorem why_not {g : List Op3} {h : V3} (hz : hkE g h = 0) (hb : isB g h = false) : wyE g h = 9 := by
  unfold isB at hb
  rw [if_pos hz] at hb
  unfold wyE
  rw [if_pos hz, if_neg (by rw [hb]; decide)]

/-! ### Told in another way -/
theorem dot_neg2 (h v : V3) : dotH h (negV v) = -dotH h v := by
  simp only [dotH, negV]; grind
theorem tol_abs {c : Chg} {o : Op3} (hb : bakE c = 0) (ho : Frm o) (ht : Frm (tol c o)) {h : V3} (hh : okH h = true) (hw : okH (rowZ (invZ c.P) h) = true) : absB (tol c o) (rowZ (invZ c.P) h) = absB o h := by
  obtain ⟨hu, _, _, _, _⟩ := bak_ok hb
  have hP : tolP c o := ⟨hu, errO_ok.2 ho⟩
  have hd := (uniE_ok hu).2.2
  have hR : (tol c o).R = mulZ (mulZ c.P o.R) (invZ c.P) := tol_R hP
  have one1 : ∀ h : V3, rowZ (oneZ 1) h = h := fun h => by cases h; simp [rowZ, appZ, traZ, oneZ]
  have e1 : rowZ c.P (rowZ (invZ c.P) h) = h := by rw [← row_mul, inv_l hd, one1]
  have e2 : rowZ (tol c o).R (rowZ (invZ c.P) h) = rowZ (invZ c.P) (rowZ o.R h) := by rw [hR, row_mul, row_mul, e1]
  have hT : eqV 24 (tol c o).T (addV (addV (appZ c.P o.T) c.O) (negV (appZ (tol c o).R c.O))) := by
    show eqV 24 (addT (addT (shiT c.P o.T) c.O) (negT (shiT (tol c o).R c.O))) _
    refine (eqV_mod 24 _).trans (eqV_add ?_ ?_)
    · exact (eqV_mod 24 _).trans (eqV_add (eqV_mod 24 _) (eqV.refl _ _))
    · exact (eqV_mod 24 _).trans (eqV_neg (eqV_mod 24 _))
  have hT2 := dot_eqV (h := rowZ (invZ c.P) h) hT
  rw [dot_add, dot_add, ← row_dot, e1] at hT2
  have hn : dotH (rowZ (invZ c.P) h) (negV (appZ (tol c o).R c.O)) = -dotH (rowZ (tol c o).R (rowZ (invZ c.P) h)) c.O := by
    rw [row_dot (rowZ (invZ c.P) h) (tol c o).R c.O]
    exact dot_neg2 _ _
  rw [hn] at hT2
  rw [Bool.eq_iff_iff, abs_iff ht hw, abs_iff ho hh]
  constructor
  · rintro ⟨h1, h2⟩
    have h3 : rowZ o.R h = h := by
      have := congrArg (rowZ c.P) h1
      rw [e2, ← row_mul, inv_l hd, one1, e1] at this
      exact this
    refine ⟨h3, fun h0 => h2 ?_⟩
    rw [h1] at hT2; omega
  · rintro ⟨h1, h2⟩
    have h3 : rowZ (tol c o).R (rowZ (invZ c.P) h) = rowZ (invZ c.P) h := by rw [e2, h1]
    refine ⟨h3, fun h0 => h2 ?_⟩
    rw [h3] at hT2; omega
theorem told_is {c : Chg} {g : List Op3} (hb : bakE c = 0) (hE : bgE c g = 0) {h : V3} (hz : hkE g h = 0) (hw : okH (rowZ (invZ c.P) h) = true) : isE (bgL c g) (rowZ (invZ c.P) h) = 0 ∧ isB (bgL c g) (rowZ (invZ c.P) h) = isB g h := by
  obtain ⟨hh, hg⟩ := hk_zero hz
  obtain ⟨t1, _, _, _⟩ := told_back hb hE
  obtain ⟨_, _, hl, hA⟩ := bgE_zero hE
  have hp : (bgL c g).Perm (g.map (tol c)) := by rw [hl]; exact insO_perm _
  have e : hkE (bgL c g) (rowZ (invZ c.P) h) = 0 := by unfold hkE; rw [if_pos hw]; exact t1
  refine ⟨e, ?_⟩
  unfold isB
  rw [if_pos e, if_pos hz, Bool.eq_iff_iff, why_iff, why_iff]
  have ab : ∀ o ∈ g, absB (tol c o) (rowZ (invZ c.P) h) = absB o h := fun o ho => tol_abs hb ((chk_grp hg).1 o ho) (hA o ho).2.2 hh hw
  constructor
  · rintro ⟨o', ho', ha⟩
    obtain ⟨o, ho, rfl⟩ := List.mem_map.1 (hp.mem_iff.1 ho')
    exact ⟨o, ho, by rw [← ab o ho]; exact ha⟩
  · rintro ⟨o, ho, ha⟩
    exact ⟨tol c o, hp.mem_iff.2 (List.mem_map.2 ⟨o, ho, rfl⟩), by rw [ab o ho]; exact ha⟩
theorem sg_tab : ((List.range 48).all fun k => bnd1B (sgnM k) && bnd1B (invW (sgnM k))) = true := by decide +kernel
theorem sg_all (k : Int) : uniE (sgnM k) = 0 ∧ Bnd 1 (sgnM k) ∧ Bnd 1 (invW (sgnM k)) := by
  refine ⟨sgn_uni k, ?_⟩
  rw [sgn_mod]
  have := (List.all_eq_true.1 sg_tab) (k % 48).toNat (List.mem_range.2 (by omega))
  rw [Bool.and_eq_true] at this
  exact ⟨bnd1_B this.1, bnd1_B this.2⟩
theorem su_bak (a : Sd) : bakE (wbU a) = 0 := by
  obtain ⟨h1, _, h3⟩ := sg_all a.K
  unfold bakE
  exact (if_pos h1).trans (errM_B (by decide) h3)
theorem su_grp (a : Sd) {l : List Sd} (h : cloE (sedL l) = 0) : bgE (wbU a) (cloL (sedL l)) = 0 := by
  obtain ⟨h1, h2, h3⟩ := sg_all a.K
  have hc := clo_chk h
  unfold bgE
  rw [show uniE (wbU a).P = 0 from h1, hc, if_pos (by rfl), if_pos]
  refine List.all_eq_true.2 fun o ho => decide_eq_true ?_
  have b1 := mulZ_B (show Bnd 1 (wbU a).P from h2) (clo_small h ho)
  have b2 := mulZ_B b1 (show Bnd 1 (invW (wbU a).P) from h3)
  show errM (wM (mulZ (wM (mulZ (wbU a).P o.R)) (invW (wbU a).P))) = 0
  rw [wM_id (by decide) b1, wM_id (by decide) b2]
  exact errM_B (by decide) b2
theorem sml_row {r : M3} (hr : Bnd 1 r) (h : V3) : okH (rowZ r (smlV h)) = true := by
  obtain ⟨a, b, c⟩ := row_B hr (sml_ok h).2
  have hi : ∀ x : Int, -15 ≤ x ∧ x ≤ 15 → inE 512 x = true := fun x hx => by
    unfold inE
    rw [decide_eq_true (show -512 ≤ x by omega), decide_eq_true (show x ≤ 512 by omega)]; rfl
  unfold okH
  rw [hi _ (by omega), hi _ (by omega), hi _ (by omega)]; rfl
theorem su_idx (a : Sd) (h : V3) : idxE (wbU a) (smlV h) = 0 ∧ idxV (wbU a) (smlV h) = rowZ (invZ (wbU a).P) (smlV h) ∧ okH (rowZ (invZ (wbU a).P) (smlV h)) = true := by
  obtain ⟨h1, h2, h3⟩ := sg_all a.K
  obtain ⟨i1, i2⟩ := invW_id (show uniE (wbU a).P = 0 from h1)
  have h3 : Bnd 1 (invW (wbU a).P) := h3
  rw [i1] at h3
  have e : idxE (wbU a) (smlV h) = 0 := by unfold idxE; rw [if_pos (sml_ok h).1]; exact h1
  refine ⟨e, ?_, sml_row h3 h⟩
  unfold idxV
  rw [if_pos e, i1]
  exact wV_id (by decide) (row_B h3 (sml_ok h).2)
def twoL : List Op3 := [Op3.mk (M3.mk (-1) 0 0 0 1 0 0 0 (-1)) (V3.mk 0 12 0), Op3.mk (M3.mk 1 0 0 0 1 0 0 0 1) (V3.mk 0 0 0)]
theorem two_is : isE twoL (V3.mk 0 1 0) = 0 ∧ isB twoL (V3.mk 0 1 0) = true := by decide +kernel
theorem tm_in {n : Int} {m : Nat} (h0 : 0 ≤ n) (hm : 0 < m) : 0 ≤ Int.tmod n (m : Int) ∧ Int.tmod n (m : Int) < (m : Int) := by
  rw [Int.tmod_eq_emod_of_nonneg h0]
  exact ⟨Int.emod_nonneg _ (by omega), Int.emod_lt_of_pos _ (by omega)⟩
/-- What the law asks last: the group and the index told in another way. -/
def wiFin (a : Sd) (g : List Op3) (k : V3) (b : Bool) : Prop :=
  (True ∧ (True ∧ (True ∧ ∀ s : List Op3, (s = bgL (Chg.mk (sgnM a.K) ((sedO (Sd.mk false a.K a.t0 a.t1 a.t2 a.Step)).T)) g → ∀ e1 : Int, (e1 = bgE (Chg.mk (sgnM a.K) ((sedO (Sd.mk false a.K a.t0 a.t1 a.t2 a.Step)).T)) g →
    (True ∧ ∀ w : V3, (w = idxV (Chg.mk (sgnM a.K) ((sedO (Sd.mk false a.K a.t0 a.t1 a.t2 a.Step)).T)) k → ∀ e2 : Int, (e2 = idxE (Chg.mk (sgnM a.K) ((sedO (Sd.mk false a.K a.t0 a.t1 a.t2 a.Step)).T)) k →
      (True ∧ ∀ b3 : Bool, (b3 = isB s w → ∀ e3 : Int, (e3 = isE s w →
        (((decide (e1 = 0)) = true → (((decide (e2 = 0)) = true → (((decide (e3 = 0)) = true → ((b3 == b), ()) = (true, ())) ∧ ((decide (e3 = 0)) = false → (false, ()) = (true, ())))) ∧ ((decide (e2 = 0)) = false → (false, ()) = (true, ())))) ∧
        ((decide (e1 = 0)) = false → (false, ()) = (true, ()))))))))))))))
theorem wi_fin (a : Sd) (h : V3) {l : List Sd} (C : cloE (sedL l) = 0) {g : List Op3} (hgd : g = cloL (sedL l)) {b : Bool} (hb : b = isB g (smlV h)) : wiFin a g (smlV h) b := by
  subst hgd
  have hz : hkE (cloL (sedL l)) (smlV h) = 0 := by unfold hkE; rw [if_pos (sml_ok h).1]; exact clo_chk C
  obtain ⟨i1, i2, i3⟩ := su_idx a h
  obtain ⟨t1, t2⟩ := told_is (su_bak a) (su_grp a C) hz i3
  refine ⟨trivial, trivial, trivial, fun s hs e1 he1 => ⟨trivial, fun w hw e2 he2 => ⟨trivial, fun b3 hb3 e3 he3 => ?_⟩⟩⟩
  have E1 : e1 = 0 := he1.trans (su_grp a C)
  have E2 : e2 = 0 := he2.trans i1
  have hw' : w = rowZ (invZ (wbU a).P) (smlV h) := hw.trans i2
  have hs' : s = bgL (wbU a) (cloL (sedL l)) := hs
  have E3 : e3 = 0 := by rw [he3, hs', hw']; exact t1
  have EB : b3 = b := by rw [hb3, hs', hw', hb]; exact t2
  refine ⟨fun _ => ⟨fun _ => ⟨fun _ => by rw [EB]; simp, fun q => absurd E3 (of_decide_eq_false q)⟩, fun q => absurd E2 (of_decide_eq_false q)⟩, fun q => absurd E1 (of_decide_eq_false q)⟩
end Go.Fx
