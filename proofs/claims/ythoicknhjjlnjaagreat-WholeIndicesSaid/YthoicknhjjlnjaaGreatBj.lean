/-
  Layer 7 in Lean: a group told in another way; WholeBases.
-/
import Derived.Test.YthoicknhjjlnjaaGreatBi
import Derived.Test.YthoicknhjjlnjaaGreatTc
set_option linter.unusedSimpArgs false
set_option linter.unusedVariables false
set_option linter.unusedSectionVars false
namespace Go.Fx
open Go

def tol (c : Chg) (o : Op3) : Op3 := tolW c (invW c.P) o
def bgA (c : Chg) (g : List Op3) : Bool := g.all fun o => decide (errM (tol c o).R = 0)
def bgE (c : Chg) (g : List Op3) : Int := if lst2 (uniE c.P) (chkE g) = 0 then (if bgA c g = true then 0 else 4) else lst2 (uniE c.P) (chkE g)
def bgL (c : Chg) (g : List Op3) : List Op3 := if bgE c g = 0 then sortO (g.map (tol c)) else []
def bgI (c : Chg) (g l : List Op3) (i : Int) : Prop := 0 ≤ i ∧ i ≤ (g.length : Int) ∧ l = (g.take i.toNat).map (tol c) ∧ ∀ o ∈ g.take i.toNat, errM (tol c o).R = 0
def bwI (g : List Op3) (i : Int) : Prop := 0 ≤ i ∧ i ≤ (g.length : Int)
def smlV (h : V3) : V3 := V3.mk (h.x % 11 - 5) (h.y % 11 - 5) (h.z % 11 - 5)
def amo (n m : Int) : Int := n % m
def amP (m : Int) : Prop := 0 < m ∧ m ≤ 1000
def minP (p q : Pt) : Pt := if frmP p = true ∧ frmP q = true ∧ p.M = q.M then Pt.mk p.M (modV p.M (addV p.X (negV q.X))) else zerP
def minE (p q : Pt) : Int := if frmP p = true ∧ frmP q = true then (if p.M = q.M then 0 else 6) else 3

theorem bg_next {c : Chg} {g l : List Op3} {i : Int} (h : bgI c g l i) (hi : i < (g.length : Int)) (he : errM (tol c (g.getD i.toNat zerO)).R = 0) :
    bgI c g (l ++ [tol c (g.getD i.toNat zerO)]) (i + 1) := by
  obtain ⟨h0, h1, h2, h3⟩ := h
  have ht : g.take (i + 1).toNat = g.take i.toNat ++ [g.getD i.toNat zerO] := by
    have hl : i.toNat < g.length := by omega
    rw [show (i + 1).toNat = i.toNat + 1 by omega, List.take_add_one]
    simp [List.getD, hl]
  refine ⟨by omega, by omega, ?_, fun o ho => ?_⟩
  · rw [ht, List.map_append, h2]; rfl
  · rw [ht] at ho
    rcases List.mem_append.1 ho with ho | ho
    · exact h3 o ho
    · rw [List.mem_singleton.1 ho]; exact he
theorem bg_bad {c : Chg} {g : List Op3} {i : Int} (hz : lst2 (uniE c.P) (chkE g) = 0) (h0 : 0 ≤ i) (hi : i < (g.length : Int)) {e : Int} (he : errM (tol c (g.getD i.toNat zerO)).R = e) (hne : e ≠ 0) : bgE c g = e ∧ bgL c g = [] := by
  have h4 : e = 4 := by rcases errM_cases (tol c (g.getD i.toNat zerO)).R with h | h <;> omega
  have hl : i.toNat < g.length := by omega
  have hm : g.getD i.toNat zerO ∈ g := by
    have : g.getD i.toNat zerO = g[i.toNat] := by simp [List.getD, hl]
    rw [this]; exact List.getElem_mem hl
  have hb : ¬ bgA c g = true := fun h => by
    have := of_decide_eq_true (List.all_eq_true.1 h _ hm)
    omega
  have hE : bgE c g = 4 := by unfold bgE; rw [if_pos hz, if_neg hb]
  refine ⟨by rw [hE, h4], ?_⟩
  unfold bgL; rw [if_neg (by rw [hE]; decide)]
theorem bg_end {c : Chg} {g l : List Op3} {i : Int} (hz : lst2 (uniE c.P) (chkE g) = 0) (h : bgI c g l i) (hi : ¬ i < (g.length : Int)) : bgE c g = 0 ∧ sortO l = bgL c g := by
  obtain ⟨h0, h1, h2, h3⟩ := h
  have ht : g.take i.toNat = g := List.take_of_length_le (by omega)
  rw [ht] at h2 h3
  have hb : bgA c g = true := List.all_eq_true.2 fun o ho => decide_eq_true (h3 o ho)
  have hE : bgE c g = 0 := by unfold bgE; rw [if_pos hz, if_pos hb]
  refine ⟨hE, ?_⟩
  unfold bgL; rw [if_pos hE, h2]
theorem bgE_zero {c : Chg} {g : List Op3} (h : bgE c g = 0) : uniE c.P = 0 ∧ chkE g = 0 ∧ bgL c g = insO (g.map (tol c)) ∧ ∀ o ∈ g, bopE c o = 0 ∧ bopO c o = tol c o ∧ Frm (tol c o) := by
  have h' := h
  unfold bgE at h
  split at h
  · rename_i hz
    split at h
    · rename_i hb
      obtain ⟨e1, e2⟩ := lst2_zero hz
      refine ⟨e1, e2, by unfold bgL; rw [if_pos h']; rfl, fun o ho => ?_⟩
      have hm := of_decide_eq_true (List.all_eq_true.1 hb _ ho)
      have hf := (chk_grp e2).1 o ho
      have : bopE c o = 0 := by
        unfold bopE
        rw [e1, errO_ok.2 hf, if_pos (by rfl)]; exact hm
      exact ⟨this, (bop_frm this).2.2, (bop_frm this).2.1⟩
    · exact absurd h (by decide)
  · rename_i hz; exact absurd h hz

theorem grp_pw {g : List Op3} (hg : chkE g = 0) : g.Pairwise fun a b => cmpO a b < 0 := by
  have h' := stB_iff.1 (grpB_iff.1 (chk_zero hg).2).1
  rw [List.pairwise_iff_getElem]
  intro i j hi hj hij
  have := stP_lt h' hij hj
  simpa [List.getD, hi, hj] using this
theorem isG_grp {g : List Op3} (hg : chkE g = 0) : IsG g g := by
  obtain ⟨hF, hnd, ho, hc⟩ := chk_grp hg
  refine ⟨hnd, chk_len hg, hF, (grp_pw hg).imp fun h => Int.le_of_lt h, fun x => ⟨Gen.mem hF, fun h => ?_⟩⟩
  induction h with
  | one => exact ho
  | mul h1 _ ih => exact hc _ h1 _ ih
/-! ### A told group is a group; told back it is the old one -/
theorem op_T (c : Chg) (h : inT c.O = true) : inT c.op.T = true := h
theorem canc {c b : Op3} (hcb : mulO c b = oneO) {x y : Op3} (hx : inT x.T = true) (hy : inT y.T = true) (h : mulO x c = mulO y c) : x = y := by
  have := congrArg (fun z => mulO z b) h
  simp only [mulO_assoc, hcb] at this
  rwa [(mulO_one hx).1, (mulO_one hy).1] at this
theorem tol_inT (c : Chg) (o : Op3) : inT (tol c o).T = true := inT_mod _
theorem mul_inT (a b : Op3) : inT (mulO a b).T = true := inT_mod _
theorem tol_hom {c : Chg} (hb : bakE c = 0) {a b : Op3} (ha : Frm a) (hB : Frm b) (hab : Frm (mulO a b)) : tol c (mulO a b) = mulO (tol c a) (tol c b) := by
  obtain ⟨hu, _, _, h4, _⟩ := bak_ok hb
  refine canc h4 (tol_inT _ _) (mul_inT _ _) ?_
  have e1 : mulO (tol c (mulO a b)) c.op = mulO c.op (mulO a b) := tol_mul ⟨hu, errO_ok.2 hab⟩
  have e2 : mulO (tol c a) c.op = mulO c.op a := tol_mul ⟨hu, errO_ok.2 ha⟩
  have e3 : mulO (tol c b) c.op = mulO c.op b := tol_mul ⟨hu, errO_ok.2 hB⟩
  rw [e1, mulO_assoc, e3, ← mulO_assoc (tol c a), e2, mulO_assoc]
theorem oneO_inT : inT oneO.T = true := rfl
theorem tol_one {c : Chg} (hb : bakE c = 0) : tol c oneO = oneO := by
  obtain ⟨hu, _, _, h4, _⟩ := bak_ok hb
  refine canc h4 (tol_inT _ _) oneO_inT ?_
  have e1 : mulO (tol c oneO) c.op = mulO c.op oneO := tol_mul ⟨hu, oneO_frm.err⟩
  rw [e1]
  refine Op3.ext' ?_ ?_
  · show mulZ c.P (oneZ 1) = mulZ (oneZ 1) c.P
    rw [(mulZ_one _).1, (mulZ_one _).2]
  · show modV 24 (addV (appZ c.P (V3.mk 0 0 0)) c.O) = modV 24 (addV (appZ (oneZ 1) c.O) (V3.mk 0 0 0))
    rw [app_one, addV_comm c.O]
    congr 2
    simp [appZ]
theorem tol_back {c : Chg} (hb : bakE c = 0) {o : Op3} (h : bopE c o = 0) : bopE (bakC c) (tol c o) = 0 ∧ tol (bakC c) (tol c o) = o := by
  obtain ⟨h1, h2⟩ := bak_op hb h
  have e := (bop_frm h).2.2
  rw [e] at h1 h2
  exact ⟨h1, ((bop_frm h1).2.2).symm.trans h2⟩
theorem told_isG {c : Chg} {g : List Op3} (hb : bakE c = 0) (h : bgE c g = 0) : IsG (bgL c g) (bgL c g) := by
  obtain ⟨hu, hg, hl, hA⟩ := bgE_zero h
  obtain ⟨gF, gN, g1, gM⟩ := chk_grp hg
  have hp : (bgL c g).Perm (g.map (tol c)) := by rw [hl]; exact insO_perm _
  have hfr : ∀ o ∈ bgL c g, Frm o := fun o ho => by
    obtain ⟨x, hx, rfl⟩ := List.mem_map.1 (hp.mem_iff.1 ho)
    exact (hA x hx).2.2
  refine ⟨hp.nodup_iff.2 ?_, ?_, hfr, by rw [hl]; exact insO_ord _, fun x => ⟨fun hx => Gen.mem hfr hx, fun hx => ?_⟩⟩
  · refine List.pairwise_map.2 (List.Pairwise.imp_of_mem ?_ gN)
    intro x y hx hy hne e
    have h1 := (tol_back hb (hA x hx).1).2
    have h2 := (tol_back hb (hA y hy).1).2
    rw [e] at h1
    exact hne (h1.symm.trans h2)
  · rw [hp.length_eq, List.length_map]; exact chk_len hg
  · induction hx with
    | one => exact hp.mem_iff.2 (List.mem_map.2 ⟨oneO, g1, tol_one hb⟩)
    | mul ho _ ih =>
      obtain ⟨x, hx, rfl⟩ := List.mem_map.1 (hp.mem_iff.1 ho)
      obtain ⟨y, hy, rfl⟩ := List.mem_map.1 (hp.mem_iff.1 ih)
      refine hp.mem_iff.2 (List.mem_map.2 ⟨mulO x y, gM x hx y hy, ?_⟩)
      exact tol_hom hb (gF x hx) (gF y hy) (gF _ (gM x hx y hy))
theorem told_back {c : Chg} {g : List Op3} (hb : bakE c = 0) (h : bgE c g = 0) : chkE (bgL c g) = 0 ∧ bgE (bakC c) (bgL c g) = 0 ∧ bgL (bakC c) (bgL c g) = g ∧ (bgL c g).length = g.length := by
  have hc := isG_chk (told_isG hb h)
  obtain ⟨hu, hg, hl, hA⟩ := bgE_zero h
  have hp : (bgL c g).Perm (g.map (tol c)) := by rw [hl]; exact insO_perm _
  have hb2 := (bak_ok hb).2.1
  have hE : bgE (bakC c) (bgL c g) = 0 := by
    unfold bgE
    rw [hb2, hc, if_pos (by rfl), if_pos]
    refine List.all_eq_true.2 fun o ho => decide_eq_true ?_
    obtain ⟨x, hx, rfl⟩ := List.mem_map.1 (hp.mem_iff.1 ho)
    rw [(tol_back hb (hA x hx).1).2]
    exact errM_B (by decide) ((chk_grp hg).1 x hx).B
  refine ⟨hc, hE, ?_, by rw [hp.length_eq, List.length_map]⟩
  rw [(bgE_zero hE).2.2.1]
  refine ord_unique (insO_ord _) (isG_grp hg).ord ((insO_perm _).trans ((hp.map _).trans ?_))
  rw [List.map_map]
  have : g.map (tol (bakC c) ∘ tol c) = g.map id := List.map_congr_left fun x hx => (tol_back hb (hA x hx).1).2
  rw [this, List.map_id]

/-! ### Maps of seeds have small entries -/
def preG (m : M3) (G : M3) : Prop := mulZ (traZ m) (mulZ G m) = G
def hexG : M3 := M3.mk 2 (-1) 0 (-1) 2 0 0 0 2
theorem tra_mul (a b : M3) : traZ (mulZ a b) = mulZ (traZ b) (traZ a) := by
  simp only [traZ, mulZ, M3.mk.injEq]; grind
theorem pre_mul {a b G : M3} (ha : preG a G) (hb : preG b G) : preG (mulZ a b) G := by
  unfold preG at *
  rw [tra_mul, mulZ_assoc, ← mulZ_assoc G a b, ← mulZ_assoc (traZ a), ha, hb]
theorem pre_one (G : M3) : preG (oneZ 1) G := by
  unfold preG
  have : traZ (oneZ 1) = oneZ 1 := rfl
  rw [this, (mulZ_one _).1, (mulZ_one _).2]
theorem gen_pre {l : List Op3} {G : M3} (h : ∀ o ∈ l, preG o.R G) {x : Op3} (hx : Gen l x) : preG x.R G := by
  induction hx with
  | one => exact pre_one G
  | mul ho _ ih => exact pre_mul (h _ ho) ih
theorem sq_small {x : Int} (h : x * x ≤ 1) : -1 ≤ x ∧ x ≤ 1 := by
  constructor
  · by_cases h1 : -1 ≤ x
    · exact h1
    · have := Int.mul_le_mul_of_nonneg_left (show 2 ≤ -x by omega) (show 0 ≤ -x by omega)
      have : -x * -x = x * x := by grind
      omega
  · by_cases h1 : x ≤ 1
    · exact h1
    · have := Int.mul_le_mul_of_nonneg_left (show 2 ≤ x by omega) (show 0 ≤ x by omega)
      omega
theorem sqn (x : Int) : 0 ≤ x * x := by
  rcases Int.le_total 0 x with h | h
  · exact Int.mul_nonneg h h
  · have := Int.mul_nonneg (show 0 ≤ -x by omega) (show 0 ≤ -x by omega)
    have e : -x * -x = x * x := by grind
    omega
theorem col1 {x y z : Int} (h : x * x + y * y + z * z = 1) : (-1 ≤ x ∧ x ≤ 1) ∧ (-1 ≤ y ∧ y ≤ 1) ∧ (-1 ≤ z ∧ z ≤ 1) := by
  have h1 := sqn x
  have h2 := sqn y
  have h3 := sqn z
  exact ⟨sq_small (by omega), sq_small (by omega), sq_small (by omega)⟩
theorem col2 {x y z : Int} (h : x * (2 * x - y) + y * (2 * y - x) + z * (2 * z) = 2) : (-1 ≤ x ∧ x ≤ 1) ∧ (-1 ≤ y ∧ y ≤ 1) ∧ (-1 ≤ z ∧ z ≤ 1) := by
  have e : x * x + y * y + (x - y) * (x - y) + 2 * (z * z) = 2 := by grind
  have e1 : 3 * (x * x) + (2 * y - x) * (2 * y - x) + 4 * (z * z) = 4 := by grind
  have e2 : 3 * (y * y) + (2 * x - y) * (2 * x - y) + 4 * (z * z) = 4 := by grind
  have h1 := sqn x
  have h2 := sqn y
  have h3 := sqn z
  have h5 := sqn (2 * y - x)
  have h6 := sqn (2 * x - y)
  exact ⟨sq_small (by omega), sq_small (by omega), sq_small (by omega)⟩
theorem pre_small {m : M3} (h : preG m (oneZ 1) ∨ preG m hexG) : Bnd 1 m := by
  rcases h with h | h
  · have h1 : m.xx * m.xx + m.yx * m.yx + m.zx * m.zx = 1 := by have := congrArg M3.xx h; simp only [traZ, mulZ, oneZ] at this; grind
    have h2 : m.xy * m.xy + m.yy * m.yy + m.zy * m.zy = 1 := by have := congrArg M3.yy h; simp only [traZ, mulZ, oneZ] at this; grind
    have h3 : m.xz * m.xz + m.yz * m.yz + m.zz * m.zz = 1 := by have := congrArg M3.zz h; simp only [traZ, mulZ, oneZ] at this; grind
    obtain ⟨a1, a2, a3⟩ := col1 h1
    obtain ⟨b1, b2, b3⟩ := col1 h2
    obtain ⟨c1, c2, c3⟩ := col1 h3
    exact ⟨a1, b1, c1, a2, b2, c2, a3, b3, c3⟩
  · have h1 : m.xx * (2 * m.xx - m.yx) + m.yx * (2 * m.yx - m.xx) + m.zx * (2 * m.zx) = 2 := by have := congrArg M3.xx h; simp only [traZ, mulZ, hexG] at this; grind
    have h2 : m.xy * (2 * m.xy - m.yy) + m.yy * (2 * m.yy - m.xy) + m.zy * (2 * m.zy) = 2 := by have := congrArg M3.yy h; simp only [traZ, mulZ, hexG] at this; grind
    have h3 : m.xz * (2 * m.xz - m.yz) + m.yz * (2 * m.yz - m.xz) + m.zz * (2 * m.zz) = 2 := by have := congrArg M3.zz h; simp only [traZ, mulZ, hexG] at this; grind
    obtain ⟨a1, a2, a3⟩ := col2 h1
    obtain ⟨b1, b2, b3⟩ := col2 h2
    obtain ⟨c1, c2, c3⟩ := col2 h3
    exact ⟨a1, b1, c1, a2, b2, c2, a3, b3, c3⟩
instance : DecidableEq M3 := fun a b => decidable_of_iff (a.xx = b.xx ∧ a.xy = b.xy ∧ a.xz = b.xz ∧ a.yx = b.yx ∧ a.yy = b.yy ∧ a.yz = b.yz ∧ a.zx = b.zx ∧ a.zy = b.zy ∧ a.zz = b.zz) (by cases a; cases b; simp)
theorem sgn_mod (k : Int) : sgnM k = sgnM ((k % 48).toNat : Int) := by
  have h : (((k % 48).toNat : Nat) : Int) = k % 48 := by omega
  unfold sgnM
  rw [h, show (k % 48) % 48 = k % 48 by omega]
theorem six_mod (k : Int) : sixM k = sixM ((k % 24).toNat : Int) := by
  have h : (((k % 24).toNat : Nat) : Int) = k % 24 := by omega
  unfold sixM
  rw [h, show (k % 24) % 6 = k % 6 by omega, show (k % 24) / 6 % 2 = k / 6 % 2 by omega, show (k % 24) / 12 % 2 = k / 12 % 2 by omega]
theorem sgn_pre_tab : ((List.range 48).all fun k => decide (mulZ (traZ (sgnM k)) (mulZ (oneZ 1) (sgnM k)) = oneZ 1)) = true := by decide +kernel
theorem six_pre_tab : ((List.range 24).all fun k => decide (mulZ (traZ (sixM k)) (mulZ hexG (sixM k)) = hexG)) = true := by decide +kernel
theorem sgn_pre (k : Int) : preG (sgnM k) (oneZ 1) := by
  rw [sgn_mod]
  unfold preG
  exact of_decide_eq_true ((List.all_eq_true.1 sgn_pre_tab) (k % 48).toNat (List.mem_range.2 (by omega)))
theorem six_pre (k : Int) : preG (sixM k) hexG := by
  rw [six_mod]
  unfold preG
  exact of_decide_eq_true ((List.all_eq_true.1 six_pre_tab) (k % 24).toNat (List.mem_range.2 (by omega)))
theorem sedL_pre (l : List Sd) : (∀ o ∈ sedL l, preG o.R (oneZ 1)) ∨ ∀ o ∈ sedL l, preG o.R hexG := by
  unfold sedL
  cases hh : (l.getD 0 (Sd.mk false 0 0 0 0 0)).Hex with
  | false =>
    refine .inl fun o ho => ?_
    obtain ⟨s, _, rfl⟩ := List.mem_map.1 ho
    exact sgn_pre s.K
  | true =>
    refine .inr fun o ho => ?_
    obtain ⟨s, _, rfl⟩ := List.mem_map.1 ho
    exact six_pre s.K
theorem clo_small {l : List Sd} (h : cloE (sedL l) = 0) {o : Op3} (ho : o ∈ cloL (sedL l)) : Bnd 1 o.R := by
  have hG := ((clo_isG h).mem o).1 ho
  rcases sedL_pre l with h | h
  · exact pre_small (.inl (gen_pre h hG))
  · exact pre_small (.inr (gen_pre h hG))

/-! ### The changes of WholeBases -/
def shrM : M3 := M3.mk 1 1 0 0 1 0 0 0 1
def wbU (s : Sd) : Chg := Chg.mk (sgnM s.K) (sedO (Sd.mk false s.K s.t0 s.t1 s.t2 s.Step)).T
def wbV (s : Sd) : Chg := Chg.mk shrM (sedO (Sd.mk false s.K s.t0 s.t1 s.t2 s.Step)).T
def wbW (a b : Sd) : Chg := behC (wbU a) (wbV b)
def bnd1B (m : M3) : Bool := inE 1 m.xx && inE 1 m.xy && inE 1 m.xz && inE 1 m.yx && inE 1 m.yy && inE 1 m.yz && inE 1 m.zx && inE 1 m.zy && inE 1 m.zz
theorem bnd1_B {m : M3} (h : bnd1B m = true) : Bnd 1 m := by
  simp only [bnd1B, inE, Bool.and_eq_true, decide_eq_true_eq] at h
  obtain ⟨⟨⟨⟨⟨⟨⟨⟨h1, h2⟩, h3⟩, h4⟩, h5⟩, h6⟩, h7⟩, h8⟩, h9⟩ := h
  exact ⟨h1, h2, h3, h4, h5, h6, h7, h8, h9⟩
theorem wb_tab : ((List.range 48).all fun k => (decide (lst2 (uniE (sgnM k)) (uniE shrM) = 0) && decide (errM (wM (mulZ (sgnM k) shrM)) = 0)) && (decide (uniE (wM (mulZ (sgnM k) shrM)) = 0) && (bnd1B (wM (mulZ (sgnM k) shrM)) && bnd1B (invW (wM (mulZ (sgnM k) shrM)))))) = true := by decide +kernel
theorem wb_all (k : Int) : (lst2 (uniE (sgnM k)) (uniE shrM) = 0 ∧ errM (wM (mulZ (sgnM k) shrM)) = 0) ∧ uniE (wM (mulZ (sgnM k) shrM)) = 0 ∧ Bnd 1 (wM (mulZ (sgnM k) shrM)) ∧ Bnd 1 (invW (wM (mulZ (sgnM k) shrM))) := by
  rw [sgn_mod]
  have := (List.all_eq_true.1 wb_tab) (k % 48).toNat (List.mem_range.2 (by omega))
  simp only [Bool.and_eq_true, decide_eq_true_eq] at this
  exact ⟨this.1, this.2.1, bnd1_B this.2.2.1, bnd1_B this.2.2.2⟩
theorem wb_beh (a b : Sd) : behE (wbU a) (wbV b) = 0 := by
  obtain ⟨⟨h1, h2⟩, _⟩ := wb_all a.K
  unfold behE
  exact (if_pos h1).trans h2
theorem wb_bak (a b : Sd) : bakE (wbW a b) = 0 := by
  obtain ⟨_, h1, _, h3⟩ := wb_all a.K
  unfold bakE
  exact (if_pos h1).trans (errM_B (by decide) h3)
theorem wb_uni (a b : Sd) : uniE (wbW a b).P = 0 := (wb_all a.K).2.1
theorem wb_ne (a b : Sd) : ¬ (wbW a b).P = M3.mk 0 0 0 0 0 0 0 0 0 := fun h => by
  have := wb_uni a b
  rw [h] at this
  exact absurd this (by decide)
theorem wb_grp (a b : Sd) {l : List Sd} (h : cloE (sedL l) = 0) : bgE (wbW a b) (cloL (sedL l)) = 0 := by
  obtain ⟨_, h1, h2, h3⟩ := wb_all a.K
  have hc := clo_chk h
  unfold bgE
  rw [wb_uni a b, hc, if_pos (by rfl), if_pos]
  refine List.all_eq_true.2 fun o ho => decide_eq_true ?_
  have hf := (chk_grp hc).1 o ho
  show errM (tolW (wbW a b) (invW (wbW a b).P) o).R = 0
  have b1 := mulZ_B (show Bnd 1 (wbW a b).P from h2) (clo_small h ho)
  have b2 := mulZ_B b1 (show Bnd 1 (invW (wbW a b).P) from h3)
  show errM (wM (mulZ (wM (mulZ (wbW a b).P o.R)) (invW (wbW a b).P))) = 0
  rw [wM_id (by decide) b1, wM_id (by decide) b2]
  exact errM_B (by decide) b2
theorem wb_goes (a b : Sd) {l : List Sd} (h : cloE (sedL l) = 0) {o : Op3} (ho : o ∈ cloL (sedL l)) {p : Pt} (hf : frmP p = true) :
    bopE (wbW a b) o = 0 ∧ appE o p = 0 ∧ pntE (wbW a b) (appP o p) = 0 ∧ appE (bopO (wbW a b) o) (pntP (wbW a b) p) = 0 ∧ appP (bopO (wbW a b) o) (pntP (wbW a b) p) = pntP (wbW a b) (appP o p) := by
  have h1 := ((bgE_zero (wb_grp a b h)).2.2.2 o ho).1
  have hfo := (chk_grp (clo_chk h)).1 o ho
  have h2 : appE o p = 0 := by unfold appE; rw [if_pos hf]; exact errO_ok.2 hfo
  have h3 : pntE (wbW a b) p = 0 := pntE_of (wb_uni a b) hf
  obtain ⟨q1, q2, q3, _⟩ := goes h2 h1 h3
  exact ⟨h1, h2, q2, q1, q3⟩

/-! ### The product of an index and a place -/
theorem dot_mod {M a1 a2 a3 x1 x2 x3 y1 y2 y3 : Int} (h1 : x1 % M = y1 % M) (h2 : x2 % M = y2 % M) (h3 : x3 % M = y3 % M) : (a1 * x1 + a2 * x2 + a3 * x3) % M = (a1 * y1 + a2 * y2 + a3 * y3) % M := by
  obtain ⟨s1, e1⟩ := emod_wit h1
  obtain ⟨s2, e2⟩ := emod_wit h2
  obtain ⟨s3, e3⟩ := emod_wit h3
  have : a1 * x1 + a2 * x2 + a3 * x3 = (a1 * y1 + a2 * y2 + a3 * y3) + M * (a1 * s1 + a2 * s2 + a3 * s3) := by rw [e1, e2, e3]; grind
  rw [this, Int.add_mul_emod_self_left]
theorem wb_dot {w : Chg} {k : V3} {p : Pt} (hu : uniE w.P = 0) (hk : okH k = true) (hf : frmP p = true) (hM : p.M = 192) (hz : pntE w (Pt.mk 192 (V3.mk 0 0 0)) = 0) :
    (dotV (idxV w k) (minP (pntP w p) (pntP w (Pt.mk 192 (V3.mk 0 0 0)))).X - dotV k p.X) % 192 = 0 := by
  have hP : pntE w p = 0 := pntE_of hu hf
  obtain ⟨_, _, q1⟩ := pnt_zero hP
  obtain ⟨_, f0, q2⟩ := pnt_zero hz
  have f1 : frmP (pntP w p) = true := by rw [q1]; exact frm_appX _ hf
  have f2 : frmP (pntP w (Pt.mk 192 (V3.mk 0 0 0))) = true := by rw [q2]; exact frm_appX _ f0
  have m1 : (pntP w p).M = 192 := by rw [q1]; exact hM
  have m2 : (pntP w (Pt.mk 192 (V3.mk 0 0 0))).M = 192 := by rw [q2]; rfl
  have hI : idxE w k = 0 := by unfold idxE; rw [if_pos hk]; exact hu
  obtain ⟨_, _, hd⟩ := uniE_ok hu
  obtain ⟨i1, i2⟩ := invW_id hu
  have hh : BndV 512 k := by
    simp only [okH, inE, Bool.and_eq_true, decide_eq_true_eq] at hk
    exact ⟨by omega, by omega, by omega⟩
  have hk' : idxV w k = appZ (traZ (invZ w.P)) k := by
    unfold idxV; rw [if_pos hI, i1]
    exact wV_id (by decide) (appB (k := 2000000) ⟨i2.xx, i2.yx, i2.zx, i2.xy, i2.yy, i2.zy, i2.xz, i2.yz, i2.zz⟩ hh)
  have hdot := dot_inv hd k p.X
  rw [← hk'] at hdot
  have e : (minP (pntP w p) (pntP w (Pt.mk 192 (V3.mk 0 0 0)))).X = modV 192 (addV (pntP w p).X (negV (pntP w (Pt.mk 192 (V3.mk 0 0 0))).X)) := by
    unfold minP; rw [if_pos ⟨f1, f2, m1.trans m2.symm⟩, m1]
  rw [e]
  have key : ∀ y o : Int, (((y + 192 / 24 * o) % 192 + -((0 + 192 / 24 * o) % 192)) % 192) % 192 = y % 192 := fun y o => by omega
  have a1 : (pntP w p).X = modV 192 (addV (appZ w.P p.X) (scaV (192 / 24) w.O)) := by rw [q1]; show modV p.M (addV (appZ w.P p.X) (scaV (p.M / 24) w.O)) = _; rw [hM]
  have a2 : (pntP w (Pt.mk 192 (V3.mk 0 0 0))).X = modV 192 (addV (V3.mk 0 0 0) (scaV (192 / 24) w.O)) := by
    rw [q2]
    have : appZ w.P (V3.mk 0 0 0) = V3.mk 0 0 0 := by simp [appZ]
    show modV 192 (addV (appZ w.P (V3.mk 0 0 0)) (scaV (192 / 24) w.O)) = _
    rw [this]
  rw [a1, a2]
  have := dot_mod (M := 192) (a1 := (idxV w k).x) (a2 := (idxV w k).y) (a3 := (idxV w k).z) (key (appZ w.P p.X).x w.O.x) (key (appZ w.P p.X).y w.O.y) (key (appZ w.P p.X).z w.O.z)
  have e2 : dotV (idxV w k) (modV 192 (addV (modV 192 (addV (appZ w.P p.X) (scaV (192 / 24) w.O))) (negV (modV 192 (addV (V3.mk 0 0 0) (scaV (192 / 24) w.O)))))) % 192 = dotV k p.X % 192 := by
    rw [← hdot]; exact this
  omega
theorem sml_ok (h : V3) : okH (smlV h) = true ∧ BndV 5 (smlV h) := by
  have e : ∀ x : Int, -5 ≤ x % 11 - 5 ∧ x % 11 - 5 ≤ 5 := fun x => by omega
  have h1 := e h.x
  have h2 := e h.y
  have h3 := e h.z
  have hi : ∀ x : Int, -5 ≤ x ∧ x ≤ 5 → inE 512 x = true := fun x hx => by
    unfold inE
    rw [decide_eq_true (show -512 ≤ x by omega), decide_eq_true (show x ≤ 512 by omega)]; rfl
  refine ⟨?_, h1, h2, h3⟩
  unfold okH smlV
  simp only [hi _ h1, hi _ h2, hi _ h3]; rfl
theorem dot_B {k l : Int} {h v : V3} (h1 : BndV k h) (h2 : BndV l v) : -(3 * (k * l)) ≤ dotV h v ∧ dotV h v ≤ 3 * (k * l) := dotB k l h1.1 h1.2.1 h1.2.2 h2.1 h2.2.1 h2.2.2
theorem tra_B {k : Int} {m : M3} (h : Bnd k m) : Bnd k (traZ m) := ⟨h.xx, h.yx, h.zx, h.xy, h.yy, h.zy, h.xz, h.yz, h.zz⟩
theorem pt_B {p : Pt} (hf : frmP p = true) : BndV 192 p.X := (frm_B hf).1
theorem pla_frm (x : V3) : frmP (plaP 192 x) = true ∧ (plaP 192 x).M = 192 ∧ plaE 192 = 0 := by
  have hr : rgtM 192 = true := by decide
  unfold plaP plaE
  rw [if_pos hr, if_pos hr]
  exact ⟨frmP_mod hr _, rfl, rfl⟩
theorem pla_zero : plaP 192 (V3.mk 0 0 0) = Pt.mk 192 (V3.mk 0 0 0) := rfl
theorem minus_ok {w : Chg} {p q : Pt} (hu : uniE w.P = 0) (hp : frmP p = true) (hq : frmP q = true) (hM : p.M = q.M) :
    minE (pntP w p) (pntP w q) = 0 ∧ frmP (minP (pntP w p) (pntP w q)) = true := by
  have e1 := (pnt_zero (pntE_of hu hp)).2.2
  have e2 := (pnt_zero (pntE_of hu hq)).2.2
  have f1 : frmP (pntP w p) = true := by rw [e1]; exact frm_appX _ hp
  have f2 : frmP (pntP w q) = true := by rw [e2]; exact frm_appX _ hq
  have m : (pntP w p).M = (pntP w q).M := by rw [e1, e2]; exact hM
  refine ⟨by unfold minE; rw [if_pos ⟨f1, f2⟩, if_pos m], ?_⟩
  unfold minP
  rw [if_pos ⟨f1, f2, m⟩]
  exact frmP_mod (frmP_rgt f1) _
theorem wb_amo (a b : Sd) (h : V3) {p : Pt} (hf : frmP p = true) (hM : p.M = 192) :
    amo (w64 (w64 (dotV (idxV (wbW a b) (smlV h)) (minP (pntP (wbW a b) p) (pntP (wbW a b) (plaP 192 (V3.mk 0 0 0)))).X) - w64 (dotV (smlV h) p.X))) 192 = 0 := by
  obtain ⟨o1, o2⟩ := sml_ok h
  have hu := wb_uni a b
  have f0 := (pla_frm (V3.mk 0 0 0)).1
  have key := wb_dot hu o1 hf hM (pntE_of hu (by rw [← pla_zero]; exact f0))
  rw [← pla_zero] at key
  have fd := (minus_ok hu hf f0 (by rw [hM]; exact (pla_frm _).2.1.symm)).2
  have hI : idxE (wbW a b) (smlV h) = 0 := by unfold idxE; rw [if_pos o1]; exact hu
  have b1 : BndV 15 (idxV (wbW a b) (smlV h)) := by
    have h1 := appB (tra_B (show Bnd 1 (invW (wbW a b).P) from (wb_all a.K).2.2.2)) o2
    unfold idxV; rw [if_pos hI, wV_id (by decide) h1]
    exact h1
  have d1 := dot_B b1 (pt_B fd)
  have d2 := dot_B o2 (pt_B hf)
  unfold amo
  rw [w64_id (x := dotV (idxV (wbW a b) (smlV h)) _) (by omega) (by omega), w64_id (x := dotV (smlV h) p.X) (by omega) (by omega), w64_id (by omega) (by omega)]
  exact key
theorem wb_ne' (a b : Sd) : ¬ (((decide ((wbW a b).P.xx = 0)) && ((decide ((wbW a b).P.xy = 0)) && ((decide ((wbW a b).P.xz = 0)) && ((decide ((wbW a b).P.yx = 0)) && ((decide ((wbW a b).P.yy = 0)) && ((decide ((wbW a b).P.yz = 0)) && ((decide ((wbW a b).P.zx = 0)) && ((decide ((wbW a b).P.zy = 0)) && ((decide ((wbW a b).P.zz = 0)) && true))))))))) = true) := fun h => by
  simp only [Bool.and_eq_true, decide_eq_true_eq, and_true] at h
  refine wb_ne a b ?_
  generalize (wbW a b).P = m at h
  cases m
  simp only at h
  simp [h]
theorem bw_next {g : List Op3} {i : Int} (h : bwI g i) (hi : i < (g.length : Int)) (hb : g.length * 96 ≤ room) : bwI g (w64 (i + 1)) ∧ (decide (0 ≤ opMu g (w64 (i + 1)))) = true ∧ (decide (opMu g (w64 (i + 1)) < opMu g i)) = true := by
  obtain ⟨h0, h1⟩ := h
  have : w64 (i + 1) = i + 1 := w64_id (by omega) (by unfold room at hb; omega)
  rw [this]
  exact ⟨⟨by omega, by omega⟩, decide_eq_true (by unfold opMu; omega), decide_eq_true (by unfold opMu; omega)⟩
end Go.Fx
