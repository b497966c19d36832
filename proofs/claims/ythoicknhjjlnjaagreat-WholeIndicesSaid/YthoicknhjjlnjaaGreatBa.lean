/-
  Layer 7 (basis) in Lean: what each function gives.
-/
import Derived.Test.YthoicknhjjlnjaaGreatKq
namespace Go.Fx
open Go

def invW (m : M3) : M3 := wM (scaZ (detZ m) (adjZ m))
def lst2 (e f : Int) : Int := if e = 0 then f else if f ≠ 0 ∧ f < e then f else e
def zerC : Chg := Chg.mk (M3.mk 0 0 0 0 0 0 0 0 0) (V3.mk 0 0 0)
def selC (e : Int) (c : Chg) : Chg := if e = 0 then c else zerC
def behE (a b : Chg) : Int := if lst2 (uniE a.P) (uniE b.P) = 0 then errM (wM (mulZ a.P b.P)) else lst2 (uniE a.P) (uniE b.P)
def behC (a b : Chg) : Chg := Chg.mk (wM (mulZ a.P b.P)) (addT (shiT a.P b.O) a.O)
def bakE (c : Chg) : Int := if uniE c.P = 0 then errM (invW c.P) else uniE c.P
def bakC (c : Chg) : Chg := Chg.mk (invW c.P) (negT (shiT (invW c.P) c.O))
def pntE (c : Chg) (p : Pt) : Int := if frmP p = true then uniE c.P else 3
def pntP (c : Chg) (p : Pt) : Pt := if pntE c p = 0 then appX (Op3.mk c.P c.O) p else zerP
def tolW (c : Chg) (q : M3) (o : Op3) : Op3 := Op3.mk (wM (mulZ (wM (mulZ c.P o.R)) q)) (addT (addT (shiT c.P o.T) c.O) (negT (shiT (wM (mulZ (wM (mulZ c.P o.R)) q)) c.O)))
def bopE (c : Chg) (o : Op3) : Int := if lst2 (uniE c.P) (errO o) = 0 then errM (tolW c (invW c.P) o).R else lst2 (uniE c.P) (errO o)
def bopO (c : Chg) (o : Op3) : Op3 := selO (bopE c o) (tolW c (invW c.P) o)
def okH (h : V3) : Bool := inE 512 h.x && inE 512 h.y && inE 512 h.z
def idxE (c : Chg) (h : V3) : Int := if okH h = true then uniE c.P else 1
def idxV (c : Chg) (h : V3) : V3 := if idxE c h = 0 then wV (appZ (traZ (invW c.P)) h) else V3.mk 0 0 0
def metB (m : Met) : Bool := (decide (1 ≤ m.AA) && decide (m.AA ≤ 100000)) && (decide (1 ≤ m.BB) && decide (m.BB ≤ 100000)) && (decide (1 ≤ m.CC) && decide (m.CC ≤ 100000)) && inE 100000 m.BC && inE 100000 m.AC && inE 100000 m.AB
def mtE (m : Met) : Int := if metB m = true then 0 else 1
def metE (c : Chg) (m : Met) : Int := if metB m = true then uniE c.P else 1
def gramZ (m : Met) : M3 := M3.mk m.AA m.AB m.AC m.AB m.BB m.BC m.AC m.BC m.CC
def metO (g : M3) : Met := Met.mk g.xx g.yy g.zz g.yz g.xz g.xy
def turM (m : Met) (q : M3) : Met := metO (wM (mulZ (mulZ (traZ q) (gramZ m)) q))
def metM (c : Chg) (m : Met) : Met := if metE c m = 0 then turM m (invW c.P) else Met.mk 0 0 0 0 0 0
def imgW (m : M3) (v w : V3) (n : Int) : V3 := modV n (wV (addV (wV (appZ m (modV n v))) (modV n w)))
def tolP (c : Chg) (o : Op3) : Prop := uniE c.P = 0 ∧ errO o = 0
def lstS (w e : Int) : Int := if e ≠ 0 ∧ (w = 0 ∨ e < w) then e else w
def lstL (l : List Int) : Int := l.foldl lstS 0
def lsI (l : List Int) (i w : Int) : Prop := 0 ≤ i ∧ i ≤ (l.length : Int) ∧ w = lstL (l.take i.toNat)
def lnMu (l : List Int) (i : Int) : Int := (l.length : Int) - i
def eqC (a b : Chg) : Bool := ((decide (a.P.xx = b.P.xx)) && ((decide (a.P.xy = b.P.xy)) && ((decide (a.P.xz = b.P.xz)) && ((decide (a.P.yx = b.P.yx)) && ((decide (a.P.yy = b.P.yy)) && ((decide (a.P.yz = b.P.yz)) && ((decide (a.P.zx = b.P.zx)) && ((decide (a.P.zy = b.P.zy)) && ((decide (a.P.zz = b.P.zz)) && true))))))))) && ((decide (a.O.x = b.O.x)) && ((decide (a.O.y = b.O.y)) && ((decide (a.O.z = b.O.z)) && true)))

theorem eqC_refl (a : Chg) : eqC a a = true := by simp [eqC]
theorem wM_wM (m : M3) : wM (wM m) = wM m := by simp only [wM, w64_w64]
theorem w3 (a b c : Int) : w64 (a + b + c) = w64 (w64 a + w64 b + w64 c) := by
  rw [w64_add_r (w64 a + w64 b) c, ← w64_add_l (w64 a + w64 b) c, w64_add_l a (w64 b), w64_add_r a b, w64_add_l (a + b) c]
theorem w3l (a b c x y z : Int) : w64 (w64 a * x + w64 b * y + w64 c * z) = w64 (a * x + b * y + c * z) := by
  rw [w3 (w64 a * x), w64_mul_l, w64_mul_l, w64_mul_l, ← w3]
theorem w3r (a b c x y z : Int) : w64 (a * w64 x + b * w64 y + c * w64 z) = w64 (a * x + b * y + c * z) := by
  rw [w3 (a * w64 x), w64_mul_r, w64_mul_r, w64_mul_r, ← w3]
theorem mul_wl (a b : M3) : wM (mulZ (wM a) b) = wM (mulZ a b) := by simp only [wM, mulZ, w3l]
theorem mul_wr (a b : M3) : wM (mulZ a (wM b)) = wM (mulZ a b) := by simp only [wM, mulZ, w3r]
theorem app_wl (a : M3) (v : V3) : wV (appZ (wM a) v) = wV (appZ a v) := by simp only [wM, wV, appZ, w3l]
theorem uniE_034 (m : M3) : uniE m = 0 ∨ uniE m = 3 ∨ uniE m = 4 := errM_34 m
theorem lst_two (e f : Int) : lstL [e, f] = lst2 e f := by
  unfold lstL lst2 lstS
  simp only [List.foldl_cons, List.foldl_nil]
  by_cases h : e = 0
  · subst h; simp; intro h; exact h.symm
  · simp [h]
theorem lst2_zero {e f : Int} (h : lst2 e f = 0) : e = 0 ∧ f = 0 := by
  unfold lst2 at h
  split at h
  · exact ⟨by assumption, h⟩
  · split at h
    · rename_i h1 h2; exact absurd h h2.1
    · rename_i h1 h2; exact absurd h h1
theorem mov1 (a b c x y z : Int) : (0 + Int.tmod a 24 * Int.tmod x 24 + Int.tmod b 24 * Int.tmod y 24 + Int.tmod c 24 * Int.tmod z 24 + 0) % 24 = (a * x + b * y + c * z) % 24 := by
  have h1 := mul24' a x
  have h2 := mul24' b y
  have h3 := mul24' c z
  generalize Int.tmod a 24 * Int.tmod x 24 = p1 at *
  generalize Int.tmod b 24 * Int.tmod y 24 = p2 at *
  generalize Int.tmod c 24 * Int.tmod z 24 = p3 at *
  generalize a * x = q1 at *
  generalize b * y = q2 at *
  generalize c * z = q3 at *
  omega
theorem mulE_left (o : Op3) : mulE oneO o = errO o := by
  have h1 : errO oneO = 0 := oneO_frm.err
  rcases errO_034 o with h | h | h
  · rw [h, mulE_frm oneO_frm (errO_ok.1 h)]
    show errM (mulZ (oneZ 1) o.R) = 0
    rw [(mulZ_one _).1]; exact errM_B (by decide) (errO_ok.1 h).B
  · unfold mulE; rw [errL_two, h1, h]; rfl
  · unfold mulE; rw [errL_two, h1, h]; rfl
theorem invW_id {m : M3} (h : uniE m = 0) : invW m = invZ m ∧ Bnd 2000000 (invZ m) := by
  obtain ⟨hb, _, hd⟩ := uniE_ok h
  have := invZ_B hb hd
  exact ⟨wM_id (by decide) this, this⟩
theorem modV_B {n : Int} (hn : 0 < n) (v : V3) : BndV n (modV n v) := by
  have h1 := Int.emod_nonneg v.x (show n ≠ 0 by omega)
  have h2 := Int.emod_nonneg v.y (show n ≠ 0 by omega)
  have h3 := Int.emod_nonneg v.z (show n ≠ 0 by omega)
  have h4 := Int.emod_lt_of_pos v.x hn
  have h5 := Int.emod_lt_of_pos v.y hn
  have h6 := Int.emod_lt_of_pos v.z hn
  refine ⟨?_, ?_, ?_⟩ <;> simp only [modV] <;> omega
theorem img_id {k n : Int} {m : M3} (hm : Bnd k m) (hk : k ≤ 10000000000000000) (hn : 0 < n) (hn' : n ≤ 192) (v w : V3) : imgW m v w n = modV n (addV (appZ m v) w) := by
  have h1 := appB hm (modV_B hn v)
  have hb : 3 * (k * n) ≤ 3 * (k * 192) ∨ k < 0 := by
    by_cases h : 0 ≤ k
    · left; have := Int.mul_le_mul_of_nonneg_left hn' h; omega
    · right; omega
  have h0 : 0 ≤ k := by have := hm.xx; omega
  have e1 : wV (appZ m (modV n v)) = appZ m (modV n v) := wV_id (by omega) h1
  have e2 : wV (addV (appZ m (modV n v)) (modV n w)) = addV (appZ m (modV n v)) (modV n w) := wV_id (by omega) (addB h1 (modV_B hn w))
  unfold imgW
  rw [e1, e2]
  exact eqV_add (eqV_app m (eqV_mod n v)) (eqV_mod n w)
theorem bak_T {q : M3} (h : Bnd 2000000 q) (O : V3) : modV 24 (wV (negV (wV (appZ q (modV 24 O))))) = negT (shiT q O) := by
  have h1 := appB h (modV_B (n := 24) (by decide) O)
  have e1 : wV (appZ q (modV 24 O)) = appZ q (modV 24 O) := wV_id (by decide) h1
  have h2 : BndV 144000000 (negV (appZ q (modV 24 O))) := by
    obtain ⟨a, b, c⟩ := h1
    refine ⟨?_, ?_, ?_⟩ <;> simp only [negV] <;> omega
  rw [e1, wV_id (by decide) h2]
  show eqV 24 _ _
  exact eqV_neg ((eqV_app q (eqV_mod 24 O)).trans (eqV_mod 24 _).symm)
theorem ls_fin {l : List Int} {i w : Int} (h : lsI l i w) (hi : ¬ i < (l.length : Int)) : (w, ()) = (lstL l, ()) := by
  obtain ⟨h1, h2, h3⟩ := h
  rw [h3, List.take_of_length_le (by omega)]
theorem ls_step {l : List Int} {i w : Int} (hb : l.length * 8 ≤ room) (h : lsI l i w) (hi : i < (l.length : Int)) :
    lsI l (w64 (i + 1)) (lstS w (l.getD i.toNat 0)) ∧ ((decide (0 ≤ lnMu l (w64 (i + 1)))) = true ∧ (decide (lnMu l (w64 (i + 1)) < lnMu l i)) = true) := by
  obtain ⟨h1, h2, h3⟩ := h
  have hr : room ≤ 1000000000000000000 := by decide
  have hw : w64 (i + 1) = i + 1 := w64_id (by omega) (by omega)
  rw [hw]
  refine ⟨⟨by omega, by omega, ?_⟩, decide_eq_true (by unfold lnMu; omega), decide_eq_true (by unfold lnMu; omega)⟩
  have hl : i.toNat < l.length := by omega
  rw [show (i + 1).toNat = i.toNat + 1 by omega, List.take_add_one, h3]
  unfold lstL
  rw [List.foldl_append, List.getD_eq_getElem?_getD, List.getElem?_eq_getElem hl]
  rfl
theorem frm_B {p : Pt} (h : frmP p = true) : BndV 192 p.X ∧ 0 < p.M ∧ p.M ≤ 192 := by
  obtain ⟨h1, h2, h3, h4⟩ := frmP_iff.1 h
  refine ⟨⟨by omega, by omega, by omega⟩, by omega, by omega⟩
theorem pnt_ok {c : Chg} {p : Pt} (hu : uniE c.P = 0) (hf : frmP p = true) : err2 (errM c.P) (errV p.X) = 0 ∧ plaE p.M = 0 ∧ shfE (plaP p.M (wV (appZ c.P p.X))) = 0 ∧
    shfP (plaP p.M (wV (appZ c.P p.X))) c.O = appX (Op3.mk c.P c.O) p := by
  obtain ⟨hb, _, _⟩ := uniE_ok hu
  obtain ⟨hx, m1, m2⟩ := frm_B hf
  have hr := frmP_rgt hf
  have e1 : errM c.P = 0 := errM_B (by decide) hb
  have e2 : errV p.X = 0 := by
    obtain ⟨h1, h2, h3⟩ := hx
    unfold errV; rw [if_pos]
    simp only [okC, inE, Bool.and_eq_true, decide_eq_true_eq]; omega
  have e3 : wV (appZ c.P p.X) = appZ c.P p.X := wV_id (by decide) (appB hb hx)
  have e4 : plaP p.M (appZ c.P p.X) = Pt.mk p.M (modV p.M (appZ c.P p.X)) := by unfold plaP; rw [if_pos hr]
  have e5 : frmP (Pt.mk p.M (modV p.M (appZ c.P p.X))) = true := frmP_mod hr _
  refine ⟨by rw [e1, e2]; rfl, by unfold plaE; rw [if_pos hr], by rw [e3, e4]; unfold shfE; rw [if_pos e5], ?_⟩
  rw [e3, e4]
  unfold shfP
  rw [if_pos e5]
  show Pt.mk p.M (modV p.M (addV (modV p.M (appZ c.P p.X)) (scaV (p.M / 24) c.O))) = Pt.mk p.M (modV p.M (addV (appZ c.P p.X) (scaV (p.M / 24) c.O)))
  congr 1
  exact eqV_add (eqV_mod _ _) (eqV.refl _ _)
theorem doc_pnt {c : Chg} {p : Pt} (hu : uniE c.P = 0) (hf : frmP p = true) :
    imgW c.P p.X (V3.mk (w64 ((modV 24 c.O).x * Int.tdiv p.M 24)) (w64 ((modV 24 c.O).y * Int.tdiv p.M 24)) (w64 ((modV 24 c.O).z * Int.tdiv p.M 24))) p.M = (appX (Op3.mk c.P c.O) p).X := by
  obtain ⟨hb, _, _⟩ := uniE_ok hu
  obtain ⟨hx, m1, m2⟩ := frm_B hf
  have hr := frmP_rgt hf
  have ht : Int.tdiv p.M 24 = p.M / 24 := Int.tdiv_eq_ediv_of_nonneg (by omega)
  have hd : 0 ≤ p.M / 24 ∧ p.M / 24 ≤ 8 := by omega
  have hw : ∀ x : Int, w64 (x % 24 * (p.M / 24)) = p.M / 24 * (x % 24) := fun x => by
    have h1 := Int.emod_nonneg x (show (24 : Int) ≠ 0 by decide)
    have h2 := Int.emod_lt_of_pos x (show (0 : Int) < 24 by decide)
    obtain ⟨h3, h4⟩ := mulB (a := x % 24) (b := p.M / 24) 24 8 (by omega) (by omega) (by omega) (by omega)
    rw [w64_id (by omega) (by omega), Int.mul_comm]
  rw [img_id hb (by decide) m1 m2, ht]
  show modV p.M (addV (appZ c.P p.X) (V3.mk (w64 (c.O.x % 24 * (p.M / 24))) (w64 (c.O.y % 24 * (p.M / 24))) (w64 (c.O.z % 24 * (p.M / 24))))) = modV p.M (addV (appZ c.P p.X) (scaV (p.M / 24) c.O))
  rw [hw, hw, hw]
  exact eqV_add (eqV.refl _ _) (sca24 hr (eqV_mod 24 c.O))
theorem sub24 (a u : Int) : (a % 24 - Int.tmod u 24) % 24 = (a + -u) % 24 := by
  have h := tmod_emod u 24
  omega
theorem tol_T {c : Chg} {o : Op3} (h : tolP c o) {r : M3} (hr : r = wM (mulZ (wM (mulZ c.P o.R)) (invW c.P))) :
    modV 24 (V3.mk (w64 ((imgW c.P o.T c.O 24).x - Int.tmod (wV (appZ r (modV 24 c.O))).x 24)) (w64 ((imgW c.P o.T c.O 24).y - Int.tmod (wV (appZ r (modV 24 c.O))).y 24)) (w64 ((imgW c.P o.T c.O 24).z - Int.tmod (wV (appZ r (modV 24 c.O))).z 24))) =
      addT (addT (shiT c.P o.T) c.O) (negT (shiT r c.O)) := by
  obtain ⟨hu, ho⟩ := h
  obtain ⟨hb, _, _⟩ := uniE_ok hu
  have fo := errO_ok.1 ho
  obtain ⟨i1, i2⟩ := invW_id hu
  have b1 := mulZ_B hb fo.B
  have b2 := mulZ_B b1 i2
  rw [wM_id (by decide) b1, i1, wM_id (by decide) b2] at hr
  subst hr
  have b3 := appB b2 (modV_B (n := 24) (by decide) c.O)
  rw [wV_id (by decide) b3, img_id hb (by decide) (by decide) (by decide)]
  have hs : ∀ a u : Int, w64 (a % 24 - Int.tmod u 24) = a % 24 - Int.tmod u 24 := fun a u => by
    have h1 := Int.emod_nonneg a (show (24 : Int) ≠ 0 by decide)
    have h2 := Int.emod_lt_of_pos a (show (0 : Int) < 24 by decide)
    obtain ⟨h3, h4⟩ : -23 ≤ Int.tmod u 24 ∧ Int.tmod u 24 ≤ 23 := tmod_B (k := 23) (by decide)
    exact w64_id (by omega) (by omega)
  generalize hA : addV (appZ c.P o.T) c.O = A
  generalize mulZ (mulZ c.P o.R) (invZ c.P) = r
  generalize hU : appZ r (modV 24 c.O) = U
  have e1 : eqV 24 (V3.mk (w64 (A.x % 24 - Int.tmod U.x 24)) (w64 (A.y % 24 - Int.tmod U.y 24)) (w64 (A.z % 24 - Int.tmod U.z 24))) (addV A (negV U)) := by
    rw [hs, hs, hs, eqV_iff]
    exact ⟨sub24 _ _, sub24 _ _, sub24 _ _⟩
  refine Eq.trans e1 ?_
  show eqV 24 (addV A (negV U)) (addV (addT (shiT c.P o.T) c.O) (negT (shiT r c.O)))
  refine eqV_add ?_ ?_
  · rw [← hA]; exact (eqV.trans (eqV_mod 24 _) (eqV_add (eqV_mod 24 _) (eqV.refl _ _))).symm
  · rw [← hU]; exact (eqV_neg (eqV_app r (eqV_mod 24 _))).trans ((eqV_mod 24 _).trans (eqV_neg (eqV_mod 24 _))).symm
end Go.Fx
