/-
  Layer 9 in Lean: orbits.
-/
import Derived.Test.YtolbgdfbdlddaaaSe
import Derived.Test.YtolbgdfbdlddaaaSd
import Derived.Test.YtolbgdfbdlddaaaGm
set_option linter.unusedSimpArgs false
set_option linter.unusedVariables false
set_option linter.unusedSectionVars false
namespace Go.Fx
open Go

def ocE (g : List Op3) (l : List Pt) : Int := if l.all frmP = true then chkE g else if chkE g = 0 ∨ 3 < chkE g then 3 else chkE g
def ocInv (g : List Op3) (l : List Pt) (i e : Int) : Prop := 0 ≤ i ∧ i ≤ (l.length : Int) ∧ e = ocE g (l.take i.toNat)
def imP (g : List Op3) (p : Pt) : List Pt := g.map fun o => appP o p
def imPi (g : List Op3) (p : Pt) (l : List Pt) (i : Int) : Prop := 0 ≤ i ∧ i ≤ (g.length : Int) ∧ l = imP (g.take i.toNat) p
def ofL (g : List Op3) (p : Pt) : List Pt := if ocE g [p] = 0 then unqG ordX (imP g p) else []
/-- The places in l of x. -/
def plcX (l : List Pt) (x : Pt) (n : Nat) : List Int := ((List.range n).filter fun k => decide (l.getD k zerP = x)).map fun k : Nat => (k : Int)
def siL (g : List Op3) (p : Pt) : List Int := if ocE g [p] = 0 then plcX (imP g p) p g.length else []
def siInv (l : List Pt) (x : Pt) (s : List Int) (i : Int) : Prop := 0 ≤ i ∧ i ≤ (l.length : Int) ∧ s = plcX l x i.toNat
def minS (m x : Pt) : Pt := if ordX x m < 0 then x else m
def minX : List Pt → Pt
  | [] => zerP
  | x :: r => r.foldl minS x
def mnInv (l : List Pt) (m : Pt) (i : Int) : Prop := 1 ≤ i ∧ i ≤ (l.length : Int) ∧ m = minX (l.take i.toNat)
def idxX (l : List Pt) (x : Pt) : Int := idxD l x
def idXi (l : List Pt) (x : Pt) (i : Int) : Prop := idP l x i
def lsP (g : List Op3) (p : Pt) : Pt := if ocE g [p] = 0 then minX (imP g p) else zerP
def lsI (g : List Op3) (p : Pt) : Int := if ocE g [p] = 0 then idxX (imP g p) (minX (imP g p)) else 0
def saE (g : List Op3) (p q : Pt) : Int := if ocE g [p, q] = 0 then (if p.M = q.M then 0 else 6) else ocE g [p, q]
def saB (g : List Op3) (p q : Pt) : Bool := if saE g p q = 0 then decide (q ∈ imP g p) else false
def smX (a b : List Pt) : Bool := decide (a = b)
def smXi (a b : List Pt) (i : Int) : Prop := smP a b i
/-- The document's orbit: each place put where it belongs, once. -/
def putX : List Pt → Pt → List Pt
  | [], q => [q]
  | x :: r, q => if cmpV x.X q.X < 0 then x :: putX r q else if x = q then x :: r else q :: x :: r
def dofL (g : List Op3) (p : Pt) : List Pt := (g.map fun o => appX o p).foldl putX []
def dofI (g : List Op3) (p : Pt) (l : List Pt) (i : Int) : Prop := 0 ≤ i ∧ i ≤ (g.length : Int) ∧ l = dofL (g.take i.toNat) p
def doaI (l : List Pt) (q : Pt) (i : Int) : Prop := 0 ≤ i ∧ i ≤ (l.length : Int) ∧ ∀ k, k < i.toNat → cmpV (l.getD k zerP).X q.X < 0
def orP (g : List Op3) (p : Pt) : Prop := (∀ o ∈ g, Frm o) ∧ frmP p = true ∧ g.length ≤ 192

theorem chk_vals (g : List Op3) : chkE g = 0 ∨ chkE g = 2 ∨ chkE g = 3 ∨ chkE g = 4 ∨ chkE g = 5 := by
  have hL := errL_vals g
  unfold chkE gE
  by_cases h1 : 192 < (g.length : Int)
  · simp [h1]
  · rw [if_neg h1]
    by_cases h2 : errL g = 0
    · rw [if_pos h2]
      by_cases h3 : grpB g = true
      · rw [if_pos h3]; exact .inl rfl
      · rw [if_neg h3]; simp
    · rw [if_neg h2]; omega
theorem oc_snoc (g : List Op3) (l : List Pt) (x : Pt) : ocE g (l ++ [x]) = if frmP x = true then ocE g l else if ocE g l = 0 ∨ 3 < ocE g l then 3 else ocE g l := by
  unfold ocE
  rw [List.all_append]
  cases h1 : l.all frmP <;> cases h2 : frmP x <;> simp [h2]
  rcases chk_vals g with k | k | k | k | k <;> rw [k] <;> decide
theorem oc_one {g : List Op3} {p : Pt} (h : ocE g [p] = 0) : frmP p = true ∧ chkE g = 0 := by
  unfold ocE at h
  split at h
  · rename_i h1; exact ⟨by simpa using h1, h⟩
  · split at h
    · cases h
    · rename_i h2; exact absurd (.inl h) h2
theorem oc_of {g : List Op3} {p : Pt} (h1 : frmP p = true) (h2 : chkE g = 0) : ocE g [p] = 0 := by
  unfold ocE; rw [if_pos (by simpa using h1)]; exact h2
theorem oc_two {g : List Op3} {p q : Pt} (h : ocE g [p, q] = 0) : frmP p = true ∧ frmP q = true ∧ chkE g = 0 := by
  unfold ocE at h
  split at h
  · rename_i h1
    simp at h1
    exact ⟨h1.1, h1.2, h⟩
  · split at h
    · cases h
    · rename_i h2; exact absurd (.inl h) h2
theorem oc_P {g : List Op3} {p : Pt} (h : ocE g [p] = 0) : orP g p := by
  obtain ⟨h1, h2⟩ := oc_one h
  exact ⟨(chk_grp h2).1, h1, chk_len h2⟩
theorem appP_frm {o : Op3} {p : Pt} (ho : Frm o) (hp : frmP p = true) : appP o p = appX o p ∧ appE o p = 0 := by
  have : appE o p = 0 := by unfold appE; rw [if_pos hp]; exact errO_ok.2 ho
  exact ⟨by unfold appP; rw [if_pos this], this⟩
theorem imP_eq {g : List Op3} {p : Pt} (h : orP g p) : imP g p = g.map fun o => appX o p := by
  unfold imP
  exact List.map_congr_left fun o ho => (appP_frm (h.1 o ho) h.2.1).1
theorem imP_frm {g : List Op3} {p : Pt} (h : orP g p) : ∀ q ∈ imP g p, frmP q = true ∧ q.M = p.M := fun q hq => by
  rw [imP_eq h, List.mem_map] at hq
  obtain ⟨o, ho, rfl⟩ := hq
  exact ⟨frm_appX o h.2.1, rfl⟩
theorem imP_len (g : List Op3) (p : Pt) : (imP g p).length = g.length := by unfold imP; rw [List.length_map]
theorem imP_get {g : List Op3} {p : Pt} {i : Int} (h0 : 0 ≤ i) (hi : i < (g.length : Int)) : (imP g p).getD i.toNat zerP = appP (g.getD i.toNat zerO) p := by
  unfold imP
  have : i.toNat < g.length := by omega
  simp [List.getD, this]
theorem plcX_snoc (l : List Pt) (x : Pt) (n : Nat) : plcX l x (n + 1) = if l.getD n zerP = x then plcX l x n ++ [(n : Int)] else plcX l x n := by
  unfold plcX
  rw [List.range_succ, List.filter_append, List.map_append]
  split
  · rename_i h
    rw [List.filter_cons_of_pos (by rw [h]; simp)]; rfl
  · rename_i h
    rw [List.filter_cons_of_neg (by simpa using h)]
    simp
theorem plcX_len (l : List Pt) (x : Pt) (n : Nat) : (plcX l x n).length ≤ n := by
  unfold plcX
  rw [List.length_map]
  have := List.length_filter_le (fun k => decide (l.getD k zerP = x)) (List.range n)
  rwa [List.length_range] at this
theorem mn_next {l : List Pt} {m : Pt} {i : Int} (h : mnInv l m i) (hi : i < (l.length : Int)) : mnInv l (minS m (l.getD i.toNat zerP)) (i + 1) := by
  obtain ⟨h1, h2, h3⟩ := h
  refine ⟨by omega, by omega, ?_⟩
  rw [take_succ (by omega) hi zerP]
  match hl : l.take i.toNat with
  | [] =>
    have := congrArg List.length hl
    rw [List.length_take] at this
    simp only [List.length_nil] at this; omega
  | x :: r =>
    rw [hl] at h3
    rw [h3]
    show _ = (r ++ [_]).foldl minS x
    rw [List.foldl_append]; rfl
section
variable {m0 : Int} {l : List Pt}
abbrev okX (m0 : Int) (q : Pt) : Prop := frmP q = true ∧ q.M = m0
theorem fold_min : ∀ {r : List Pt} {x : Pt}, okX m0 x → (∀ q ∈ r, okX m0 q) → (r.foldl minS x ∈ x :: r) ∧ ∀ q ∈ x :: r, ordX (r.foldl minS x) q ≤ 0
  | [], x, hx, _ => ⟨List.mem_cons_self .., fun q hq => by rw [List.mem_singleton.1 hq]; show ordX x x ≤ 0; rw [(toX m0).self hx]; omega⟩
  | y :: r, x, hx, hr => by
    have hy := hr y (List.mem_cons_self ..)
    have hm : okX m0 (minS x y) := by unfold minS; split <;> assumption
    obtain ⟨h1, h2⟩ := fold_min (r := r) hm (fun q hq => hr q (List.mem_cons_of_mem _ hq))
    show (r.foldl minS (minS x y) ∈ x :: y :: r) ∧ ∀ q ∈ x :: y :: r, ordX (r.foldl minS (minS x y)) q ≤ 0
    have hmem : minS x y = x ∨ minS x y = y := by unfold minS; split; exact .inr rfl; exact .inl rfl
    have hfr : okX m0 (r.foldl minS (minS x y)) := by
      rcases List.mem_cons.1 h1 with e | e
      · rw [e]; exact hm
      · exact hr _ (List.mem_cons_of_mem _ e)
    have hle := h2 _ (List.mem_cons_self ..)
    have hx' : ordX (minS x y) x ≤ 0 := by
      unfold minS; split
      · omega
      · rw [(toX m0).self hx]; omega
    have hy' : ordX (minS x y) y ≤ 0 := by
      unfold minS; split
      · rw [(toX m0).self hy]; omega
      · have := (toX m0).anti x y hx hy; have := (toX m0).anti y x hy hx; omega
    refine ⟨?_, fun q hq => ?_⟩
    · rcases List.mem_cons.1 h1 with e | e
      · rw [e]
        rcases hmem with e2 | e2 <;> rw [e2] <;> simp
      · exact List.mem_cons_of_mem _ (List.mem_cons_of_mem _ e)
    · rcases List.mem_cons.1 hq with rfl | hq
      · exact (toX m0).trans _ _ _ hfr hm hx hle hx'
      · rcases List.mem_cons.1 hq with rfl | hq
        · exact (toX m0).trans _ _ _ hfr hm hy hle hy'
        · exact h2 q (List.mem_cons_of_mem _ hq)
theorem minX_ok (hl : ∀ q ∈ l, okX m0 q) (hne : l ≠ []) : minX l ∈ l ∧ ∀ q ∈ l, ordX (minX l) q ≤ 0 := by
  match l, hne with
  | x :: r, _ => exact fold_min (hl x (List.mem_cons_self ..)) fun q hq => hl q (List.mem_cons_of_mem _ hq)
/-- The first of a list strictly in order is the least. -/
theorem min_head {u : List Pt} (hl : ∀ q ∈ l, okX m0 q) (hne : l ≠ []) (hu : stG ordX u) (h : ∀ x, x ∈ u ↔ x ∈ l) : u.getD 0 zerP = minX l ∧ 0 < u.length := by
  obtain ⟨h1, h2⟩ := minX_ok hl hne
  match u, hu, h with
  | [], _, h => cases (h _).2 h1
  | y :: r, hu, h =>
    refine ⟨?_, by simp⟩
    show y = minX l
    rcases List.mem_cons.1 ((h _).2 h1) with e | e
    · exact e.symm
    · have h3 := h2 y ((h y).1 (List.mem_cons_self ..))
      have h4 := (List.pairwise_cons.1 hu).1 _ e
      have h5 := ((toX m0).anti y (minX l) (hl y ((h y).1 (List.mem_cons_self ..))) (hl _ h1)).1 h4
      omega
/-! ### The document's orbit -/
theorem putX_mem : ∀ {l : List Pt} {q x : Pt}, x ∈ putX l q ↔ x = q ∨ x ∈ l
  | [], q, x => by simp [putX]
  | y :: r, q, x => by
    unfold putX
    split
    · rw [List.mem_cons, putX_mem, List.mem_cons]
      constructor
      · rintro (h | h | h)
        · exact .inr (.inl h)
        · exact .inl h
        · exact .inr (.inr h)
      · rintro (h | h | h)
        · exact .inr (.inl h)
        · exact .inl h
        · exact .inr (.inr h)
    · split
      · rename_i e
        rw [e, List.mem_cons]
        constructor
        · exact fun h => h.elim .inl fun h => .inr (.inr h)
        · rintro (h | h | h)
          · exact .inl h
          · exact .inl h
          · exact .inr h
      · rw [List.mem_cons]
theorem putX_st : ∀ {l : List Pt} {q : Pt}, (∀ x ∈ l, okX m0 x) → okX m0 q → stG ordX l → stG ordX (putX l q)
  | [], q, _, _, _ => List.pairwise_singleton _ _
  | y :: r, q, hl, hq, h => by
    have hy := hl y (List.mem_cons_self ..)
    have hr : ∀ x ∈ r, okX m0 x := fun x hx => hl x (List.mem_cons_of_mem _ hx)
    have h' := h
    rw [stG, List.pairwise_cons] at h'
    have eo : ordX y q = cmpV y.X q.X := ordX_of hy.1 hq.1 (hy.2.trans hq.2.symm)
    unfold putX
    split
    · rename_i c
      refine List.pairwise_cons.2 ⟨fun x hx => ?_, putX_st hr hq h'.2⟩
      rcases putX_mem.1 hx with rfl | hx
      · rw [eo]; exact c
      · exact h'.1 x hx
    · rename_i c
      split
      · exact h
      · rename_i hne
        have hlt : ordX q y < 0 := by
          rcases (toX m0).lt hq hy with e | e | e
          · exact e
          · exact absurd e.symm hne
          · rw [eo] at e; exact absurd e c
        refine List.pairwise_cons.2 ⟨fun x hx => ?_, h⟩
        rcases List.mem_cons.1 hx with rfl | hx
        · exact hlt
        · exact (toX m0).ltt hq hy (hr x hx) hlt (Int.le_of_lt (h'.1 x hx))
theorem foldX_ok : ∀ (r : List Pt) {a : List Pt}, (∀ x ∈ r, okX m0 x) → (∀ x ∈ a, okX m0 x) → stG ordX a → stG ordX (r.foldl putX a) ∧ ∀ x, x ∈ r.foldl putX a ↔ x ∈ a ∨ x ∈ r
  | [], a, _, _, h => ⟨h, fun x => by simp⟩
  | q :: r, a, hr, ha, h => by
    have hq := hr q (List.mem_cons_self ..)
    obtain ⟨h1, h2⟩ := foldX_ok r (a := putX a q) (fun x hx => hr x (List.mem_cons_of_mem _ hx)) (fun x hx => by
      rcases putX_mem.1 hx with rfl | hx
      · exact hq
      · exact ha x hx) (putX_st ha hq h)
    refine ⟨h1, fun x => (h2 x).trans ?_⟩
    rw [putX_mem, List.mem_cons]
    constructor
    · rintro ((h | h) | h)
      · exact .inr (.inl h)
      · exact .inl h
      · exact .inr (.inr h)
    · rintro (h | h | h)
      · exact .inl (.inr h)
      · exact .inl (.inl h)
      · exact .inr h
end
theorem dof_ok {g : List Op3} {p : Pt} (h : orP g p) : stG ordX (dofL g p) ∧ ∀ x, x ∈ dofL g p ↔ x ∈ imP g p := by
  have hm : ∀ x ∈ g.map (fun o => appX o p), okX p.M x := by rw [← imP_eq h]; exact imP_frm h
  obtain ⟨h1, h2⟩ := foldX_ok (m0 := p.M) (g.map fun o => appX o p) (a := []) hm (fun x hx => by cases hx) List.Pairwise.nil
  refine ⟨h1, fun x => (h2 x).trans ?_⟩
  rw [imP_eq h]; simp
theorem dof_of {g : List Op3} {p : Pt} (h : ocE g [p] = 0) : dofL g p = ofL g p := by
  have hP := oc_P h
  obtain ⟨h1, h2⟩ := dof_ok hP
  unfold ofL
  rw [if_pos h]
  exact (unqG_eq (toX p.M) (imP_frm hP) h1 fun x => (h2 x).symm).symm
theorem dof_snoc (l : List Op3) (o : Op3) (p : Pt) : dofL (l ++ [o]) p = putX (dofL l p) (appX o p) := by
  unfold dofL; rw [List.map_append, List.foldl_append]; rfl
theorem putX_at : ∀ {l : List Pt} {q : Pt} {n : Nat}, n ≤ l.length → (∀ k, k < n → cmpV (l.getD k zerP).X q.X < 0) → (n < l.length → ¬ cmpV (l.getD n zerP).X q.X < 0) →
    putX l q = if n < l.length ∧ l.getD n zerP = q then l else l.take n ++ [q] ++ l.drop n
  | [], q, n, h, _, _ => by simp at h; subst h; simp [putX]
  | x :: r, q, 0, _, _, h3 => by
    have : ¬ cmpV x.X q.X < 0 := h3 (by simp)
    unfold putX
    rw [if_neg this]
    by_cases e : x = q
    · rw [if_pos e, if_pos ⟨by simp, e⟩]
    · rw [if_neg e, if_neg (fun h => e h.2)]; rfl
  | x :: r, q, n + 1, h1, h2, h3 => by
    have h0 : cmpV x.X q.X < 0 := h2 0 (by omega)
    have ih := putX_at (l := r) (q := q) (n := n) (by simpa using h1) (fun k hk => h2 (k + 1) (by omega)) (fun hk => h3 (by simpa using hk))
    unfold putX
    rw [if_pos h0, ih]
    have e1 : (x :: r).getD (n + 1) zerP = r.getD n zerP := rfl
    rw [e1]
    by_cases c : n < r.length ∧ r.getD n zerP = q
    · rw [if_pos c, if_pos ⟨by simpa using c.1, c.2⟩]
    · rw [if_neg c, if_neg (fun h => c ⟨by simpa using h.1, h.2⟩)]; rfl
theorem dof_len (g : List Op3) (p : Pt) : (dofL g p).length ≤ g.length := by
  unfold dofL
  have key : ∀ (r a : List Pt), (r.foldl putX a).length ≤ a.length + r.length := fun r => by
    induction r with
    | nil => intro a; simp
    | cons q r ih =>
      intro a
      have h1 := ih (putX a q)
      have h2 : ∀ (a : List Pt), (putX a q).length ≤ a.length + 1 := fun a => by
        induction a with
        | nil => simp [putX]
        | cons y s ih2 =>
          unfold putX
          split
          · simp only [List.length_cons]; omega
          · split <;> simp only [List.length_cons] <;> omega
      have := h2 a
      simp only [List.foldl_cons, List.length_cons]
      omega
  have := key (g.map fun o => appX o p) []
  simpa using this
end Go.Fx
