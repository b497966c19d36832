/-
  The engine, part 16l: loops with an invariant.
-/
import Derived.Test.YthljaepanhdmiaaE16
namespace Go.Fx
open Go RowKit

section
variable {α : Al} {ω : Nat → Option Nat} {B : Nat} {w0 w : World} {a : Act}
theorem Rel.congr {S S' : St} (r : Rel S α ω B w0 a w) (h1 : S'.nx = S.nx) (h2 : S'.nt = S.nt) (h3 : S'.get = S.get) (h4 : S'.res = S.res) : Rel S' α ω B w0 a w := by
  refine ⟨?_, ?_, r.d⟩
  · rw [h1, h4]; exact r.h
  · rw [h1, h2, h3, h4]; exact r.t
theorem Rel.reput {S : St} (r : Rel S α ω B w0 a w) {t : Nat} {v : SV} (hg : v.good (· < S.nx) S.res) (h : v ≠ .any → a.tmps[t]? = some (v.den α)) : Rel (S.put (some t) v) α ω B w0 a w := by
  refine ⟨r.h, ⟨r.t.size, fun u hu => ?_, fun u hu hn => ?_⟩, r.d⟩
  · rw [get_put]
    show SV.good _ _ (if t = u then v else S.get u)
    split
    · exact hg
    · exact r.t.good u hu
  · rw [get_put] at hn ⊢
    by_cases e : t = u
    · subst e
      simp only [if_true] at hn ⊢
      exact h hn
    · simp only [if_neg e] at hn ⊢
      exact r.t.den u hu hn
end

/-! ### Reading and writing places -/
theorem put_dec {D : Nat → Prop} {S : St} {α : Al} {s : Sh} (hp : plainSh s = true) {v : SV} {x : s.ty} (h : s.dec S v = some x) (hg : v.good D S.res) (D' : Nat → Prop) (R : Nat → Option Res) :
    (s.put 0 x).1.den α = v.den α ∧ (s.put 0 x).1.good D' R := by
  cases s with
  | int k =>
    obtain ⟨q1, q2, q3⟩ := dec_int (α := α) (show decI k v = some x from h) hg
    exact ⟨q1.symm, q2, q3⟩
  | bool => exact ⟨(dec_bool (α := α) (show decB v = some x from h)).symm, fun y hy => by cases hy⟩
  | agg f =>
    obtain ⟨q1, q2⟩ := dec_agg (α := α) (show decA f v = some x from h) hg
    refine ⟨?_, sw_good q2⟩
    rw [q1]
    exact congrArg (fun l => Value.agg (List.toArray l)) (sw_den (α := α) f x)
  | list f => cases hp
  | lit k z => cases hp
/-- The values lie in their kinds' ranges. -/
def inAll : (l : List Sh) → HL l → Prop
  | [], _ => True
  | s :: r, x => (match s, x.1 with | .int k, z => inK' k z | _, _ => True) ∧ inAll r x.2
where inK' (k : IntKind) (z : Int) : Prop := kmin k ≤ z ∧ z ≤ kmax k
theorem ble_iff (a b : Int) : ble a b = true ↔ a ≤ b := decide_eq_true_iff
theorem allV_all : ∀ {l : List Sh} {Q : HL l → Prop}, allV l Q → ∀ v, inAll l v → Q v
  | [], _, h, _, _ => h
  | s :: r, Q, h, v, hv => by
    obtain ⟨x, y⟩ := v
    cases s with
    | int k => exact allV_all (h x ((ble_iff _ _).2 hv.1.1) ((ble_iff _ _).2 hv.1.2)) y hv.2
    | bool => exact allV_all (h x) y hv.2
    | agg f => exact allV_all (h x) y hv.2
    | list f => exact allV_all (h x) y hv.2
    | lit k z => exact allV_all (show allV r fun y => Q ((), y) from h) y hv.2
theorem havoc_get (S : St) : ∀ (ts : List Nat) (t : Nat), (havoc S ts).get t = if t ∈ ts then .any else S.get t
  | [], t => by simp [havoc]
  | u :: r, t => by
    have h := havoc_get (S.put (some u) .any) r t
    unfold havoc
    rw [h, get_put]
    by_cases e : u = t
    · subst e; simp
    · by_cases e2 : t ∈ r
      · simp [e2]
      · simp only [if_neg e, if_neg e2, List.mem_cons]
        rw [if_neg (by
          rintro (h | h)
          · exact e h.symm
          · exact e2 h)]
theorem havoc_same (S : St) : ∀ (ts : List Nat), (havoc S ts).nx = S.nx ∧ (havoc S ts).nt = S.nt ∧ (havoc S ts).res = S.res ∧ Ext S (havoc S ts)
  | [] => ⟨rfl, rfl, rfl, Ext.refl S⟩
  | u :: r => by
    obtain ⟨h1, h2, h3, h4⟩ := havoc_same (S.put (some u) .any) r
    exact ⟨h1, h2, h3.trans (put_res S (some u) .any), (Ext.put S (some u) .any).trans h4⟩
theorem writeP_same {S0 S S1 : St} {p : Place} {s : Sh} {x : s.ty} (h : writeP S0 S p s x = some S1) : S1.nx = S.nx ∧ S1.nt = S.nt ∧ Ext S S1 := by
  unfold writeP at h
  split at h
  · split at h
    · split at h
      · cases h; exact ⟨rfl, rfl, Ext.put S _ _⟩
      · cases h
    · split at h
      · split at h
        · cases h; exact ⟨rfl, rfl, Ext.set S _ _⟩
        · cases h
      · cases h
  · cases h
theorem writeAll_same {S0 : St} : ∀ {l : List (Place × Sh)} {S S1 : St} {x : HL (shs l)}, writeAll S0 S l x = some S1 → S1.nx = S.nx ∧ S1.nt = S.nt ∧ Ext S S1
  | [], S, S1, x, h => by cases h; exact ⟨rfl, rfl, Ext.refl S⟩
  | p :: r, S, S1, x, h => by
    unfold writeAll at h
    split at h
    · rename_i S' h'
      obtain ⟨a1, a2, a3⟩ := writeP_same h'
      obtain ⟨b1, b2, b3⟩ := writeAll_same h
      exact ⟨b1.trans a1, b2.trans a2, a3.trans b3⟩
    · cases h
/-- Two states that differ in the places' boxes alone, and are written to, are alike. -/
theorem writeAll_congr {S0 : St} : ∀ {l : List (Place × Sh)} {X Y X1 : St} {x : HL (shs l)}, writeAll S0 X l x = some X1 → X.nx = Y.nx → X.nt = Y.nt → X.get = Y.get → (∀ i, X.res i = Y.res i ∨ i ∈ boxesOf S0 l) →
    ∃ Y1, writeAll S0 Y l x = some Y1 ∧ X1.nx = Y1.nx ∧ X1.nt = Y1.nt ∧ X1.get = Y1.get ∧ X1.res = Y1.res
  | [], X, Y, X1, x, h, h1, h2, h3, h4 => by
    cases h
    refine ⟨Y, rfl, h1, h2, h3, ?_⟩
    funext i
    rcases h4 i with h | h
    · exact h
    · cases h
  | p :: r, X, Y, X1, x, h, h1, h2, h3, h4 => by
    unfold writeAll at h
    split at h
    · rename_i X' h'
      have key : ∃ Y', writeP S0 Y p.1 p.2 x.1 = some Y' ∧ X'.nx = Y'.nx ∧ X'.nt = Y'.nt ∧ X'.get = Y'.get ∧ ∀ i, X'.res i = Y'.res i ∨ i ∈ boxesOf S0 r := by
        obtain ⟨pl, s⟩ := p
        dsimp only at h' h4 ⊢
        unfold writeP at h' ⊢
        cases hp : plainSh s with
        | false => rw [hp] at h'; cases h'
        | true =>
          rw [hp] at h'
          cases pl with
          | tmp t =>
            dsimp only at h' ⊢
            cases hlt : Nat.blt t X.nt with
            | false => rw [hlt] at h'; cases h'
            | true =>
              rw [hlt] at h'
              cases h'
              rw [h2] at hlt
              refine ⟨Y.put (some t) (.w (s.put 0 x.1).1), by rw [hlt], h1, h2, ?_, fun i => ?_⟩
              · rw [get_put, get_put, h3]
              · rcases h4 i with h | h
                · exact .inl ((congrFun (put_res ..) i).trans (h.trans (congrFun (put_res ..) i).symm))
                · exact .inr h
          | cell t =>
            dsimp only at h' ⊢
            split at h'
            · rename_i b hev
              split at h'
              · rename_i bx hb
                cases h'
                refine ⟨_, rfl, h1, h2, h3, fun i => ?_⟩
                rw [res_set, res_set]
                by_cases e : b = i
                · left; simp only [if_pos e]
                · simp only [if_neg e]
                  rcases h4 i with h | h
                  · exact .inl h
                  · have hbo : boxesOf S0 ((.cell t, s) :: r) = b :: boxesOf S0 r := by
                      simp only [boxesOf, hev]
                    rw [hbo] at h
                    rcases List.mem_cons.1 h with h | h
                    · exact absurd h.symm e
                    · exact .inr h
              · cases h'
            · cases h'
      obtain ⟨Y', k1, k2, k3, k4, k5⟩ := key
      obtain ⟨Y1, j1, j2⟩ := writeAll_congr h k2 k3 k4 k5
      refine ⟨Y1, ?_, j2⟩
      unfold writeAll
      rw [k1]; exact j1
    · cases h

/-! ### Round and back -/
theorem look_append {β : Type} : ∀ (l m : List (Nat × β)) (t : Nat), (∀ p ∈ l, p.1 ≠ t) → look (l ++ m) t = look m t
  | [], _, _, _ => rfl
  | (k, v) :: r, m, t, h => by
    rw [List.cons_append, look_cons, if_neg (h (k, v) (List.mem_cons_self ..)), look_append r m t fun p hp => h p (List.mem_cons_of_mem _ hp)]
theorem nmem_iff {d : Nat} : ∀ {l : List Nat}, nmem d l = true → d ∈ l
  | x :: r, h => by
    unfold nmem at h
    rw [Bool.or_eq_true] at h
    rcases h with h | h
    · rw [Nat.eq_of_beq_eq_true h]; exact List.mem_cons_self ..
    · exact List.mem_cons_of_mem _ (nmem_iff h)
theorem tmsIn_iff {ts : List Nat} : ∀ {l m : List (Nat × SV)}, tmsIn ts (l ++ m) l.length = true → ∀ p ∈ l, p.1 ∈ ts
  | q :: r, m, h, p, hp => by
    rw [List.cons_append, List.length_cons] at h
    unfold tmsIn at h
    rw [Bool.and_eq_true] at h
    rcases List.mem_cons.1 hp with rfl | hp
    · exact nmem_iff h.1
    · exact tmsIn_iff h.2 p hp
theorem rssIn_iff {nx : Nat} {bs : List Nat} : ∀ {l m : List (Nat × Option Res)}, rssIn nx bs (l ++ m) l.length = true → ∀ p ∈ l, nx ≤ p.1 ∨ p.1 ∈ bs
  | q :: r, m, h, p, hp => by
    rw [List.cons_append, List.length_cons] at h
    unfold rssIn at h
    rw [Bool.and_eq_true, Bool.or_eq_true] at h
    rcases List.mem_cons.1 hp with rfl | hp
    · rcases h.1 with h | h
      · exact .inl (by simpa using h)
      · exact .inr (nmem_iff h)
    · exact rssIn_iff h.2 p hp
theorem tysIn_iff {S S' : St} : ∀ {bs : List Nat}, tysIn S S' bs = true → ∀ b ∈ bs, ∃ x y, S.res b = some (.box x) ∧ S'.res b = some (.box y) ∧ x.ty = y.ty
  | c :: r, h, b, hb => by
    unfold tysIn at h
    rw [Bool.and_eq_true] at h
    rcases List.mem_cons.1 hb with rfl | hb
    · have h1 := h.1
      split at h1
      · rename_i x y e1 e2
        exact ⟨x, y, e1, e2, Nat.eq_of_beq_eq_true h1⟩
      · cases h1
    · exact tysIn_iff h.2 b hb
theorem writeAll_out {S0 : St} : ∀ {l : List (Place × Sh)} {S S1 : St} {x : HL (shs l)}, writeAll S0 S l x = some S1 → (∀ t, t ∉ slotsOf l → S1.get t = S.get t) ∧ ∀ i, i ∉ boxesOf S0 l → S1.res i = S.res i
  | [], S, S1, x, h => by cases h; exact ⟨fun _ _ => rfl, fun _ _ => rfl⟩
  | (pl, s) :: r, S, S1, x, h => by
    unfold writeAll at h
    split at h
    · rename_i S' h'
      obtain ⟨b1, b2⟩ := writeAll_out h
      dsimp only at h'
      unfold writeP at h'
      split at h'
      · cases pl with
        | tmp t =>
          dsimp only at h'
          split at h'
          · cases h'
            refine ⟨fun u hu => ?_, fun i hi => ?_⟩
            · have hu' : u ∉ t :: slotsOf r := hu
              rw [b1 u fun h => hu' (List.mem_cons_of_mem _ h), get_put]
              simp only
              rw [if_neg fun e => hu' (by rw [e]; exact List.mem_cons_self ..)]
            · rw [b2 i hi]; exact congrFun (put_res ..) i
          · cases h'
        | cell t =>
          dsimp only at h'
          split at h'
          · rename_i b hev
            split at h'
            · cases h'
              have hbo : boxesOf S0 ((.cell t, s) :: r) = b :: boxesOf S0 r := by simp only [boxesOf, hev]
              refine ⟨fun u hu => b1 u hu, fun i hi => ?_⟩
              rw [hbo] at hi
              rw [b2 i fun h => hi (List.mem_cons_of_mem _ h), res_set]
              simp only
              rw [if_neg fun e => hi (by rw [e]; exact List.mem_cons_self ..)]
            · cases h'
          · cases h'
      · cases h'
    · cases h
/-- A box whose cells memory holds. -/
theorem HRel.fill {D : Nat → Prop} {R : Nat → Option Res} {α : Al} {ω : Nat → Option Nat} {B : Nat} {w0 w : World} (H : HRel D R α ω B w0 w) {i : Nat} (hi : D i) (ho : ω (α.blk i) = some i) {cells : List SC} {ty : TypeId}
    (hg : ∀ c ∈ cells, c.good D R) (hw : w.heap[α.blk i]? = some (.cells (cells.map (SC.den α)).toArray ty (0, 0))) :
    HRel D (fun j => if i = j then some (.box ⟨cells, ty⟩) else R j) α ω B w0 w := by
  have hk : Keep D R (fun j => if i = j then some (.box ⟨cells, ty⟩) else R j) := fun j L' hj hr => by
    by_cases e : i = j
    · simp only [e, if_true] at hr; cases hr
    · simp only [if_neg e] at hr; exact ⟨L', hr, rfl, rfl⟩
  refine ⟨H.bel, H.base, H.own, fun j r hr => ?_, fun j r hr => ?_, fun j b' hb' => ?_, H.one⟩
  · by_cases e : i = j
    · subst e; exact hi
    · simp only [if_neg e] at hr; exact H.dec j r hr
  · by_cases e : i = j
    · subst e
      simp only [if_true] at hr; cases hr
      exact ⟨ho, hw⟩
    · simp only [if_neg e] at hr
      exact H.rel j r hr
  · by_cases e : i = j
    · subst e
      simp only [if_true] at hb'; cases hb'
      exact fun c hc => SC.good_mono (hg c hc) (fun _ h => h) hk
    · simp only [if_neg e] at hb'
      exact fun c hc => SC.good_mono (H.good j b' hb' c hc) (fun _ h => h) hk
theorem ofCells_den {S : St} {D : Nat → Prop} {α : Al} {s : Sh} (hp : plainSh s = true) {cs : List SC} {x : s.ty} (h : s.dec S (ofCells s cs) = some x) (hg : ∀ c ∈ cs, c.good D S.res) (D' : Nat → Prop) (R : Nat → Option Res) :
    (s.put 0 x).1.cells.map (SC.den α) = cs.map (SC.den α) ∧ ∀ c ∈ (s.put 0 x).1.cells, c.good D' R := by
  cases s with
  | agg f =>
    obtain ⟨q1, q2⟩ := ofSC_ok (α := α) (show f.ofSC cs = some x from h) hg
    exact ⟨(sw_den f x).trans q1, sw_good q2⟩
  | int k =>
    match cs, h, hg with
    | [c], h, hg =>
      have hgc := hg c (List.mem_cons_self ..)
      obtain ⟨q1, q2⟩ := put_dec (α := α) (s := .int k) hp h (show (SV.w (.c c)).good D S.res from hgc) D' R
      have q1' : (SC.int k ⟨x, kmin k, kmax k⟩).den α = c.den α := q1
      exact ⟨by show [_] = [_]; rw [q1'], fun c' hc' => by rw [List.mem_singleton.1 hc']; exact q2⟩
    | [], h, _ => cases h
    | _ :: _ :: _, h, _ => cases h
  | bool =>
    match cs, h, hg with
    | [c], h, hg =>
      have hgc := hg c (List.mem_cons_self ..)
      obtain ⟨q1, q2⟩ := put_dec (α := α) (s := .bool) hp h (show (SV.w (.c c)).good D S.res from hgc) D' R
      have q1' : (SC.bool x none).den α = c.den α := q1
      exact ⟨by show [_] = [_]; rw [q1'], fun c' hc' => by rw [List.mem_singleton.1 hc']; exact q2⟩
    | [], h, _ => cases h
    | _ :: _ :: _, h, _ => cases h
  | list f => cases hp
  | lit k z => cases hp
end Go.Fx
