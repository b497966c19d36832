/-
  The engine, part 16m: a loop's body, round and back.
-/
import Derived.Test.YthljaepanhdmiaaE16L
namespace Go.Fx
open Go RowKit

section
variable {α : Al} {ω : Nat → Option Nat} {B : Nat} {w0 w : World} {a : Act}
theorem ev_tmp {S : St} {t : Nat} {v : SV} (h : S.ev (.tmp t) = v) (hv : v ≠ .any) : t < S.nt ∧ S.get t = v := by
  have h' : (match Nat.blt t S.nt with | true => S.get t | false => SV.any) = v := h
  split at h'
  · rename_i hlt
    exact ⟨by simpa [Nat.blt_eq] using hlt, h'⟩
  · exact absurd h'.symm hv
/-- The places are written with what the state at the body's end holds. -/
theorem write_back {S' S0 : St} {ω' : Nat → Option Nat} (r' : Rel S' α ω' B w0 a w) (hω : ∀ b i, ω' b = some i → i < S0.nx → ω b = some i)
    (h0 : ∀ i r, S0.res i = some r → i < S0.nx) (hnt : S'.nt = S0.nt) (hget : ∀ t b, S0.ev (.tmp t) = .w (.c (.ptr b 0)) → S'.ev (.tmp t) = .w (.c (.ptr b 0))) :
    ∀ {l : List (Place × Sh)} {v v' : HL (shs l)} {Y Y1 X : St}, writeAll S0 Y l v = some Y1 → Y.nt = X.nt → readAll S' l = some v' →
      (∀ b ∈ boxesOf S0 l, ∃ x y, S0.res b = some (.box x) ∧ S'.res b = some (.box y) ∧ x.ty = y.ty) → X.nx = S0.nx → X.nt = S0.nt → Rel X α ω B w0 a w →
      ∃ X1, writeAll S0 X l v' = some X1 ∧ Rel X1 α ω B w0 a w
  | [], v, v', Y, Y1, X, _, _, _, _, _, _, r => ⟨X, rfl, r⟩
  | (pl, s) :: rest, v, v', Y, Y1, X, hY, hYX, hr, hb, hnx, hXnt, r => by
    unfold writeAll at hY
    split at hY
    · rename_i Y' hY'
      unfold readAll at hr
      split at hr
      · rename_i x y hx hy
        cases hr
        have key : ∃ X', writeP S0 X pl s x = some X' ∧ Rel X' α ω B w0 a w ∧ X'.nx = X.nx ∧ X'.nt = X.nt ∧ Y'.nt = X'.nt ∧ ∀ b ∈ boxesOf S0 rest, b ∈ boxesOf S0 ((pl, s) :: rest) := by
          dsimp only at hY' hx
          unfold writeP at hY' ⊢
          cases hp : plainSh s with
          | false => rw [hp] at hY'; cases hY'
          | true =>
            rw [hp] at hY'
            cases pl with
            | tmp t =>
              dsimp only at hY' ⊢
              cases hlt : Nat.blt t Y.nt with
              | false => rw [hlt] at hY'; cases hY'
              | true =>
                rw [hlt] at hY'
                cases hY'
                rw [hYX] at hlt
                have hx' : s.dec S' (S'.ev (.tmp t)) = some x := hx
                obtain ⟨q1, q2⟩ := put_dec (α := α) hp hx' (ev_good r'.t _) (· < X.nx) X.res
                have hne : S'.ev (.tmp t) ≠ .any := fun e => by
                  rw [e] at hx'
                  cases s <;> first | cases hx' | cases hp
                obtain ⟨e1, e2⟩ := ev_tmp rfl hne
                have hd := r'.t.den t e1 (by rw [e2]; exact hne)
                rw [e2] at hd
                refine ⟨_, by rw [hlt], r.reput (v := .w (s.put 0 x).1) q2 fun _ => ?_, rfl, rfl, hYX, fun b hb => hb⟩
                rw [hd]
                exact congrArg some q1.symm
            | cell t =>
              dsimp only at hY' ⊢
              split at hY'
              · rename_i b hev
                split at hY'
                · rename_i bx hbx
                  cases hY'
                  have hbo : boxesOf S0 ((.cell t, s) :: rest) = b :: boxesOf S0 rest := by simp only [boxesOf, hev]
                  obtain ⟨x0, y0, e1, e2, e3⟩ := hb b (by rw [hbo]; exact List.mem_cons_self ..)
                  rw [hbx] at e1; cases e1
                  have hev' := hget t b hev
                  have hx' : s.dec S' (ofCells s y0.cells) = some x := by
                    have : readP S' (.cell t) s = some x := hx
                    simp only [readP, hev', e2] at this
                    exact this
                  have hg' := r'.h.good b y0 e2
                  obtain ⟨q1, q2⟩ := ofCells_den (α := α) hp hx' hg' (· < X.nx) X.res
                  obtain ⟨o1, o2⟩ : RRel α ω' w b (.box y0) := r'.h.rel b _ e2
                  have hbn : b < X.nx := by rw [hnx]; exact h0 b _ hbx
                  have HF := r.h.fill (i := b) (cells := (s.put 0 x).1.cells) (ty := bx.ty) hbn (hω _ _ o1 (by rw [← hnx]; exact hbn)) q2 (by rw [o2, q1, e3])
                  refine ⟨_, rfl, ⟨?_, ?_, r.d⟩, rfl, rfl, hYX, fun b' hb' => by rw [hbo]; exact List.mem_cons_of_mem _ hb'⟩
                  · rw [res_set]; exact HF
                  · rw [res_set]
                    refine r.t.mono (fun _ h => h) (fun j L' hj hr => ?_) (Agree.refl _ _)
                    by_cases e : b = j
                    · simp only [if_pos e] at hr; cases hr
                    · simp only [if_neg e] at hr; exact ⟨L', hr, rfl, rfl⟩
                · cases hY'
              · cases hY'
        obtain ⟨X', k1, k2, k3, k4, k5, k6⟩ := key
        obtain ⟨X1, j1, j2⟩ := write_back r' hω h0 hnt hget hY k5 hy (fun b hb' => hb b (k6 b hb')) (k3.trans hnx) (k4.trans hXnt) k2
        refine ⟨X1, ?_, j2⟩
        show (match writeP S0 X pl s x with | some S' => writeAll S0 S' rest y | none => none) = some X1
        rw [k1]; exact j1
      · cases hr
    · cases hY
theorem boxes_are {S0 : St} : ∀ {l : List (Place × Sh)} {Y Y1 : St} {v : HL (shs l)}, writeAll S0 Y l v = some Y1 → ∀ b ∈ boxesOf S0 l, ∃ x, S0.res b = some (.box x)
  | [], _, _, _, _, b, hb => by cases hb
  | (pl, s) :: rest, Y, Y1, v, h, b, hb => by
    unfold writeAll at h
    split at h
    · rename_i Y' hY'
      have ih := boxes_are h b
      dsimp only at hY'
      unfold writeP at hY'
      split at hY'
      · cases pl with
        | tmp t => exact ih hb
        | cell t =>
          dsimp only at hY'
          split at hY'
          · rename_i b' hev
            split at hY'
            · rename_i bx hbx
              have hbo : boxesOf S0 ((.cell t, s) :: rest) = b' :: boxesOf S0 rest := by simp only [boxesOf, hev]
              rw [hbo] at hb
              rcases List.mem_cons.1 hb with rfl | hb
              · exact ⟨bx, hbx⟩
              · exact ih hb
            · cases hY'
          · cases hY'
      · cases hY'
    · cases h
theorem boxes_after {S0 : St} : ∀ {l : List (Place × Sh)} {Y Y1 : St} {v : HL (shs l)}, writeAll S0 Y l v = some Y1 → ∀ b ∈ boxesOf S0 l, ∃ x, Y1.res b = some (.box x)
  | [], _, _, _, _, b, hb => by cases hb
  | (pl, s) :: rest, Y, Y1, v, h, b, hb => by
    unfold writeAll at h
    split at h
    · rename_i Y' hY'
      have ih := boxes_after h b
      obtain ⟨_, o2⟩ := writeAll_out h
      dsimp only at hY'
      unfold writeP at hY'
      split at hY'
      · cases pl with
        | tmp t => exact ih hb
        | cell t =>
          dsimp only at hY'
          split at hY'
          · rename_i b' hev
            split at hY'
            · rename_i bx hbx
              have hbo : boxesOf S0 ((.cell t, s) :: rest) = b' :: boxesOf S0 rest := by simp only [boxesOf, hev]
              rw [hbo] at hb
              by_cases hr : b ∈ boxesOf S0 rest
              · exact ih hr
              · rcases List.mem_cons.1 hb with rfl | hb
                · rw [o2 b hr]
                  cases hY'
                  rw [res_set]
                  simp only [if_true]
                  exact ⟨_, rfl⟩
                · exact absurd hb hr
            · cases hY'
          · cases hY'
      · cases hY'
    · cases h
/-- From a state that differs from the loop's head in what the loop turns alone: the head again, with other values. -/
theorem back_ok {S S' S1 : St} {α0 : Al} {ω0 ω' : Nat → Option Nat} {a0 : Act} {wS : World} (rS : Rel S α0 ω0 B w0 a0 wS) {ts : List Nat} {l : List (Place × Sh)} {v v' : HL (shs l)}
    (h1 : writeAll (havoc S ts) (havoc S ts) l v = some S1) (hnt : S'.nt = S.nt) (A1 : ∀ t, t ∉ ts → S'.get t = S.get t) (A2 : ∀ i, i < S.nx → i ∉ boxesOf (havoc S ts) l → S'.res i = S.res i)
    (A3 : ∀ b ∈ boxesOf (havoc S ts) l, ∃ x y, S.res b = some (.box x) ∧ S'.res b = some (.box y) ∧ x.ty = y.ty) (hr : readAll S' l = some v') (r' : Rel S' α ω' B w0 a w) :
    ∃ S2 ω2, writeAll (havoc S ts) (havoc S ts) l v' = some S2 ∧ Rel S2 α ω2 B w0 a w := by
  obtain ⟨hv1, hv2, hv3, hv4⟩ := havoc_same S ts
  have hvg := havoc_get S ts
  generalize hS0 : havoc S ts = S0 at *
  let ω2 : Nat → Option Nat := fun b => match ω' b with
    | some i => if i < S.nx then some i else none
    | none => none
  have hω2 : ∀ b i, ω' b = some i → i < S.nx → ω2 b = some i := fun b i h hi => by simp only [ω2, h, if_pos hi]
  have hω2' : ∀ b i, ω2 b = some i → ω' b = some i ∧ i < S.nx := fun b i h => by
    simp only [ω2] at h
    split at h
    · rename_i j e
      split at h
      · rename_i hj; cases h; exact ⟨e, hj⟩
      · cases h
    · cases h
  have hω2n : ∀ b, ω' b = none → ω2 b = none := fun b h => by simp only [ω2, h]
  let X0 : St := { tm := [], tb := S0.get, nt := S.nt, rs := [], rb := fun i => if i < S.nx ∧ i ∉ boxesOf S0 l then S.res i else none, nx := S.nx }
  have hX : ∀ i r, X0.res i = some r → i < S.nx ∧ i ∉ boxesOf S0 l ∧ S.res i = some r := fun i r h => by
    have h' : (if i < S.nx ∧ i ∉ boxesOf S0 l then S.res i else none) = some r := h
    split at h'
    · rename_i hc; exact ⟨hc.1, hc.2, h'⟩
    · cases h'
  have hk : Keep (· < S.nx) S.res X0.res := fun j L' hj hL => by
    obtain ⟨_, _, e⟩ := hX j _ hL
    exact ⟨L', e, rfl, rfl⟩
  have HX : HRel (· < S.nx) X0.res α ω2 B w0 w := by
    refine ⟨r'.h.bel, r'.h.base, fun b i hb => ?_, fun i r hr => (hX i r hr).1, fun i r hr => ?_, fun i b hb => ?_, r'.h.one⟩
    · obtain ⟨e1, e2⟩ := hω2' b i hb
      obtain ⟨q1, q2, _⟩ := r'.h.own b i e1
      exact ⟨q1, q2, e2⟩
    · obtain ⟨e1, e2, e3⟩ := hX i r hr
      have e4 : S'.res i = some r := (A2 i e1 e2).trans e3
      exact (r'.h.rel i r e4).frame (r'.h.dec i r e4) (Agree.refl _ _) (fun b e => r'.h.good i b (by rw [e4, e])) (fun b hb => ⟨hω2 b i hb e1, rfl⟩) (fun b _ hn => ⟨hω2n b hn, rfl⟩)
    · obtain ⟨e1, e2, e3⟩ := hX i _ hb
      exact fun c hc => SC.good_mono (rS.h.good i b e3 c hc) (fun _ h => h) hk
  have TX : TRel (· < S.nx) X0.res α S.nt S0.get a.tmps := by
    refine ⟨by rw [r'.t.size, hnt], fun t ht => ?_, fun t ht hn => ?_⟩
    · rw [hvg]
      split
      · trivial
      · exact SV.good_mono (rS.t.good t ht) (fun _ h => h) hk
    · rw [hvg] at hn ⊢
      split at hn
      · exact absurd rfl hn
      · rename_i hts
        rw [if_neg hts]
        have := r'.t.den t (by rw [hnt]; exact ht) (by rw [A1 t hts]; exact hn)
        rw [A1 t hts] at this
        exact this
  have rX : Rel X0 α ω2 B w0 a w := ⟨HX, TX, r'.d⟩
  obtain ⟨X1, x1, x2⟩ := write_back (S0 := S0) (X := X0) r' (fun b i hb hi => hω2 b i hb (by rw [← hv1]; exact hi)) (fun i r hr => by rw [hv3] at hr; rw [hv1]; exact rS.h.dec i r hr) (by rw [hnt, hv2]) (fun t b hev => by
      obtain ⟨e1, e2⟩ := ev_tmp hev (fun e => by cases e)
      rw [hvg] at e2
      split at e2
      · cases e2
      · rename_i hts
        show (match Nat.blt t S'.nt with | true => S'.get t | false => SV.any) = _
        rw [hnt, ← hv2, A1 t hts, e2]
        rw [show Nat.blt t S0.nt = true by simpa [Nat.blt_eq] using e1]) h1 hv2 hr (fun b hb => by rw [hv3]; exact A3 b hb) hv1.symm hv2.symm rX
  obtain ⟨S2, y1, y2, y3, y4, y5⟩ := writeAll_congr (Y := S0) x1 hv1.symm hv2.symm rfl fun i => by
    by_cases hi : i ∈ boxesOf S0 l
    · exact .inr hi
    · left
      show (if i < S.nx ∧ i ∉ boxesOf S0 l then S.res i else none) = S0.res i
      rw [hv3]
      by_cases hlt : i < S.nx
      · rw [if_pos ⟨hlt, hi⟩]
      · rw [if_neg fun h => hlt h.1]
        cases e : S.res i with
        | none => rfl
        | some r => exact absurd (rS.h.dec i r e) hlt
  exact ⟨S2, ω2, y1, x2.congr y2.symm y3.symm y4.symm y5.symm⟩
theorem readAll_in {S : St} (r : Rel S α ω B w0 a w) : ∀ {l : List (Place × Sh)} {v : HL (shs l)}, readAll S l = some v → inAll (shs l) v
  | [], _, _ => trivial
  | (pl, s) :: rest, v, h => by
    unfold readAll at h
    split at h
    · rename_i x y hx hy
      cases h
      refine ⟨?_, readAll_in r hy⟩
      cases s with
      | int k =>
        cases pl with
        | tmp t =>
          obtain ⟨_, q2, q3⟩ := dec_int (α := α) (show decI k (S.ev (.tmp t)) = some x from hx) (ev_good r.t _)
          exact ⟨q2, q3⟩
        | cell t =>
          have hx' : (match S.ev (.tmp t) with
            | .w (.c (.ptr b 0)) => (match S.res b with | some (.box bx) => decI k (ofCells (.int k) bx.cells) | _ => none)
            | _ => none) = some x := hx
          split at hx'
          · rename_i b hev
            cases hb : S.res b with
            | none => rw [hb] at hx'; cases hx'
            | some rr =>
            rw [hb] at hx'
            cases rr with
            | list _ => cases hx'
            | map _ => cases hx'
            | box bx =>
              have hg := r.h.good b bx hb
              have h2 : decI k (ofCells (.int k) bx.cells) = some x := hx'
              obtain ⟨cs, ty⟩ := bx
              cases cs with
              | nil => cases h2
              | cons c cs =>
                cases cs with
                | nil =>
                  obtain ⟨_, q2, q3⟩ := dec_int (α := α) (R := S.res) (show decI k (.w (.c c)) = some x from h2) (hg c (List.mem_cons_self ..))
                  exact ⟨q2, q3⟩
                | cons _ _ => cases h2
          · cases hx'
      | _ => trivial
    · cases h
end
theorem back_same {S S1 S' : St} {ts bs : List Nat} (ev : Ext S1 S') (h : backOk S S1 S' ts bs = true) :
    (∀ t, t ∉ ts → S'.get t = S1.get t) ∧ (∀ i, i < S1.nx → i ∉ bs → S'.res i = S1.res i) ∧ ∀ b ∈ bs, ∃ x y, S.res b = some (.box x) ∧ S'.res b = some (.box y) ∧ x.ty = y.ty := by
  unfold backOk at h
  rw [Bool.and_eq_true, Bool.and_eq_true] at h
  obtain ⟨⟨h1, h2⟩, h3⟩ := h
  obtain ⟨e1, e2, ⟨lt, e3⟩, ⟨lr, e4⟩⟩ := ev
  rw [e3, List.length_append, Nat.add_sub_cancel] at h1
  rw [e4, List.length_append, Nat.add_sub_cancel] at h2
  have k1 := tmsIn_iff h1
  have k2 := rssIn_iff h2
  refine ⟨fun t ht => ?_, fun i hi hb => ?_, tysIn_iff h3⟩
  · show (match look S'.tm t with | some v => v | none => S'.tb t) = (match look S1.tm t with | some v => v | none => S1.tb t)
    rw [e3, e1, look_append _ _ t fun p hp (e : p.1 = t) => ht (by rw [← e]; exact k1 p hp)]
  · show (match look S'.rs i with | some v => v | none => S'.rb i) = (match look S1.rs i with | some v => v | none => S1.rb i)
    rw [e4, e2, look_append _ _ i fun p hp (e : p.1 = i) => by
      rcases k2 p hp with h | h
      · omega
      · exact hb (by rw [← e]; exact h)]
end Go.Fx
