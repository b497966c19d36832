/-
  The engine, part 11: how the state goes with new blocks and stores; slots.
-/
import Derived.Test.YthljaepanhdmiaaE10
namespace Go.Fx
open Go RowKit

theorem look_cons {α : Type} (k : Nat) (v : α) (r : List (Nat × α)) (n : Nat) : look ((k, v) :: r) n = if k = n then some v else look r n := by
  show (match Nat.beq k n with | true => some v | false => look r n) = _
  cases h : Nat.beq k n with
  | true => rw [if_pos (Nat.eq_of_beq_eq_true h)]
  | false => rw [if_neg (Nat.ne_of_beq_eq_false h)]
theorem res_set (S : St) (i : Nat) (r : Option Res) : (S.set i r).res = fun j => if i = j then r else S.res j := by
  funext j
  show (match look ((i, r) :: S.rs) j with | some r => r | none => S.rb j) = _
  rw [look_cons]
  by_cases e : i = j
  · rw [if_pos e, if_pos e]
  · rw [if_neg e, if_neg e]; rfl
theorem get_put (S : St) (d : Nat) (v : SV) : (S.put (some d) v).get = fun t => if d = t then v else S.get t := by
  funext t
  show (match look ((d, v) :: S.tm) t with | some v => v | none => S.tb t) = _
  rw [look_cons]
  by_cases e : d = t
  · rw [if_pos e, if_pos e]
  · rw [if_neg e, if_neg e]; rfl
def Al.setB (α : Al) (n b : Nat) : Al := { α with blk := fun i => if n = i then b else α.blk i }
theorem agree_setB {D : Nat → Prop} (α : Al) (n b : Nat) (h : ¬ D n) : Agree D α (α.setB n b) := fun i hi => by
  refine ⟨?_, rfl⟩
  show α.blk i = if n = i then b else α.blk i
  rw [if_neg (fun e : n = i => h (by rw [e]; exact hi))]

section
variable {D : Nat → Prop} {R : Nat → Option Res} {α : Al} {ω : Nat → Option Nat} {B : Nat} {w0 w : World}
theorem made_size (w : World) (c : Array Value) (t : TypeId) : (World.made w c t).heap.size = w.heap.size + 1 := by simp [World.made]
theorem made_old (w : World) (c : Array Value) (t : TypeId) {b : Nat} (h : b < w.heap.size) : (World.made w c t).heap[b]? = w.heap[b]? := by
  show (w.heap.push _)[b]? = _
  rw [Array.getElem?_push, if_neg (by omega)]
theorem made_new (w : World) (c : Array Value) (t : TypeId) : (World.made w c t).heap[w.heap.size]? = some (.cells c t (0, 0)) := by
  show (w.heap.push _)[w.heap.size]? = _
  rw [Array.getElem?_push, if_pos rfl]
theorem made_below {B : Nat} {w0 w : World} (h : Below B w0 w) (hB : B ≤ w.heap.size) (c : Array Value) (t : TypeId) : Below B w0 (World.made w c t) :=
  h.alloc hB _
/-- A new block of cells. -/
theorem HRel.make (H : HRel D R α ω B w0 w) {n : Nat} (hn : ¬ D n) {cells : List SC} (hg : ∀ c ∈ cells, c.good D R) (ty : TypeId) :
    HRel (fun i => D i ∨ i = n) (fun i => if n = i then some (.box ⟨cells, ty⟩) else R i) (α.setB n w.heap.size) (fun b => if b = w.heap.size then some n else ω b) B w0 (World.made w (cells.map (SC.den α)).toArray ty) := by
  have ha := agree_setB α n w.heap.size hn
  have hk : Keep D R (fun i => if n = i then some (.box ⟨cells, ty⟩) else R i) := fun j L' hj hr => by
    by_cases e : n = j
    · exact absurd (e ▸ hj) hn
    · simp only [if_neg e] at hr; exact ⟨L', hr, rfl, rfl⟩
  refine ⟨made_below H.bel H.base _ _, by rw [made_size]; have := H.base; omega, fun b i hb => ?_, fun i r hr => ?_, fun i r hr => ?_, fun i b hb => ?_, H.one⟩
  · by_cases e : b = w.heap.size
    · simp only [e, if_true] at hb; cases hb
      exact ⟨by rw [e]; exact H.base, by rw [made_size]; omega, .inr rfl⟩
    · simp only [e, if_false] at hb
      obtain ⟨q1, q2, q3⟩ := H.own b i hb
      exact ⟨q1, by rw [made_size]; omega, .inl q3⟩
  · by_cases e : n = i
    · exact .inr e.symm
    · simp only [if_neg e] at hr; exact .inl (H.dec i r hr)
  · by_cases e : n = i
    · subst e
      simp only [if_true] at hr; cases hr
      refine ⟨?_, ?_⟩
      · show (if (α.setB n w.heap.size).blk n = w.heap.size then some n else _) = some n
        simp [Al.setB]
      · show (World.made w _ ty).heap[(α.setB n w.heap.size).blk n]? = _
        rw [show (α.setB n w.heap.size).blk n = w.heap.size by simp [Al.setB], made_new]
        congr 3
        exact List.map_congr_left fun c hc => SC.den_agree (hg c hc) ha
    · simp only [if_neg e] at hr
      refine (H.rel i r hr).frame (H.dec i r hr) ha (fun b e' => H.good i b (by rw [hr, e'])) (fun b hb => ?_) (fun b hb hn' => ?_)
      · have hlt := (H.own b i hb).2.1
        exact ⟨by simp only [if_neg (show b ≠ w.heap.size by omega)]; exact hb, made_old w _ _ hlt⟩
      · exact ⟨by simp only [if_neg (show b ≠ w.heap.size by omega)]; exact hn', made_old w _ _ hb⟩
  · by_cases e : n = i
    · subst e
      simp only [if_true] at hb; cases hb
      exact fun c hc => SC.good_mono (hg c hc) (fun i h => .inl h) hk
    · simp only [if_neg e] at hb
      exact fun c hc => SC.good_mono (H.good i b hb c hc) (fun i h => .inl h) hk
/-- A store into a box. -/
theorem HRel.stored (H : HRel D R α ω B w0 w) {i : Nat} {b : Box} (hi : R i = some (.box b)) {cells : List SC} (hg : ∀ c ∈ cells, c.good D R) {w' : World}
    (hs : w'.heap.size = w.heap.size) (hnew : w'.heap[α.blk i]? = some (.cells (cells.map (SC.den α)).toArray b.ty (0, 0))) (hold : ∀ k, k ≠ α.blk i → w'.heap[k]? = w.heap[k]?)
    (ho : w'.os = w.os) (ht : w'.tape = w.tape) (hout : w'.output = w.output) :
    HRel D (fun j => if i = j then some (.box ⟨cells, b.ty⟩) else R j) α ω B w0 w' := by
  obtain ⟨h1, _⟩ : RRel α ω w i (.box b) := H.rel i _ hi
  have hB := (H.own _ _ h1).1
  have hk : Keep D R (fun j => if i = j then some (.box ⟨cells, b.ty⟩) else R j) := fun j L' hj hr => by
    by_cases e : i = j
    · simp only [e, if_true] at hr; cases hr
    · simp only [if_neg e] at hr; exact ⟨L', hr, rfl, rfl⟩
  refine ⟨H.bel.trans ⟨ho, ht, hout, by omega, fun k hk' => hold k (by omega)⟩, by rw [hs]; exact H.base, fun b' i' hb' => by rw [hs]; exact H.own b' i' hb', fun j r hr => ?_, fun j r hr => ?_, fun j b' hb' => ?_, H.one⟩
  · by_cases e : i = j
    · subst e; exact H.dec _ _ hi
    · simp only [if_neg e] at hr; exact H.dec j r hr
  · by_cases e : i = j
    · subst e
      simp only [if_true] at hr; cases hr
      exact ⟨h1, hnew⟩
    · simp only [if_neg e] at hr
      refine (H.rel j r hr).frame (H.dec j r hr) (Agree.refl D α) (fun b e' => H.good j b (by rw [hr, e'])) (fun b hb => ⟨hb, hold b fun e' => ?_⟩) (fun b hb hn' => ⟨hn', hold b fun e' => ?_⟩)
      · rw [e', h1] at hb; cases hb; exact e rfl
      · rw [e', h1] at hn'; cases hn'
  · by_cases e : i = j
    · subst e
      simp only [if_true] at hb'; cases hb'
      exact fun c hc => SC.good_mono (hg c hc) (fun _ h => h) hk
    · simp only [if_neg e] at hb'
      exact fun c hc => SC.good_mono (H.good j b' hb' c hc) (fun _ h => h) hk
end

/-! ### Slots -/
section
variable {D D' : Nat → Prop} {R R' : Nat → Option Res} {α α' : Al} {nt : Nat} {get : Nat → SV} {tmps : Array Value}
theorem TRel.mono (T : TRel D R α nt get tmps) (hD : ∀ i, D i → D' i) (hk : Keep D R R') (ha : Agree D α α') : TRel D' R' α' nt get tmps :=
  ⟨T.size, fun t ht => SV.good_mono (T.good t ht) hD hk, fun t ht hn => by rw [T.den t ht hn, SV.den_agree (T.good t ht) ha]⟩
theorem TRel.put (T : TRel D R α nt get tmps) {v : SV} (hv : v.good D R) (d : Nat) {x : Value} (hx : v ≠ .any → x = v.den α) : TRel D R α nt (fun t => if d = t then v else get t) (tmps.setIfInBounds d x) := by
  refine ⟨by simp [T.size], fun t ht => ?_, fun t ht hn => ?_⟩
  · split
    · exact hv
    · exact T.good t ht
  · by_cases e : d = t
    · subst e
      simp only [if_true] at hn ⊢
      rw [Array.getElem?_setIfInBounds_self_of_lt (by rw [T.size]; exact ht), hx hn]
    · simp only [if_neg e] at hn ⊢
      rw [Array.getElem?_setIfInBounds_ne e]
      exact T.den t ht hn
end

/-! ### States -/
structure Rel (S : St) (α : Al) (ω : Nat → Option Nat) (B : Nat) (w0 : World) (a : Act) (w : World) : Prop where
  h : HRel (· < S.nx) S.res α ω B w0 w
  t : TRel (· < S.nx) S.res α S.nt S.get a.tmps
  d : a.defers = []
/-- What a state has written stands ahead of what it had. -/
structure Ext (S S' : St) : Prop where
  tb : S'.tb = S.tb
  rb : S'.rb = S.rb
  tm : ∃ l, S'.tm = l ++ S.tm
  rs : ∃ l, S'.rs = l ++ S.rs
theorem Ext.refl (S : St) : Ext S S := ⟨rfl, rfl, ⟨[], rfl⟩, ⟨[], rfl⟩⟩
theorem Ext.trans {S S' S'' : St} (h : Ext S S') (h' : Ext S' S'') : Ext S S'' := by
  obtain ⟨a1, a2, ⟨l, a3⟩, ⟨m, a4⟩⟩ := h
  obtain ⟨b1, b2, ⟨l', b3⟩, ⟨m', b4⟩⟩ := h'
  exact ⟨b1.trans a1, b2.trans a2, ⟨l' ++ l, by rw [b3, a3, List.append_assoc]⟩, ⟨m' ++ m, by rw [b4, a4, List.append_assoc]⟩⟩
theorem Ext.put (S : St) (d : Option Tmp) (v : SV) : Ext S (S.put d v) := by
  cases d with
  | none => exact Ext.refl S
  | some d => exact ⟨rfl, rfl, ⟨[(d, v)], rfl⟩, ⟨[], rfl⟩⟩
theorem Ext.set (S : St) (i : Nat) (r : Option Res) : Ext S (S.set i r) := ⟨rfl, rfl, ⟨[], rfl⟩, ⟨[(i, r)], rfl⟩⟩
theorem Ext.new (S : St) (i : Nat) (r : Option Res) (n : Nat) : Ext S { S.set i r with nx := n } := ⟨rfl, rfl, ⟨[], rfl⟩, ⟨[(i, r)], rfl⟩⟩
structure Evo (S S' : St) (α α' : Al) : Prop where
  nx : S.nx ≤ S'.nx
  agree : Agree (· < S.nx) α α'
  keep : Keep (· < S.nx) S.res S'.res
  nt : S'.nt = S.nt
  ext : Ext S S'
theorem Evo.refl (S : St) (α : Al) : Evo S S α α := ⟨Nat.le_refl _, Agree.refl _ _, Keep.refl _ _, rfl, Ext.refl S⟩
theorem Evo.trans {S S' S'' : St} {α α' α'' : Al} (h : Evo S S' α α') (h' : Evo S' S'' α' α'') : Evo S S'' α α'' :=
  ⟨Nat.le_trans h.nx h'.nx, h.agree.trans h'.agree fun _ hi => Nat.lt_of_lt_of_le hi h.nx, h.keep.trans h'.keep fun _ hi => Nat.lt_of_lt_of_le hi h.nx, h'.nt.trans h.nt, h.ext.trans h'.ext⟩
section
variable {S : St} {α : Al} {ω : Nat → Option Nat} {B : Nat} {w0 w : World} {a : Act}
theorem put_res (S : St) (d : Option Tmp) (v : SV) : (S.put d v).res = S.res := by cases d <;> rfl
theorem put_nx (S : St) (d : Option Tmp) (v : SV) : (S.put d v).nx = S.nx := by cases d <;> rfl
theorem put_nt (S : St) (d : Option Tmp) (v : SV) : (S.put d v).nt = S.nt := by cases d <;> rfl
theorem Rel.put (r : Rel S α ω B w0 a w) {v : SV} (hv : v.good (· < S.nx) S.res) (d : Option Tmp) {x : Value} (hx : v ≠ .any → x = v.den α) : Rel (S.put d v) α ω B w0 (a.put d x) w := by
  cases d with
  | none => exact r
  | some d =>
    refine ⟨?_, ?_, r.d⟩
    · rw [put_res, put_nx]; exact r.h
    · rw [put_res, put_nx, put_nt, get_put]
      exact r.t.put hv d hx
theorem Evo.put (S : St) (d : Option Tmp) (v : SV) (α : Al) : Evo S (S.put d v) α α :=
  ⟨by rw [put_nx]; exact Nat.le_refl _, Agree.refl _ _, by rw [put_res]; exact Keep.refl _ _, put_nt S d v, Ext.put S d v⟩
/-- A bool whose value has been learnt. -/
theorem Rel.learn (r : Rel S α ω B w0 a w) {d : Nat} {b : Bool} (h : S.get d = .w (.c (.bool b none))) (hd : d < S.nt) {x : Bool} (hb : b = x) : Rel (S.put (some d) (.w (.c (.bool x (some x))))) α ω B w0 a w := by
  refine ⟨r.h, ⟨r.t.size, fun t ht => ?_, fun t ht hn => ?_⟩, r.d⟩
  · rw [get_put]
    show SV.good _ _ (if d = t then _ else _)
    split
    · exact fun y hy => by cases hy; rfl
    · exact r.t.good t ht
  · rw [get_put] at hn ⊢
    by_cases e : d = t
    · subst e
      simp only [if_true]
      have := r.t.den d hd (by rw [h]; exact fun e => by cases e)
      rw [this, h, hb]; rfl
    · simp only [if_neg e] at hn ⊢
      exact r.t.den t ht hn
theorem Rel.world (r : Rel S α ω B w0 a w) {w' : World} (H : HRel (· < S.nx) S.res α ω B w0 w') : Rel S α ω B w0 a w' := ⟨H, r.t, r.d⟩
end

/-! ### A new box in the state -/
theorem Rel.make {S : St} {α : Al} {ω : Nat → Option Nat} {B : Nat} {w0 w : World} {a : Act} (r : Rel S α ω B w0 a w) {cells : List SC} (hg : ∀ c ∈ cells, c.good (· < S.nx) S.res) (ty : TypeId) (d : Option Tmp) (sl : Option Nat) :
    ∃ α' ω', Evo S ({ S.set S.nx (some (.box ⟨cells, ty⟩)) with nx := S.nx + 1 }.put d (newV S.nx sl)) α α' ∧
      Rel ({ S.set S.nx (some (.box ⟨cells, ty⟩)) with nx := S.nx + 1 }.put d (newV S.nx sl)) α' ω' B w0 (a.put d (newVal w.heap.size sl)) (World.made w (cells.map (SC.den α)).toArray ty) := by
  have hn : ¬ (S.nx < S.nx) := Nat.lt_irrefl _
  have hD : (fun i => i < S.nx ∨ i = S.nx) = (· < S.nx + 1) := by funext i; apply propext; omega
  have H' := r.h.make hn hg ty
  rw [hD] at H'
  have hk : Keep (· < S.nx) S.res (fun i => if S.nx = i then some (.box ⟨cells, ty⟩) else S.res i) := fun j L' hj hr => by
    have : S.nx ≠ j := by have : j < S.nx := hj; omega
    simp only [if_neg this] at hr; exact ⟨L', hr, rfl, rfl⟩
  have ha := agree_setB (D := (· < S.nx)) α S.nx w.heap.size hn
  let S1 : St := { S.set S.nx (some (.box ⟨cells, ty⟩)) with nx := S.nx + 1 }
  have hres : S1.res = fun i => if S.nx = i then some (.box ⟨cells, ty⟩) else S.res i := res_set S S.nx _
  have r1 : Rel S1 (α.setB S.nx w.heap.size) (fun b => if b = w.heap.size then some S.nx else ω b) B w0 a (World.made w (cells.map (SC.den α)).toArray ty) := by
    refine ⟨?_, ?_, r.d⟩
    · rw [hres]; exact H'
    · rw [hres]
      exact r.t.mono (fun i h => Nat.lt_succ_of_lt h) hk ha
  have e1 : Evo S S1 α (α.setB S.nx w.heap.size) := ⟨Nat.le_succ _, ha, by rw [hres]; exact hk, rfl, Ext.new _ _ _ _⟩
  refine ⟨α.setB S.nx w.heap.size, _, e1.trans (Evo.put S1 d _ _), r1.put ?_ d fun _ => ?_⟩
  · cases sl <;> exact Nat.lt_succ_self _
  · cases sl <;> simp [newV, newVal, SV.den, SW.den, SC.den, Al.setB]

end Go.Fx
