/-
  The engine, part 4: how a state tells the machine's memory, and that each operation does what the executor says.
-/
import Derived.Test.YthljaepanhdmiaaE3
import Derived.Deep.MidRow
namespace Go.Fx
open Go RowKit

/-- The most bytes that a list takes. -/
abbrev reach : Nat := 140737488351232

def Agree (D : Nat → Prop) (α α' : Al) : Prop := ∀ i, D i → α.blk i = α'.blk i ∧ α.sv i = α'.sv i
theorem Agree.refl (D : Nat → Prop) (α : Al) : Agree D α α := fun _ _ => ⟨rfl, rfl⟩
theorem Agree.trans {D D' : Nat → Prop} {α β γ : Al} (h : Agree D α β) (h' : Agree D' β γ) (hD : ∀ i, D i → D' i) : Agree D α γ :=
  fun i hi => ⟨(h i hi).1.trans (h' i (hD i hi)).1, (h i hi).2.trans (h' i (hD i hi)).2⟩
theorem Agree.mono {D D' : Nat → Prop} {α β : Al} (h : Agree D' α β) (hD : ∀ i, D i → D' i) : Agree D α β := fun i hi => h i (hD i hi)

/-- A value that the state may hold. -/
def SC.good (D : Nat → Prop) (R : Nat → Option Res) : SC → Prop
  | .int _ i => i.ok
  | .bool b t => ∀ x, t = some x → b = x
  | .ptr b _ => D b
  | .lptr j n i _ => D j ∧ ∀ L, R j = some (.list L) → n = L.f.ks.length ∧ 0 ≤ i ∧ i < (L.l.length : Int)
  | .fn _ cap => ∀ p ∈ cap, D p.1
  | .sl j => D j
  | .csl b _ _ _ => D b
  | .mp j => D j
  | .undef | .nilsl => True
def SW.good (D : Nat → Prop) (R : Nat → Option Res) : SW → Prop
  | .c x => x.good D R
  | .agg cs => ∀ c ∈ cs, c.good D R
def SV.good (D : Nat → Prop) (R : Nat → Option Res) : SV → Prop
  | .w x => x.good D R
  | .tup vs => ∀ v ∈ vs, v.good D R
  | .any => True
/-- Lists keep their lengths. -/
def Keep (D : Nat → Prop) (R R' : Nat → Option Res) : Prop :=
  ∀ j L', D j → R' j = some (.list L') → ∃ L, R j = some (.list L) ∧ L.f = L'.f ∧ L.l.length = L'.l.length
theorem Keep.refl (D : Nat → Prop) (R : Nat → Option Res) : Keep D R R := fun _ L' _ h => ⟨L', h, rfl, rfl⟩
theorem Keep.trans {D D' : Nat → Prop} {R R' R'' : Nat → Option Res} (h : Keep D R R') (h' : Keep D' R' R'') (hD : ∀ i, D i → D' i) : Keep D R R'' := fun j L' hj hr => by
  obtain ⟨L1, h1, e1, e2⟩ := h' j L' (hD j hj) hr
  obtain ⟨L2, h2, e3, e4⟩ := h j L1 hj h1
  exact ⟨L2, h2, e3.trans e1, e4.trans e2⟩
section
variable {D D' : Nat → Prop} {R R' : Nat → Option Res} {α α' : Al}
theorem SC.den_agree {c : SC} (h : c.good D R) (ha : Agree D α α') : c.den α = c.den α' := by
  cases c with
  | ptr b off => simp only [SC.den, (ha b h).1]
  | lptr j n i c => simp only [SC.den, (ha j h.1).2]
  | fn f cap =>
    simp only [SC.den]
    congr 2
    exact List.map_congr_left fun p hp => by rw [(ha p.1 (h p hp)).1]
  | sl j => exact (ha j h).2
  | csl b off len cap => simp only [SC.den, (ha b h).1]
  | mp j => simp only [SC.den, (ha j h).1]
  | _ => rfl
theorem SW.den_agree {v : SW} (h : v.good D R) (ha : Agree D α α') : v.den α = v.den α' := by
  cases v with
  | c x => exact SC.den_agree h ha
  | agg cs =>
    simp only [SW.den]
    congr 2
    exact List.map_congr_left fun c hc => SC.den_agree (h c hc) ha
theorem SV.den_agree {v : SV} (h : v.good D R) (ha : Agree D α α') : v.den α = v.den α' := by
  cases v with
  | w x => exact SW.den_agree h ha
  | tup vs =>
    simp only [SV.den]
    congr 2
    exact List.map_congr_left fun c hc => SW.den_agree (h c hc) ha
  | any => rfl
theorem SC.good_mono {c : SC} (h : c.good D R) (hD : ∀ i, D i → D' i) (hk : Keep D R R') : c.good D' R' := by
  cases c with
  | ptr b off => exact hD _ h
  | lptr j n i c =>
    refine ⟨hD _ h.1, fun L' hL' => ?_⟩
    obtain ⟨L, hL, e1, e2⟩ := hk j L' h.1 hL'
    obtain ⟨q1, q2, q3⟩ := h.2 L hL
    rw [e1] at q1
    exact ⟨q1, q2, by rw [← e2]; exact q3⟩
  | fn f cap => exact fun p hp => hD _ (h p hp)
  | sl j => exact hD _ h
  | csl b off len cap => exact hD _ h
  | mp j => exact hD _ h
  | _ => exact h
theorem SW.good_mono {c : SW} (h : c.good D R) (hD : ∀ i, D i → D' i) (hk : Keep D R R') : c.good D' R' := by
  cases c with
  | c x => exact SC.good_mono h hD hk
  | agg cs => exact fun c hc => SC.good_mono (h c hc) hD hk
theorem SV.good_mono {c : SV} (h : c.good D R) (hD : ∀ i, D i → D' i) (hk : Keep D R R') : c.good D' R' := by
  cases c with
  | w x => exact SW.good_mono h hD hk
  | tup cs => exact fun c hc => SW.good_mono (h c hc) hD hk
  | any => trivial
end

/-! ### What memory holds -/
def CellsAt (cs : Array Value) (off : Nat) (vs : List Value) : Prop := ∀ k v, vs[k]? = some v → cs[off + k]? = some v
/-- A cell of plain data as a value; it is sound. -/
def SC.lit : SC → Value
  | .int k i => .int k i.v
  | .bool b _ => .bool b
  | _ => Go.undef
def SC.ok0 : SC → Prop
  | .int _ i => i.ok
  | _ => True
def Fl.okv (f : Fl) (x : f.ty) : Prop := ∀ c ∈ f.sw x, c.ok0
def Fl.vals (f : Fl) (x : f.ty) : List Value := (f.sw x).map SC.lit
/-- The slice value v tells the list l: the elements lie in the memory w; those places belong to nobody who writes ('free'), or to 'own'. -/
def LRep (w : World) (f : Fl) (l : List f.ty) (v : Value) (mine : Nat → Prop) (own : Bool) : Prop :=
  (∀ x ∈ l, f.okv x) ∧ l.length * f.bytes ≤ reach ∧
  ((∃ a cap, v = .slice a 0 cap ∧ l = [] ∧ (own = true → a = none ∧ cap = 0)) ∨
   ∃ blk off cap cs ty fz, v = .slice (some ⟨blk, off, none⟩) l.length cap ∧ l.length ≤ cap ∧ w.heap[blk]? = some (.cells cs ty fz) ∧ mine blk ∧
     (∀ i x, l[i]? = some x → CellsAt cs (off + i * f.ks.length) (f.vals x)) ∧ (own = true → off = 0 ∧ fz = (0, 0) ∧ cs.size = cap * f.ks.length))
/-- A key's value. -/
def Fl.kv : (f : Fl) → f.ty → Value
  | .int, x => .int .i64 x
  | f, x => .agg (f.vals x).toArray
/-- The entries of a map, in order. -/
def Ents (f : Fl) (m : List (f.ty × Int)) (es : Array MapEntry) : Prop :=
  es.toList.map (fun e => (e.key, e.val)) = m.map (fun p => (f.kv p.1, Value.int .i64 p.2)) ∧ (∀ p ∈ m, f.okv p.1 ∧ kmin .i64 ≤ p.2 ∧ p.2 ≤ kmax .i64) ∧ (m.map (·.1)).Nodup
def RRel (α : Al) (ω : Nat → Option Nat) (w : World) (i : Nat) : Res → Prop
  | .box b => ω (α.blk i) = some i ∧ w.heap[α.blk i]? = some (.cells (b.cells.map (SC.den α)).toArray b.ty (0, 0))
  | .list L => LRep w L.f L.l (α.sv i) (fun b => ω b = if L.own then some i else none) L.own
  | .map M => ω (α.blk i) = some i ∧ ∃ es clock, w.heap[α.blk i]? = some (.map es clock) ∧ Ents M.f M.m es
structure HRel (D : Nat → Prop) (R : Nat → Option Res) (α : Al) (ω : Nat → Option Nat) (B : Nat) (w0 w : World) : Prop where
  bel : Below B w0 w
  base : B ≤ w.heap.size
  own : ∀ b i, ω b = some i → B ≤ b ∧ b < w.heap.size ∧ D i
  dec : ∀ i r, R i = some r → D i
  rel : ∀ i r, R i = some r → RRel α ω w i r
  good : ∀ i b, R i = some (.box b) → ∀ c ∈ b.cells, c.good D R
  one : ∀ j, (α.sv j).oneCell' = true
structure TRel (D : Nat → Prop) (R : Nat → Option Res) (α : Al) (nt : Nat) (get : Nat → SV) (tmps : Array Value) : Prop where
  size : tmps.size = nt
  good : ∀ t, t < nt → (get t).good D R
  den : ∀ t, t < nt → get t ≠ .any → tmps[t]? = some ((get t).den α)

theorem LRep.frame {w w' : World} {f : Fl} {l : List f.ty} {v : Value} {m m' : Nat → Prop} {own : Bool} (h : LRep w f l v m own)
    (hm : ∀ b, b < w.heap.size → m b → m' b ∧ w'.heap[b]? = w.heap[b]?) : LRep w' f l v m' own := by
  obtain ⟨h1, h2, h3⟩ := h
  refine ⟨h1, h2, ?_⟩
  rcases h3 with h3 | ⟨blk, off, cap, cs, ty, fz, e1, e2, e3, e4, e5⟩
  · exact .inl h3
  · have hlt : blk < w.heap.size := (Array.getElem?_eq_some_iff.1 e3).1
    obtain ⟨q1, q2⟩ := hm blk hlt e4
    exact .inr ⟨blk, off, cap, cs, ty, fz, e1, e2, by rw [q2]; exact e3, q1, e5⟩
section
variable {D D' : Nat → Prop} {R : Nat → Option Res} {α α' : Al} {ω ω' : Nat → Option Nat} {B : Nat} {w0 w w' : World}
theorem RRel.frame {i : Nat} {r : Res} (h : RRel α ω w i r) (hi : D i) (ha : Agree D α α') (hg : ∀ b, r = .box b → ∀ c ∈ b.cells, c.good D R)
    (ho : ∀ b, ω b = some i → ω' b = some i ∧ w'.heap[b]? = w.heap[b]?) (hf : ∀ b, b < w.heap.size → ω b = none → ω' b = none ∧ w'.heap[b]? = w.heap[b]?) : RRel α' ω' w' i r := by
  cases r with
  | box b =>
    obtain ⟨h1, h2⟩ := h
    obtain ⟨q1, q2⟩ := ho _ h1
    have e : α'.blk i = α.blk i := (ha i hi).1.symm
    refine ⟨by rw [e]; exact q1, ?_⟩
    rw [e, q2, h2]
    congr 3
    exact List.map_congr_left fun c hc => SC.den_agree (hg b rfl c hc) ha
  | list L =>
    show LRep w' _ _ _ _ _
    rw [← (ha i hi).2]
    refine LRep.frame h fun b hb hm => ?_
    cases hL : L.own with
    | true => simp only [hL, if_true] at hm ⊢; exact ho b hm
    | false => simp only [hL] at hm ⊢; exact hf b hb hm
  | map M =>
    obtain ⟨h1, es, clock, h2, h3⟩ := h
    obtain ⟨q1, q2⟩ := ho _ h1
    have e : α'.blk i = α.blk i := (ha i hi).1.symm
    refine ⟨by rw [e]; exact q1, es, clock, ?_, h3⟩
    rw [e, q2, h2]
/-- Memory beside what the state owns may turn. -/
theorem HRel.frame (h : HRel D R α ω B w0 w) (hb : Below B w0 w') (hs : w.heap.size ≤ w'.heap.size) (hw : ∀ b, b < w.heap.size → w'.heap[b]? = w.heap[b]?) : HRel D R α ω B w0 w' :=
  ⟨hb, Nat.le_trans h.base hs, fun b i hb' => by obtain ⟨q1, q2, q3⟩ := h.own b i hb'; exact ⟨q1, by omega, q3⟩, h.dec,
    fun i r hr => (h.rel i r hr).frame (h.dec i r hr) (Agree.refl D α) (fun b e => h.good i b (by rw [hr, e])) (fun b hb' => ⟨hb', hw b (h.own b i hb').2.1⟩) (fun b hb' hn => ⟨hn, hw b hb'⟩), h.good, h.one⟩
theorem HRel.drew (h : HRel D R α ω B w0 w) : HRel D R α ω B w0 { w with drawn := w.drawn + 1 } :=
  h.frame ⟨h.bel.os, h.bel.tape, h.bel.output, h.bel.size, h.bel.block⟩ (Nat.le_refl _) (fun _ _ => rfl)
end

end Go.Fx
