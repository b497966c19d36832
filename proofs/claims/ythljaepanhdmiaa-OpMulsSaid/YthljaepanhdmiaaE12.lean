/-
  The engine, part 12: stores; contracts of calls.
-/
import Derived.Test.YthljaepanhdmiaaE11
namespace Go.Fx
open Go RowKit

theorem setCells_heap (b : Nat) : ∀ (vs : List Value) (o : Nat) (w : World) (cs : List Value) (ty : TypeId) (fz : Nat × Nat), w.heap[b]? = some (.cells cs.toArray ty fz) → o + vs.length ≤ cs.length →
    (w.setCells b o vs).heap[b]? = some (.cells (cs.take o ++ vs ++ cs.drop (o + vs.length)).toArray ty fz) ∧ (w.setCells b o vs).heap.size = w.heap.size ∧ (∀ k, k ≠ b → (w.setCells b o vs).heap[k]? = w.heap[k]?) ∧
      (w.setCells b o vs).os = w.os ∧ (w.setCells b o vs).tape = w.tape ∧ (w.setCells b o vs).output = w.output
  | [], o, w, cs, ty, fz, h, _ => by
    refine ⟨?_, rfl, fun _ _ => rfl, rfl, rfl, rfl⟩
    show w.heap[b]? = _
    simpa using h
  | v :: r, o, w, cs, ty, fz, h, hl => by
    simp only [List.length_cons] at hl
    have h1 : (w.setCell ⟨b, o, none⟩ v).heap[b]? = some (.cells (cs.set o v).toArray ty fz) := by
      simp [World.setCell, Array.getElem?_modify, h]
    obtain ⟨q1, q2, q3, q4, q5, q6⟩ := setCells_heap b r (o + 1) (w.setCell ⟨b, o, none⟩ v) (cs.set o v) ty fz h1 (by simp; omega)
    refine ⟨?_, by rw [World.setCells, q2]; simp, fun k hk => by rw [World.setCells, q3 k hk]; exact Below.heap_setCell _ _ _ _ hk, q4, q5, q6⟩
    rw [World.setCells, q1]
    congr 3
    have e1 : (cs.set o v).take (o + 1) = cs.take o ++ [v] := by
      rw [List.set_eq_take_append_cons_drop, if_pos (by omega)]
      rw [List.take_append, List.take_of_length_le (by simp; omega)]
      simp only [List.length_take]
      rw [Nat.min_eq_left (by omega), show o + 1 - o = 1 by omega]
      rfl
    have e2 : (cs.set o v).drop (o + 1 + r.length) = cs.drop (o + (r.length + 1)) := by
      rw [List.drop_set_of_lt (by omega)]
      congr 1; omega
    rw [e1, e2, List.length_cons]
    simp
theorem storable_one {S : St} {D : Nat → Prop} {α : Al} {ω : Nat → Option Nat} {B : Nat} {w0 w : World} (H : HRel D S.res α ω B w0 w) : ∀ {cs : List SC}, storable S cs = true → ∀ v ∈ cs.map (SC.den α), v.oneCell' = true
  | [], _, v, hv => by cases hv
  | c :: r, h, v, hv => by
    rw [List.map_cons] at hv
    have key : c ≠ .undef ∧ storable S r = true := by
      cases c <;> simp only [storable] at h <;> first | exact ⟨(fun e => by cases e), h⟩ | cases h | skip
      split at h
      · exact ⟨(fun e => by cases e), h⟩
      · cases h
    rcases List.mem_cons.1 hv with rfl | hv
    · exact den_one H.one key.1
    · exact storable_one H key.2 v hv
theorem store_ok {E : Env} {S S' : St} {α : Al} {ω : Nat → Option Nat} {B : Nat} {w0 w : World} {a : Act} (r : Rel S α ω B w0 a w) {o : Oper} {t : TypeId} {x y : Operand} (ho : o.op = .store t x y) (h : storeV E t S (S.ev x) (S.ev y) = some S') :
    ∃ w', (execOp a.eval o).run E.P w = .ok .skip w' ∧ Evo S S' α α ∧ Rel S' α ω B w0 a w' := by
  unfold storeV at h
  split at h
  · rename_i b off v ex ey
    split at h
    · rename_i bx n hb e1
      split at h
      · rename_i hc
        cases h
        rw [Bool.and_eq_true, Bool.and_eq_true] at hc
        obtain ⟨⟨c1, c2⟩, c3⟩ := hc
        have c1 := Nat.eq_of_beq_eq_true c1
        have c2 : off + n ≤ bx.cells.length := by simpa using c2
        obtain ⟨p1, p2⟩ := ev_c r.t ex
        obtain ⟨p3, p4⟩ := ev_w r.t ey
        obtain ⟨h1, h2⟩ : RRel α ω w b (.box bx) := r.h.rel b _ hb
        have hone := storable_one r.h c3
        have hlen : (v.cells.map (SC.den α)).length = n := by simp [c1]
        obtain ⟨q1, q2, q3, q4, q5, q6⟩ := setCells_heap (α.blk b) (v.cells.map (SC.den α)) off w _ _ _ h2 (by rw [hlen]; simpa using c2)
        have hst := run_storeCells_cells (P := E.P) (α.blk b) off (v.cells.map (SC.den α)) 0 w (fun j hj => by
            rw [cell_of h2]; simp; omega) (fun j hj => by simp [World.frozen?, h2]) hone
        refine ⟨w.setCells (α.blk b) off (v.cells.map (SC.den α)), ?_, ?_, ?_⟩
        · simp only [execOp, ho, p1, p3, SC.den, Instr.storeAt, Instr.sureAddr, Sem.run_bind, Sem.run_pure, Result.andThen_ok, storeVar, size_run e1, cells_den r.h.one]
          rw [if_neg (by simp [c1])]
          simp only [Nat.add_zero] at hst
          simp only [Result.andThen_ok, hst]
        · refine ⟨Nat.le_refl _, Agree.refl _ _, ?_, rfl, Ext.set _ _ _⟩
          rw [res_set]
          intro j L' hj hr
          by_cases e : b = j
          · simp only [if_pos e] at hr; cases hr
          · simp only [if_neg e] at hr; exact ⟨L', hr, rfl, rfl⟩
        · have hg : ∀ c ∈ bx.cells.take off ++ v.cells ++ bx.cells.drop (off + n), c.good (· < S.nx) S.res := fun c hc => by
            have hbg := r.h.good b bx hb
            rcases List.mem_append.1 hc with hc | hc
            · rcases List.mem_append.1 hc with hc | hc
              · exact hbg c (List.mem_of_mem_take hc)
              · exact cells_good p4 c hc
            · exact hbg c (List.mem_of_mem_drop hc)
          have H' := r.h.stored hb hg q2 (by
            rw [q1, hlen]; simp) q3 q4 q5 q6
          refine ⟨?_, ?_, r.d⟩
          · rw [res_set]; exact H'
          · rw [res_set]
            refine r.t.mono (fun _ h => h) ?_ (Agree.refl _ _)
            intro j L' hj hr
            by_cases e : b = j
            · simp only [if_pos e] at hr; cases hr
            · simp only [if_neg e] at hr; exact ⟨L', hr, rfl, rfl⟩
      · cases h
    · cases h
  · cases h

/-! ### Contracts -/
def intIn (k : IntKind) (z : Int) (v : Value) : Prop := v = .int k z ∧ kmin k ≤ z ∧ z ≤ kmax k
def Sh.arg (w : World) : (s : Sh) → s.ty → Value → Prop
  | .int k, z, v => intIn k z v
  | .bool, b, v => v = .bool b
  | .agg f, x, v => v = .agg (f.vals x).toArray ∧ f.okv x
  | .list f, l, v => LRep w f l v (fun _ => True) false
  | .lit k z, _, v => intIn k z v
def ArgsR (w : World) : (l : List Sh) → HL l → List Value → Prop
  | [], _, [] => True
  | s :: r, x, v :: vs => s.arg w x.1 v ∧ ArgsR w r x.2 vs
  | _, _, _ => False
def Sh.res (w : World) (mine : Nat → Prop) : (s : Sh) → s.ty → Value → Prop
  | .int k, z, v => intIn k z v
  | .bool, b, v => v = .bool b
  | .agg f, x, v => v = .agg (f.vals x).toArray ∧ f.okv x
  | .list f, l, v => LRep w f l v mine true
  | .lit k z, _, v => intIn k z v
def ResR (w : World) (own : Nat → Option Nat) (n0 : Nat) : (l : List Sh) → HL l → List Value → Nat → Prop
  | [], _, [], _ => True
  | s :: r, x, v :: vs, i => s.res w (fun b => own b = some i ∧ n0 ≤ b) x.1 v ∧ ResR w own n0 r x.2 vs (i + 1)
  | _, _, _, _ => False
def oneV : List Value → Value
  | [v] => v
  | vs => .tuple vs.toArray
/-- The call of function f does what the contract says, whatever memory. -/
def Sound (P : Program) (f : FuncId) (C : Contract) : Prop :=
  ∀ (x : HL C.args) (w : World) (vals : List Value), ArgsR w C.args x vals → C.pre x →
    Calls P f vals.toArray w fun e w' => ∃ vs own, e = .returned (oneV vs) ∧ Below w.heap.size w w' ∧ ResR w' own w.heap.size C.res (C.F x) vs 0

theorem fits_ok {D : Nat → Prop} {R : Nat → Option Res} {α : Al} : ∀ {ks : List CK} {cs : List SC}, fitsAll ks cs = true → (∀ c ∈ cs, c.good D R) →
    (cksc ks (cs.map SC.cell)).map SC.lit = cs.map (SC.den α) ∧ ∀ c ∈ cksc ks (cs.map SC.cell), c.ok0
  | [], [], _, _ => ⟨rfl, fun c hc => by cases hc⟩
  | k :: ks, c :: cs, h, hg => by
    simp only [fitsAll, Bool.and_eq_true] at h
    obtain ⟨q1, q2⟩ := fits_ok (α := α) h.2 (fun c hc => hg c (List.mem_cons_of_mem _ hc))
    have hc := hg c (List.mem_cons_self ..)
    have key : (k.sc c.cell).lit = c.den α ∧ (k.sc c.cell).ok0 := by
      have h1 := h.1
      cases k with
      | int k =>
        cases c <;> simp only [CK.fits] at h1 <;> try (cases h1; done)
        rename_i k' i
        simp only [Bool.and_eq_true, ile_iff] at h1
        obtain ⟨⟨h2, h3⟩, h4⟩ := h1
        obtain rfl := keq_eq h2
        have hi : i.ok := hc
        exact ⟨rfl, by show kmin k ≤ i.v; have := hi.1; omega, by show i.v ≤ kmax k; have := hi.2; omega⟩
      | bool =>
        cases c <;> simp only [CK.fits] at h1 <;> try (cases h1; done)
        exact ⟨rfl, trivial⟩
    simp only [List.map_cons, cksc, key.1, q1]
    refine ⟨trivial, fun x hx => ?_⟩
    rcases List.mem_cons.1 hx with rfl | hx
    · exact key.2
    · exact q2 x hx
  | [], _ :: _, h, _ => by simp [fitsAll] at h
  | _ :: _, [], h, _ => by simp [fitsAll] at h
/-- Cells of the right kinds. -/
def kindsOk : List CK → List Cell → Prop
  | [], [] => True
  | .int _ :: ks, .i _ :: cs => kindsOk ks cs
  | .bool :: ks, .b _ :: cs => kindsOk ks cs
  | _, _ => False
theorem fits_kinds : ∀ {ks : List CK} {cs : List SC}, fitsAll ks cs = true → kindsOk ks (cs.map SC.cell)
  | [], [], _ => trivial
  | k :: ks, c :: cs, h => by
    simp only [fitsAll, Bool.and_eq_true] at h
    have := fits_kinds h.2
    have h1 := h.1
    cases k <;> cases c <;> simp only [CK.fits] at h1 <;> first | exact this | cases h1
  | [], _ :: _, h => by simp [fitsAll] at h
  | _ :: _, [], h => by simp [fitsAll] at h
theorem enc_dec : ∀ (f : Fl) (cs : List Cell), kindsOk f.ks cs → f.enc (f.dec cs) = cs := by
  intro f cs h
  have nilCase : ∀ {cs : List Cell}, kindsOk [] cs → cs = [] := fun {cs} h => by cases cs with
    | nil => rfl
    | cons _ _ => exact h.elim
  have iCase : ∀ {k : IntKind} {ks : List CK} {cs : List Cell}, kindsOk (.int k :: ks) cs → ∃ z r, cs = .i z :: r ∧ kindsOk ks r := fun {k ks cs} h => by
    match cs, h with
    | .i z :: r, h => exact ⟨z, r, rfl, h⟩
  have bCase : ∀ {ks : List CK} {cs : List Cell}, kindsOk (.bool :: ks) cs → ∃ z r, cs = .b z :: r ∧ kindsOk ks r := fun {ks cs} h => by
    match cs, h with
    | .b z :: r, h => exact ⟨z, r, rfl, h⟩
  cases f <;> simp only [Fl.ks, ckI, ckU] at h
  case int =>
    obtain ⟨_, _, rfl, h1⟩ := iCase h
    cases nilCase h1
    rfl
  case bool =>
    obtain ⟨_, _, rfl, h1⟩ := bCase h
    cases nilCase h1
    rfl
  case vec =>
    obtain ⟨_, _, rfl, h1⟩ := iCase h
    obtain ⟨_, _, rfl, h2⟩ := iCase h1
    obtain ⟨_, _, rfl, h3⟩ := iCase h2
    cases nilCase h3
    rfl
  case mat =>
    obtain ⟨_, _, rfl, h1⟩ := iCase h
    obtain ⟨_, _, rfl, h2⟩ := iCase h1
    obtain ⟨_, _, rfl, h3⟩ := iCase h2
    obtain ⟨_, _, rfl, h4⟩ := iCase h3
    obtain ⟨_, _, rfl, h5⟩ := iCase h4
    obtain ⟨_, _, rfl, h6⟩ := iCase h5
    obtain ⟨_, _, rfl, h7⟩ := iCase h6
    obtain ⟨_, _, rfl, h8⟩ := iCase h7
    obtain ⟨_, _, rfl, h9⟩ := iCase h8
    cases nilCase h9
    rfl
  case op =>
    obtain ⟨_, _, rfl, h1⟩ := iCase h
    obtain ⟨_, _, rfl, h2⟩ := iCase h1
    obtain ⟨_, _, rfl, h3⟩ := iCase h2
    obtain ⟨_, _, rfl, h4⟩ := iCase h3
    obtain ⟨_, _, rfl, h5⟩ := iCase h4
    obtain ⟨_, _, rfl, h6⟩ := iCase h5
    obtain ⟨_, _, rfl, h7⟩ := iCase h6
    obtain ⟨_, _, rfl, h8⟩ := iCase h7
    obtain ⟨_, _, rfl, h9⟩ := iCase h8
    obtain ⟨_, _, rfl, h10⟩ := iCase h9
    obtain ⟨_, _, rfl, h11⟩ := iCase h10
    obtain ⟨_, _, rfl, h12⟩ := iCase h11
    cases nilCase h12
    rfl
  case pt =>
    obtain ⟨_, _, rfl, h1⟩ := iCase h
    obtain ⟨_, _, rfl, h2⟩ := iCase h1
    obtain ⟨_, _, rfl, h3⟩ := iCase h2
    obtain ⟨_, _, rfl, h4⟩ := iCase h3
    cases nilCase h4
    rfl
  case met =>
    obtain ⟨_, _, rfl, h1⟩ := iCase h
    obtain ⟨_, _, rfl, h2⟩ := iCase h1
    obtain ⟨_, _, rfl, h3⟩ := iCase h2
    obtain ⟨_, _, rfl, h4⟩ := iCase h3
    obtain ⟨_, _, rfl, h5⟩ := iCase h4
    obtain ⟨_, _, rfl, h6⟩ := iCase h5
    cases nilCase h6
    rfl
  case chg =>
    obtain ⟨_, _, rfl, h1⟩ := iCase h
    obtain ⟨_, _, rfl, h2⟩ := iCase h1
    obtain ⟨_, _, rfl, h3⟩ := iCase h2
    obtain ⟨_, _, rfl, h4⟩ := iCase h3
    obtain ⟨_, _, rfl, h5⟩ := iCase h4
    obtain ⟨_, _, rfl, h6⟩ := iCase h5
    obtain ⟨_, _, rfl, h7⟩ := iCase h6
    obtain ⟨_, _, rfl, h8⟩ := iCase h7
    obtain ⟨_, _, rfl, h9⟩ := iCase h8
    obtain ⟨_, _, rfl, h10⟩ := iCase h9
    obtain ⟨_, _, rfl, h11⟩ := iCase h10
    obtain ⟨_, _, rfl, h12⟩ := iCase h11
    cases nilCase h12
    rfl
  case seed =>
    obtain ⟨_, _, rfl, h1⟩ := bCase h
    obtain ⟨_, _, rfl, h2⟩ := iCase h1
    obtain ⟨_, _, rfl, h3⟩ := iCase h2
    obtain ⟨_, _, rfl, h4⟩ := iCase h3
    obtain ⟨_, _, rfl, h5⟩ := iCase h4
    obtain ⟨_, _, rfl, h6⟩ := iCase h5
    cases nilCase h6
    rfl
  case u8 =>
    obtain ⟨_, _, rfl, h1⟩ := iCase h
    cases nilCase h1
    rfl
theorem ofSC_ok {D : Nat → Prop} {R : Nat → Option Res} {α : Al} {f : Fl} {cs : List SC} {x : f.ty} (h : f.ofSC cs = some x) (hg : ∀ c ∈ cs, c.good D R) : f.vals x = cs.map (SC.den α) ∧ f.okv x := by
  unfold Fl.ofSC at h
  split at h
  · rename_i hf
    cases h
    obtain ⟨q1, q2⟩ := fits_ok (α := α) hf hg
    have e := enc_dec f _ (fits_kinds hf)
    refine ⟨?_, ?_⟩
    · show (cksc f.ks (f.enc (f.dec _))).map SC.lit = _
      rw [e]; exact q1
    · show ∀ c ∈ cksc f.ks (f.enc (f.dec _)), _
      rw [e]; exact q2
  · cases h

end Go.Fx
