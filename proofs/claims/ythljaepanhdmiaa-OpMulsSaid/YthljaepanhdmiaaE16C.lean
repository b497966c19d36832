/-
  The engine, part 16c: the quiet operations one behind the other, as a path.
-/
import Derived.Test.YthljaepanhdmiaaE16B
namespace Go.Fx
open Go RowKit

inductive Out where
  | skip
  | val (v : SV)
  | new (cells : List SC) (ty : TypeId) (sl : Option Nat)
noncomputable def sNext (S : St) (dst : Option Tmp) : Out → St
  | .skip => S.put dst undefV
  | .val v => S.put dst v
  | .new cells ty sl => ({ S.set S.nx (some (.box ⟨cells, ty⟩)) with nx := S.nx + 1 }).put dst (newV S.nx sl)
noncomputable def outV (S : St) : Out → SV
  | .skip => undefV
  | .val v => v
  | .new _ _ sl => newV S.nx sl
def isNew : Out → Bool
  | .new .. => true
  | _ => false
def StepQ (E : Env) (ops : List Oper) (o : Oper) (S : St) : Out → Prop
  | .skip => guardQ ops S o.guard = some false
  | .val v => guardQ ops S o.guard = some true ∧ scOps S o.op.operands.toList = true ∧ ∃ side v0, qv E S o.op = .val side v0 ∧ sideH side ∧ (v = v0 ∨ ∃ b, v0 = .w (.c (.bool b none)) ∧ v = .w (.c (.bool b (some b))))
  | .new cells ty sl => guardQ ops S o.guard = some true ∧ scOps S o.op.operands.toList = true ∧ qv E S o.op = .new cells ty sl
structure Path (E : Env) (ops q : List Oper) (S : St) (Ss : Nat → St) (out : Nat → Out) : Prop where
  zero : Ss 0 = S
  step : ∀ j o, q[j]? = some o → StepQ E ops o (Ss j) (out j) ∧ Ss (j + 1) = sNext (Ss j) o.dst (out j)
theorem path_cons {E : Env} {ops r : List Oper} {o : Oper} {S : St} {u : Out} (h : StepQ E ops o S u) {k : St → Prop} (ih : ∃ Ss out, Path E ops r (sNext S o.dst u) Ss out ∧ k (Ss r.length)) : ∃ Ss out, Path E ops (o :: r) S Ss out ∧ k (Ss (o :: r).length) := by
  obtain ⟨Ss, out, p, hk⟩ := ih
  refine ⟨fun | 0 => S | j + 1 => Ss j, fun | 0 => u | j + 1 => out j, ⟨rfl, fun j x hx => ?_⟩, hk⟩
  cases j with
  | zero => cases hx; exact ⟨h, p.zero⟩
  | succ j => exact p.step j x (by simpa using hx)
theorem exQ_path {E : Env} {ops : List Oper} {k : St → Prop} : ∀ (q : List Oper) (i : Nat) (S : St), exQ E ops q i S k → ∃ Ss out, Path E ops q S Ss out ∧ k (Ss q.length)
  | [], _, S, h => ⟨fun _ => S, fun _ => .skip, ⟨rfl, fun j o hj => by cases hj⟩, h⟩
  | o :: r, i, S, h => by
    unfold exQ at h
    split at h
    · rename_i hg
      split at h
      · rename_i hsc
        split at h
        · cases h
        · rename_i side v hv
          rw [sideAnd_iff] at h
          obtain ⟨hs, h⟩ := h
          split at h
          · rename_i b hb
            cases b with
            | true => exact path_cons (u := .val (.w (.c (.bool true (some true))))) ⟨hg, hsc, side, _, hv, hs, .inr ⟨true, rfl, rfl⟩⟩ (exQ_path r _ _ (h.1 rfl))
            | false => exact path_cons (u := .val (.w (.c (.bool false (some false))))) ⟨hg, hsc, side, _, hv, hs, .inr ⟨false, rfl, rfl⟩⟩ (exQ_path r _ _ (h.2 rfl))
          · rename_i v x1 v2 x2
            exact path_cons (u := .val v) ⟨hg, hsc, side, _, hv, hs, .inl rfl⟩ (exQ_path r _ _ h)
        · rename_i cells ty sl hv
          exact path_cons (u := .new cells ty sl) ⟨hg, hsc, hv⟩ (exQ_path r _ _ h)
      · cases h
    · rename_i hg
      exact path_cons (u := .skip) hg (exQ_path r _ _ h)
    · cases h

/-! ### What a path keeps -/
theorem put_get (S : St) (d : Option Tmp) (v : SV) (t : Nat) : (S.put d v).get t = if d = some t then v else S.get t := by
  cases d with
  | none => rw [if_neg (by simp)]; rfl
  | some d =>
    rw [get_put]
    by_cases e : d = t
    · simp [e]
    · simp [e]
theorem sNext_get (S : St) (d : Option Tmp) (u : Out) (t : Nat) : (sNext S d u).get t = if d = some t then outV S u else S.get t := by
  cases u <;> exact put_get _ _ _ _
theorem sNext_nt (S : St) (d : Option Tmp) (u : Out) : (sNext S d u).nt = S.nt := by
  cases u <;> exact put_nt _ _ _
theorem sNext_ext (S : St) (d : Option Tmp) (u : Out) : Ext S (sNext S d u) := by
  cases u with
  | skip => exact Ext.put S d _
  | val v => exact Ext.put S d v
  | new cells ty sl => exact (Ext.new S S.nx (some (.box ⟨cells, ty⟩)) (S.nx + 1)).trans (Ext.put _ d _)
theorem sNext_nx (S : St) (d : Option Tmp) (u : Out) : (sNext S d u).nx = S.nx + if isNew u then 1 else 0 := by
  cases u <;> exact put_nx _ _ _
theorem sNext_res (S : St) (d : Option Tmp) (u : Out) (x : Nat) (hx : x < S.nx) : (sNext S d u).res x = S.res x := by
  cases u with
  | skip => exact congrFun (put_res ..) x
  | val v => exact congrFun (put_res ..) x
  | new cells ty sl =>
    rw [sNext, put_res]
    show (S.set S.nx _).res x = _
    rw [res_set]
    simp only
    rw [if_neg (by omega)]
theorem sNext_new (S : St) (d : Option Tmp) (cells : List SC) (ty : TypeId) (sl : Option Nat) : (sNext S d (.new cells ty sl)).res S.nx = some (.box ⟨cells, ty⟩) := by
  rw [sNext, put_res]
  show (S.set S.nx _).res S.nx = _
  rw [res_set]
  simp only [if_true]
theorem sNext_resNone (S : St) (d : Option Tmp) (u : Out) (x : Nat) (hx : (sNext S d u).nx ≤ x) (h : S.res x = none) : (sNext S d u).res x = none := by
  rw [sNext_nx] at hx
  cases u with
  | skip => rw [← h]; exact congrFun (put_res ..) x
  | val v => rw [← h]; exact congrFun (put_res ..) x
  | new cells ty sl =>
    simp only [isNew, if_true] at hx
    rw [sNext, put_res]
    show (S.set S.nx _).res x = _
    rw [res_set]
    simp only
    rw [if_neg (by omega), h]
/-- Operation j writes slot t. -/
def wr (q : List Oper) (j t : Nat) : Prop := ∃ o, q[j]? = some o ∧ o.dst = some t
section
variable {E : Env} {ops q : List Oper} {S : St} {Ss : Nat → St} {out : Nat → Out} (p : Path E ops q S Ss out)
theorem Path.at {j : Nat} (p : Path E ops q S Ss out) (hj : j < q.length) : StepQ E ops q[j] (Ss j) (out j) ∧ Ss (j + 1) = sNext (Ss j) q[j].dst (out j) := p.step j q[j] (by simp [hj])
theorem Path.nt (p : Path E ops q S Ss out) : ∀ j, j ≤ q.length → (Ss j).nt = S.nt
  | 0, _ => by rw [p.zero]
  | j + 1, h => by rw [(p.at (j := j) (by omega)).2, sNext_nt]; exact p.nt j (by omega)
theorem Path.ext (p : Path E ops q S Ss out) : ∀ j, j ≤ q.length → Ext S (Ss j)
  | 0, _ => by rw [p.zero]; exact Ext.refl S
  | j + 1, h => by rw [(p.at (j := j) (by omega)).2]; exact (p.ext j (by omega)).trans (sNext_ext _ _ _)
theorem Path.nx (p : Path E ops q S Ss out) {i : Nat} : ∀ j, i ≤ j → j ≤ q.length → (Ss i).nx ≤ (Ss j).nx
  | 0, h, _ => by rw [Nat.le_zero.1 h]; exact Nat.le_refl _
  | j + 1, h, hl => by
    by_cases e : i = j + 1
    · rw [e]; exact Nat.le_refl _
    · have := Path.nx (i := i) p j (by omega) (by omega)
      rw [(p.at (j := j) (by omega)).2, sNext_nx]; omega
theorem Path.nxNew (p : Path E ops q S Ss out) {i j : Nat} (hij : i < j) (hj : j ≤ q.length) (hn : isNew (out i) = true) : (Ss i).nx < (Ss j).nx := by
  have := p.nx (i := i + 1) j hij hj
  rw [(p.at (j := i) (by omega)).2, sNext_nx, hn] at this
  simp at this; omega
theorem Path.res (p : Path E ops q S Ss out) {i x : Nat} (hx : x < (Ss i).nx) : ∀ j, i ≤ j → j ≤ q.length → (Ss j).res x = (Ss i).res x
  | 0, h, _ => by rw [Nat.le_zero.1 h]
  | j + 1, h, hl => by
    by_cases e : i = j + 1
    · rw [e]
    · have h1 := p.nx (i := i) j (by omega) (by omega)
      rw [(p.at (j := j) (by omega)).2, sNext_res _ _ _ _ (by omega)]
      exact Path.res (i := i) p hx j (by omega) (by omega)
theorem Path.resNew (p : Path E ops q S Ss out) {i : Nat} (hi : i < q.length) {cells : List SC} {ty : TypeId} {sl : Option Nat} (h : out i = .new cells ty sl) : (Ss q.length).res (Ss i).nx = some (.box ⟨cells, ty⟩) := by
  have h1 := p.nxNew (i := i) (j := i + 1) (by omega) hi (by rw [h]; rfl)
  rw [p.res h1 q.length hi (Nat.le_refl _), (p.at hi).2, h, sNext_new]
theorem Path.resNone (p : Path E ops q S Ss out) (h0 : ∀ x, S.nx ≤ x → S.res x = none) : ∀ j, j ≤ q.length → ∀ x, (Ss j).nx ≤ x → (Ss j).res x = none
  | 0, _, x, hx => by rw [p.zero] at hx ⊢; exact h0 x hx
  | j + 1, hl, x, hx => by
    have h1 := p.nx (i := j) (j + 1) (by omega) hl
    rw [(p.at (j := j) (by omega)).2] at hx ⊢
    exact sNext_resNone _ _ _ _ hx (p.resNone h0 j (by omega) x (by rw [sNext_nx] at hx; omega))
theorem Path.getNone (p : Path E ops q S Ss out) {t : Nat} : ∀ j, j ≤ q.length → (∀ j', j' < j → ¬ wr q j' t) → (Ss j).get t = S.get t
  | 0, _, _ => by rw [p.zero]
  | j + 1, hl, h => by
    rw [(p.at (j := j) (by omega)).2, sNext_get, if_neg fun e => h j (by omega) ⟨q[j], by simp [show j < q.length by omega], e⟩]
    exact p.getNone j (by omega) fun j' hj' => h j' (by omega)
theorem Path.getSome (p : Path E ops q S Ss out) {t i : Nat} (hw : wr q i t) : ∀ j, i < j → j ≤ q.length → (∀ j', j' < j → j' ≠ i → ¬ wr q j' t) → (Ss j).get t = outV (Ss i) (out i)
  | 0, h, _, _ => by omega
  | j + 1, h, hl, hu => by
    rw [(p.at (j := j) (by omega)).2, sNext_get]
    by_cases e : j = i
    · subst e
      obtain ⟨o, ho, hd⟩ := hw
      have : q[j] = o := by
        have := (List.getElem?_eq_some_iff.1 ho).2; exact this
      rw [this, if_pos hd]
    · rw [if_neg fun e' => hu j (by omega) e ⟨q[j], by simp [show j < q.length by omega], e'⟩]
      exact p.getSome (i := i) hw j (by omega) (by omega) fun j' hj' => hu j' (by omega)
theorem Path.cover (p : Path E ops q S Ss out) : ∀ j, j ≤ q.length → ∀ x, x < (Ss j).nx → x < S.nx ∨ ∃ i, i < j ∧ isNew (out i) = true ∧ x = (Ss i).nx
  | 0, _, x, hx => by rw [p.zero] at hx; exact .inl hx
  | j + 1, hl, x, hx => by
    rw [(p.at (j := j) (by omega)).2, sNext_nx] at hx
    by_cases h : x < (Ss j).nx
    · rcases p.cover j (by omega) x h with h | ⟨i, h1, h2, h3⟩
      · exact .inl h
      · exact .inr ⟨i, by omega, h2, h3⟩
    · split at hx
      · rename_i hn
        exact .inr ⟨j, by omega, hn, by omega⟩
      · omega
end
end Go.Fx
