/-
  The engine, part 10: every operation that only reads, or makes a block.
-/
import Derived.Test.YthljaepanhdmiaaE9
namespace Go.Fx
open Go RowKit

section
variable {E : Env} {S : St} {D : Nat → Prop} {α : Al} {ω : Nat → Option Nat} {B : Nat} {w0 w : World} {a : Act}
theorem opv_val (H : HRel D S.res α ω B w0 w) (T : TRel D S.res α S.nt S.get a.tmps) {o : Oper} {side : Option Prop} {v : SV} (h : opv E S o.op = .val side v) (hs : sideH side) :
    (execOp a.eval o).run E.P w = .ok (.value (v.den α)) w ∧ v.good D S.res ∧ v ≠ .any := by
  cases ho : o.op with
  | move x =>
    rw [ho] at h
    obtain ⟨rfl, _, hn⟩ := notAny_ok (show notAny (S.ev x) = _ from h)
    exact ⟨by simp only [execOp, ho, ev_den T hn, Sem.run_pure], ev_good T x, hn⟩
  | assign x =>
    rw [ho] at h
    obtain ⟨rfl, _, hn⟩ := notAny_ok (show notAny (S.ev x) = _ from h)
    exact ⟨by simp only [execOp, ho, ev_den T hn, Sem.run_pure], ev_good T x, hn⟩
  | pick c x y =>
    rw [ho] at h
    have h' : pickV (S.ev c) (S.ev x) (S.ev y) = .val side v := h
    obtain ⟨q1, q2, q3, q4⟩ := pick_ok (α := α) h' (ev_good T c) (ev_good T x) (ev_good T y) w (a.eval x) (a.eval y) (ev_den T) (ev_den T)
    exact ⟨by simp only [execOp, ho, ev_den T q3]; exact q1, q2, q4⟩
  | alloc t =>
    rw [ho] at h
    simp only [opv] at h
    split at h <;> cases h
  | box t x =>
    rw [ho] at h
    simp only [opv] at h
    split at h <;> cases h
  | build t parts =>
    rw [ho] at h
    have h' : buildV E t (S.evp parts.toList) = .val side v := h
    obtain ⟨q1, q2, q3, q4⟩ := build_ok H.one h' (evp_good T _) w
    refine ⟨?_, q2, q3⟩
    have e := evp_den (E := E) T parts.toList q4
    have e2 : (parts.map fun p => (p.1, a.eval p.2)) = ((S.evp parts.toList).map fun p => (p.1, p.2.den α)).toArray := by
      rw [← e]; apply Array.ext'; simp only [Array.toList_map]
    simp only [execOp, ho]
    rw [show (parts.map fun x => (x.1, a.eval x.2)) = _ from e2]
    simp only [Sem.run_bind, q1, Result.andThen_ok, Sem.run_pure]
  | buildSlice t len parts =>
    rw [ho] at h
    simp only [opv, buildSliceV] at h
    (repeat' split at h) <;> cases h
  | load t x =>
    rw [ho] at h
    have h' : loadV E S t (S.ev x) = .val side v := h
    have hn : S.ev x ≠ .any := fun e => by rw [e] at h'; cases h'
    obtain ⟨q1, q2, q3⟩ := load_ok H h' (ev_good T x)
    refine ⟨?_, q2, q3⟩
    simp only [execOp, ho, ev_den T hn, Sem.run_bind, q1, Result.andThen_ok, Sem.run_pure]
  | nilCheck x =>
    rw [ho] at h
    simp only [opv] at h
    split at h
    · rename_i b off e
      cases h
      obtain ⟨q1, q2⟩ := ev_c T e
      refine ⟨?_, q2, fun e => by cases e⟩
      simp only [execOp, ho, q1, SC.den, SV.den, SW.den, Sem.run_pure]
    · rename_i f cap e
      cases h
      obtain ⟨q1, q2⟩ := ev_c T e
      refine ⟨?_, q2, fun e => by cases e⟩
      simp only [execOp, ho, q1, SC.den, SV.den, SW.den, Sem.run_pure]
    · cases h
  | binOp op t x y yt =>
    rw [ho] at h
    have h' : binV E op t (S.ev x) (S.ev y) = .val side v := h
    have hn : S.ev x ≠ .any ∧ S.ev y ≠ .any := by
      constructor <;> intro e <;> rw [e] at h' <;> simp only [binV] at h' <;> (try cases h') <;> (split at h' <;> simp_all)
    obtain ⟨q1, q2, q3⟩ := binV_ok (ox := x) (oy := y) h' hs (ev_good T x) (ev_good T y) w (α := α)
    refine ⟨?_, q2, q3⟩
    simp only [execOp, ho, ev_den T hn.1, ev_den T hn.2]
    rw [Sem.run_bind, q1]
    simp only [Result.andThen_ok, Sem.run_pure]
  | unOp op t x =>
    rw [ho] at h
    have h' : unV op (S.ev x) = .val side v := h
    obtain ⟨q1, q2, q3, q4⟩ := un_ok (α := α) h' (ev_good T x) w (E := E)
    refine ⟨?_, q2, q3⟩
    simp only [execOp, ho, ev_den T q4, Sem.run_bind, q1, Result.andThen_ok, Sem.run_pure]
  | convert src dst x =>
    rw [ho] at h
    simp only [opv] at h
    split at h
    · rename_i d k k' i hu1 hu2 e
      cases h
      obtain ⟨q1, q2⟩ := ev_c T e
      obtain ⟨q3, q4⟩ := conv_ok (k := k) (a := i) q2
      refine ⟨?_, q3, fun e => by cases e⟩
      simp only [execOp, ho, q1, SC.den, SV.den, SW.den, convert, Sem.run_bind, und_run hu1, und_run hu2, Result.andThen_ok]
      simp [Conv.intToInt, q4]
    · cases h
  | makeFunc fn first cap =>
    rw [ho] at h
    cases fn with
    | func f =>
      simp only [opv] at h
      split at h
      · rename_i l hf hp
        cases h
        obtain ⟨q1, q2, q3⟩ := ptrs_ok (α := α) hp (evs_good T _)
        have e := evs_den T cap.toList q3
        have hf0 : first = #[] := by simpa using hf
        refine ⟨?_, q2, fun e => by cases e⟩
        have e2 : cap.map a.eval = (l.map fun p => Value.pointer (some ⟨α.blk p.1, p.2, none⟩)).toArray := by
          rw [← q1, ← e]; apply Array.ext'; simp only [Array.toList_map]
        simp only [execOp, ho, SC.den, SV.den, SW.den, Instr.makeFunc, hf0, e2, Sem.run_bind, Sem.run_pure, Result.andThen_ok]
        simp
      · cases h
    | _ => cases h
  | fieldAddr t x f =>
    rw [ho] at h
    have h' : fieldAddrV E S t (S.ev x) f = .val side v := h
    obtain ⟨q1, q2, q3, q4⟩ := fieldAddr_ok H h' (ev_good T x)
    refine ⟨?_, q2, q3⟩
    simp only [execOp, ho, ev_den T q4, Sem.run_bind, q1, Result.andThen_ok, Sem.run_pure]
  | field t x f =>
    rw [ho] at h
    have h' : fieldV E t (S.ev x) f = .val side v := h
    obtain ⟨q1, q2, q3, q4⟩ := field_ok (α := α) h' (ev_good T x) w
    refine ⟨?_, q2, q3⟩
    simp only [execOp, ho, ev_den T q4, Sem.run_bind, q1, Result.andThen_ok, Sem.run_pure]
  | indexAddr t x ix =>
    rw [ho] at h
    simp only [opv] at h
    have key : (Instr.indexAt t ((S.ev x).den α) ((S.ev ix).den α)).run E.P w = .ok (v.den α) w ∧ v.good D S.res ∧ v ≠ .any ∧ S.ev x ≠ .any ∧ S.ev ix ≠ .any := by
      split at h
      · rename_i j m i c e
        have := arrIdx_ok H h (by rw [← e]; exact ev_good T x) (ev_good T ix)
        rw [e]; exact this
      · exact indexAddr_ok H h hs (ev_good T x) (ev_good T ix)
    obtain ⟨q1, q2, q3, q4, q5⟩ := key
    refine ⟨?_, q2, q3⟩
    simp only [execOp, ho, ev_den T q4, ev_den T q5, Sem.run_bind, q1, Result.andThen_ok, Sem.run_pure]
  | index t x ix =>
    rw [ho] at h
    have h' : indexV E t (S.ev x) (S.ev ix) = .val side v := h
    obtain ⟨q1, q2, q3, q4, q5⟩ := index_ok (α := α) h' (ev_good T x) (ev_good T ix) w
    refine ⟨?_, q2, q3⟩
    simp only [execOp, ho, ev_den T q4, ev_den T q5, Sem.run_bind, q1, Result.andThen_ok, Sem.run_pure]
  | extract x ix =>
    rw [ho] at h
    simp only [opv] at h
    split at h
    · rename_i vs e
      split at h
      · rename_i u hu
        cases h
        have h1 := ev_den T (x := x) (by rw [e]; exact fun e => by cases e)
        have h2 := ev_good T x
        rw [e] at h1 h2
        refine ⟨?_, h2 u (List.mem_of_getElem? hu), fun e => by cases e⟩
        simp only [execOp, ho, h1, SV.den, Instr.extract]
        simp [hu]
      · cases h
    · cases h
  | call c =>
    rw [ho] at h
    obtain ⟨callee, args, argTypes⟩ := c
    cases callee with
    | builtin b =>
      cases b with
      | len =>
        simp only [opv] at h
        split at h
        · rename_i x t hx ht
          split at h
          · rename_i e hu
            have e1 : args = #[x] := by rw [← Array.toArray_toList (xs := args), hx]
            have e2 : argTypes = #[t] := by rw [← Array.toArray_toList (xs := argTypes), ht]
            obtain ⟨q1, q2, q3, q4⟩ := len_ok H hu h (ev_good T x) o.type
            refine ⟨?_, q2, q3⟩
            subst e1; subst e2
            simp only [execOp, ho, resolve, invoke, builtin, Sem.run_bind, Sem.run_pure, Result.andThen_ok, List.map_toArray, List.map_cons, List.map_nil, ev_den T q4, q1]
          · cases h
        · cases h
      | max =>
        simp only [opv] at h
        split at h
        · rename_i x y hx
          have e1 : args = #[x, y] := by rw [← Array.toArray_toList (xs := args), hx]
          obtain ⟨q1, q2, q3, q4, q5⟩ := max_ok (α := α) h (ev_good T x) (ev_good T y) argTypes o.type E.P w
          refine ⟨?_, q2, q3⟩
          subst e1
          simp only [execOp, ho, resolve, invoke, builtin, Sem.run_bind, Sem.run_pure, Result.andThen_ok, List.map_toArray, List.map_cons, List.map_nil, ev_den T q4, ev_den T q5, q1]
        · cases h
      | min =>
        simp only [opv] at h
        split at h
        · rename_i x y hx
          have e1 : args = #[x, y] := by rw [← Array.toArray_toList (xs := args), hx]
          obtain ⟨q1, q2, q3, q4, q5⟩ := min_ok (α := α) h (ev_good T x) (ev_good T y) argTypes o.type E.P w
          refine ⟨?_, q2, q3⟩
          subst e1
          simp only [execOp, ho, resolve, invoke, builtin, Sem.run_bind, Sem.run_pure, Result.andThen_ok, List.map_toArray, List.map_cons, List.map_nil, ev_den T q4, ev_den T q5, q1]
        · cases h
      | _ => cases h
    | _ => cases h
  | _ => rw [ho] at h; cases h

/-- A new block. -/
def World.made (w : World) (cells : Array Value) (ty : TypeId) : World := { w with heap := w.heap.push (.cells cells ty (0, 0)) }
def newVal (b : Nat) : Option Nat → Value
  | none => .pointer (some ⟨b, 0, none⟩)
  | some len => .slice (some ⟨b, 0, none⟩) len len
theorem cells_good {R : Nat → Option Res} {v : SW} (h : v.good D R) : ∀ c ∈ v.cells, c.good D R := by
  cases v with
  | c x => intro c hc; simp only [SW.cells, List.mem_singleton] at hc; subst hc; exact h
  | agg l => exact h
theorem opv_new (H : HRel D S.res α ω B w0 w) (T : TRel D S.res α S.nt S.get a.tmps) {o : Oper} {cells : List SC} {ty : TypeId} {sl : Option Nat} (h : opv E S o.op = .new cells ty sl) :
    (execOp a.eval o).run E.P w = .ok (.value (newVal w.heap.size sl)) (World.made w (cells.map (SC.den α)).toArray ty) ∧ ∀ c ∈ cells, c.good D S.res := by
  have noNew : ∀ {x : SV}, notAny x ≠ .new cells ty sl := fun {x} e => by cases x <;> cases e
  cases ho : o.op with
  | move x => rw [ho] at h; exact absurd h noNew
  | assign x => rw [ho] at h; exact absurd h noNew
  | pick c x y =>
    rw [ho] at h
    simp only [opv, pickV] at h
    (split at h) <;> first | exact absurd h noNew | cases h
  | alloc t =>
    rw [ho] at h
    simp only [opv] at h
    split at h
    · rename_i z hz
      cases h
      refine ⟨?_, cells_good (zero_good hz _ _)⟩
      simp only [execOp, ho, Instr.alloc, Sem.run_bind, zero_run hz α, Result.andThen_ok, newVar, newRow, cells_den H.one, run_newObj, Sem.run_pure]
      rfl
    · cases h
  | box t x =>
    rw [ho] at h
    simp only [opv] at h
    split at h
    · rename_i v e
      cases h
      obtain ⟨q1, q2⟩ := ev_w T e
      refine ⟨?_, cells_good q2⟩
      simp only [execOp, ho, q1, Instr.box, newVar, newRow, cells_den H.one, Sem.run_bind, run_newObj, Sem.run_pure, Result.andThen_ok]
      rfl
    · cases h
  | build t parts =>
    rw [ho] at h
    simp only [opv, buildV] at h
    (repeat' split at h) <;> cases h
  | buildSlice t len parts =>
    rw [ho] at h
    simp only [opv, buildSliceV] at h
    split at h
    · rename_i elem hu
      split at h
      · rename_i sz z e1 e2
        split at h
        · rename_i hb
          split at h
          · rename_i cs e3
            cases h
            rw [Bool.and_eq_true, Bool.and_eq_true] at hb
            obtain ⟨⟨hb1, hb2⟩, hb3⟩ := hb
            have hb1 := Nat.eq_of_beq_eq_true hb1
            have hb2 : len * sz ≤ 16777216 := by simpa using hb2
            have hb3 : 1 ≤ len * sz := by simpa using hb3
            obtain ⟨q1, q2, q3⟩ := fill_ok (D := D) (R := S.res) H.one (fun i => some (i * sz, sz)) _ _ _ e3 (reps_good (cells_good (zero_good e2 _ _)) len) (evp_good T _)
            refine ⟨?_, q2⟩
            have e := evp_den (E := E) T parts.toList q3
            have e4 : (parts.map fun p => (p.1, a.eval p.2)) = ((S.evp parts.toList).map fun p => (p.1, p.2.den α)).toArray := by
              rw [← e]; apply Array.ext'; simp only [Array.toList_map]
            have e5 : (reps z.cells len).map (SC.den α) = (List.range (len * sz)).map fun i => (z.cells.map (SC.den α)).toArray[i % sz]! := by
              rw [reps_den, hb1]
            simp only [execOp, ho, Instr.buildSlice, Sem.run_bind, und_run hu, Result.andThen_ok, size_run e1]
            rw [show (parts.map fun x => (x.1, a.eval x.2)) = _ from e4]
            rw [if_neg (by omega)]
            simp only [Sem.run_pure]
            rw [if_neg (by omega)]
            simp only [Sem.run_bind, zero_run e2 α, Result.andThen_ok, Sem.run_pure, cells_den H.one]
            have e6 : ((Array.range (len * sz)).map fun x => (z.cells.map (SC.den α)).toArray[x % (z.cells.map (SC.den α)).toArray.size]!) = ((reps z.cells len).map (SC.den α)).toArray := by
              rw [e5]
              apply Array.ext'
              simp [hb1]
            rw [e6, q1]
            simp only [Sem.run_bind, newRow, run_newObj, Sem.run_pure, Result.andThen_ok]
            rfl
          · cases h
        · cases h
      · cases h
    · cases h
  | load t x =>
    rw [ho] at h
    simp only [opv, loadV, ofOpt] at h
    (repeat' split at h) <;> cases h
  | nilCheck x =>
    rw [ho] at h
    simp only [opv, okV] at h
    (repeat' split at h) <;> cases h
  | binOp op t x y yt =>
    rw [ho] at h
    simp only [opv, binV, cmpI, okV, okB] at h
    (repeat' split at h) <;> cases h
  | unOp op t x =>
    rw [ho] at h
    simp only [opv, unV, okV, okB] at h
    (repeat' split at h) <;> cases h
  | convert src dst x =>
    rw [ho] at h
    simp only [opv, okV] at h
    (repeat' split at h) <;> cases h
  | makeFunc fn first cap =>
    rw [ho] at h
    cases fn <;> simp only [opv, okV] at h <;> (repeat' split at h) <;> cases h
  | fieldAddr t x f =>
    rw [ho] at h
    simp only [opv, fieldAddrV, okV] at h
    (repeat' split at h) <;> cases h
  | field t x f =>
    rw [ho] at h
    simp only [opv, fieldV, ofOpt] at h
    (repeat' split at h) <;> cases h
  | indexAddr t x ix =>
    rw [ho] at h
    simp only [opv, arrIdxV, indexAddrV, okV] at h
    (repeat' split at h) <;> cases h
  | index t x ix =>
    rw [ho] at h
    simp only [opv, indexV, ofOpt] at h
    (repeat' split at h) <;> cases h
  | extract x ix =>
    rw [ho] at h
    simp only [opv] at h
    (repeat' split at h) <;> cases h
  | call c =>
    rw [ho] at h
    obtain ⟨callee, args, argTypes⟩ := c
    cases callee with
    | builtin b =>
      cases b with
      | len =>
        simp only [opv, lenV, okV] at h
        (repeat' split at h) <;> cases h
      | max =>
        simp only [opv, maxV, okV] at h
        (repeat' split at h) <;> cases h
      | min =>
        simp only [opv, minV, okV] at h
        (repeat' split at h) <;> cases h
      | _ => cases h
    | _ => cases h
  | _ => rw [ho] at h; cases h
end

end Go.Fx
