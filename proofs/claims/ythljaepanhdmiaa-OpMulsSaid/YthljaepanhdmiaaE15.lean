/-
  The engine, part 15: the operations of a region; the executor is sound.
-/
import Derived.Test.YthljaepanhdmiaaE14M
namespace Go.Fx
open Go RowKit

theorem exOp_ok {E : Env} (EO : EnvOk E) {ih : IH} (hih : IHok E ih) {o : Oper} {S : St} {k : St → Prop} {α : Al} {ω : Nat → Option Nat} {B : Nat} {w0 w : World} {a : Act}
    (h : exOp E ih o S k) (r : Rel S α ω B w0 a w) {next : Act → World → Prop} (Q : Exit → Act → World → Prop)
    (K : ∀ S' α' ω' a' w', Evo S S' α α' → Rel S' α' ω' B w0 a' w' → k S' → next a' w') : o.wp E.P a w next Q := by
  unfold exOp at h
  unfold Oper.wp
  split at h
  · rename_i t ho
    split at h
    · rename_i f hT
      obtain ⟨α', ω', q1, q2, q3⟩ := makeMap_ok (E := E) (t := t) (f := f) r o.dst
      have hrun : (execOp a.eval o).run E.P w = .ok (.value (.map (some w.heap.size))) (w.alloc (.map #[] 0)) := by
        simp only [execOp, ho, Option.map_none, Sem.run_bind, q1, Result.andThen_ok, Sem.run_pure]
      rw [hrun]
      show next (a.put o.dst (.map (some w.heap.size))) _
      exact K _ α' ω' _ _ q2 q3 h
    · cases h
  · rename_i t m x v ho
    split at h
    · rename_i S' hS
      obtain ⟨w', q1, q2, q3, q4, q5, q6⟩ := mapSet_ok EO r hS (ev_good r.t _) (ev_good r.t _) (ev_good r.t _)
      have hrun : (execOp a.eval o).run E.P w = .ok .skip w' := by
        simp only [execOp, ho, ev_den r.t q4, ev_den r.t q5, ev_den r.t q6, Sem.run_bind, q1, Result.andThen_ok, Sem.run_pure]
      rw [hrun]
      show next (a.put o.dst undef) w'
      exact K _ α ω _ w' (q2.trans (Evo.put S' _ _ _)) (q3.put (v := undefV) trivial o.dst fun _ => rfl) h
    · cases h
  · rename_i t m x v ho
    split at h
    · rename_i S' hS
      obtain ⟨w', q1, q2, q3, q4, q5, q6⟩ := mapSet_ok EO r hS (ev_good r.t _) (ev_good r.t _) (ev_good r.t _)
      have hrun : (execOp a.eval o).run E.P w = .ok .skip w' := by
        simp only [execOp, ho, ev_den r.t q4, ev_den r.t q5, ev_den r.t q6, Sem.run_bind, q1, Result.andThen_ok, Sem.run_pure]
      rw [hrun]
      show next (a.put o.dst undef) w'
      exact K _ α ω _ w' (q2.trans (Evo.put S' _ _ _)) (q3.put (v := undefV) trivial o.dst fun _ => rfl) h
    · cases h
  · rename_i t m x ok ho
    split at h
    · rename_i v hv
      obtain ⟨q1, q2, q3, q4⟩ := mapGet_ok EO r hv (ev_good r.t _) (ev_good r.t _)
      have hrun : (execOp a.eval o).run E.P w = .ok (.value (v.den α)) w := by
        simp only [execOp, ho, ev_den r.t q3, ev_den r.t q4, Sem.run_bind, q1, Result.andThen_ok, Sem.run_pure]
      rw [hrun]
      show next (a.put o.dst (v.den α)) w
      exact K _ α ω _ w (Evo.put S _ _ _) (r.put q2 o.dst fun _ => rfl) h
    · cases h
  · rename_i t x y ho
    split at h
    · rename_i S' hS
      obtain ⟨w', q1, q2, q3⟩ := store_ok r ho hS
      rw [q1]
      show next (a.put o.dst undef) w'
      exact K _ α ω _ w' (q2.trans (Evo.put S' _ _ _)) (q3.put (v := undefV) trivial o.dst fun _ => rfl) h
    · cases h
  · rename_i fo as at' ho
    split at h
    · rename_i f cap hf
      obtain ⟨p1, p2⟩ := ev_c r.t hf
      have hg : ∀ v ∈ S.evs as.toList ++ cap.map (fun p => SV.w (.c (.ptr p.1 p.2))), v.good (· < S.nx) S.res := fun v hv => by
        rcases List.mem_append.1 hv with hv | hv
        · exact evs_good r.t _ v hv
        · obtain ⟨p, hp, rfl⟩ := List.mem_map.1 hv
          exact p2 p hp
      have hc := callV_ok EO hih h r hg (Rr := fun e w' => ∃ v, e = .returned v ∧ next (a.put o.dst v) w') fun v S' α' ω' w' ev r' hv hn hk =>
        ⟨_, rfl, K _ α' ω' _ w' (ev.trans (Evo.put S' _ _ _)) (r'.put hv o.dst fun _ => rfl) hk⟩
      obtain ⟨q1, fn, f1, f2, f3, f4⟩ := hc
      have hargs : as.map a.eval ++ (cap.map fun p => Value.pointer (some ⟨α.blk p.1, p.2, none⟩)).toArray = ((S.evs as.toList ++ cap.map (fun p => SV.w (.c (.ptr p.1 p.2)))).map (SV.den α)).toArray := by
        apply Array.ext'
        have := evs_den r.t as.toList (fun v hv => f4 v (List.mem_append_left _ hv))
        simp only [Array.toList_append, Array.toList_map, List.map_append, this, List.map_map]
        rfl
      have hrun : (execOp a.eval o).run E.P w = .ok (.enter f ((S.evs as.toList ++ cap.map (fun p => SV.w (.c (.ptr p.1 p.2)))).map (SV.den α)).toArray) w := by
        have f2' : ¬ (fn.name = "runtime.NumGoroutine") := by simpa using f2
        simp only [execOp, ho, resolve, p1, SC.den, Deferred.ofValue, Sem.run_bind, Sem.run_pure, Result.andThen_ok, invoke, callFunc, run_program, f1, f3]
        simp only [beq_iff_eq, f2', if_false, Bool.false_eq_true, Sem.run_pure]
        rw [← hargs]
        simp
      rw [hrun]
      show Calls _ _ _ _ _
      refine q1.mono fun e w' he => ?_
      obtain ⟨v, rfl, hn⟩ := he
      exact hn
    · cases h
  · split at h
    · cases h
    · rename_i side v hv
      rw [sideAnd_iff] at h
      obtain ⟨q1, q2, q3⟩ := opv_val r.h r.t hv h.1
      rw [q1]
      show next (a.put o.dst (v.den α)) w
      exact K _ α ω _ w (Evo.put S _ _ _) (r.put q2 o.dst fun _ => rfl) h.2
    · rename_i cells ty sl hv
      obtain ⟨q1, q2⟩ := opv_new r.h r.t hv
      rw [q1]
      show next (a.put o.dst (newVal w.heap.size sl)) _
      obtain ⟨α', ω', ev, r'⟩ := r.make q2 ty o.dst sl
      exact K _ α' ω' _ _ ev r' h
def wantB (g : Option (Nat × Bool)) (y : Nat → Option Bool) : Bool := match g with
  | none => true
  | some (j, want) => y j == some want
theorem wanted_eq (o : Oper) (y : Nat → Option Bool) : Region.wanted o y = wantB o.guard y := by
  unfold Region.wanted wantB
  cases o.guard <;> rfl
/-- A guard. -/
theorem guardV_ok {ops : List Oper} {S : St} {g : Option (Nat × Bool)} {k : St → Bool → Prop} {α : Al} {ω : Nat → Option Nat} {B : Nat} {w0 w : World} {a : Act} (h : guardV ops S g k) (r : Rel S α ω B w0 a w) :
    ∃ S' x, Evo S S' α α ∧ Rel S' α ω B w0 a w ∧ k S' x ∧ wantB g (yielded ops.toArray a.tmps) = x := by
  cases g with
  | none => exact ⟨S, true, Evo.refl _ _, r, h, rfl⟩
  | some p =>
    obtain ⟨j, want⟩ := p
    simp only [guardV] at h
    split at h
    · rename_i oj hj
      split at h
      · rename_i d hd
        have hy : ∀ v, a.tmps[d]? = some v → yielded ops.toArray a.tmps j = (match v with | .bool b => some b | _ => none) := fun v hv => by
          unfold yielded
          simp only [List.getElem?_toArray, hj, Option.bind_some, hd, hv]
          cases v <;> rfl
        split at h
        · rename_i b x hlt hget
          have hlt : d < S.nt := by simpa [Nat.blt_eq] using hlt
          have hb : b = x := by have := r.t.good d hlt; rw [hget] at this; exact this x rfl
          have := r.t.den d hlt (by rw [hget]; exact fun e => by cases e)
          rw [hget] at this
          refine ⟨S, _, Evo.refl _ _, r, h, ?_⟩
          simp only [wantB, hy _ this, SV.den, SW.den, SC.den]
          subst hb
          cases b <;> cases want <;> rfl
        · rename_i b hlt hget
          have hlt : d < S.nt := by simpa [Nat.blt_eq] using hlt
          have := r.t.den d hlt (by rw [hget]; exact fun e => by cases e)
          rw [hget] at this
          cases b with
          | true =>
            refine ⟨_, _, Evo.put S _ _ _, r.learn hget hlt (x := true) rfl, h.1 rfl, ?_⟩
            simp only [wantB, hy _ this, SV.den, SW.den, SC.den]
            cases want <;> rfl
          | false =>
            refine ⟨_, _, Evo.put S _ _ _, r.learn hget hlt (x := false) rfl, h.2 rfl, ?_⟩
            simp only [wantB, hy _ this, SV.den, SW.den, SC.den]
            cases want <;> rfl
        · rename_i hlt hget
          have hlt : d < S.nt := by simpa [Nat.blt_eq] using hlt
          have := r.t.den d hlt (by rw [hget]; exact fun e => by cases e)
          rw [hget] at this
          refine ⟨S, false, Evo.refl _ _, r, h, ?_⟩
          simp only [wantB, hy _ this, SV.den, SW.den, SC.den, undef]
          rfl
        · cases h
      · cases h
    · cases h
theorem exOps_ok {E : Env} (EO : EnvOk E) {ih : IH} (hih : IHok E ih) {ops : List Oper} {Q : Exit → Act → World → Prop} {B : Nat} {w0 : World} : ∀ (r : List Oper) (S : St) (k : St → Prop) (α : Al) (ω : Nat → Option Nat) (a : Act) (w : World),
    exOps E ih ops r S k → Rel S α ω B w0 a w → (∀ S' α' ω' a' w', Evo S S' α α' → Rel S' α' ω' B w0 a' w' → k S' → Q .normal a' w') → wpList E.P ops.toArray Q r a w
  | [], S, k, α, ω, a, w, h, r, K => K S α ω a w (Evo.refl _ _) r h
  | o :: rest, S, k, α, ω, a, w, h, r, K => by
    obtain ⟨S', x, e1, r1, h1, hx⟩ := guardV_ok (show guardV ops S o.guard _ from h) r
    have hw : Region.wanted o (yielded ops.toArray a.tmps) = x := (wanted_eq _ _).trans hx
    unfold wpList
    rw [hw]
    cases x with
    | true =>
      simp only [if_true]
      refine .inl (exOp_ok EO hih h1 r1 Q fun S'' α'' ω'' a'' w'' e2 r2 h2 => ?_)
      exact exOps_ok EO hih rest S'' k α'' ω'' a'' w'' h2 r2 fun S3 α3 ω3 a3 w3 e3 r3 h3 => K S3 α3 ω3 a3 w3 ((e1.trans e2).trans e3) r3 h3
    | false =>
      simp only [Bool.false_eq_true, if_false]
      refine exOps_ok EO hih rest _ k α ω _ w h1 (r1.put (v := undefV) trivial o.dst fun _ => rfl) fun S3 α3 ω3 a3 w3 e3 r3 h3 => K S3 α3 ω3 a3 w3 ((e1.trans (Evo.put S' _ _ _)).trans e3) r3 h3

end Go.Fx
