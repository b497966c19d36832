/-
  The engine, part three: the runs and their soundness.
-/
import Derived.Test.YtkchandelfmoaaaE16C
section
namespace Go.Fx
open Go RowKit

theorem slots_iff {ms : List Nat} {all : List Oper} {o : Oper} {i : Nat} : ∀ {l : List Oper} {n : Nat}, slotsOk ms all o i l n = true → ∀ j p d, l[j]? = some p → p.dst = some d → n + j ≠ i →
    (d ∈ looks all o → (n + j < i ∧ waitsM ms i (n + j) = true) ∨ (i < n + j ∧ waitsM ms (n + j) i = true)) ∧ o.dst ≠ some d
  | x :: r, n, h, j, p, d, hp, hd, hne => by
    unfold slotsOk at h
    rw [Bool.and_eq_true] at h
    cases j with
    | zero =>
      cases hp
      have h1 := h.1
      rw [hd] at h1
      simp only [Nat.add_zero] at hne ⊢
      have hb : Nat.beq i n = false := by
        cases e : Nat.beq i n with
        | false => rfl
        | true => exact absurd (Nat.eq_of_beq_eq_true e).symm hne
      dsimp only at h1
      rw [hb, Bool.false_or, Bool.and_eq_true] at h1
      obtain ⟨h2, h3⟩ := h1
      refine ⟨fun hm => ?_, fun e => ?_⟩
      · have hmem : nmem d (looks all o) = true := by
          clear h h2 h3
          generalize looks all o = l at hm
          induction l with
          | nil => cases hm
          | cons y l ih =>
            unfold nmem
            rcases List.mem_cons.1 hm with rfl | hm
            · simp
            · rw [ih hm, Bool.or_true]
        rw [hmem] at h2
        simp only [Bool.not_true, Bool.false_or, Bool.or_eq_true, Bool.and_eq_true, Nat.blt_eq] at h2
        exact h2
      · rw [e] at h3
        simp at h3
    | succ j =>
      have := slots_iff h.2 j p d (by simpa using hp) hd (by omega)
      rwa [show n + 1 + j = n + (j + 1) by omega] at this
  | [], _, _, j, p, d, hp, _, _ => by cases hp
theorem quiet_iff {ms : List Nat} {all q : List Oper} : ∀ {l : List Oper} {n : Nat}, quietOk ms all q l n = true → ∀ i o, l[i]? = some o → slotsOk ms all o (n + i) q 0 = true
  | x :: r, n, h, i, o, ho => by
    unfold quietOk at h
    rw [Bool.and_eq_true] at h
    cases i with
    | zero => cases ho; exact h.1
    | succ i =>
      have := quiet_iff h.2 i o (by simpa using ho)
      rwa [show n + 1 + i = n + (i + 1) by omega] at this
  | [], _, _, i, o, ho => by cases ho
theorem isTail_iff {ms : List Nat} {i : Nat} : ∀ {n : Nat}, isTail ms i n = true → ∀ j, j < n → waitsM ms i j = true
  | n + 1, h, j, hj => by
    unfold isTail at h
    rw [Bool.and_eq_true] at h
    by_cases e : j = n
    · subst e; exact h.1
    · exact isTail_iff h.2 j (by omega)
  | 0, _, j, hj => by omega
theorem tail_iff {ms : List Nat} : ∀ {l : List Oper} {n : Nat}, tailOk ms l n = true → ∀ i, n ≤ i → i < n + l.length → ∀ j, j < i → waitsM ms i j = true
  | x :: r, n, h, i, h1, h2, j, hj => by
    unfold tailOk at h
    rw [Bool.and_eq_true] at h
    by_cases e : i = n
    · subst e; exact isTail_iff h.1 j hj
    · exact tail_iff h.2 i (by omega) (by simp at h2; omega) j hj
  | [], n, _, i, h1, h2, _, _ => by simp at h2; omega
theorem lastQ_le (ms : List Nat) : ∀ n, lastQ ms n ≤ n
  | 0 => Nat.le_refl _
  | n + 1 => by
    have := lastQ_le ms n
    unfold lastQ
    split <;> omega
theorem quietLen_le : ∀ l : List Oper, quietLen l ≤ l.length
  | [] => Nat.le_refl _
  | o :: r => by
    have := quietLen_le r
    unfold quietLen
    split <;> simp <;> omega

/-- A quiet operation, in whatever state. -/
theorem qv_ok {E : Env} (EO : EnvOk E) {S : St} {D : Nat → Prop} {α : Al} {ω : Nat → Option Nat} {B : Nat} {w0 w : World} {a : Act} (H : HRel D S.res α ω B w0 w) (T : TRel D S.res α S.nt S.get a.tmps)
    {o : Oper} {side : Option Prop} {v : SV} (h : qv E S o.op = .val side v) (hs : sideH side) {next : Act → World → Prop} (Q : Exit → Act → World → Prop)
    (K : ∀ w', HRel D S.res α ω B w0 w' → v.good D S.res → next (a.put o.dst (v.den α)) w') : o.wp E.P a w next Q := by
  unfold qv at h
  split at h
  · rename_i fo as ts ho
    split at h
    · rename_i f cap hf
      obtain ⟨p1, p2⟩ := ev_c T hf
      unfold callQ at h
      split at h
      · rename_i fn C x hfn hna hC
        obtain ⟨hm, hx, hl⟩ := pickC_ok hC
        cases h
        have hg : ∀ v ∈ S.evs as.toList ++ cap.map (fun p => SV.w (.c (.ptr p.1 p.2))), v.good D S.res := fun v hv => by
          rcases List.mem_append.1 hv with hv | hv
          · exact evs_good T _ v hv
          · obtain ⟨p, hp, rfl⟩ := List.mem_map.1 hv
            exact p2 p hp
        have hany := noAny_iff hna
        obtain ⟨f1, f2, f3⟩ := EO.fns _ (look_mem hfn)
        have hc := EO.con _ hm x w _ (decArgs_ok H hx hg) hs
        have hargs : as.map a.eval ++ (cap.map fun p => Value.pointer (some ⟨α.blk p.1, p.2, none⟩)).toArray = ((S.evs as.toList ++ cap.map (fun p => SV.w (.c (.ptr p.1 p.2)))).map (SV.den α)).toArray := by
          apply Array.ext'
          have := evs_den T as.toList (fun v hv => hany v (List.mem_append_left _ hv))
          simp only [Array.toList_append, Array.toList_map, List.map_append, this, List.map_map]
          rfl
        have hrun : (execOp a.eval o).run E.P w = .ok (.enter f ((S.evs as.toList ++ cap.map (fun p => SV.w (.c (.ptr p.1 p.2)))).map (SV.den α)).toArray) w := by
          have f2' : ¬ (fn.name = "runtime.NumGoroutine") := by simpa using f2
          simp only [execOp, ho, resolve, p1, SC.den, Deferred.ofValue, Sem.run_bind, Sem.run_pure, Result.andThen_ok, invoke, callFunc, run_program, f1, f3]
          simp only [beq_iff_eq, f2', if_false, Bool.false_eq_true, Sem.run_pure]
          rw [← hargs]
          simp
        unfold Oper.wp
        rw [hrun]
        show Calls _ _ _ _ _
        refine hc.mono fun e w' he => ?_
        obtain ⟨vs, own, rfl, hb, hr⟩ := he
        have H' : HRel D S.res α ω B w0 w' := H.frame (H.bel.trans (hb.mono H.base)) hb.size (fun b hb' => hb.block b hb')
        obtain ⟨q1, q2⟩ := put_ok (D := D) (R := S.res) α (n := 0) hl hr
        obtain ⟨q3, q4⟩ := oneOrTup_good q2
        have := K w' H' q3
        rw [oneOrTup_den, q1] at this
        exact this
      · cases h
    · cases h
  · obtain ⟨q1, q2, q3⟩ := opv_val H T h hs
    unfold Oper.wp
    rw [q1]
    exact K w H q2
theorem qv_new {E : Env} {S : St} {D : Nat → Prop} {α : Al} {ω : Nat → Option Nat} {B : Nat} {w0 w : World} {a : Act} (H : HRel D S.res α ω B w0 w) (T : TRel D S.res α S.nt S.get a.tmps)
    {o : Oper} {cells : List SC} {ty : TypeId} {sl : Option Nat} (h : qv E S o.op = .new cells ty sl) :
    (execOp a.eval o).run E.P w = .ok (.value (newVal w.heap.size sl)) (World.made w (cells.map (SC.den α)).toArray ty) ∧ ∀ c ∈ cells, c.good D S.res := by
  unfold qv at h
  split at h
  · split at h
    · unfold callQ at h
      split at h
      · cases h
      · cases h
    · cases h
  · exact opv_new H T h
/-- A guard. -/
theorem guardQ_ok {ops : List Oper} {S S' : St} {g : Option (Nat × Bool)} {x : Bool} {D : Nat → Prop} {α : Al} {a : Act} (h : guardQ ops S g = some x) (hnt : S'.nt = S.nt) (hl : ∀ t ∈ guardT ops g, S'.get t = S.get t)
    (T : TRel D S'.res α S'.nt S'.get a.tmps) : wantB g (yielded ops.toArray a.tmps) = x := by
  cases g with
  | none => cases h; rfl
  | some p =>
    obtain ⟨j, want⟩ := p
    simp only [guardQ] at h
    split at h
    · rename_i oj hj
      split at h
      · rename_i d hd
        have hg : S'.get d = S.get d := hl d (by simp [guardT, hj, hd])
        have hy : ∀ v, a.tmps[d]? = some v → yielded ops.toArray a.tmps j = (match v with | .bool b => some b | _ => none) := fun v hv => by
          unfold yielded
          simp only [List.getElem?_toArray, hj, Option.bind_some, hd, hv]
          cases v <;> rfl
        split at h
        · rename_i b x' hlt hget
          have hlt : d < S'.nt := by rw [hnt]; simpa [Nat.blt_eq] using hlt
          rw [← hg] at hget
          have hb : b = x' := by have := T.good d hlt; rw [hget] at this; exact this x' rfl
          have := T.den d hlt (by rw [hget]; exact fun e => by cases e)
          rw [hget] at this
          simp only [wantB, hy _ this, SV.den, SW.den, SC.den]
          subst hb
          cases b <;> cases want <;> cases h <;> rfl
        · rename_i hlt hget
          have hlt : d < S'.nt := by rw [hnt]; simpa [Nat.blt_eq] using hlt
          rw [← hg] at hget
          have := T.den d hlt (by rw [hget]; exact fun e => by cases e)
          rw [hget] at this
          cases h
          simp only [wantB, hy _ this, SV.den, SW.den, SC.den, undef]
          rfl
        · cases h
      · cases h
    · cases h
theorem readsT_mem {t : Nat} : ∀ {l : List Operand}, Operand.tmp t ∈ l → t ∈ readsT l
  | x :: r, h => by
    rcases List.mem_cons.1 h with rfl | h
    · exact List.mem_cons_self ..
    · have := readsT_mem h
      cases x <;> first | exact this | exact List.mem_cons_of_mem _ this

theorem bxCap_mem : ∀ {l : List (Nat × Nat)} {p : Nat × Nat}, p ∈ l → p.1 ∈ bxCap l
  | q :: r, p, h => by
    rcases List.mem_cons.1 h with rfl | h
    · exact List.mem_cons_self ..
    · exact List.mem_cons_of_mem _ (bxCap_mem h)
theorem good_up {D D' : Nat → Prop} {c : SC} (h : c.good D fun _ => none) (hD : ∀ i, D i → D' i) : c.good D' fun _ => none := SC.good_mono h hD (fun j L' _ hr => by cases hr)
theorem sc_innB {D : Nat → Prop} {R : Nat → Option Res} {n : Nat} {c : SC} (h : scSC n c = true) (hg : c.good D R) : c.good (fun i => (D i ∧ i < n) ∧ i ∈ bxSC c) fun _ => none := by
  have h0 := sc_inn h hg
  cases c with
  | ptr b off => exact ⟨h0, List.mem_cons_self ..⟩
  | lptr j m i c => exact ⟨⟨h0.1, List.mem_cons_self ..⟩, fun L hL => by cases hL⟩
  | fn f cap => exact fun p hp => ⟨h0 p hp, bxCap_mem hp⟩
  | sl j => exact ⟨h0, List.mem_cons_self ..⟩
  | csl b off len cap => exact ⟨h0, List.mem_cons_self ..⟩
  | mp j => exact ⟨h0, List.mem_cons_self ..⟩
  | _ => exact h0
theorem scs_innB {D : Nat → Prop} {R : Nat → Option Res} {n : Nat} : ∀ {cs : List SC}, scSCs n cs = true → (∀ c ∈ cs, c.good D R) → ∀ c ∈ cs, c.good (fun i => (D i ∧ i < n) ∧ i ∈ bxSCs cs) fun _ => none
  | x :: r, h, hg, c, hc => by
    unfold scSCs at h
    rw [Bool.and_eq_true] at h
    rcases List.mem_cons.1 hc with rfl | hc
    · exact good_up (sc_innB h.1 (hg _ (List.mem_cons_self ..))) fun i hi => ⟨hi.1, List.mem_append_left _ hi.2⟩
    · exact good_up (scs_innB h.2 (fun c hc => hg c (List.mem_cons_of_mem _ hc)) c hc) fun i hi => ⟨hi.1, List.mem_append_right _ hi.2⟩
theorem sw_innB {D : Nat → Prop} {R : Nat → Option Res} {n : Nat} {c : SW} (h : scSW n c = true) (hg : c.good D R) : c.good (fun i => (D i ∧ i < n) ∧ i ∈ bxSW c) fun _ => none := by
  cases c with
  | c x => exact sc_innB h hg
  | agg cs => exact scs_innB h hg
theorem swgood_up {D D' : Nat → Prop} {c : SW} (h : c.good D fun _ => none) (hD : ∀ i, D i → D' i) : c.good D' fun _ => none := SW.good_mono h hD (fun j L' _ hr => by cases hr)
theorem sws_innB {D : Nat → Prop} {R : Nat → Option Res} {n : Nat} : ∀ {cs : List SW}, scSWs n cs = true → (∀ c ∈ cs, c.good D R) → ∀ c ∈ cs, c.good (fun i => (D i ∧ i < n) ∧ i ∈ bxSWs cs) fun _ => none
  | x :: r, h, hg, c, hc => by
    unfold scSWs at h
    rw [Bool.and_eq_true] at h
    rcases List.mem_cons.1 hc with rfl | hc
    · exact swgood_up (sw_innB h.1 (hg _ (List.mem_cons_self ..))) fun i hi => ⟨hi.1, List.mem_append_left _ hi.2⟩
    · exact swgood_up (sws_innB h.2 (fun c hc => hg c (List.mem_cons_of_mem _ hc)) c hc) fun i hi => ⟨hi.1, List.mem_append_right _ hi.2⟩
theorem sv_innB {D : Nat → Prop} {R : Nat → Option Res} {n : Nat} {c : SV} (h : scSV n c = true) (hg : c.good D R) : c.inn (fun i => (D i ∧ i < n) ∧ i ∈ bxSV c) := by
  cases c with
  | w x => exact sw_innB h hg
  | tup cs => exact sws_innB h hg
  | any => trivial
theorem bxOps_mem {S : St} {b : Nat} : ∀ {l : List Operand} {x : Operand}, x ∈ l → b ∈ bxSV (S.ev x) → b ∈ bxOps S l
  | y :: r, x, hx, hb => by
    unfold bxOps
    rcases List.mem_cons.1 hx with rfl | hx
    · exact List.mem_append_left _ hb
    · exact List.mem_append_right _ (bxOps_mem hx hb)
theorem storable_congr {S1 S2 : St} : ∀ {cs : List SC}, (∀ c ∈ cs, ∀ j ∈ bxSC c, S1.res j = S2.res j) → storable S1 cs = storable S2 cs
  | [], _ => rfl
  | c :: r, h => by
    have ih := storable_congr (S1 := S1) (S2 := S2) (cs := r) fun c hc => h c (List.mem_cons_of_mem _ hc)
    cases c <;> first | exact ih | rfl | skip
    rename_i j
    have e := h (.sl j) (List.mem_cons_self ..) j (List.mem_cons_self ..)
    simp only [storable, e, ih]
theorem bxSCs_mem : ∀ {cs : List SC} {c : SC} {j : Nat}, c ∈ cs → j ∈ bxSC c → j ∈ bxSCs cs
  | x :: r, c, j, hc, hj => by
    unfold bxSCs
    rcases List.mem_cons.1 hc with rfl | hc
    · exact List.mem_append_left _ hj
    · exact List.mem_append_right _ (bxSCs_mem hc hj)
theorem storeB_congr {E : Env} {S1 S2 : St} {t : TypeId} {a x : SV} (ha : ∀ j ∈ bxSV a, S1.res j = S2.res j) (hx : ∀ j ∈ bxSV x, S1.res j = S2.res j) : storeB E t S1 a x = storeB E t S2 a x := by
  unfold storeB
  split
  · rename_i b off v
    rw [ha b (List.mem_cons_self ..)]
    have : storable S1 v.cells = storable S2 v.cells := storable_congr fun c hc j hj => hx j (by
      cases v with
      | c y => simp only [SW.cells, List.mem_singleton] at hc; subst hc; exact hj
      | agg cs => exact bxSCs_mem hc hj)
    rw [this]
  · rfl

section
variable {E : Env} {ops q : List Oper} {S : St} {Ss : Nat → St} {out : Nat → Out} {α : Al} {B : Nat} {w0 : World}
/-- What the boxes hold behind the operations of D. -/
def ResOk (q : List Oper) (Ss : Nat → St) (out : Nat → Out) (D : Nat → Prop) (DD : Nat → Prop) (R : Nat → Option Res) : Prop :=
  (∀ x, DD x → (∀ j, j < q.length → stoAt out j x → ¬ D j → R x = (Ss j).res x) ∧ ((∀ j, j < q.length → stoAt out j x → D j) → R x = (Ss q.length).res x)) ∧
  ∀ j x, j < q.length → D j → stoAt out j x → DD x
theorem ResOk.step {D DD : Nat → Prop} {R : Nat → Option Res} (h : ResOk q Ss out D DD R) {i : Nat} (hi : ∀ x, ¬ stoAt out i x) : ResOk q Ss out (fun j => D j ∨ j = i) DD R := by
  refine ⟨fun x hx => ⟨fun j hj hst hn => (h.1 x hx).1 j hj hst fun hD => hn (.inl hD), fun hall => (h.1 x hx).2 fun j hj hst => ?_⟩, fun j x hj hD hst => ?_⟩
  · rcases hall j hj hst with h' | rfl
    · exact h'
    · exact absurd hst (hi x)
  · rcases hD with hD | rfl
    · exact h.2 j x hj hD hst
    · exact absurd hst (hi x)
/-- Behind the operations of D. -/
def Inv (q : List Oper) (S : St) (Ss : Nat → St) (out : Nat → Out) (α : Al) (B : Nat) (w0 : World) (D : Nat → Prop) (a : Act) (w : World) : Prop :=
  ∃ (α' : Al) (ω' : Nat → Option Nat) (DD : Nat → Prop) (R : Nat → Option Res) (get : Nat → SV),
    HRel DD R α' ω' B w0 w ∧ TRel DD R α' S.nt get a.tmps ∧ a.defers = [] ∧ Agree (· < S.nx) α α' ∧
    (∀ x, DD x ↔ x < S.nx ∨ ∃ j, j < q.length ∧ D j ∧ isNew (out j) = true ∧ x = (Ss j).nx) ∧
    ResOk q Ss out D DD R ∧
    (∀ j t, D j → wr q j t → get t = outV (Ss j) (out j)) ∧ (∀ t, (∀ j, D j → ¬ wr q j t) → get t = S.get t)
theorem put_defers (a : Act) (d : Option Tmp) (v : Value) : (a.put d v).defers = a.defers := by cases d <;> rfl
theorem inv_put {D : Nat → Prop} {i : Nat} {o : Oper} (ho : q[i]? = some o) (hu : ∀ j j' t, wr q j t → wr q j' t → j = j') (hD : ¬ D i) {a : Act} {w : World} {α' : Al} {ω' : Nat → Option Nat} {DD : Nat → Prop} {R : Nat → Option Res} {get : Nat → SV}
    (H : HRel DD R α' ω' B w0 w) (T : TRel DD R α' S.nt get a.tmps) (d : a.defers = []) (ag : Agree (· < S.nx) α α')
    (dd : ∀ x, DD x ↔ x < S.nx ∨ ∃ j, j < q.length ∧ (D j ∨ j = i) ∧ isNew (out j) = true ∧ x = (Ss j).nx) (rr : ResOk q Ss out (fun j => D j ∨ j = i) DD R)
    (g1 : ∀ j t, D j → wr q j t → get t = outV (Ss j) (out j)) (g2 : ∀ t, (∀ j, D j → ¬ wr q j t) → get t = S.get t) (hv : (outV (Ss i) (out i)).good DD R) {x : Value} (hx : x = (outV (Ss i) (out i)).den α') :
    Inv q S Ss out α B w0 (fun j => D j ∨ j = i) (a.put o.dst x) w := by
  cases hd : o.dst with
  | none =>
    have hno : ∀ t, ¬ wr q i t := fun t ⟨o', h1, h2⟩ => by rw [ho] at h1; cases h1; rw [hd] at h2; cases h2
    refine ⟨α', ω', DD, R, get, H, T, d, ag, dd, rr, fun j t hj hw => ?_, fun t ht => g2 t fun j hj => ht j (.inl hj)⟩
    rcases hj with hj | rfl
    · exact g1 j t hj hw
    · exact absurd hw (hno t)
  | some s =>
    have hw0 : wr q i s := ⟨o, ho, hd⟩
    refine ⟨α', ω', DD, R, _, H, T.put hv s fun _ => hx, d, ag, dd, rr, fun j t hj hw => ?_, fun t ht => ?_⟩
    · by_cases e : s = t
      · subst e
        simp only [if_true]
        rw [hu j i s hw hw0]
      · simp only [if_neg e]
        rcases hj with hj | rfl
        · exact g1 j t hj hw
        · obtain ⟨o', h1, h2⟩ := hw
          rw [ho] at h1; cases h1; rw [hd] at h2; cases h2
          exact absurd rfl e
    · by_cases e : s = t
      · subst e
        exact absurd hw0 (ht i (.inr rfl))
      · simp only [if_neg e]
        exact g2 t fun j hj => ht j (.inl hj)
theorem inv_step (EO : EnvOk E) (p : Path E ops q S Ss out) (od : Ordd (befs ops []) q 0 [] [] Ss out) {n : Nat} (hq : q = ops.take n) (hquiet : quietOk (befs ops []) ops q q 0 = true) {D : Nat → Prop} {i : Nat} {o : Oper} (ho : q[i]? = some o)
    (hD : ¬ D i) (c1 : Closed ops D) (c2 : Closed ops (fun j => D j ∨ j = i)) {a : Act} {w : World} (I : Inv q S Ss out α B w0 D a w) {K : Act → World → Prop} (Q : Exit → Act → World → Prop)
    (hK : ∀ a' w', Inv q S Ss out α B w0 (fun j => D j ∨ j = i) a' w' → K a' w') : wpOp E.P ops.toArray Q i K a w := by
  have hi : i < q.length := (List.getElem?_eq_some_iff.1 ho).1
  have hsl : ∀ j o', q[j]? = some o' → slotsOk (befs ops []) ops o' j q 0 = true := fun j o' h => by have := quiet_iff hquiet j o' h; rwa [Nat.zero_add] at this
  have hu : ∀ j j' t, wr q j t → wr q j' t → j = j' := fun j j' t ⟨o1, h1, e1⟩ ⟨o2, h2, e2⟩ => by
    by_cases e : j' = j
    · exact e.symm
    · exact absurd e1 (slots_iff (hsl j o1 h1) j' o2 t h2 e2 (by omega)).2
  have hoo : ops[i]? = some o := by
    rw [hq, List.getElem?_take] at ho
    split at ho
    · exact ho
    · cases ho
  obtain ⟨α', ω', DD, R, get, H, T, d, ag, dd, rr, g1, g2⟩ := I
  obtain ⟨st, sn⟩ := p.step i o ho
  have hnt : (Ss i).nt = S.nt := p.nt i (by omega)
  have hget : ∀ t, t ∈ looks ops o → get t = (Ss i).get t := fun t ht => by
    by_cases hex : ∃ j, j ≠ i ∧ wr q j t
    · obtain ⟨j, hne, hw⟩ := hex
      obtain ⟨o', h1, h2⟩ := hw
      have := (slots_iff (hsl i o ho) j o' t h1 h2 (by omega)).1 ht
      rw [Nat.zero_add] at this
      rcases this with ⟨h3, h4⟩ | ⟨h3, h4⟩
      · have hDj : D j := by
          rcases waits_in c2 (i := i) (.inr rfl) h4 with h | h
          · exact h
          · exact absurd h hne
        rw [g1 j t hDj ⟨o', h1, h2⟩, p.getSome ⟨o', h1, h2⟩ i h3 (by omega) fun j' hj' hne' hw' => hne' (hu j' j t hw' ⟨o', h1, h2⟩)]
      · have hDj : ¬ D j := fun h => hD (waits_in c1 h h4)
        rw [g2 t fun j' hj' hw' => hDj (hu j' j t hw' ⟨o', h1, h2⟩ ▸ hj'), p.getNone i (by omega) fun j' hj' hw' => by
          have := hu j' j t hw' ⟨o', h1, h2⟩; omega]
    · rw [g2 t fun j hj hw => hex ⟨j, (fun e => hD (e ▸ hj)), hw⟩, p.getNone i (by omega) fun j hj hw => hex ⟨j, by omega, hw⟩]
  let S' : St := { tm := [], tb := get, nt := S.nt, rs := [], rb := R, nx := 0 }
  have H' : HRel DD S'.res α' ω' B w0 w := H
  have T' : TRel DD S'.res α' S'.nt S'.get a.tmps := T
  have hev : ∀ x ∈ o.op.operands.toList, S'.ev x = (Ss i).ev x := fun x hx => by
    cases x with
    | tmp t =>
      show (match Nat.blt t S.nt with | true => get t | false => SV.any) = (match Nat.blt t (Ss i).nt with | true => (Ss i).get t | false => SV.any)
      rw [hnt, hget t (List.mem_append_right _ (readsT_mem hx))]
    | _ => rfl
  have hw : Region.wanted o (yielded ops.toArray a.tmps) = wantB o.guard (yielded ops.toArray a.tmps) := wanted_eq _ _
  have hguard : ∀ x, guardQ ops (Ss i) o.guard = some x → Region.wanted o (yielded ops.toArray a.tmps) = x := fun x hx => by
    rw [hw]
    exact guardQ_ok (S' := S') hx hnt.symm (fun t ht => hget t (List.mem_append_left _ ht)) T'
  have once : ∀ {j j' x : Nat}, j < q.length → j' < q.length → stoAt out j x → stoAt out j' x → j = j' := fun {j j' x} h1 h2 h3 h4 => od.once j j' x h1 h2 h3 h4
  have hsee : out i ≠ .skip → ∀ y, DD y → y < (Ss i).nx → y ∈ bxOps (Ss i) o.op.operands.toList → R y = (Ss i).res y := fun hsk y hy hlt hm => by
    obtain ⟨r1, r2⟩ := rr.1 y hy
    by_cases hex : ∃ j, j < q.length ∧ stoAt out j y
    · obtain ⟨j, hj, hst⟩ := hex
      rcases Nat.lt_trichotomy j i with h | h | h
      · have hw := od.after i j y h hi hst ⟨hsk, o, ho, hm⟩
        rw [Nat.zero_add, Nat.zero_add] at hw
        have hDj : D j := by
          rcases waits_in c2 (i := i) (.inr rfl) hw with h' | h'
          · exact h'
          · omega
        rw [r2 fun j' hj' hst' => by rw [once hj' hj hst' hst]; exact hDj, p.res hlt q.length (by omega) (Nat.le_refl _) fun l h1 h2 hl => by have := once h2 hj hl hst; omega]
      · subst h; exact r1 j hj hst hD
      · have hw := od.before i j y h hj ⟨hsk, o, ho, hm⟩ hst
        rw [Nat.zero_add, Nat.zero_add] at hw
        have hDj : ¬ D j := fun h' => hD (waits_in c1 h' hw)
        rw [r1 j hj hst hDj, p.res hlt j (by omega) (by omega) fun l h1 h2 hl => by have := once (by omega) hj hl hst; omega]
    · rw [r2 fun j' hj' hst' => absurd ⟨j', hj', hst'⟩ hex, p.res hlt q.length (by omega) (Nat.le_refl _) fun l h1 h2 hl => hex ⟨l, h2, hl⟩]
  have hqv : out i ≠ .skip → scOps (Ss i) o.op.operands.toList = true → qv E S' o.op = qv E (Ss i) o.op := fun hsk hsc =>
    qv_congr (S1 := S') (S2 := Ss i) (D := fun y => (DD y ∧ y < (Ss i).nx) ∧ y ∈ bxOps (Ss i) o.op.operands.toList) (fun y hy => hsee hsk y hy.1.1 hy.1.2 hy.2) fun x hx => by
      refine ⟨hev x hx, ?_⟩
      have h1 := sv_innB (n := (Ss i).nx) (by rw [hev x hx]; exact scOps_iff hsc x hx) (ev_good T' x)
      refine SV.good_mono h1 (fun y hy => ⟨hy.1, bxOps_mem hx (by rw [← hev x hx]; exact hy.2)⟩) (fun j L' _ hr => by cases hr)
  have dd' : isNew (out i) = false → ∀ x, DD x ↔ x < S.nx ∨ ∃ j, j < q.length ∧ (D j ∨ j = i) ∧ isNew (out j) = true ∧ x = (Ss j).nx := fun hn x => by
    rw [dd]
    constructor
    · rintro (h | ⟨j, h1, h2, h3, h4⟩)
      · exact .inl h
      · exact .inr ⟨j, h1, .inl h2, h3, h4⟩
    · rintro (h | ⟨j, h1, h2 | rfl, h3, h4⟩)
      · exact .inl h
      · exact .inr ⟨j, h1, h2, h3, h4⟩
      · rw [hn] at h3; cases h3
  unfold wpOp
  have hoo' : ops.toArray[i]? = some o := by simpa using hoo
  rw [hoo']
  simp only
  cases hout : out i with
  | skip =>
    rw [hout] at st
    rw [hguard _ st]
    simp only [Bool.false_eq_true, if_false]
    refine hK _ _ (inv_put ho hu hD H T d ag (dd' (by rw [hout]; rfl)) (rr.step fun x hx => by obtain ⟨bx, e⟩ := hx; rw [hout] at e; cases e) g1 g2 ?_ ?_)
    · rw [hout]; exact trivial
    · rw [hout]; rfl
  | val v =>
    rw [hout] at st
    obtain ⟨s1, s2, side, v0, s3, s4, s5⟩ := st
    rw [hguard _ s1]
    simp only [if_true]
    refine .inl (qv_ok EO H' T' ((hqv (by rw [hout]; exact fun e => by cases e) s2).trans s3) s4 Q fun w' H'' hv => hK _ _ (inv_put ho hu hD H'' T d ag (dd' (by rw [hout]; rfl)) (rr.step fun x hx => by obtain ⟨bx, e⟩ := hx; rw [hout] at e; cases e) g1 g2 ?_ ?_))
    · rw [hout]
      rcases s5 with rfl | ⟨b, rfl, rfl⟩
      · exact hv
      · exact fun x hx => by cases hx; rfl
    · rw [hout]
      rcases s5 with rfl | ⟨b, rfl, rfl⟩
      · rfl
      · rfl
  | new cells ty sl =>
    rw [hout] at st
    obtain ⟨s1, s2, s3⟩ := st
    rw [hguard _ s1]
    simp only [if_true]
    obtain ⟨q1, q2⟩ := qv_new H' T' ((hqv (by rw [hout]; exact fun e => by cases e) s2).trans s3)
    refine .inl ?_
    unfold Oper.wp
    rw [q1]
    show K (a.put o.dst (newVal w.heap.size sl)) _
    have hin : isNew (out i) = true := by rw [hout]; rfl
    have hn : ¬ DD (Ss i).nx := fun h => by
      rcases (dd _).1 h with h | ⟨j, h1, h2, h3, h4⟩
      · have := p.nx (i := 0) i (Nat.zero_le _) (by omega)
        rw [p.zero] at this
        omega
      · by_cases e : j < i
        · have := p.nxNew e (by omega) h3; omega
        · have hne : j ≠ i := fun e => hD (e ▸ h2)
          have := p.nxNew (i := i) (j := j) (by omega) (by omega) hin; omega
    have HM := H'.make hn q2 ty
    have ha := agree_setB (D := DD) α' (Ss i).nx w.heap.size hn
    have hk : Keep DD R (fun x => if (Ss i).nx = x then some (.box ⟨cells, ty⟩) else R x) := fun j L' hj hr => by
      by_cases e : (Ss i).nx = j
      · exact absurd (e ▸ hj) hn
      · simp only [if_neg e] at hr; exact ⟨L', hr, rfl, rfl⟩
    refine hK _ _ (inv_put (DD := fun x => DD x ∨ x = (Ss i).nx) ho hu hD HM (T.mono (fun x h => .inl h) hk ha) d (ag.trans ha fun x hx => (dd x).2 (.inl hx)) (fun x => ?_) ?_ g1 g2 ?_ ?_)
    · rw [dd]
      constructor
      · rintro ((h | ⟨j, h1, h2, h3, h4⟩) | h)
        · exact .inl h
        · exact .inr ⟨j, h1, .inl h2, h3, h4⟩
        · exact .inr ⟨i, hi, .inr rfl, hin, h⟩
      · rintro (h | ⟨j, h1, h2 | rfl, h3, h4⟩)
        · exact .inl (.inl h)
        · exact .inl (.inr ⟨j, h1, h2, h3, h4⟩)
        · exact .inr h4
    · have hns : ∀ j, j < q.length → stoAt out j (Ss i).nx → i < j := fun j hj hst => by
        obtain ⟨bx, e⟩ := hst
        have := (p.stoHere hj e).1
        by_cases h : i < j
        · exact h
        · have := p.nx (i := j) i (by omega) (by omega); omega
      refine ⟨fun x hx => ?_, fun j x hj hDj hst => ?_⟩
      · by_cases e : (Ss i).nx = x
        · subst e
          simp only [if_true]
          have h1 := p.nxNew (i := i) (j := i + 1) (by omega) hi hin
          refine ⟨fun j hj hst hn' => ?_, fun hall => ?_⟩
          · have := hns j hj hst
            rw [p.res h1 j (by omega) (by omega) fun l a b hl => by have := once (by omega) hj hl hst; omega, p.resNew hi hout]
          · rw [p.res h1 q.length (by omega) (Nat.le_refl _) fun l a b hl => by
              rcases hall l b hl with h | h
              · exact hn (rr.2 l _ b h hl)
              · omega, p.resNew hi hout]
        · simp only [if_neg e]
          rcases hx with hx | hx
          · obtain ⟨r1, r2⟩ := rr.1 x hx
            refine ⟨fun j hj hst hn' => r1 j hj hst fun h => hn' (.inl h), fun hall => r2 fun j hj hst => ?_⟩
            rcases hall j hj hst with h | rfl
            · exact h
            · obtain ⟨bx, e'⟩ := hst; rw [hout] at e'; cases e'
          · exact absurd hx.symm e
      · rcases hDj with hDj | rfl
        · exact .inl (rr.2 j x hj hDj hst)
        · obtain ⟨bx, e'⟩ := hst; rw [hout] at e'; cases e'
    · rw [hout]
      cases sl <;> exact .inr rfl
    · rw [hout]
      cases sl <;> simp [outV, newV, newVal, SV.den, SW.den, SC.den, Al.setB]
  | sto b bx =>
    rw [hout] at st
    obtain ⟨s1, s2, s3, t, x, y, hop, hB⟩ := st
    rw [hguard _ s1]
    simp only [if_true]
    have hsk : out i ≠ .skip := by rw [hout]; exact fun e => by cases e
    have hox : ∀ z ∈ [x, y], z ∈ o.op.operands.toList := fun z hz => by rw [hop]; exact hz
    have inD : ∀ z, z ∈ o.op.operands.toList → ∀ v ∈ bxSV ((Ss i).ev z), DD v ∧ v < (Ss i).nx := fun z hz v hv => by
      have h1 := scOps_iff s2 z hz
      have h2 : ((Ss i).ev z).good DD S'.res := by rw [← hev z hz]; exact ev_good T' z
      have names : ∀ c : SC, scSC (Ss i).nx c = true → c.good DD S'.res → v ∈ bxSC c → DD v ∧ v < (Ss i).nx := fun c hc hg hm => by
        cases c <;> simp only [bxSC, List.mem_cons, List.not_mem_nil, or_false] at hm
        · subst hm; exact ⟨hg, by simpa [scSC, Nat.blt_eq] using hc⟩
        · subst hm; exact ⟨hg.1, by simpa [scSC, Nat.blt_eq] using hc⟩
        · rename_i f cap
          have key : ∀ l : List (Nat × Nat), v ∈ bxCap l → ∃ p ∈ l, p.1 = v := fun l => by
            induction l with
            | nil => intro h; cases h
            | cons p r ih =>
              intro h
              rcases List.mem_cons.1 h with h | h
              · exact ⟨p, List.mem_cons_self .., h.symm⟩
              · obtain ⟨p', a, b⟩ := ih h
                exact ⟨p', List.mem_cons_of_mem _ a, b⟩
          obtain ⟨p', a, b⟩ := key cap hm
          subst b
          exact ⟨hg p' a, ltAll_iff hc p' a⟩
        · subst hm; exact ⟨hg, by simpa [scSC, Nat.blt_eq] using hc⟩
        · subst hm; exact ⟨hg, by simpa [scSC, Nat.blt_eq] using hc⟩
        · subst hm; exact ⟨hg, by simpa [scSC, Nat.blt_eq] using hc⟩
      have namesL : ∀ cs : List SC, scSCs (Ss i).nx cs = true → (∀ c ∈ cs, c.good DD S'.res) → v ∈ bxSCs cs → DD v ∧ v < (Ss i).nx := fun cs => by
        induction cs with
        | nil => intro _ _ h; cases h
        | cons c r ih =>
          intro hc hg hm
          unfold scSCs at hc
          rw [Bool.and_eq_true] at hc
          unfold bxSCs at hm
          rcases List.mem_append.1 hm with hm | hm
          · exact names c hc.1 (hg c (List.mem_cons_self ..)) hm
          · exact ih hc.2 (fun c hc => hg c (List.mem_cons_of_mem _ hc)) hm
      have namesW : ∀ u : SW, scSW (Ss i).nx u = true → u.good DD S'.res → v ∈ bxSW u → DD v ∧ v < (Ss i).nx := fun u hc hg hm => by
        cases u with
        | c c => exact names c hc hg hm
        | agg cs => exact namesL cs hc hg hm
      have namesWs : ∀ us : List SW, scSWs (Ss i).nx us = true → (∀ u ∈ us, u.good DD S'.res) → v ∈ bxSWs us → DD v ∧ v < (Ss i).nx := fun us => by
        induction us with
        | nil => intro _ _ h; cases h
        | cons c r ih =>
          intro hc hg hm
          unfold scSWs at hc
          rw [Bool.and_eq_true] at hc
          unfold bxSWs at hm
          rcases List.mem_append.1 hm with hm | hm
          · exact namesW c hc.1 (hg c (List.mem_cons_self ..)) hm
          · exact ih hc.2 (fun c hc => hg c (List.mem_cons_of_mem _ hc)) hm
      cases e : (Ss i).ev z with
      | w u => rw [e] at h1 h2 hv; exact namesW u h1 h2 hv
      | tup us => rw [e] at h1 h2 hv; exact namesWs us h1 h2 hv
      | any => rw [e] at hv; cases hv
    have cong : ∀ z, z ∈ o.op.operands.toList → ∀ v ∈ bxSV ((Ss i).ev z), S'.res v = (Ss i).res v := fun z hz v hv =>
      hsee hsk v (inD z hz v hv).1 (inD z hz v hv).2 (bxOps_mem hz hv)
    have hx1 := hox x (List.mem_cons_self ..)
    have hy1 := hox y (List.mem_cons_of_mem _ (List.mem_cons_self ..))
    have hB' : storeB E t S' (S'.ev x) (S'.ev y) = some (b, bx) := by
      rw [hev x hx1, hev y hy1, storeB_congr (S1 := S') (S2 := Ss i) (cong x hx1) (cong y hy1)]
      exact hB
    obtain ⟨bx0, w', e1, e2, e3⟩ := storeB_ok H' T' hop hB'
    have hb : DD b := H.dec b _ e1
    refine .inl ?_
    unfold Oper.wp
    rw [e2]
    show K (a.put o.dst undef) w'
    rw [s3]
    show K a w'
    have hkeep : Keep DD R (fun j => if b = j then some (.box bx) else R j) := keep_box b bx
    refine hK _ _ ⟨α', ω', DD, _, get, e3, T.mono (fun _ h => h) hkeep (Agree.refl _ _), d, ag, dd' (by rw [hout]; rfl), ⟨fun x hx => ?_, fun j x hj hDj hst => ?_⟩, fun j t hj hw => ?_, fun t ht => g2 t fun j hj => ht j (.inl hj)⟩
    · by_cases e : b = x
      · subst e
        simp only [if_true]
        refine ⟨fun j hj hst hn => ?_, fun _ => ?_⟩
        · exact absurd (.inr (once hj hi hst ⟨bx, hout⟩)) hn
        · have hlt : b < (Ss (i + 1)).nx := Nat.lt_of_lt_of_le (p.stoHere hi hout).1 (p.nx (i := i) (i + 1) (by omega) hi)
          rw [p.res hlt q.length (by omega) (Nat.le_refl _) fun l h1 h2 hl => by have := once h2 hi hl ⟨bx, hout⟩; omega, p.resSto hi hout]
      · simp only [if_neg e]
        obtain ⟨r1, r2⟩ := rr.1 x hx
        have hne : ¬ stoAt out i x := fun h => by
          obtain ⟨bx', h⟩ := h
          rw [hout] at h; cases h; exact e rfl
        refine ⟨fun j hj hst hn => r1 j hj hst fun h => hn (.inl h), fun hall => r2 fun j hj hst => ?_⟩
        rcases hall j hj hst with h | rfl
        · exact h
        · exact absurd hst hne
    · rcases hDj with hDj | rfl
      · exact rr.2 j x hj hDj hst
      · obtain ⟨bx', h⟩ := hst
        rw [hout] at h; cases h; exact hb
    · rcases hj with hj | rfl
      · exact g1 j t hj hw
      · obtain ⟨o', h1, h2⟩ := hw
        rw [ho] at h1; cases h1; rw [s3] at h2; cases h2
end

/-! ### The tail -/
theorem tail_ok {E : Env} (EO : EnvOk E) {ih : IH} (hih : IHok E ih) {ops : List Oper} {k : St → Prop} {Q : Exit → Act → World → Prop} {B : Nat} {w0 : World} (hE : allEdges ops 0 = true) {n : Nat} (hn : n ≤ ops.length) (ht : tailOk (befs ops []) (ops.drop n) n = true) :
    ∀ (fuel m : Nat) (listed : Array Bool) (S : St) (α : Al) (ω : Nat → Option Nat) (a : Act) (w : World), unl listed ops.length ≤ fuel → listed.size = ops.length → n ≤ m → m ≤ ops.length → (∀ i, i < ops.length → (listed.getD i true = true ↔ i < m)) →
      Rel S α ω B w0 a w → exOps E ih ops (ops.drop m) S k → (∀ S' α' ω' a' w', Evo S S' α α' → Rel S' α' ω' B w0 a' w' → k S' → Q .normal a' w') → wpAny E.P .any ops.toArray Q fuel listed a w := by
  intro fuel
  induction fuel with
  | zero =>
    intro m listed S α ω a w hf hsz hnm hm hl r h K
    have hall := unl_zero (l := listed) (k := ops.length) (by omega)
    have : m = ops.length := by
      by_cases e : m < ops.length
      · have := (hl m e).1 (hall m e); omega
      · omega
    rw [this, List.drop_length] at h
    exact ⟨ready_all hall, K S α ω a w (Evo.refl _ _) r h⟩
  | succ fuel ih' =>
    intro m listed S α ω a w hf hsz hnm hm hl r h K
    refine ⟨fun hr => ?_, fun i hi => ?_⟩
    · have hall := ready_nil hE hsz hr
      have : m = ops.length := by
        by_cases e : m < ops.length
        · have := (hl m e).1 (hall m e); omega
        · omega
      rw [this, List.drop_length] at h
      exact K S α ω a w (Evo.refl _ _) r h
    · obtain ⟨h1, h2, o, ho, he⟩ := mem_ready hi
      have hge : m ≤ i := by
        by_cases e : i < m
        · rw [(hl i h1).2 e] at h2; cases h2
        · omega
      have him : i = m := by
        by_cases e : i = m
        · exact e
        · exfalso
          have hc : Closed ops (fun j => j < m ∨ j = i) := fun j o' ho' hj e' he' hb => by
            rcases hj with hj | rfl
            · have := allEdges_iff hE j o' ho' e' he' hb
              exact .inl (by omega)
            · rw [ho] at ho'; cases ho'
              have := he e' he' hb
              have hlt := allEdges_iff hE j o ho e' he' hb
              refine .inl ((hl e'.on (by omega)).1 ?_)
              rw [Array.getD_eq_getD_getElem?] at this ⊢
              have hs : e'.on < listed.size := by omega
              rw [Array.getElem?_eq_getElem hs] at this ⊢
              exact this
          have hw := tail_iff ht i (by omega) (by simp; omega) m (by omega)
          rcases waits_in hc (i := i) (.inr rfl) hw with h | h <;> omega
      subst him
      have hdrop : ops.drop i = o :: ops.drop (i + 1) := by
        have := (List.getElem?_eq_some_iff.1 ho).2
        rw [← this]
        exact List.drop_eq_getElem_cons h1
      rw [hdrop] at h
      have hl' : ∀ j, j < ops.length → ((listed.setIfInBounds i true).getD j true = true ↔ j < i + 1) := fun j hj => by
        rw [getD_set listed i j true true (by omega)]
        by_cases e : i = j
        · rw [if_pos e]; simp; omega
        · rw [if_neg e, hl j hj]; omega
      have hf' : unl (listed.setIfInBounds i true) ops.length ≤ fuel := by
        have := unl_set (l := listed) (i := i) (by omega) h2 ops.length
        rw [if_pos h1] at this; omega
      obtain ⟨S', x, e1, r1, hx1, hx⟩ := guardV_ok (show guardV ops S o.guard _ from h) r
      have hw : Region.wanted o (yielded ops.toArray a.tmps) = x := (wanted_eq _ _).trans hx
      unfold wpOp
      have ho' : ops.toArray[i]? = some o := by simpa using ho
      rw [ho']
      simp only
      rw [hw]
      cases x with
      | true =>
        simp only [if_true]
        refine .inl (exOp_ok EO hih hx1 r1 Q fun S'' α'' ω'' a'' w'' e2 r2 h2 => ?_)
        exact ih' (i + 1) _ S'' α'' ω'' a'' w'' hf' (by simp [hsz]) (by omega) (by omega) hl' r2 h2 fun S3 α3 ω3 a3 w3 e3 r3 h3 => K S3 α3 ω3 a3 w3 ((e1.trans e2).trans e3) r3 h3
      | false =>
        simp only [Bool.false_eq_true, if_false]
        exact ih' (i + 1) _ _ α ω _ w hf' (by simp [hsz]) (by omega) (by omega) hl' (r1.put (v := undefV) trivial o.dst fun _ => rfl) hx1 fun S3 α3 ω3 a3 w3 e3 r3 h3 => K S3 α3 ω3 a3 w3 ((e1.trans (Evo.put S' _ _ _)).trans e3) r3 h3

/-! ### A small region in every order -/
theorem rdyB_iff {l : List Bool} : ∀ {es : List Edge}, rdyB l es = true ↔ ∀ e ∈ es, Region.binds .any e = true → l.getD e.on false = true
  | [] => by simp [rdyB]
  | e :: r => by
    unfold rdyB
    rw [Bool.and_eq_true, rdyB_iff (es := r)]
    cases hb : Region.binds .any e with
    | true => simp only [List.mem_cons, forall_eq_or_imp, hb, true_implies]
    | false =>
      simp only [List.mem_cons, forall_eq_or_imp, hb, true_and]
      exact ⟨fun h => ⟨fun h' => by simp at h', h⟩, fun h => h.2⟩
theorem rdyL_iff {l : List Bool} {i : Nat} : ∀ {r : List Oper} {n : Nat}, i ∈ rdyL l r n ↔ ∃ j o, r[j]? = some o ∧ i = n + j ∧ l.getD i true = false ∧ rdyB l o.after.toList = true
  | [], n => by simp [rdyL]
  | x :: r, n => by
    have ih := rdyL_iff (l := l) (i := i) (r := r) (n := n + 1)
    have key : (∃ j o, (x :: r)[j]? = some o ∧ i = n + j ∧ l.getD i true = false ∧ rdyB l o.after.toList = true) ↔ (i = n ∧ l.getD i true = false ∧ rdyB l x.after.toList = true) ∨ i ∈ rdyL l r (n + 1) := by
      rw [ih]
      constructor
      · rintro ⟨j, o, h1, h2, h3, h4⟩
        cases j with
        | zero => cases h1; exact .inl ⟨by omega, h3, h4⟩
        | succ j => exact .inr ⟨j, o, by simpa using h1, by omega, h3, h4⟩
      · rintro (⟨h2, h3, h4⟩ | ⟨j, o, h1, h2, h3, h4⟩)
        · exact ⟨0, x, rfl, by omega, h3, h4⟩
        · exact ⟨j + 1, o, by simpa using h1, by omega, h3, h4⟩
    rw [key]
    show i ∈ (match (!(l.getD n true)) && rdyB l x.after.toList with | true => n :: rdyL l r (n + 1) | false => rdyL l r (n + 1)) ↔ _
    cases hc : (!(l.getD n true)) && rdyB l x.after.toList with
    | true =>
      rw [Bool.and_eq_true] at hc
      have h1 : l.getD n true = false := by simpa using hc.1
      dsimp only
      rw [List.mem_cons]
      constructor
      · rintro (rfl | h)
        · exact .inl ⟨rfl, h1, hc.2⟩
        · exact .inr h
      · rintro (⟨rfl, _⟩ | h)
        · exact .inl rfl
        · exact .inr h
    | false =>
      dsimp only
      constructor
      · exact .inr
      · rintro (⟨rfl, h3, h4⟩ | h)
        · rw [h3, h4] at hc; exact absurd hc (by decide)
        · exact h
theorem getD_list (a : Array Bool) (i : Nat) (d : Bool) : a.getD i d = a.toList.getD i d := by
  rw [Array.getD_eq_getD_getElem?, List.getD_eq_getElem?_getD, Array.getElem?_toList]
theorem ready_rdy {ops : List Oper} {listed : Array Bool} {i : Nat} : i ∈ Region.ready .any ops.toArray listed ↔ i ∈ rdyL listed.toList ops 0 := by
  rw [rdyL_iff]
  constructor
  · intro h
    obtain ⟨h1, h2, o, h3, h4⟩ := mem_ready h
    exact ⟨i, o, h3, by omega, by rw [← getD_list]; exact h2, rdyB_iff.2 fun e he hb => by rw [← getD_list]; exact h4 e he hb⟩
  · rintro ⟨j, o, h1, h2, h3, h4⟩
    obtain rfl : i = j := by omega
    exact ready_mem h1 (by rw [getD_list]; exact h3) fun e he hb => by rw [getD_list]; exact rdyB_iff.1 h4 e he hb
theorem setL_set : ∀ (l : List Bool) (i : Nat), setL l i = l.set i true
  | [], _ => rfl
  | _ :: _, 0 => rfl
  | b :: r, n + 1 => by rw [setL, setL_set r n]; rfl
theorem allN_iff {P : Nat → Prop} : ∀ {l : List Nat}, allN l P → ∀ i ∈ l, P i
  | [], _, i, hi => by cases hi
  | [j], h, i, hi => by rw [List.mem_singleton.1 hi]; exact h
  | j :: k :: r, h, i, hi => by
    rcases List.mem_cons.1 hi with rfl | hi
    · exact h.1
    · exact allN_iff (l := k :: r) h.2 i hi
theorem falses_rep : ∀ n, falses n = List.replicate n false
  | 0 => rfl
  | n + 1 => by rw [falses, falses_rep n]; rfl
theorem exAny_ok {E : Env} (EO : EnvOk E) {ih : IH} (hih : IHok E ih) {ops : List Oper} {k : St → Prop} {Q : Exit → Act → World → Prop} {B : Nat} {w0 : World} :
    ∀ (n : Nat) (listed : Array Bool) (S : St) (α : Al) (ω : Nat → Option Nat) (a : Act) (w : World), exAny E ih ops n listed.toList S k → Rel S α ω B w0 a w →
      (∀ S' α' ω' a' w', Evo S S' α α' → Rel S' α' ω' B w0 a' w' → k S' → Q .normal a' w') → wpAny E.P .any ops.toArray Q n listed a w := by
  intro n
  induction n with
  | zero =>
    intro listed S α ω a w h r K
    unfold exAny at h
    split at h
    · rename_i hn
      refine ⟨?_, K S α ω a w (Evo.refl _ _) r h⟩
      cases e : Region.ready .any ops.toArray listed with
      | nil => rfl
      | cons i l =>
        have : i ∈ rdyL listed.toList ops 0 := ready_rdy.1 (by rw [e]; exact List.mem_cons_self ..)
        rw [hn] at this; cases this
    · cases h
  | succ n ih' =>
    intro listed S α ω a w h r K
    unfold exAny at h
    refine ⟨fun hr => ?_, fun i hi => ?_⟩
    · split at h
      · exact K S α ω a w (Evo.refl _ _) r h
      · rename_i rs hne
        exfalso
        cases e : rdyL listed.toList ops 0 with
        | nil => exact hne e
        | cons i l =>
          have : i ∈ Region.ready .any ops.toArray listed := ready_rdy.2 (by rw [e]; exact List.mem_cons_self ..)
          rw [hr] at this; cases this
    · have hi' := ready_rdy.1 hi
      split at h
      · rename_i hn; rw [hn] at hi'; cases hi'
      · obtain ⟨h1, h2, o, ho, he⟩ := mem_ready hi
        have h := allN_iff h i hi'
        rw [ho] at h
        dsimp only at h
        obtain ⟨S', x, e1, r1, hx1, hx⟩ := guardV_ok h r
        have hw : Region.wanted o (yielded ops.toArray a.tmps) = x := (wanted_eq _ _).trans hx
        unfold wpOp
        have ho' : ops.toArray[i]? = some o := by simpa using ho
        rw [ho']
        simp only
        rw [hw]
        have hset : (listed.setIfInBounds i true).toList = setL listed.toList i := by rw [setL_set]; simp
        cases x with
        | true =>
          simp only [if_true]
          refine .inl (exOp_ok EO hih hx1 r1 Q fun S'' α'' ω'' a'' w'' e2 r2 h2 => ?_)
          exact ih' _ S'' α'' ω'' a'' w'' (by rw [hset]; exact h2) r2 fun S3 α3 ω3 a3 w3 e3 r3 h3 => K S3 α3 ω3 a3 w3 ((e1.trans e2).trans e3) r3 h3
        | false =>
          simp only [Bool.false_eq_true, if_false]
          exact ih' _ _ α ω _ w (by rw [hset]; exact hx1) (r1.put (v := undefV) trivial o.dst fun _ => rfl) fun S3 α3 ω3 a3 w3 e3 r3 h3 => K S3 α3 ω3 a3 w3 ((e1.trans (Evo.put S' _ _ _)).trans e3) r3 h3

theorem draw_at {E : Env} (EO : EnvOk E) {ih : IH} (hih : IHok E ih) {ops : List Oper} {S : St} {k : St → Prop} {Q : Exit → Act → World → Prop} {B : Nat} {w0 : World} {α : Al} {ω : Nat → Option Nat} {a : Act} {w : World} {n : Nat} (hqn : n ≤ ops.length) (hd : drawOk ops n = true)
    (h : exQ E ops (befs ops []) (ops.take n) 0 [] [] S fun S' => exOps E ih ops (ops.drop n) S' k) (r : Rel S α ω B w0 a w) (K : ∀ S' α' ω' a' w', Evo S S' α α' → Rel S' α' ω' B w0 a' w' → k S' → Q .normal a' w') :
    wpAny E.P .any ops.toArray Q ops.length (Array.replicate ops.length false) a w := by
  have hd' := hd
  · simp only [drawOk, Bool.and_eq_true] at hd
    obtain ⟨⟨hE, hquiet⟩, htail⟩ := hd
    have hqlen : (ops.take n).length = n := by simp; omega
    generalize hq : ops.take n = q at h hquiet hqlen
    obtain ⟨Ss, out, p, od, hk⟩ := exQ_path q 0 [] [] S h
    have hS : ∀ x, S.nx ≤ x → S.res x = none := fun x hx => by
      cases e : S.res x with
      | none => rfl
      | some r' => have := r.h.dec x r' e; have : x < S.nx := this; omega
    have hsl : ∀ j o', q[j]? = some o' → slotsOk (befs ops []) ops o' j q 0 = true := fun j o' h => by have := quiet_iff hquiet j o' h; rwa [Nat.zero_add] at this
    have hu : ∀ j j' t, wr q j t → wr q j' t → j = j' := fun j j' t ⟨o1, h1, e1⟩ ⟨o2, h2, e2⟩ => by
      by_cases e : j' = j
      · exact e.symm
      · exact absurd e1 (slots_iff (hsl j o1 h1) j' o2 t h2 e2 (by omega)).2
    have hwl : ∀ j t, wr q j t → j < q.length := fun j t ⟨o1, h1, _⟩ => (List.getElem?_eq_some_iff.1 h1).1
    have key : ∀ (listed : Array Bool) (a : Act) (w : World), (∀ i, i < n → listed.getD i true = true) → Inv q S Ss out α B w0 (fun i => i < ops.length ∧ listed.getD i true = true) a w →
        ∃ α' ω', Rel (Ss q.length) α' ω' B w0 a w ∧ Evo S (Ss q.length) α α' := by
      intro listed a w hall I
      obtain ⟨α', ω', DD, R, get, H, T, d, ag, dd, rr, g1, g2⟩ := I
      have hnx : S.nx ≤ (Ss q.length).nx := by have := p.nx (i := 0) q.length (Nat.zero_le _) (Nat.le_refl _); rwa [p.zero] at this
      have hDD : DD = (· < (Ss q.length).nx) := by
        funext x
        apply propext
        rw [dd]
        constructor
        · rintro (h | ⟨j, h1, h2, h3, h4⟩)
          · show x < _; omega
          · rw [h4]; exact p.nxNew h1 (Nat.le_refl _) h3
        · intro h
          rcases p.cover q.length (Nat.le_refl _) x h with h | ⟨i, h1, h2, h3⟩
          · exact .inl h
          · exact .inr ⟨i, h1, ⟨by omega, hall i (by omega)⟩, h2, h3⟩
      have hR : R = (Ss q.length).res := by
        funext x
        by_cases hx : DD x
        · exact (rr.1 x hx).2 fun j hj _ => ⟨by omega, hall j (by omega)⟩
        · have h1 : R x = none := by
            cases e : R x with
            | none => rfl
            | some r' => exact absurd (H.dec x r' e) hx
          rw [hDD] at hx
          rw [h1, p.resNone hS q.length (Nat.le_refl _) x (by have : ¬ x < _ := hx; omega)]
      have hG : get = (Ss q.length).get := by
        funext t
        by_cases hex : ∃ j, wr q j t
        · obtain ⟨j, hw⟩ := hex
          have hj := hwl j t hw
          rw [g1 j t ⟨by omega, hall j (by omega)⟩ hw, p.getSome hw q.length hj (Nat.le_refl _) fun j' hj' hne hw' => hne (hu j' j t hw' hw)]
        · rw [g2 t fun j _ hw => hex ⟨j, hw⟩, p.getNone q.length (Nat.le_refl _) fun j _ hw => hex ⟨j, hw⟩]
      subst hDD hR hG
      have hnt := p.nt q.length (Nat.le_refl _)
      refine ⟨α', ω', ⟨H, by rw [hnt]; exact T, d⟩, hnx, ag, fun j L' hj hL => ⟨L', ?_, rfl, rfl⟩, hnt, p.ext q.length (Nat.le_refl _)⟩
      have hnst : ∀ l, l < q.length → ¬ stoAt out l j := fun l hl hst => by
        obtain ⟨bx, e⟩ := hst
        have h1 := p.resSto hl e
        have hlt : j < (Ss (l + 1)).nx := Nat.lt_of_lt_of_le (p.stoHere hl e).1 (p.nx (i := l) (l + 1) (by omega) hl)
        have h2 := p.res hlt q.length (by omega) (Nat.le_refl _) fun l' a b hl' => by have := od.once l' l j b hl hl' ⟨bx, e⟩; omega
        rw [h2, h1] at hL
        cases hL
      have := p.res (i := 0) (x := j) (by rw [p.zero]; exact hj) q.length (Nat.zero_le _) (Nat.le_refl _) fun l _ hl => hnst l hl
      rw [p.zero] at this
      rw [← this]; exact hL
    have main : ∀ (fuel : Nat) (listed : Array Bool) (a : Act) (w : World), unl listed ops.length ≤ fuel → listed.size = ops.length → (∀ i, n ≤ i → i < ops.length → listed.getD i true = false) → Closed ops (fun i => i < ops.length ∧ listed.getD i true = true) →
        Inv q S Ss out α B w0 (fun i => i < ops.length ∧ listed.getD i true = true) a w → wpAny E.P .any ops.toArray Q fuel listed a w := by
      intro fuel
      induction fuel with
      | zero =>
        intro listed a w hf hsz htl hcl I
        have hall := unl_zero (l := listed) (k := ops.length) (by omega)
        obtain ⟨α', ω', r', ev⟩ := key listed a w (fun i hi => hall i (by omega)) I
        have hN : n = ops.length := by
          by_cases e : n < ops.length
          · have h1 := hall n e; rw [htl n (Nat.le_refl _) e] at h1; cases h1
          · omega
        exact tail_ok EO hih hE hqn htail 0 n listed _ _ _ a w hf hsz (Nat.le_refl _) hqn (fun i hi => ⟨fun _ => by omega, fun h => hall i hi⟩) r' hk fun S' α'' ω'' a' w' ev' r'' hk' => K S' α'' ω'' a' w' (ev.trans ev') r'' hk'
      | succ fuel ih' =>
        intro listed a w hf hsz htl hcl I
        by_cases hall : ∀ i, i < n → listed.getD i true = true
        · obtain ⟨α', ω', r', ev⟩ := key listed a w hall I
          exact tail_ok EO hih hE hqn htail (fuel + 1) n listed _ _ _ a w hf hsz (Nat.le_refl _) hqn (fun i hi => ⟨(fun h => by
            by_cases e : i < n
            · exact e
            · rw [htl i (by omega) hi] at h; cases h), fun h => hall i h⟩) r' hk fun S' α'' ω'' a' w' ev' r'' hk' => K S' α'' ω'' a' w' (ev.trans ev') r'' hk'
        · refine ⟨fun hr => absurd (fun i hi => ready_nil hE hsz hr i (by omega)) hall, fun i hi => ?_⟩
          obtain ⟨h1, h2, o, ho, he⟩ := mem_ready hi
          have c2 : Closed ops (fun j => (j < ops.length ∧ listed.getD j true = true) ∨ j = i) := fun j o' ho' hj e' he' hb => by
            rcases hj with hj | rfl
            · exact .inl (hcl j o' ho' hj e' he' hb)
            · rw [ho] at ho'; cases ho'
              have := he e' he' hb
              have hlt := allEdges_iff hE j o ho e' he' hb
              refine .inl ⟨by omega, ?_⟩
              rw [Array.getD_eq_getD_getElem?] at this ⊢
              have hs : e'.on < listed.size := by omega
              rw [Array.getElem?_eq_getElem hs] at this ⊢
              exact this
          by_cases hin : i < n
          · have hoq : q[i]? = some o := by rw [← hq, List.getElem?_take, if_pos hin]; exact ho
            have hD' : (fun j => (j < ops.length ∧ listed.getD j true = true) ∨ j = i) = (fun j => j < ops.length ∧ (listed.setIfInBounds i true).getD j true = true) := by
              funext j
              apply propext
              rw [getD_set listed i j true true (by omega)]
              by_cases e : i = j
              · subst e; simp [h1]
              · rw [if_neg e]
                constructor
                · rintro (h | h)
                  · exact h
                  · exact absurd h.symm e
                · exact .inl
            refine inv_step EO p od hq.symm hquiet hoq (fun h => by rw [h2] at h; cases h.2) hcl c2 I Q fun a' w' I' => ?_
            rw [hD'] at I' c2
            refine ih' _ a' w' ?_ (by simp [hsz]) (fun j hj hjl => ?_) c2 I'
            · have := unl_set (l := listed) (i := i) (by omega) h2 ops.length
              rw [if_pos h1] at this; omega
            · rw [getD_set listed i j true true (by omega), if_neg (by omega)]
              exact htl j hj hjl
          · exfalso
            refine hall fun j hj => ?_
            have hw := tail_iff htail i (by omega) (by simp; omega) j (by omega)
            rcases waits_in c2 (i := i) (.inr rfl) hw with h | h
            · exact h.2
            · omega
    have hrep : ∀ i, i < ops.length → (Array.replicate ops.length false).getD i true = false := fun i hi => by
      simp [Array.getD_eq_getD_getElem?, Array.getElem?_replicate, hi]
    refine main ops.length _ a w (unl_le _ _) (by simp) (fun i _ hi => hrep i hi) (fun i o ho hi => absurd ((hrep i hi.1).symm.trans hi.2) (by decide)) ⟨α, ω, _, _, _, r.h, r.t, r.d, Agree.refl _ _, fun x => ⟨.inl, ?_⟩, ⟨fun x hx => ⟨fun j hj hst _ => ?_, fun hall => ?_⟩, fun j x _ hj => absurd ((hrep j hj.1).symm.trans hj.2) (by decide)⟩, (fun j t hj => absurd ((hrep j hj.1).symm.trans hj.2) (by decide)), fun t _ => rfl⟩
    · rintro (h | ⟨j, h1, h2, _⟩)
      · exact h
      · exact absurd ((hrep j h2.1).symm.trans h2.2) (by decide)
    · have := p.res (i := 0) (x := x) (by rw [p.zero]; exact hx) j (Nat.zero_le _) (by omega) fun l _ hl hl' => by have := od.once l j x (by omega) hj hl' hst; omega
      rw [p.zero] at this
      exact this.symm
    · have := p.res (i := 0) (x := x) (by rw [p.zero]; exact hx) q.length (Nat.zero_le _) (Nat.le_refl _) fun l _ hl hl' => by
        have := hall l hl hl'
        exact absurd ((hrep l this.1).symm.trans this.2) (by decide)
      rw [p.zero] at this
      exact this.symm
theorem exDraw_ok {E : Env} (EO : EnvOk E) {ih : IH} (hih : IHok E ih) {ops : List Oper} {S : St} {k : St → Prop} {Q : Exit → Act → World → Prop} {B : Nat} {w0 : World} {α : Al} {ω : Nat → Option Nat} {a : Act} {w : World}
    (h : exDraw E ih ops S k) (r : Rel S α ω B w0 a w) (K : ∀ S' α' ω' a' w', Evo S S' α α' → Rel S' α' ω' B w0 a' w' → k S' → Q .normal a' w') :
    wpAny E.P .any ops.toArray Q ops.length (Array.replicate ops.length false) a w := by
  unfold exDraw at h
  split at h
  · rename_i hd
    rw [Bool.and_eq_true] at hd
    exact draw_at EO hih (quietLen_le ops) hd.2 h r K
  · split at h
    · rename_i hd
      rw [Bool.and_eq_true] at hd
      exact draw_at EO hih (lastQ_le _ _) hd.2 h r K
    · split at h
      · exact exAny_ok EO hih _ (Array.replicate ops.length false) S α ω a w (by rw [Array.toList_replicate, ← falses_rep]; exact h) r K
      · cases h
end Go.Fx
end
section
namespace Go.Fx
open Go RowKit

section
variable {α : Al} {ω : Nat → Option Nat} {B : Nat} {w0 w : World} {a : Act}
theorem Rel.congr {S S' : St} (r : Rel S α ω B w0 a w) (h1 : S'.nx = S.nx) (h2 : S'.nt = S.nt) (h3 : S'.get = S.get) (h4 : S'.res = S.res) : Rel S' α ω B w0 a w := by
  refine ⟨?_, ?_, r.d⟩
  · rw [h1, h4]; exact r.h
  · rw [h1, h2, h3, h4]; exact r.t
theorem Rel.reput {S : St} (r : Rel S α ω B w0 a w) {t : Nat} {v : SV} (hg : v.good (· < S.nx) S.res) (h : v ≠ .any → a.tmps[t]? = some (v.den α)) : Rel (S.put (some t) v) α ω B w0 a w := by
  refine ⟨r.h, ⟨r.t.size, fun u hu => ?_, fun u hu hn => ?_⟩, r.d⟩
  · rw [get_put]
    show SV.good _ _ (if t = u then v else S.get u)
    split
    · exact hg
    · exact r.t.good u hu
  · rw [get_put] at hn ⊢
    by_cases e : t = u
    · subst e
      simp only [if_true] at hn ⊢
      exact h hn
    · simp only [if_neg e] at hn ⊢
      exact r.t.den u hu hn
end

/-! ### Reading and writing places -/
theorem put_dec {D : Nat → Prop} {S : St} {α : Al} {s : Sh} (hp : plainSh s = true) {v : SV} {x : s.ty} (h : s.dec S v = some x) (hg : v.good D S.res) (D' : Nat → Prop) (R : Nat → Option Res) :
    (s.put 0 x).1.den α = v.den α ∧ (s.put 0 x).1.good D' R := by
  cases s with
  | int k =>
    obtain ⟨q1, q2, q3⟩ := dec_int (α := α) (show decI k v = some x from h) hg
    exact ⟨q1.symm, q2, q3⟩
  | bool => exact ⟨(dec_bool (α := α) (show decB v = some x from h)).symm, fun y hy => by cases hy⟩
  | agg f =>
    obtain ⟨q1, q2⟩ := dec_agg (α := α) (show decA f v = some x from h) hg
    refine ⟨?_, sw_good q2⟩
    rw [q1]
    exact congrArg (fun l => Value.agg (List.toArray l)) (sw_den (α := α) f x)
  | list f => cases hp
  | lit k z => cases hp
/-- The values lie in their kinds' ranges. -/
def inAll : (l : List Sh) → HL l → Prop
  | [], _ => True
  | s :: r, x => (match s, x.1 with | .int k, z => inK' k z | _, _ => True) ∧ inAll r x.2
where inK' (k : IntKind) (z : Int) : Prop := kmin k ≤ z ∧ z ≤ kmax k
theorem ble_iff (a b : Int) : ble a b = true ↔ a ≤ b := decide_eq_true_iff
theorem allV_all : ∀ {l : List Sh} {Q : HL l → Prop}, allV l Q → ∀ v, inAll l v → Q v
  | [], _, h, _, _ => h
  | s :: r, Q, h, v, hv => by
    obtain ⟨x, y⟩ := v
    cases s with
    | int k => exact allV_all (h x ((ble_iff _ _).2 hv.1.1) ((ble_iff _ _).2 hv.1.2)) y hv.2
    | bool => exact allV_all (h x) y hv.2
    | agg f => exact allV_all (h x) y hv.2
    | list f => exact allV_all (h x) y hv.2
    | lit k z => exact allV_all (show allV r fun y => Q ((), y) from h) y hv.2
theorem havoc_get (S : St) : ∀ (ts : List Nat) (t : Nat), (havoc S ts).get t = if t ∈ ts then .any else S.get t
  | [], t => by simp [havoc]
  | u :: r, t => by
    have h := havoc_get (S.put (some u) .any) r t
    unfold havoc
    rw [h, get_put]
    by_cases e : u = t
    · subst e; simp
    · by_cases e2 : t ∈ r
      · simp [e2]
      · simp only [if_neg e, if_neg e2, List.mem_cons]
        rw [if_neg (by
          rintro (h | h)
          · exact e h.symm
          · exact e2 h)]
theorem havoc_same (S : St) : ∀ (ts : List Nat), (havoc S ts).nx = S.nx ∧ (havoc S ts).nt = S.nt ∧ (havoc S ts).res = S.res ∧ Ext S (havoc S ts)
  | [] => ⟨rfl, rfl, rfl, Ext.refl S⟩
  | u :: r => by
    obtain ⟨h1, h2, h3, h4⟩ := havoc_same (S.put (some u) .any) r
    exact ⟨h1, h2, h3.trans (put_res S (some u) .any), (Ext.put S (some u) .any).trans h4⟩
theorem writeP_same {S0 S S1 : St} {p : Place} {s : Sh} {x : s.ty} (h : writeP S0 S p s x = some S1) : S1.nx = S.nx ∧ S1.nt = S.nt ∧ Ext S S1 := by
  unfold writeP at h
  split at h
  · split at h
    · split at h
      · cases h; exact ⟨rfl, rfl, Ext.put S _ _⟩
      · cases h
    · split at h
      · split at h
        · cases h; exact ⟨rfl, rfl, Ext.set S _ _⟩
        · cases h
      · cases h
  · cases h
theorem writeAll_same {S0 : St} : ∀ {l : List (Place × Sh)} {S S1 : St} {x : HL (shs l)}, writeAll S0 S l x = some S1 → S1.nx = S.nx ∧ S1.nt = S.nt ∧ Ext S S1
  | [], S, S1, x, h => by cases h; exact ⟨rfl, rfl, Ext.refl S⟩
  | p :: r, S, S1, x, h => by
    unfold writeAll at h
    split at h
    · rename_i S' h'
      obtain ⟨a1, a2, a3⟩ := writeP_same h'
      obtain ⟨b1, b2, b3⟩ := writeAll_same h
      exact ⟨b1.trans a1, b2.trans a2, a3.trans b3⟩
    · cases h
/-- Two states that differ in the places' boxes alone, and are written to, are alike. -/
theorem writeAll_congr {S0 : St} : ∀ {l : List (Place × Sh)} {X Y X1 : St} {x : HL (shs l)}, writeAll S0 X l x = some X1 → X.nx = Y.nx → X.nt = Y.nt → X.get = Y.get → (∀ i, X.res i = Y.res i ∨ i ∈ boxesOf S0 l) →
    ∃ Y1, writeAll S0 Y l x = some Y1 ∧ X1.nx = Y1.nx ∧ X1.nt = Y1.nt ∧ X1.get = Y1.get ∧ X1.res = Y1.res
  | [], X, Y, X1, x, h, h1, h2, h3, h4 => by
    cases h
    refine ⟨Y, rfl, h1, h2, h3, ?_⟩
    funext i
    rcases h4 i with h | h
    · exact h
    · cases h
  | p :: r, X, Y, X1, x, h, h1, h2, h3, h4 => by
    unfold writeAll at h
    split at h
    · rename_i X' h'
      have key : ∃ Y', writeP S0 Y p.1 p.2 x.1 = some Y' ∧ X'.nx = Y'.nx ∧ X'.nt = Y'.nt ∧ X'.get = Y'.get ∧ ∀ i, X'.res i = Y'.res i ∨ i ∈ boxesOf S0 r := by
        obtain ⟨pl, s⟩ := p
        dsimp only at h' h4 ⊢
        unfold writeP at h' ⊢
        cases hp : plainSh s with
        | false => rw [hp] at h'; cases h'
        | true =>
          rw [hp] at h'
          cases pl with
          | tmp t =>
            dsimp only at h' ⊢
            cases hlt : Nat.blt t X.nt with
            | false => rw [hlt] at h'; cases h'
            | true =>
              rw [hlt] at h'
              cases h'
              rw [h2] at hlt
              refine ⟨Y.put (some t) (.w (s.put 0 x.1).1), by rw [hlt], h1, h2, ?_, fun i => ?_⟩
              · rw [get_put, get_put, h3]
              · rcases h4 i with h | h
                · exact .inl ((congrFun (put_res ..) i).trans (h.trans (congrFun (put_res ..) i).symm))
                · exact .inr h
          | cell t =>
            dsimp only at h' ⊢
            split at h'
            · rename_i b hev
              split at h'
              · rename_i bx hb
                cases h'
                refine ⟨_, rfl, h1, h2, h3, fun i => ?_⟩
                rw [res_set, res_set]
                by_cases e : b = i
                · left; simp only [if_pos e]
                · simp only [if_neg e]
                  rcases h4 i with h | h
                  · exact .inl h
                  · have hbo : boxesOf S0 ((.cell t, s) :: r) = b :: boxesOf S0 r := by
                      simp only [boxesOf, hev]
                    rw [hbo] at h
                    rcases List.mem_cons.1 h with h | h
                    · exact absurd h.symm e
                    · exact .inr h
              · cases h'
            · cases h'
      obtain ⟨Y', k1, k2, k3, k4, k5⟩ := key
      obtain ⟨Y1, j1, j2⟩ := writeAll_congr h k2 k3 k4 k5
      refine ⟨Y1, ?_, j2⟩
      unfold writeAll
      rw [k1]; exact j1
    · cases h

/-! ### Round and back -/
theorem look_append {β : Type} : ∀ (l m : List (Nat × β)) (t : Nat), (∀ p ∈ l, p.1 ≠ t) → look (l ++ m) t = look m t
  | [], _, _, _ => rfl
  | (k, v) :: r, m, t, h => by
    rw [List.cons_append, look_cons, if_neg (h (k, v) (List.mem_cons_self ..)), look_append r m t fun p hp => h p (List.mem_cons_of_mem _ hp)]
theorem nmem_iff {d : Nat} : ∀ {l : List Nat}, nmem d l = true → d ∈ l
  | x :: r, h => by
    unfold nmem at h
    rw [Bool.or_eq_true] at h
    rcases h with h | h
    · rw [Nat.eq_of_beq_eq_true h]; exact List.mem_cons_self ..
    · exact List.mem_cons_of_mem _ (nmem_iff h)
theorem tmsIn_iff {ts : List Nat} : ∀ {l m : List (Nat × SV)}, tmsIn ts (l ++ m) l.length = true → ∀ p ∈ l, p.1 ∈ ts
  | q :: r, m, h, p, hp => by
    rw [List.cons_append, List.length_cons] at h
    unfold tmsIn at h
    rw [Bool.and_eq_true] at h
    rcases List.mem_cons.1 hp with rfl | hp
    · exact nmem_iff h.1
    · exact tmsIn_iff h.2 p hp
theorem rssIn_iff {nx : Nat} {bs : List Nat} : ∀ {l m : List (Nat × Option Res)}, rssIn nx bs (l ++ m) l.length = true → ∀ p ∈ l, nx ≤ p.1 ∨ p.1 ∈ bs
  | q :: r, m, h, p, hp => by
    rw [List.cons_append, List.length_cons] at h
    unfold rssIn at h
    rw [Bool.and_eq_true, Bool.or_eq_true] at h
    rcases List.mem_cons.1 hp with rfl | hp
    · rcases h.1 with h | h
      · exact .inl (by simpa using h)
      · exact .inr (nmem_iff h)
    · exact rssIn_iff h.2 p hp
theorem tysIn_iff {S S' : St} : ∀ {bs : List Nat}, tysIn S S' bs = true → ∀ b ∈ bs, ∃ x y, S.res b = some (.box x) ∧ S'.res b = some (.box y) ∧ x.ty = y.ty
  | c :: r, h, b, hb => by
    unfold tysIn at h
    rw [Bool.and_eq_true] at h
    rcases List.mem_cons.1 hb with rfl | hb
    · have h1 := h.1
      split at h1
      · rename_i x y e1 e2
        exact ⟨x, y, e1, e2, Nat.eq_of_beq_eq_true h1⟩
      · cases h1
    · exact tysIn_iff h.2 b hb
theorem writeAll_out {S0 : St} : ∀ {l : List (Place × Sh)} {S S1 : St} {x : HL (shs l)}, writeAll S0 S l x = some S1 → (∀ t, t ∉ slotsOf l → S1.get t = S.get t) ∧ ∀ i, i ∉ boxesOf S0 l → S1.res i = S.res i
  | [], S, S1, x, h => by cases h; exact ⟨fun _ _ => rfl, fun _ _ => rfl⟩
  | (pl, s) :: r, S, S1, x, h => by
    unfold writeAll at h
    split at h
    · rename_i S' h'
      obtain ⟨b1, b2⟩ := writeAll_out h
      dsimp only at h'
      unfold writeP at h'
      split at h'
      · cases pl with
        | tmp t =>
          dsimp only at h'
          split at h'
          · cases h'
            refine ⟨fun u hu => ?_, fun i hi => ?_⟩
            · have hu' : u ∉ t :: slotsOf r := hu
              rw [b1 u fun h => hu' (List.mem_cons_of_mem _ h), get_put]
              simp only
              rw [if_neg fun e => hu' (by rw [e]; exact List.mem_cons_self ..)]
            · rw [b2 i hi]; exact congrFun (put_res ..) i
          · cases h'
        | cell t =>
          dsimp only at h'
          split at h'
          · rename_i b hev
            split at h'
            · cases h'
              have hbo : boxesOf S0 ((.cell t, s) :: r) = b :: boxesOf S0 r := by simp only [boxesOf, hev]
              refine ⟨fun u hu => b1 u hu, fun i hi => ?_⟩
              rw [hbo] at hi
              rw [b2 i fun h => hi (List.mem_cons_of_mem _ h), res_set]
              simp only
              rw [if_neg fun e => hi (by rw [e]; exact List.mem_cons_self ..)]
            · cases h'
          · cases h'
      · cases h'
    · cases h
/-- A box whose cells memory holds. -/
theorem HRel.fill {D : Nat → Prop} {R : Nat → Option Res} {α : Al} {ω : Nat → Option Nat} {B : Nat} {w0 w : World} (H : HRel D R α ω B w0 w) {i : Nat} (hi : D i) (ho : ω (α.blk i) = some i) {cells : List SC} {ty : TypeId}
    (hg : ∀ c ∈ cells, c.good D R) (hw : w.heap[α.blk i]? = some (.cells (cells.map (SC.den α)).toArray ty (0, 0))) :
    HRel D (fun j => if i = j then some (.box ⟨cells, ty⟩) else R j) α ω B w0 w := by
  have hk : Keep D R (fun j => if i = j then some (.box ⟨cells, ty⟩) else R j) := fun j L' hj hr => by
    by_cases e : i = j
    · simp only [e, if_true] at hr; cases hr
    · simp only [if_neg e] at hr; exact ⟨L', hr, rfl, rfl⟩
  refine ⟨H.bel, H.base, H.own, fun j r hr => ?_, fun j r hr => ?_, fun j b' hb' => ?_, H.one⟩
  · by_cases e : i = j
    · subst e; exact hi
    · simp only [if_neg e] at hr; exact H.dec j r hr
  · by_cases e : i = j
    · subst e
      simp only [if_true] at hr; cases hr
      exact ⟨ho, hw⟩
    · simp only [if_neg e] at hr
      exact H.rel j r hr
  · by_cases e : i = j
    · subst e
      simp only [if_true] at hb'; cases hb'
      exact fun c hc => SC.good_mono (hg c hc) (fun _ h => h) hk
    · simp only [if_neg e] at hb'
      exact fun c hc => SC.good_mono (H.good j b' hb' c hc) (fun _ h => h) hk
theorem ofCells_den {S : St} {D : Nat → Prop} {α : Al} {s : Sh} (hp : plainSh s = true) {cs : List SC} {x : s.ty} (h : s.dec S (ofCells s cs) = some x) (hg : ∀ c ∈ cs, c.good D S.res) (D' : Nat → Prop) (R : Nat → Option Res) :
    (s.put 0 x).1.cells.map (SC.den α) = cs.map (SC.den α) ∧ ∀ c ∈ (s.put 0 x).1.cells, c.good D' R := by
  cases s with
  | agg f =>
    obtain ⟨q1, q2⟩ := ofSC_ok (α := α) (show f.ofSC cs = some x from h) hg
    exact ⟨(sw_den f x).trans q1, sw_good q2⟩
  | int k =>
    match cs, h, hg with
    | [c], h, hg =>
      have hgc := hg c (List.mem_cons_self ..)
      obtain ⟨q1, q2⟩ := put_dec (α := α) (s := .int k) hp h (show (SV.w (.c c)).good D S.res from hgc) D' R
      have q1' : (SC.int k ⟨x, kmin k, kmax k⟩).den α = c.den α := q1
      exact ⟨by show [_] = [_]; rw [q1'], fun c' hc' => by rw [List.mem_singleton.1 hc']; exact q2⟩
    | [], h, _ => cases h
    | _ :: _ :: _, h, _ => cases h
  | bool =>
    match cs, h, hg with
    | [c], h, hg =>
      have hgc := hg c (List.mem_cons_self ..)
      obtain ⟨q1, q2⟩ := put_dec (α := α) (s := .bool) hp h (show (SV.w (.c c)).good D S.res from hgc) D' R
      have q1' : (SC.bool x none).den α = c.den α := q1
      exact ⟨by show [_] = [_]; rw [q1'], fun c' hc' => by rw [List.mem_singleton.1 hc']; exact q2⟩
    | [], h, _ => cases h
    | _ :: _ :: _, h, _ => cases h
  | list f => cases hp
  | lit k z => cases hp
end Go.Fx
end
section
namespace Go.Fx
open Go RowKit

section
variable {α : Al} {ω : Nat → Option Nat} {B : Nat} {w0 w : World} {a : Act}
theorem ev_tmp {S : St} {t : Nat} {v : SV} (h : S.ev (.tmp t) = v) (hv : v ≠ .any) : t < S.nt ∧ S.get t = v := by
  have h' : (match Nat.blt t S.nt with | true => S.get t | false => SV.any) = v := h
  split at h'
  · rename_i hlt
    exact ⟨by simpa [Nat.blt_eq] using hlt, h'⟩
  · exact absurd h'.symm hv
/-- The places are written with what the state at the body's end holds. -/
theorem write_back {S' S0 : St} {ω' : Nat → Option Nat} (r' : Rel S' α ω' B w0 a w) (hω : ∀ b i, ω' b = some i → i < S0.nx → ω b = some i)
    (h0 : ∀ i r, S0.res i = some r → i < S0.nx) (hnt : S'.nt = S0.nt) (hget : ∀ t b, S0.ev (.tmp t) = .w (.c (.ptr b 0)) → S'.ev (.tmp t) = .w (.c (.ptr b 0))) :
    ∀ {l : List (Place × Sh)} {v v' : HL (shs l)} {Y Y1 X : St}, writeAll S0 Y l v = some Y1 → Y.nt = X.nt → readAll S' l = some v' →
      (∀ b ∈ boxesOf S0 l, ∃ x y, S0.res b = some (.box x) ∧ S'.res b = some (.box y) ∧ x.ty = y.ty) → X.nx = S0.nx → X.nt = S0.nt → Rel X α ω B w0 a w →
      ∃ X1, writeAll S0 X l v' = some X1 ∧ Rel X1 α ω B w0 a w
  | [], v, v', Y, Y1, X, _, _, _, _, _, _, r => ⟨X, rfl, r⟩
  | (pl, s) :: rest, v, v', Y, Y1, X, hY, hYX, hr, hb, hnx, hXnt, r => by
    unfold writeAll at hY
    split at hY
    · rename_i Y' hY'
      unfold readAll at hr
      split at hr
      · rename_i x y hx hy
        cases hr
        have key : ∃ X', writeP S0 X pl s x = some X' ∧ Rel X' α ω B w0 a w ∧ X'.nx = X.nx ∧ X'.nt = X.nt ∧ Y'.nt = X'.nt ∧ ∀ b ∈ boxesOf S0 rest, b ∈ boxesOf S0 ((pl, s) :: rest) := by
          dsimp only at hY' hx
          unfold writeP at hY' ⊢
          cases hp : plainSh s with
          | false => rw [hp] at hY'; cases hY'
          | true =>
            rw [hp] at hY'
            cases pl with
            | tmp t =>
              dsimp only at hY' ⊢
              cases hlt : Nat.blt t Y.nt with
              | false => rw [hlt] at hY'; cases hY'
              | true =>
                rw [hlt] at hY'
                cases hY'
                rw [hYX] at hlt
                have hx' : s.dec S' (S'.ev (.tmp t)) = some x := hx
                obtain ⟨q1, q2⟩ := put_dec (α := α) hp hx' (ev_good r'.t _) (· < X.nx) X.res
                have hne : S'.ev (.tmp t) ≠ .any := fun e => by
                  rw [e] at hx'
                  cases s <;> first | cases hx' | cases hp
                obtain ⟨e1, e2⟩ := ev_tmp rfl hne
                have hd := r'.t.den t e1 (by rw [e2]; exact hne)
                rw [e2] at hd
                refine ⟨_, by rw [hlt], r.reput (v := .w (s.put 0 x).1) q2 fun _ => ?_, rfl, rfl, hYX, fun b hb => hb⟩
                rw [hd]
                exact congrArg some q1.symm
            | cell t =>
              dsimp only at hY' ⊢
              split at hY'
              · rename_i b hev
                split at hY'
                · rename_i bx hbx
                  cases hY'
                  have hbo : boxesOf S0 ((.cell t, s) :: rest) = b :: boxesOf S0 rest := by simp only [boxesOf, hev]
                  obtain ⟨x0, y0, e1, e2, e3⟩ := hb b (by rw [hbo]; exact List.mem_cons_self ..)
                  rw [hbx] at e1; cases e1
                  have hev' := hget t b hev
                  have hx' : s.dec S' (ofCells s y0.cells) = some x := by
                    have : readP S' (.cell t) s = some x := hx
                    simp only [readP, hev', e2] at this
                    exact this
                  have hg' := r'.h.good b y0 e2
                  obtain ⟨q1, q2⟩ := ofCells_den (α := α) hp hx' hg' (· < X.nx) X.res
                  obtain ⟨o1, o2⟩ : RRel α ω' w b (.box y0) := r'.h.rel b _ e2
                  have hbn : b < X.nx := by rw [hnx]; exact h0 b _ hbx
                  have HF := r.h.fill (i := b) (cells := (s.put 0 x).1.cells) (ty := bx.ty) hbn (hω _ _ o1 (by rw [← hnx]; exact hbn)) q2 (by rw [o2, q1, e3])
                  refine ⟨_, rfl, ⟨?_, ?_, r.d⟩, rfl, rfl, hYX, fun b' hb' => by rw [hbo]; exact List.mem_cons_of_mem _ hb'⟩
                  · rw [res_set]; exact HF
                  · rw [res_set]
                    refine r.t.mono (fun _ h => h) (fun j L' hj hr => ?_) (Agree.refl _ _)
                    by_cases e : b = j
                    · simp only [if_pos e] at hr; cases hr
                    · simp only [if_neg e] at hr; exact ⟨L', hr, rfl, rfl⟩
                · cases hY'
              · cases hY'
        obtain ⟨X', k1, k2, k3, k4, k5, k6⟩ := key
        obtain ⟨X1, j1, j2⟩ := write_back r' hω h0 hnt hget hY k5 hy (fun b hb' => hb b (k6 b hb')) (k3.trans hnx) (k4.trans hXnt) k2
        refine ⟨X1, ?_, j2⟩
        show (match writeP S0 X pl s x with | some S' => writeAll S0 S' rest y | none => none) = some X1
        rw [k1]; exact j1
      · cases hr
    · cases hY
theorem boxes_are {S0 : St} : ∀ {l : List (Place × Sh)} {Y Y1 : St} {v : HL (shs l)}, writeAll S0 Y l v = some Y1 → ∀ b ∈ boxesOf S0 l, ∃ x, S0.res b = some (.box x)
  | [], _, _, _, _, b, hb => by cases hb
  | (pl, s) :: rest, Y, Y1, v, h, b, hb => by
    unfold writeAll at h
    split at h
    · rename_i Y' hY'
      have ih := boxes_are h b
      dsimp only at hY'
      unfold writeP at hY'
      split at hY'
      · cases pl with
        | tmp t => exact ih hb
        | cell t =>
          dsimp only at hY'
          split at hY'
          · rename_i b' hev
            split at hY'
            · rename_i bx hbx
              have hbo : boxesOf S0 ((.cell t, s) :: rest) = b' :: boxesOf S0 rest := by simp only [boxesOf, hev]
              rw [hbo] at hb
              rcases List.mem_cons.1 hb with rfl | hb
              · exact ⟨bx, hbx⟩
              · exact ih hb
            · cases hY'
          · cases hY'
      · cases hY'
    · cases h
theorem boxes_after {S0 : St} : ∀ {l : List (Place × Sh)} {Y Y1 : St} {v : HL (shs l)}, writeAll S0 Y l v = some Y1 → ∀ b ∈ boxesOf S0 l, ∃ x, Y1.res b = some (.box x)
  | [], _, _, _, _, b, hb => by cases hb
  | (pl, s) :: rest, Y, Y1, v, h, b, hb => by
    unfold writeAll at h
    split at h
    · rename_i Y' hY'
      have ih := boxes_after h b
      obtain ⟨_, o2⟩ := writeAll_out h
      dsimp only at hY'
      unfold writeP at hY'
      split at hY'
      · cases pl with
        | tmp t => exact ih hb
        | cell t =>
          dsimp only at hY'
          split at hY'
          · rename_i b' hev
            split at hY'
            · rename_i bx hbx
              have hbo : boxesOf S0 ((.cell t, s) :: rest) = b' :: boxesOf S0 rest := by simp only [boxesOf, hev]
              rw [hbo] at hb
              by_cases hr : b ∈ boxesOf S0 rest
              · exact ih hr
              · rcases List.mem_cons.1 hb with rfl | hb
                · rw [o2 b hr]
                  cases hY'
                  rw [res_set]
                  simp only [if_true]
                  exact ⟨_, rfl⟩
                · exact absurd hb hr
            · cases hY'
          · cases hY'
      · cases hY'
    · cases h
/-- From a state that differs from the loop's head in what the loop turns alone: the head again, with other values. -/
theorem back_ok {S S' S1 : St} {α0 : Al} {ω0 ω' : Nat → Option Nat} {a0 : Act} {wS : World} (rS : Rel S α0 ω0 B w0 a0 wS) {ts : List Nat} {l : List (Place × Sh)} {v v' : HL (shs l)}
    (h1 : writeAll (havoc S ts) (havoc S ts) l v = some S1) (hnt : S'.nt = S.nt) (A1 : ∀ t, t ∉ ts → S'.get t = S.get t) (A2 : ∀ i, i < S.nx → i ∉ boxesOf (havoc S ts) l → S'.res i = S.res i)
    (A3 : ∀ b ∈ boxesOf (havoc S ts) l, ∃ x y, S.res b = some (.box x) ∧ S'.res b = some (.box y) ∧ x.ty = y.ty) (hr : readAll S' l = some v') (r' : Rel S' α ω' B w0 a w) :
    ∃ S2 ω2, writeAll (havoc S ts) (havoc S ts) l v' = some S2 ∧ Rel S2 α ω2 B w0 a w := by
  obtain ⟨hv1, hv2, hv3, hv4⟩ := havoc_same S ts
  have hvg := havoc_get S ts
  generalize hS0 : havoc S ts = S0 at *
  let ω2 : Nat → Option Nat := fun b => match ω' b with
    | some i => if i < S.nx then some i else none
    | none => none
  have hω2 : ∀ b i, ω' b = some i → i < S.nx → ω2 b = some i := fun b i h hi => by simp only [ω2, h, if_pos hi]
  have hω2' : ∀ b i, ω2 b = some i → ω' b = some i ∧ i < S.nx := fun b i h => by
    simp only [ω2] at h
    split at h
    · rename_i j e
      split at h
      · rename_i hj; cases h; exact ⟨e, hj⟩
      · cases h
    · cases h
  have hω2n : ∀ b, ω' b = none → ω2 b = none := fun b h => by simp only [ω2, h]
  let X0 : St := { tm := [], tb := S0.get, nt := S.nt, rs := [], rb := fun i => if i < S.nx ∧ i ∉ boxesOf S0 l then S.res i else none, nx := S.nx }
  have hX : ∀ i r, X0.res i = some r → i < S.nx ∧ i ∉ boxesOf S0 l ∧ S.res i = some r := fun i r h => by
    have h' : (if i < S.nx ∧ i ∉ boxesOf S0 l then S.res i else none) = some r := h
    split at h'
    · rename_i hc; exact ⟨hc.1, hc.2, h'⟩
    · cases h'
  have hk : Keep (· < S.nx) S.res X0.res := fun j L' hj hL => by
    obtain ⟨_, _, e⟩ := hX j _ hL
    exact ⟨L', e, rfl, rfl⟩
  have HX : HRel (· < S.nx) X0.res α ω2 B w0 w := by
    refine ⟨r'.h.bel, r'.h.base, fun b i hb => ?_, fun i r hr => (hX i r hr).1, fun i r hr => ?_, fun i b hb => ?_, r'.h.one⟩
    · obtain ⟨e1, e2⟩ := hω2' b i hb
      obtain ⟨q1, q2, _⟩ := r'.h.own b i e1
      exact ⟨q1, q2, e2⟩
    · obtain ⟨e1, e2, e3⟩ := hX i r hr
      have e4 : S'.res i = some r := (A2 i e1 e2).trans e3
      exact (r'.h.rel i r e4).frame (r'.h.dec i r e4) (Agree.refl _ _) (fun b e => r'.h.good i b (by rw [e4, e])) (fun b hb => ⟨hω2 b i hb e1, rfl⟩) (fun b _ hn => ⟨hω2n b hn, rfl⟩)
    · obtain ⟨e1, e2, e3⟩ := hX i _ hb
      exact fun c hc => SC.good_mono (rS.h.good i b e3 c hc) (fun _ h => h) hk
  have TX : TRel (· < S.nx) X0.res α S.nt S0.get a.tmps := by
    refine ⟨by rw [r'.t.size, hnt], fun t ht => ?_, fun t ht hn => ?_⟩
    · rw [hvg]
      split
      · trivial
      · exact SV.good_mono (rS.t.good t ht) (fun _ h => h) hk
    · rw [hvg] at hn ⊢
      split at hn
      · exact absurd rfl hn
      · rename_i hts
        rw [if_neg hts]
        have := r'.t.den t (by rw [hnt]; exact ht) (by rw [A1 t hts]; exact hn)
        rw [A1 t hts] at this
        exact this
  have rX : Rel X0 α ω2 B w0 a w := ⟨HX, TX, r'.d⟩
  obtain ⟨X1, x1, x2⟩ := write_back (S0 := S0) (X := X0) r' (fun b i hb hi => hω2 b i hb (by rw [← hv1]; exact hi)) (fun i r hr => by rw [hv3] at hr; rw [hv1]; exact rS.h.dec i r hr) (by rw [hnt, hv2]) (fun t b hev => by
      obtain ⟨e1, e2⟩ := ev_tmp hev (fun e => by cases e)
      rw [hvg] at e2
      split at e2
      · cases e2
      · rename_i hts
        show (match Nat.blt t S'.nt with | true => S'.get t | false => SV.any) = _
        rw [hnt, ← hv2, A1 t hts, e2]
        rw [show Nat.blt t S0.nt = true by simpa [Nat.blt_eq] using e1]) h1 hv2 hr (fun b hb => by rw [hv3]; exact A3 b hb) hv1.symm hv2.symm rX
  obtain ⟨S2, y1, y2, y3, y4, y5⟩ := writeAll_congr (Y := S0) x1 hv1.symm hv2.symm rfl fun i => by
    by_cases hi : i ∈ boxesOf S0 l
    · exact .inr hi
    · left
      show (if i < S.nx ∧ i ∉ boxesOf S0 l then S.res i else none) = S0.res i
      rw [hv3]
      by_cases hlt : i < S.nx
      · rw [if_pos ⟨hlt, hi⟩]
      · rw [if_neg fun h => hlt h.1]
        cases e : S.res i with
        | none => rfl
        | some r => exact absurd (rS.h.dec i r e) hlt
  exact ⟨S2, ω2, y1, x2.congr y2.symm y3.symm y4.symm y5.symm⟩
theorem readAll_in {S : St} (r : Rel S α ω B w0 a w) : ∀ {l : List (Place × Sh)} {v : HL (shs l)}, readAll S l = some v → inAll (shs l) v
  | [], _, _ => trivial
  | (pl, s) :: rest, v, h => by
    unfold readAll at h
    split at h
    · rename_i x y hx hy
      cases h
      refine ⟨?_, readAll_in r hy⟩
      cases s with
      | int k =>
        cases pl with
        | tmp t =>
          obtain ⟨_, q2, q3⟩ := dec_int (α := α) (show decI k (S.ev (.tmp t)) = some x from hx) (ev_good r.t _)
          exact ⟨q2, q3⟩
        | cell t =>
          have hx' : (match S.ev (.tmp t) with
            | .w (.c (.ptr b 0)) => (match S.res b with | some (.box bx) => decI k (ofCells (.int k) bx.cells) | _ => none)
            | _ => none) = some x := hx
          split at hx'
          · rename_i b hev
            cases hb : S.res b with
            | none => rw [hb] at hx'; cases hx'
            | some rr =>
            rw [hb] at hx'
            cases rr with
            | list _ => cases hx'
            | map _ => cases hx'
            | box bx =>
              have hg := r.h.good b bx hb
              have h2 : decI k (ofCells (.int k) bx.cells) = some x := hx'
              obtain ⟨cs, ty⟩ := bx
              cases cs with
              | nil => cases h2
              | cons c cs =>
                cases cs with
                | nil =>
                  obtain ⟨_, q2, q3⟩ := dec_int (α := α) (R := S.res) (show decI k (.w (.c c)) = some x from h2) (hg c (List.mem_cons_self ..))
                  exact ⟨q2, q3⟩
                | cons _ _ => cases h2
          · cases hx'
      | _ => trivial
    · cases h
end
theorem back_same {S S1 S' : St} {ts bs : List Nat} (ev : Ext S1 S') (h : backOk S S1 S' ts bs = true) :
    (∀ t, t ∉ ts → S'.get t = S1.get t) ∧ (∀ i, i < S1.nx → i ∉ bs → S'.res i = S1.res i) ∧ ∀ b ∈ bs, ∃ x y, S.res b = some (.box x) ∧ S'.res b = some (.box y) ∧ x.ty = y.ty := by
  unfold backOk at h
  rw [Bool.and_eq_true, Bool.and_eq_true] at h
  obtain ⟨⟨h1, h2⟩, h3⟩ := h
  obtain ⟨e1, e2, ⟨lt, e3⟩, ⟨lr, e4⟩⟩ := ev
  rw [e3, List.length_append, Nat.add_sub_cancel] at h1
  rw [e4, List.length_append, Nat.add_sub_cancel] at h2
  have k1 := tmsIn_iff h1
  have k2 := rssIn_iff h2
  refine ⟨fun t ht => ?_, fun i hi hb => ?_, tysIn_iff h3⟩
  · show (match look S'.tm t with | some v => v | none => S'.tb t) = (match look S1.tm t with | some v => v | none => S1.tb t)
    rw [e3, e1, look_append _ _ t fun p hp (e : p.1 = t) => ht (by rw [← e]; exact k1 p hp)]
  · show (match look S'.rs i with | some v => v | none => S'.rb i) = (match look S1.rs i with | some v => v | none => S1.rb i)
    rw [e4, e2, look_append _ _ i fun p hp (e : p.1 = i) => by
      rcases k2 p hp with h | h
      · omega
      · exact hb (by rw [← e]; exact h)]
end Go.Fx
end
section
namespace Go.Fx
open Go RowKit

theorem cond_learn {S : St} {α : Al} {ω : Nat → Option Nat} {B : Nat} {w0 w : World} {a : Act} (r : Rel S α ω B w0 a w) {c : Operand} {b : Bool} (h : S.ev c = .w (.c (.bool b none))) {x : Bool} (hx : b = x) : Rel (learn S c x) α ω B w0 a w ∧ Evo S (learn S c x) α α := by
  cases c with
  | tmp t =>
    have h' : (match Nat.blt t S.nt with | true => S.get t | false => SV.any) = .w (.c (.bool b none)) := h
    split at h'
    · rename_i hlt
      have hlt : t < S.nt := by simpa [Nat.blt_eq] using hlt
      exact ⟨r.learn h' hlt hx, Evo.put S (some t) _ _⟩
    · cases h'
  | _ => exact ⟨r, Evo.refl _ _⟩
/-- A loop with an invariant. -/
theorem loop_ok {E : Env} {ih : IH} (hih : IHok E ih) {f : FuncId} {c : Code} {S : St} {k : Cont} {L : LoopSpec} {y : HL (shs L.fix)} {v0 : HL (shs L.vars)} (hv0 : readAll S L.vars = some v0)
    (hi0 : L.inv y v0) (h : allV (shs L.vars) fun v => L.inv y v → match writeAll (havoc S (wrote c ++ slotsOf L.vars)) (havoc S (wrote c ++ slotsOf L.vars)) L.vars v with
        | some S1 => ih f c S1 fun ex S' => match ex with
          | .normal => match backOk S S1 S' (wrote c ++ slotsOf L.vars) (boxesOf (havoc S (wrote c ++ slotsOf L.vars)) L.vars), readAll S' L.vars with
            | true, some v' => L.inv y v' ∧ ble 0 (L.mu y v') = true ∧ blt (L.mu y v') (L.mu y v) = true
            | _, _ => Bad 118
          | ex => k ex S'
        | none => Bad 117)
    {α : Al} {ω : Nat → Option Nat} {B : Nat} {w0 : World} {a : Act} {w : World} {Q : Exit → Act → World → Prop} (r : Rel S α ω B w0 a w)
    (K : ∀ ex S' α' ω' a' w', Evo S S' α α' → Rel S' α' ω' B w0 a' w' → k ex S' → Q (exR ex) a' w') : Lwp E.P c Q a w := by
  have h := fun v hv => allV_all h v hv
  have hsl : ∀ t, t ∈ slotsOf L.vars → t ∈ wrote c ++ slotsOf L.vars := fun t ht => List.mem_append_right _ ht
  generalize wrote c ++ slotsOf L.vars = ts at h hsl
  obtain ⟨hv1, hv2, hv3, hv4⟩ := havoc_same S ts
  have hvg := havoc_get S ts
  have claim : ∀ (n : Nat) (v : HL (shs L.vars)) (S1 : St) (α1 : Al) (ω1 : Nat → Option Nat) (a1 : Act) (w1 : World), (L.mu y v).toNat = n → L.inv y v → inAll (shs L.vars) v → writeAll (havoc S ts) (havoc S ts) L.vars v = some S1 → Rel S1 α1 ω1 B w0 a1 w1 → Agree (· < S.nx) α α1 → Lwp E.P c Q a1 w1 := by
    intro n
    induction n using Nat.strongRecOn with
    | _ n IH =>
      intro v S1 α1 ω1 a1 w1 hmu hinv hin hw r1 ag
      have hrun := h v hin hinv
      rw [hw] at hrun
      dsimp only at hrun
      obtain ⟨b1, b2, b3⟩ := writeAll_same hw
      obtain ⟨o1, o2⟩ := writeAll_out hw
      have e1 : Evo S S1 α α1 := by
        refine ⟨by rw [b1, hv1]; exact Nat.le_refl _, ag, fun j L' hj hL => ?_, b2.trans hv2, hv4.trans b3⟩
        have hnb : j ∉ boxesOf (havoc S ts) L.vars := fun hb => by
          obtain ⟨x, hx⟩ := boxes_after hw j hb
          rw [hx] at hL
          cases hL
        have := o2 j hnb
        rw [this, hv3] at hL
        exact ⟨L', hL, rfl, rfl⟩
      refine lwp_once (WP.wp (hih f c S1 _ α1 ω1 B w0 a1 w1 _ hrun r1 fun ex S' α' ω' a' w' ev r' hk => ?_))
      cases ex with
      | normal =>
        dsimp only at hk
        split at hk
        · rename_i v' hb hr
          obtain ⟨A1, A2, A3⟩ := back_same ev.ext hb
          obtain ⟨S2, ω2, q1, q2⟩ := back_ok r hw (by rw [ev.nt, b2, hv2]) (fun t ht => by
              rw [A1 t ht, o1 t fun h => ht (hsl t h), hvg, if_neg ht]) (fun i hi hb => by
              rw [A2 i (by rw [b1, hv1]; exact hi) hb, o2 i hb, hv3]) A3 hr r'
          have ag' : Agree (· < S.nx) α α' := ag.trans ev.agree fun i hi => by
            show i < S1.nx
            rw [b1, hv1]; exact hi
          exact IH _ (by
            have k1 : 0 ≤ L.mu y v' := of_decide_eq_true hk.2.1
            have k2 : L.mu y v' < L.mu y v := of_decide_eq_true hk.2.2
            rw [← hmu]; omega) v' S2 α' ω2 a' w' rfl hk.1 (readAll_in r' hr) q1 q2 ag'
        · cases hk
      | exit id => exact K (.exit id) S' α' ω' a' w' (e1.trans ev) r' hk
      | ret => exact K .ret S' α' ω' a' w' (e1.trans ev) r' hk
  have hin0 := readAll_in r hv0
  have hrun0 := h v0 hin0 hi0
  split at hrun0
  · rename_i S1 hw
    have hbx := boxes_are hw
    obtain ⟨S2, ω2, q1, q2⟩ := back_ok r hw rfl (fun _ _ => rfl) (fun _ _ _ => rfl) (fun b hb => by
      obtain ⟨x, hx⟩ := hbx b hb
      rw [hv3] at hx
      exact ⟨x, x, hx, hx, rfl⟩) hv0 r
    exact claim _ v0 S2 α ω2 a w rfl hi0 hin0 q1 q2 (Agree.refl _ _)
  · cases hrun0
theorem step_ok {E : Env} (EO : EnvOk E) {ih : IH} (hih : IHok E ih) : IHok E (step E ih) := by
  intro f c S k α ω B w0 a w Q h r K
  unfold step at h
  split at h
  · exact wp_skip (K .normal S α ω a w (Evo.refl _ _) r h)
  · rename_i id ops draw
    split at h
    · exact wp_region_list (exOps_ok EO hih _ _ _ _ _ _ _ h r fun S' α' ω' a' w' ev r' hk => K .normal S' α' ω' a' w' ev r' hk)
    · refine wp_region_any EO.mixed ?_
      have := exDraw_ok EO hih (Q := Q) h (r.world r.h.drew) fun S' α' ω' a' w' ev r' hk => K .normal S' α' ω' a' w' ev r' hk
      simpa using this
  · rename_i x y
    refine wp_seq (WP.wp (hih f x S _ α ω B w0 a w _ h r fun ex S' α' ω' a' w' ev r' hk => ?_))
    cases ex with
    | normal => exact WP.wp (hih f y S' _ α' ω' B w0 a' w' _ hk r' fun ex S'' α'' ω'' a'' w'' ev' r'' hk' => K ex S'' α'' ω'' a'' w'' (ev.trans ev') r'' hk')
    | exit id => exact K (.exit id) S' α' ω' a' w' ev r' hk
    | ret => exact K .ret S' α' ω' a' w' ev r' hk
  · rename_i c t e
    split at h
    · rename_i b hc
      obtain ⟨p1, p2⟩ := ev_c r.t hc
      obtain rfl : b = true := p2 _ rfl
      exact wp_cond_true p1 (WP.wp (hih f t S k α ω B w0 a w Q h r K))
    · rename_i b hc
      obtain ⟨p1, p2⟩ := ev_c r.t hc
      obtain rfl : b = false := p2 _ rfl
      exact wp_cond_false p1 (WP.wp (hih f e S k α ω B w0 a w Q h r K))
    · rename_i b hc
      obtain ⟨p1, p2⟩ := ev_c r.t hc
      refine wp_cond_split p1 (fun hb => ?_) (fun hb => ?_)
      · obtain ⟨q1, q2⟩ := cond_learn r hc hb
        exact WP.wp (hih f t _ k α ω B w0 a w Q (h.1 hb) q1 fun ex S' α' ω' a' w' ev r' hk => K ex S' α' ω' a' w' (q2.trans ev) r' hk)
      · obtain ⟨q1, q2⟩ := cond_learn r hc hb
        exact WP.wp (hih f e _ k α ω B w0 a w Q (h.2 hb) q1 fun ex S' α' ω' a' w' ev r' hk => K ex S' α' ω' a' w' (q2.trans ev) r' hk)
    · cases h
  · rename_i id c
    refine wp_block (WP.wp (hih f c S _ α ω B w0 a w _ h r fun ex S' α' ω' a' w' ev r' hk => ?_))
    cases ex with
    | normal => exact K .normal S' α' ω' a' w' ev r' hk
    | ret => exact K .ret S' α' ω' a' w' ev r' hk
    | exit id' =>
      show Exit.inBlock id Q (.exit id') a' w'
      unfold Exit.inBlock
      have hk : (match Nat.beq id' id with | true => k .normal S' | false => k (.exit id') S') := hk
      cases e : Nat.beq id' id with
      | true =>
        rw [e] at hk
        simp only [Nat.eq_of_beq_eq_true e, if_true]
        exact K .normal S' α' ω' a' w' ev r' hk
      | false =>
        rw [e] at hk
        simp only [Nat.ne_of_beq_eq_false e, if_false]
        exact K (.exit id') S' α' ω' a' w' ev r' hk
  · rename_i c
    split at h
    · refine lwp_once (WP.wp (hih f c S _ α ω B w0 a w _ h r fun ex S' α' ω' a' w' ev r' hk => ?_))
      cases ex with
      | normal => exact hih f (.loop c) S' _ α' ω' B w0 a' w' _ hk r' fun ex S'' α'' ω'' a'' w'' ev' r'' hk' => K ex S'' α'' ω'' a'' w'' (ev.trans ev') r'' hk'
      | exit id => exact K (.exit id) S' α' ω' a' w' ev r' hk
      | ret => exact K .ret S' α' ω' a' w' ev r' hk
    · split at h
      · rename_i y v0 hy hv0
        exact loop_ok hih hv0 h.1 h.2 r K
      · cases h
  · rename_i id
    exact wp_exit (K (.exit id) S α ω a w (Evo.refl _ _) r h)
  · exact wp_ret (K .ret S α ω a w (Evo.refl _ _) r h)
  · cases h
theorem exec_ok {E : Env} (EO : EnvOk E) : ∀ n, IHok E (exec E n)
  | 0 => fun _ _ _ _ _ _ _ _ _ _ _ h _ _ => by cases h
  | n + 1 => step_ok EO (exec_ok EO n)

/-! ### The beginning of a call -/
theorem look_addAll : ∀ (rs : List Res) (acc : List (Nat × Option Res)) (n i : Nat), look (addAll acc n rs) i = if n ≤ i ∧ i < n + rs.length then some rs[i - n]? else look acc i
  | [], acc, n, i => by
    rw [if_neg (by simp)]; rfl
  | r :: l, acc, n, i => by
    rw [addAll, look_addAll l, look_cons]
    by_cases h : n = i
    · subst h
      rw [if_neg (by omega), if_pos rfl, if_pos (by simp)]
      simp
    · rw [if_neg h]
      by_cases h2 : n ≤ i ∧ i < n + (r :: l).length
      · rw [if_pos h2, if_pos (by simp at h2; omega), show i - n = (i - (n + 1)) + 1 by omega]
        simp
      · rw [if_neg h2, if_neg (by simp at h2; omega)]
/-- The values of the lists among the arguments. -/
def lvals : List Sh → List Value → List Value
  | .list _ :: r, v :: vs => v :: lvals r vs
  | _ :: r, _ :: vs => lvals r vs
  | _, _ => []
theorem LRep.one {w : World} {f : Fl} {l : List f.ty} {v : Value} {m : Nat → Prop} {own : Bool} (h : LRep w f l v m own) : v.oneCell' = true := by
  obtain ⟨_, _, h3⟩ := h
  rcases h3 with ⟨a, cap, rfl, _⟩ | ⟨blk, off, cap, cs, ty, fz, rfl, _⟩ <;> rfl
theorem lvals_one {w : World} : ∀ {l : List Sh} {x : HL l} {vals : List Value}, ArgsR w l x vals → ∀ v ∈ lvals l vals, v.oneCell' = true
  | [], _, [], _, v, hv => by cases hv
  | s :: r, x, u :: vs, h, v, hv => by
    have ih := lvals_one h.2 v
    cases s with
    | list f =>
      rcases List.mem_cons.1 hv with rfl | hv
      · exact LRep.one h.1
      · exact ih hv
    | int k => exact ih hv
    | bool => exact ih hv
    | agg f => exact ih hv
    | lit k z => exact ih hv
  | [], _, _ :: _, h, _, _ => h.elim
  | _ :: _, _, [], h, _, _ => h.elim
theorem argAll_ok {w : World} {α : Al} {ω : Nat → Option Nat} (hω : ∀ b, ω b = none) {m : Nat} {R : Nat → Option Res} : ∀ {l : List Sh} {x : HL l} {vals : List Value} {n : Nat} {vs : List SV} {rs : List Res}, argAll l x n = (vs, rs) → ArgsR w l x vals →
    (∀ i v, (lvals l vals)[i]? = some v → α.sv (n + i) = v) → n + rs.length ≤ m →
    vs.map (SV.den α) = vals ∧ (∀ v ∈ vs, v.good (· < m) R) ∧ ∀ i r, rs[i]? = some r → RRel α ω w (n + i) r ∧ ∃ L, r = .list L
  | [], _, [], n, vs, rs, h, _, _, _ => by
    cases h
    exact ⟨rfl, (fun v hv => by cases hv), (fun i r hr => by cases hr)⟩
  | s :: t, x, u :: vals, n, vs, rs, h, ha, hv, hm => by
    cases s with
    | int k =>
      simp only [argAll] at h
      cases e : argAll t x.2 n with
      | mk vs' rs' =>
        rw [e] at h
        cases h
        obtain ⟨q1, q2, q3⟩ := argAll_ok hω e ha.2 hv hm
        obtain ⟨e1, e2, e3⟩ := ha.1
        exact ⟨by rw [List.map_cons, q1, e1]; rfl, fun v hv' => by rcases List.mem_cons.1 hv' with rfl | hv'; exact ⟨e2, e3⟩; exact q2 v hv', q3⟩
    | bool =>
      simp only [argAll] at h
      cases e : argAll t x.2 n with
      | mk vs' rs' =>
        rw [e] at h
        cases h
        obtain ⟨q1, q2, q3⟩ := argAll_ok hω e ha.2 hv hm
        have e1 : u = .bool x.1 := ha.1
        exact ⟨by rw [List.map_cons, q1, e1]; rfl, fun v hv' => by rcases List.mem_cons.1 hv' with rfl | hv'; exact (fun x hx => by cases hx); exact q2 v hv', q3⟩
    | agg f =>
      simp only [argAll] at h
      cases e : argAll t x.2 n with
      | mk vs' rs' =>
        rw [e] at h
        cases h
        obtain ⟨q1, q2, q3⟩ := argAll_ok hω e ha.2 hv hm
        obtain ⟨e1, e2⟩ := ha.1
        refine ⟨?_, fun v hv' => by rcases List.mem_cons.1 hv' with rfl | hv'; exact sw_good e2; exact q2 v hv', q3⟩
        rw [List.map_cons, q1, e1]
        exact congrArg (· :: vals) (congrArg (fun l => Value.agg (List.toArray l)) (sw_den (α := α) f x.1))
    | lit k z =>
      simp only [argAll] at h
      cases e : argAll t x.2 n with
      | mk vs' rs' =>
        rw [e] at h
        cases h
        obtain ⟨q1, q2, q3⟩ := argAll_ok hω e ha.2 hv hm
        obtain ⟨e1, e2, e3⟩ := ha.1
        exact ⟨by rw [List.map_cons, q1, e1]; rfl, fun v hv' => by rcases List.mem_cons.1 hv' with rfl | hv'; exact ⟨Int.le_refl _, Int.le_refl _⟩; exact q2 v hv', q3⟩
    | list f =>
      simp only [argAll] at h
      cases e : argAll t x.2 (n + 1) with
      | mk vs' rs' =>
        rw [e] at h
        cases h
        simp only [List.length_cons] at hm
        obtain ⟨q1, q2, q3⟩ := argAll_ok hω e ha.2 (fun i v hi => by have := hv (i + 1) v (by simpa [lvals] using hi); rwa [show n + (i + 1) = n + 1 + i by omega] at this) (show n + 1 + rs'.length ≤ m by omega)
        have e1 : α.sv n = u := hv 0 u rfl
        refine ⟨by rw [List.map_cons, q1, ← e1]; rfl, fun v hv' => ?_, fun i r hr => ?_⟩
        · rcases List.mem_cons.1 hv' with rfl | hv'
          · show n < m; omega
          · exact q2 v hv'
        · cases i with
          | zero =>
            cases hr
            refine ⟨?_, _, rfl⟩
            show LRep w f x.1 (α.sv n) _ false
            rw [e1]
            exact LRep.frame ha.1 fun b _ _ => ⟨hω b, rfl⟩
          | succ i => have := q3 i r (by simpa using hr); rwa [show n + 1 + i = n + (i + 1) by omega] at this
  | [], _, _ :: _, _, _, _, _, h, _, _ => h.elim
  | _ :: _, _, [], _, _, _, _, h, _, _ => h.elim
theorem svs_one (vs : List SW) : svs (oneOrTup vs) = vs.map SV.w := by
  match vs with
  | [] => rfl
  | [v] => rfl
  | v :: u :: r => rfl
theorem argsR_resR {w : World} {own : Nat → Option Nat} {n0 : Nat} : ∀ {l : List Sh} {y : HL l} {vs : List Value} {i : Nat}, noLists l = true → ArgsR w l y vs → ResR w own n0 l y vs i
  | [], _, [], _, _, _ => trivial
  | s :: r, y, v :: vs, i, hn, h => by
    have hn' : noLists r = true := by cases s <;> first | exact hn | cases hn
    refine ⟨?_, argsR_resR hn' h.2⟩
    cases s with
    | list f => cases hn
    | lit k z => exact h.1
    | int k => exact h.1
    | bool => exact h.1
    | agg f => exact h.1
  | [], _, _ :: _, _, _, h => h.elim
  | _ :: _, _, [], _, _, h => h.elim
theorem runs_at {E : Env} (EO : EnvOk E) {n : Nat} {f : FuncId} {C : Contract} (x : HL C.args) (w : World) (vals : List Value) (ha : ArgsR w C.args x vals) (h : runs E n f C x) :
    Calls E.P f vals.toArray w fun e w' => ∃ vs own, e = .returned (oneV vs) ∧ Below w.heap.size w w' ∧ ResR w' own w.heap.size C.res (C.F x) vs 0 := by
  unfold runs at h
  split at h
  · rename_i fn hfn
    obtain ⟨f1, f2, f3⟩ := EO.fns _ (look_mem hfn)
    split at h
    · rename_i c hc
      split at h
      rename_i args rs harg
      let α : Al := ⟨fun _ => 0, fun i => (lvals C.args vals)[i]?.getD (.slice none 0 0)⟩
      let ω : Nat → Option Nat := fun _ => none
      have hsv : ∀ i v, (lvals C.args vals)[i]? = some v → α.sv (0 + i) = v := fun i v hi => by
        show ((lvals C.args vals)[0 + i]?).getD _ = v
        rw [Nat.zero_add, hi]; rfl
      let S0 : St := { tm := initTm args 0, tb := fun _ => undefV, nt := args.length + (fn.ntmps - args.length), rs := addAll [] 0 rs, rb := fun _ => none, nx := rs.length }
      have hres : ∀ i, S0.res i = if i < rs.length then rs[i]? else none := fun i => by
        show (match look (addAll [] 0 rs) i with | some r => r | none => none) = _
        rw [look_addAll]
        by_cases hi : i < rs.length
        · rw [if_pos (by omega), if_pos hi]; rfl
        · rw [if_neg (by omega), if_neg hi]; rfl
      obtain ⟨q1, q2, q3⟩ := argAll_ok (w := w) (α := α) (ω := ω) (fun _ => rfl) (m := rs.length) (R := S0.res) harg ha hsv (by omega)
      have hlen : args.length = vals.length := by rw [← q1]; simp
      have H : HRel (· < S0.nx) S0.res α ω w.heap.size w w := by
        refine ⟨Below.refl _ _, Nat.le_refl _, (fun b i hb => by cases hb), fun i r hr => ?_, fun i r hr => ?_, fun i b hb => ?_, fun j => ?_⟩
        · rw [hres] at hr
          split at hr
          · assumption
          · cases hr
        · rw [hres] at hr
          split at hr
          · have := (q3 i r hr).1; rwa [Nat.zero_add] at this
          · cases hr
        · rw [hres] at hb
          split at hb
          · obtain ⟨L, hL⟩ := (q3 i _ hb).2; cases hL
          · cases hb
        · show (((lvals C.args vals)[j]?).getD (.slice none 0 0)).oneCell' = true
          cases e : (lvals C.args vals)[j]? with
          | none => rfl
          | some v => exact lvals_one ha v (List.mem_of_getElem? e)
      have r0 : Rel S0 α ω w.heap.size w { tmps := vals.toArray ++ Array.replicate (fn.ntmps - vals.toArray.size) undef, defers := [] } w := by
        refine ⟨H, ⟨?_, fun t ht => ?_, fun t ht hn => ?_⟩, rfl⟩
        · show (vals.toArray ++ Array.replicate (fn.ntmps - vals.toArray.size) undef).size = args.length + (fn.ntmps - args.length)
          simp [hlen]
        · show SV.good _ _ (match look (initTm args 0) t with | some v => v | none => undefV)
          rw [initTm_get]
          simp only [Nat.not_lt_zero, if_false, Nat.sub_zero]
          cases e : args[t]? with
          | none => exact trivial
          | some v => exact q2 v (List.mem_of_getElem? e)
        · show _ = some (SV.den α (match look (initTm args 0) t with | some v => v | none => undefV))
          rw [initTm_get]
          simp only [Nat.not_lt_zero, if_false, Nat.sub_zero]
          have ht' : t < args.length + (fn.ntmps - args.length) := ht
          cases e : args[t]? with
          | none =>
            have hge : args.length ≤ t := List.getElem?_eq_none_iff.1 e
            rw [Array.getElem?_append_right (by simpa [← hlen] using hge)]
            simp only [List.size_toArray]
            rw [Array.getElem?_replicate, if_pos (by omega)]
            rfl
          | some v =>
            have hlt : t < args.length := (List.getElem?_eq_some_iff.1 e).1
            rw [Array.getElem?_append_left (by simpa [← hlen] using hlt)]
            rw [← q1]
            simp [e]
      refine calls_of_wp (fn := fn) f1 hc (WP.wp (exec_ok EO n f c S0 _ α ω w.heap.size w _ w _ h r0 fun ex S' α' ω' a' w' ev r' hk => ?_))
      have body : (match resOf E S' fn.results.toList with
          | some vs => match decArgs S' C.res (svs (oneOrTup vs)), noLists C.res with
            | some y, true => y = C.F x
            | _, _ => Bad 97
          | none => Bad 98) → a'.defers = [] ∧ ∃ v, (results fn a'.tmps).run E.P w' = .ok v w' ∧ (∃ vs own, Ending.returned v = .returned (oneV vs) ∧ Below w.heap.size w w' ∧ ResR w' own w.heap.size C.res (C.F x) vs 0) := fun hk => by
        split at hk
        · rename_i vs hvs
          split at hk
          · rename_i y hy hl
            obtain ⟨p1, p2⟩ := results_ok r' hvs
            rw [svs_one] at hy
            have p3 := decArgs_ok r'.h hy (fun v hv => by obtain ⟨u, hu, rfl⟩ := List.mem_map.1 hv; exact p2 u hu)
            rw [hk] at p3
            refine ⟨r'.d, _, p1, _, fun _ => none, congrArg Ending.returned (oneOrTup_den α' vs), r'.h.bel, argsR_resR hl ?_⟩
            rw [List.map_map] at p3
            exact p3
          · cases hk
        · cases hk
      cases ex with
      | normal => exact body hk
      | ret => exact body hk
      | exit id => cases hk
    · cases h
  · cases h
/-- The arguments lie in their kinds' ranges. -/
def inK (k : IntKind) (z : Int) : Prop := kmin k ≤ z ∧ z ≤ kmax k
def okL (f : Fl) (l : List f.ty) : Prop := (∀ x ∈ l, f.okv x) ∧ l.length * f.bytes ≤ reach
def Sh.okA : (s : Sh) → s.ty → Prop
  | .int k, z => inK k z
  | .bool, _ => True
  | .agg f, x => f.okv x
  | .list f, l => okL f l
  | .lit _ _, _ => True
def okArgs : (l : List Sh) → HL l → Prop
  | [], _ => True
  | s :: r, x => s.okA x.1 ∧ okArgs r x.2
theorem argsR_ok {w : World} : ∀ {l : List Sh} {x : HL l} {vals : List Value}, ArgsR w l x vals → okArgs l x
  | [], _, [], _ => trivial
  | s :: r, x, v :: vs, h => by
    refine ⟨?_, argsR_ok h.2⟩
    cases s with
    | int k => exact h.1.2
    | bool => exact trivial
    | agg f => exact h.1.2
    | list f => exact ⟨h.1.1, h.1.2.1⟩
    | lit k z => exact trivial
  | [], _, _ :: _, h => h.elim
  | _ :: _, _, [], h => h.elim
theorem runs_ok {E : Env} (EO : EnvOk E) {n : Nat} {f : FuncId} {C : Contract} (h : ∀ x, C.pre x → ∀ (w : World) (vals : List Value), ArgsR w C.args x vals → runs E n f C x) : Sound E.P f C :=
  fun x w vals ha hp => runs_at EO x w vals ha (h x hp w vals ha)
theorem sound_of_eq {E : Env} (EO : EnvOk E) {n : Nat} {f : FuncId} {C : Contract} (T : HL C.args → Prop) (h : ∀ x, runs E n f C x = T x) (hT : ∀ x, okArgs C.args x → C.pre x → T x) : Sound E.P f C :=
  runs_ok EO fun x hp _ _ ha => by rw [h x]; exact hT x (argsR_ok ha) hp
/-- The same, where the loops' invariants speak of the arguments. -/
theorem sound_of_eqs {P : Program} {n : Nat} {f : FuncId} {C : Contract} (E : HL C.args → Env) (hP : ∀ x, (E x).P = P) (EO : ∀ x, EnvOk (E x)) (T : HL C.args → Prop) (h : ∀ x, runs (E x) n f C x = T x) (hT : ∀ x, okArgs C.args x → C.pre x → T x) : Sound P f C :=
  fun x w vals ha hp => by
    have := runs_at (EO x) x w vals ha (n := n) (f := f) (by rw [h x]; exact hT x (argsR_ok ha) hp)
    rw [hP x] at this
    exact this
end Go.Fx
end
section
namespace Go.Fx
open Go RowKit

def FnsOk (P : Program) (l : List (FuncId × Func)) : Prop := ∀ p ∈ l, P.funcs[p.1]? = some p.2 ∧ (p.2.name == "runtime.NumGoroutine") = false ∧ p.2.body.isNone = false
theorem FnsOk.nil {P : Program} : FnsOk P [] := fun p hp => by cases hp
theorem FnsOk.cons {P : Program} {n : FuncId} {f : Func} {l : List (FuncId × Func)} (h : P.funcs[n]? = some f) (h1 : (f.name == "runtime.NumGoroutine") = false) (h2 : f.body.isNone = false) (h3 : FnsOk P l) : FnsOk P ((n, f) :: l) := fun p hp => by
  rcases List.mem_cons.1 hp with rfl | hp
  · exact ⟨h, h1, h2⟩
  · exact h3 p hp
def ConOk (P : Program) (l : List (FuncId × Contract)) : Prop := ∀ p ∈ l, Sound P p.1 p.2
theorem ConOk.nil {P : Program} : ConOk P [] := fun p hp => by cases hp
theorem ConOk.cons {P : Program} {n : FuncId} {C : Contract} {l : List (FuncId × Contract)} (h : Sound P n C) (h3 : ConOk P l) : ConOk P ((n, C) :: l) := fun p hp => by
  rcases List.mem_cons.1 hp with rfl | hp
  · exact h
  · exact h3 p hp
theorem Sound.hid {P : Program} {n : FuncId} {C : Contract} (h : Sound P n C) : Sound P n C.hid := h
theorem keyOk_int {P : Program} {k : TypeId} (h : P.underlying k = some (.int .i64)) : KeyOk P k .int := ⟨Maps.int_keyed h, fun x hx => by
  have hx' : (SC.int .i64 ⟨x, kmin .i64, kmax .i64⟩).ok0 := hx _ (List.mem_cons_self ..)
  refine ⟨.int .i64 x, ?_⟩
  show keyOf P k (.int .i64 x) = _
  have hw : (Lit.int .i64 x).wf = true := by
    have h1 : (IntKind.i64).min ≤ (show Int from x) := hx'.1
    have h2 : (show Int from x) ≤ (IntKind.i64).max := hx'.2
    simp only [Lit.wf, Bool.and_eq_true, decide_eq_true_eq]
    exact ⟨h1, h2⟩
  simp [keyOf, mapKey, h, hw], .inl rfl⟩

/-! ### Numbers that go round -/
def w64 (x : Int) : Int := IntKind.i64.wrap x
theorem w64_eq (x : Int) : w64 x = (x + 9223372036854775808) % 18446744073709551616 - 9223372036854775808 := IntKind.wrap_i64 x
theorem w64_dvd (x : Int) : ∃ k, w64 x = x + 18446744073709551616 * k := by
  rw [w64_eq]
  exact ⟨-((x + 9223372036854775808) / 18446744073709551616), by omega⟩
theorem w64_congr {x y : Int} (k : Int) (h : x = y + 18446744073709551616 * k) : w64 x = w64 y := by
  rw [w64_eq, w64_eq]; omega
theorem w64_id {x : Int} (h1 : -9223372036854775808 ≤ x) (h2 : x ≤ 9223372036854775807) : w64 x = x := by
  rw [w64_eq]; omega
theorem w64_w64 (x : Int) : w64 (w64 x) = w64 x := by
  obtain ⟨k, h⟩ := w64_dvd x
  exact w64_congr k h
theorem w64_add_l (x y : Int) : w64 (w64 x + y) = w64 (x + y) := by
  obtain ⟨k, h⟩ := w64_dvd x
  exact w64_congr k (by rw [h]; omega)
theorem w64_add_r (x y : Int) : w64 (x + w64 y) = w64 (x + y) := by
  obtain ⟨k, h⟩ := w64_dvd y
  exact w64_congr k (by rw [h]; omega)
theorem w64_sub_l (x y : Int) : w64 (w64 x - y) = w64 (x - y) := by
  obtain ⟨k, h⟩ := w64_dvd x
  exact w64_congr k (by rw [h]; omega)
theorem w64_sub_r (x y : Int) : w64 (x - w64 y) = w64 (x - y) := by
  obtain ⟨k, h⟩ := w64_dvd y
  exact w64_congr (-k) (by rw [h]; omega)
theorem w64_mul_l (x y : Int) : w64 (w64 x * y) = w64 (x * y) := by
  obtain ⟨k, h⟩ := w64_dvd x
  exact w64_congr (k * y) (by rw [h, Int.add_mul, Int.mul_assoc])
theorem w64_mul_r (x y : Int) : w64 (x * w64 y) = w64 (x * y) := by
  obtain ⟨k, h⟩ := w64_dvd y
  exact w64_congr (x * k) (by rw [h, Int.mul_add, Int.mul_left_comm])
end Go.Fx
end
