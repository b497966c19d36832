/-
  The engine, part 16: regions whose order is drawn.
-/
import Derived.Test.YthljaepanhdmiaaE16C
namespace Go.Fx
open Go RowKit

theorem slots_iff {ms : List Nat} {all : List Oper} {o : Oper} {i : Nat} : ∀ {l : List Oper} {n : Nat}, slotsOk ms all o i l n = true → ∀ j p d, l[j]? = some p → p.dst = some d → n + j ≠ i →
    (d ∈ looks all o → (n + j < i ∧ waitsM ms i (n + j) = true) ∨ (i < n + j ∧ waitsM ms (n + j) i = true)) ∧ o.dst ≠ some d
  | x :: r, n, h, j, p, d, hp, hd, hne => by
    unfold slotsOk at h
    rw [Bool.and_eq_true] at h
    cases j with
    | zero =>
      cases hp
      have h1 := h.1
      rw [hd] at h1
      simp only [Nat.add_zero] at hne ⊢
      have hb : Nat.beq i n = false := by
        cases e : Nat.beq i n with
        | false => rfl
        | true => exact absurd (Nat.eq_of_beq_eq_true e).symm hne
      dsimp only at h1
      rw [hb, Bool.false_or, Bool.and_eq_true] at h1
      obtain ⟨h2, h3⟩ := h1
      refine ⟨fun hm => ?_, fun e => ?_⟩
      · have hmem : nmem d (looks all o) = true := by
          clear h h2 h3
          generalize looks all o = l at hm
          induction l with
          | nil => cases hm
          | cons y l ih =>
            unfold nmem
            rcases List.mem_cons.1 hm with rfl | hm
            · simp
            · rw [ih hm, Bool.or_true]
        rw [hmem] at h2
        simp only [Bool.not_true, Bool.false_or, Bool.or_eq_true, Bool.and_eq_true, Nat.blt_eq] at h2
        exact h2
      · rw [e] at h3
        simp at h3
    | succ j =>
      have := slots_iff h.2 j p d (by simpa using hp) hd (by omega)
      rwa [show n + 1 + j = n + (j + 1) by omega] at this
  | [], _, _, j, p, d, hp, _, _ => by cases hp
theorem quiet_iff {ms : List Nat} {all q : List Oper} : ∀ {l : List Oper} {n : Nat}, quietOk ms all q l n = true → ∀ i o, l[i]? = some o → slotsOk ms all o (n + i) q 0 = true
  | x :: r, n, h, i, o, ho => by
    unfold quietOk at h
    rw [Bool.and_eq_true] at h
    cases i with
    | zero => cases ho; exact h.1
    | succ i =>
      have := quiet_iff h.2 i o (by simpa using ho)
      rwa [show n + 1 + i = n + (i + 1) by omega] at this
  | [], _, _, i, o, ho => by cases ho
theorem isTail_iff {ms : List Nat} {i : Nat} : ∀ {n : Nat}, isTail ms i n = true → ∀ j, j < n → waitsM ms i j = true
  | n + 1, h, j, hj => by
    unfold isTail at h
    rw [Bool.and_eq_true] at h
    by_cases e : j = n
    · subst e; exact h.1
    · exact isTail_iff h.2 j (by omega)
  | 0, _, j, hj => by omega
theorem tail_iff {ms : List Nat} : ∀ {l : List Oper} {n : Nat}, tailOk ms l n = true → ∀ i, n ≤ i → i < n + l.length → ∀ j, j < i → waitsM ms i j = true
  | x :: r, n, h, i, h1, h2, j, hj => by
    unfold tailOk at h
    rw [Bool.and_eq_true] at h
    by_cases e : i = n
    · subst e; exact isTail_iff h.1 j hj
    · exact tail_iff h.2 i (by omega) (by simp at h2; omega) j hj
  | [], n, _, i, h1, h2, _, _ => by simp at h2; omega
theorem quietLen_le : ∀ l : List Oper, quietLen l ≤ l.length
  | [] => Nat.le_refl _
  | o :: r => by
    have := quietLen_le r
    unfold quietLen
    split <;> simp <;> omega

/-- A quiet operation, in whatever state. -/
theorem qv_ok {E : Env} (EO : EnvOk E) {S : St} {D : Nat → Prop} {α : Al} {ω : Nat → Option Nat} {B : Nat} {w0 w : World} {a : Act} (H : HRel D S.res α ω B w0 w) (T : TRel D S.res α S.nt S.get a.tmps)
    {o : Oper} {side : Option Prop} {v : SV} (h : qv E S o.op = .val side v) (hs : sideH side) {next : Act → World → Prop} (Q : Exit → Act → World → Prop)
    (K : ∀ w', HRel D S.res α ω B w0 w' → v.good D S.res → next (a.put o.dst (v.den α)) w') : o.wp E.P a w next Q := by
  unfold qv at h
  split at h
  · rename_i fo as ts ho
    split at h
    · rename_i f cap hf
      obtain ⟨p1, p2⟩ := ev_c T hf
      unfold callQ at h
      split at h
      · rename_i fn C x hfn hna hC
        obtain ⟨hm, hx, hl⟩ := pickC_ok hC
        cases h
        have hg : ∀ v ∈ S.evs as.toList ++ cap.map (fun p => SV.w (.c (.ptr p.1 p.2))), v.good D S.res := fun v hv => by
          rcases List.mem_append.1 hv with hv | hv
          · exact evs_good T _ v hv
          · obtain ⟨p, hp, rfl⟩ := List.mem_map.1 hv
            exact p2 p hp
        have hany := noAny_iff hna
        obtain ⟨f1, f2, f3⟩ := EO.fns _ (look_mem hfn)
        have hc := EO.con _ hm x w _ (decArgs_ok H hx hg) hs
        have hargs : as.map a.eval ++ (cap.map fun p => Value.pointer (some ⟨α.blk p.1, p.2, none⟩)).toArray = ((S.evs as.toList ++ cap.map (fun p => SV.w (.c (.ptr p.1 p.2)))).map (SV.den α)).toArray := by
          apply Array.ext'
          have := evs_den T as.toList (fun v hv => hany v (List.mem_append_left _ hv))
          simp only [Array.toList_append, Array.toList_map, List.map_append, this, List.map_map]
          rfl
        have hrun : (execOp a.eval o).run E.P w = .ok (.enter f ((S.evs as.toList ++ cap.map (fun p => SV.w (.c (.ptr p.1 p.2)))).map (SV.den α)).toArray) w := by
          have f2' : ¬ (fn.name = "runtime.NumGoroutine") := by simpa using f2
          simp only [execOp, ho, resolve, p1, SC.den, Deferred.ofValue, Sem.run_bind, Sem.run_pure, Result.andThen_ok, invoke, callFunc, run_program, f1, f3]
          simp only [beq_iff_eq, f2', if_false, Bool.false_eq_true, Sem.run_pure]
          rw [← hargs]
          simp
        unfold Oper.wp
        rw [hrun]
        show Calls _ _ _ _ _
        refine hc.mono fun e w' he => ?_
        obtain ⟨vs, own, rfl, hb, hr⟩ := he
        have H' : HRel D S.res α ω B w0 w' := H.frame (H.bel.trans (hb.mono H.base)) hb.size (fun b hb' => hb.block b hb')
        obtain ⟨q1, q2⟩ := put_ok (D := D) (R := S.res) α (n := 0) hl hr
        obtain ⟨q3, q4⟩ := oneOrTup_good q2
        have := K w' H' q3
        rw [oneOrTup_den, q1] at this
        exact this
      · cases h
    · cases h
  · obtain ⟨q1, q2, q3⟩ := opv_val H T h hs
    unfold Oper.wp
    rw [q1]
    exact K w H q2
theorem qv_new {E : Env} {S : St} {D : Nat → Prop} {α : Al} {ω : Nat → Option Nat} {B : Nat} {w0 w : World} {a : Act} (H : HRel D S.res α ω B w0 w) (T : TRel D S.res α S.nt S.get a.tmps)
    {o : Oper} {cells : List SC} {ty : TypeId} {sl : Option Nat} (h : qv E S o.op = .new cells ty sl) :
    (execOp a.eval o).run E.P w = .ok (.value (newVal w.heap.size sl)) (World.made w (cells.map (SC.den α)).toArray ty) ∧ ∀ c ∈ cells, c.good D S.res := by
  unfold qv at h
  split at h
  · split at h
    · unfold callQ at h
      split at h
      · cases h
      · cases h
    · cases h
  · exact opv_new H T h
/-- A guard. -/
theorem guardQ_ok {ops : List Oper} {S S' : St} {g : Option (Nat × Bool)} {x : Bool} {D : Nat → Prop} {α : Al} {a : Act} (h : guardQ ops S g = some x) (hnt : S'.nt = S.nt) (hl : ∀ t ∈ guardT ops g, S'.get t = S.get t)
    (T : TRel D S'.res α S'.nt S'.get a.tmps) : wantB g (yielded ops.toArray a.tmps) = x := by
  cases g with
  | none => cases h; rfl
  | some p =>
    obtain ⟨j, want⟩ := p
    simp only [guardQ] at h
    split at h
    · rename_i oj hj
      split at h
      · rename_i d hd
        have hg : S'.get d = S.get d := hl d (by simp [guardT, hj, hd])
        have hy : ∀ v, a.tmps[d]? = some v → yielded ops.toArray a.tmps j = (match v with | .bool b => some b | _ => none) := fun v hv => by
          unfold yielded
          simp only [List.getElem?_toArray, hj, Option.bind_some, hd, hv]
          cases v <;> rfl
        split at h
        · rename_i b x' hlt hget
          have hlt : d < S'.nt := by rw [hnt]; simpa [Nat.blt_eq] using hlt
          rw [← hg] at hget
          have hb : b = x' := by have := T.good d hlt; rw [hget] at this; exact this x' rfl
          have := T.den d hlt (by rw [hget]; exact fun e => by cases e)
          rw [hget] at this
          simp only [wantB, hy _ this, SV.den, SW.den, SC.den]
          subst hb
          cases b <;> cases want <;> cases h <;> rfl
        · rename_i hlt hget
          have hlt : d < S'.nt := by rw [hnt]; simpa [Nat.blt_eq] using hlt
          rw [← hg] at hget
          have := T.den d hlt (by rw [hget]; exact fun e => by cases e)
          rw [hget] at this
          cases h
          simp only [wantB, hy _ this, SV.den, SW.den, SC.den, undef]
          rfl
        · cases h
      · cases h
    · cases h
theorem readsT_mem {t : Nat} : ∀ {l : List Operand}, Operand.tmp t ∈ l → t ∈ readsT l
  | x :: r, h => by
    rcases List.mem_cons.1 h with rfl | h
    · exact List.mem_cons_self ..
    · have := readsT_mem h
      cases x <;> first | exact this | exact List.mem_cons_of_mem _ this

section
variable {E : Env} {ops q : List Oper} {S : St} {Ss : Nat → St} {out : Nat → Out} {α : Al} {B : Nat} {w0 : World}
/-- Behind the operations of D. -/
def Inv (q : List Oper) (S : St) (Ss : Nat → St) (out : Nat → Out) (α : Al) (B : Nat) (w0 : World) (D : Nat → Prop) (a : Act) (w : World) : Prop :=
  ∃ (α' : Al) (ω' : Nat → Option Nat) (DD : Nat → Prop) (R : Nat → Option Res) (get : Nat → SV),
    HRel DD R α' ω' B w0 w ∧ TRel DD R α' S.nt get a.tmps ∧ a.defers = [] ∧ Agree (· < S.nx) α α' ∧
    (∀ x, DD x ↔ x < S.nx ∨ ∃ j, j < q.length ∧ D j ∧ isNew (out j) = true ∧ x = (Ss j).nx) ∧
    (∀ x, DD x → R x = (Ss q.length).res x) ∧
    (∀ j t, D j → wr q j t → get t = outV (Ss j) (out j)) ∧ (∀ t, (∀ j, D j → ¬ wr q j t) → get t = S.get t)
theorem put_defers (a : Act) (d : Option Tmp) (v : Value) : (a.put d v).defers = a.defers := by cases d <;> rfl
theorem inv_put {D : Nat → Prop} {i : Nat} {o : Oper} (ho : q[i]? = some o) (hu : ∀ j j' t, wr q j t → wr q j' t → j = j') (hD : ¬ D i) {a : Act} {w : World} {α' : Al} {ω' : Nat → Option Nat} {DD : Nat → Prop} {R : Nat → Option Res} {get : Nat → SV}
    (H : HRel DD R α' ω' B w0 w) (T : TRel DD R α' S.nt get a.tmps) (d : a.defers = []) (ag : Agree (· < S.nx) α α')
    (dd : ∀ x, DD x ↔ x < S.nx ∨ ∃ j, j < q.length ∧ (D j ∨ j = i) ∧ isNew (out j) = true ∧ x = (Ss j).nx) (rr : ∀ x, DD x → R x = (Ss q.length).res x)
    (g1 : ∀ j t, D j → wr q j t → get t = outV (Ss j) (out j)) (g2 : ∀ t, (∀ j, D j → ¬ wr q j t) → get t = S.get t) (hv : (outV (Ss i) (out i)).good DD R) {x : Value} (hx : x = (outV (Ss i) (out i)).den α') :
    Inv q S Ss out α B w0 (fun j => D j ∨ j = i) (a.put o.dst x) w := by
  cases hd : o.dst with
  | none =>
    have hno : ∀ t, ¬ wr q i t := fun t ⟨o', h1, h2⟩ => by rw [ho] at h1; cases h1; rw [hd] at h2; cases h2
    refine ⟨α', ω', DD, R, get, H, T, d, ag, dd, rr, fun j t hj hw => ?_, fun t ht => g2 t fun j hj => ht j (.inl hj)⟩
    rcases hj with hj | rfl
    · exact g1 j t hj hw
    · exact absurd hw (hno t)
  | some s =>
    have hw0 : wr q i s := ⟨o, ho, hd⟩
    refine ⟨α', ω', DD, R, _, H, T.put hv s fun _ => hx, d, ag, dd, rr, fun j t hj hw => ?_, fun t ht => ?_⟩
    · by_cases e : s = t
      · subst e
        simp only [if_true]
        rw [hu j i s hw hw0]
      · simp only [if_neg e]
        rcases hj with hj | rfl
        · exact g1 j t hj hw
        · obtain ⟨o', h1, h2⟩ := hw
          rw [ho] at h1; cases h1; rw [hd] at h2; cases h2
          exact absurd rfl e
    · by_cases e : s = t
      · subst e
        exact absurd hw0 (ht i (.inr rfl))
      · simp only [if_neg e]
        exact g2 t fun j hj => ht j (.inl hj)
theorem inv_step (EO : EnvOk E) (p : Path E ops q S Ss out) {n : Nat} (hq : q = ops.take n) (hquiet : quietOk (befs ops []) ops q q 0 = true) {D : Nat → Prop} {i : Nat} {o : Oper} (ho : q[i]? = some o)
    (hD : ¬ D i) (c1 : Closed ops D) (c2 : Closed ops (fun j => D j ∨ j = i)) {a : Act} {w : World} (I : Inv q S Ss out α B w0 D a w) {K : Act → World → Prop} (Q : Exit → Act → World → Prop)
    (hK : ∀ a' w', Inv q S Ss out α B w0 (fun j => D j ∨ j = i) a' w' → K a' w') : wpOp E.P ops.toArray Q i K a w := by
  have hi : i < q.length := (List.getElem?_eq_some_iff.1 ho).1
  have hsl : ∀ j o', q[j]? = some o' → slotsOk (befs ops []) ops o' j q 0 = true := fun j o' h => by have := quiet_iff hquiet j o' h; rwa [Nat.zero_add] at this
  have hu : ∀ j j' t, wr q j t → wr q j' t → j = j' := fun j j' t ⟨o1, h1, e1⟩ ⟨o2, h2, e2⟩ => by
    by_cases e : j' = j
    · exact e.symm
    · exact absurd e1 (slots_iff (hsl j o1 h1) j' o2 t h2 e2 (by omega)).2
  have hoo : ops[i]? = some o := by
    rw [hq, List.getElem?_take] at ho
    split at ho
    · exact ho
    · cases ho
  obtain ⟨α', ω', DD, R, get, H, T, d, ag, dd, rr, g1, g2⟩ := I
  obtain ⟨st, sn⟩ := p.step i o ho
  have hnt : (Ss i).nt = S.nt := p.nt i (by omega)
  have hget : ∀ t, t ∈ looks ops o → get t = (Ss i).get t := fun t ht => by
    by_cases hex : ∃ j, j ≠ i ∧ wr q j t
    · obtain ⟨j, hne, hw⟩ := hex
      obtain ⟨o', h1, h2⟩ := hw
      have := (slots_iff (hsl i o ho) j o' t h1 h2 (by omega)).1 ht
      rw [Nat.zero_add] at this
      rcases this with ⟨h3, h4⟩ | ⟨h3, h4⟩
      · have hDj : D j := by
          rcases waits_in c2 (i := i) (.inr rfl) h4 with h | h
          · exact h
          · exact absurd h hne
        rw [g1 j t hDj ⟨o', h1, h2⟩, p.getSome ⟨o', h1, h2⟩ i h3 (by omega) fun j' hj' hne' hw' => hne' (hu j' j t hw' ⟨o', h1, h2⟩)]
      · have hDj : ¬ D j := fun h => hD (waits_in c1 h h4)
        rw [g2 t fun j' hj' hw' => hDj (hu j' j t hw' ⟨o', h1, h2⟩ ▸ hj'), p.getNone i (by omega) fun j' hj' hw' => by
          have := hu j' j t hw' ⟨o', h1, h2⟩; omega]
    · rw [g2 t fun j hj hw => hex ⟨j, (fun e => hD (e ▸ hj)), hw⟩, p.getNone i (by omega) fun j hj hw => hex ⟨j, by omega, hw⟩]
  let S' : St := { tm := [], tb := get, nt := S.nt, rs := [], rb := R, nx := 0 }
  have H' : HRel DD S'.res α' ω' B w0 w := H
  have T' : TRel DD S'.res α' S'.nt S'.get a.tmps := T
  have hev : ∀ x ∈ o.op.operands.toList, S'.ev x = (Ss i).ev x := fun x hx => by
    cases x with
    | tmp t =>
      show (match Nat.blt t S.nt with | true => get t | false => SV.any) = (match Nat.blt t (Ss i).nt with | true => (Ss i).get t | false => SV.any)
      rw [hnt, hget t (List.mem_append_right _ (readsT_mem hx))]
    | _ => rfl
  have hw : Region.wanted o (yielded ops.toArray a.tmps) = wantB o.guard (yielded ops.toArray a.tmps) := wanted_eq _ _
  have hguard : ∀ x, guardQ ops (Ss i) o.guard = some x → Region.wanted o (yielded ops.toArray a.tmps) = x := fun x hx => by
    rw [hw]
    exact guardQ_ok (S' := S') hx hnt.symm (fun t ht => hget t (List.mem_append_left _ ht)) T'
  have hqv : scOps (Ss i) o.op.operands.toList = true → qv E S' o.op = qv E (Ss i) o.op := fun hsc =>
    qv_congr (D := fun y => DD y ∧ y < (Ss i).nx) (fun y hy => by
      show R y = _
      rw [rr y hy.1, p.res hy.2 q.length (by omega) (Nat.le_refl _)]) fun x hx => by
      refine ⟨hev x hx, sv_inn ?_ (ev_good T' x)⟩
      rw [hev x hx]
      exact scOps_iff hsc x hx
  have dd' : isNew (out i) = false → ∀ x, DD x ↔ x < S.nx ∨ ∃ j, j < q.length ∧ (D j ∨ j = i) ∧ isNew (out j) = true ∧ x = (Ss j).nx := fun hn x => by
    rw [dd]
    constructor
    · rintro (h | ⟨j, h1, h2, h3, h4⟩)
      · exact .inl h
      · exact .inr ⟨j, h1, .inl h2, h3, h4⟩
    · rintro (h | ⟨j, h1, h2 | rfl, h3, h4⟩)
      · exact .inl h
      · exact .inr ⟨j, h1, h2, h3, h4⟩
      · rw [hn] at h3; cases h3
  unfold wpOp
  have hoo' : ops.toArray[i]? = some o := by simpa using hoo
  rw [hoo']
  simp only
  cases hout : out i with
  | skip =>
    rw [hout] at st
    rw [hguard _ st]
    simp only [Bool.false_eq_true, if_false]
    refine hK _ _ (inv_put ho hu hD H T d ag (dd' (by rw [hout]; rfl)) rr g1 g2 ?_ ?_)
    · rw [hout]; exact trivial
    · rw [hout]; rfl
  | val v =>
    rw [hout] at st
    obtain ⟨s1, s2, side, v0, s3, s4, s5⟩ := st
    rw [hguard _ s1]
    simp only [if_true]
    refine .inl (qv_ok EO H' T' ((hqv s2).trans s3) s4 Q fun w' H'' hv => hK _ _ (inv_put ho hu hD H'' T d ag (dd' (by rw [hout]; rfl)) rr g1 g2 ?_ ?_))
    · rw [hout]
      rcases s5 with rfl | ⟨b, rfl, rfl⟩
      · exact hv
      · exact fun x hx => by cases hx; rfl
    · rw [hout]
      rcases s5 with rfl | ⟨b, rfl, rfl⟩
      · rfl
      · rfl
  | new cells ty sl =>
    rw [hout] at st
    obtain ⟨s1, s2, s3⟩ := st
    rw [hguard _ s1]
    simp only [if_true]
    obtain ⟨q1, q2⟩ := qv_new H' T' ((hqv s2).trans s3)
    refine .inl ?_
    unfold Oper.wp
    rw [q1]
    show K (a.put o.dst (newVal w.heap.size sl)) _
    have hin : isNew (out i) = true := by rw [hout]; rfl
    have hn : ¬ DD (Ss i).nx := fun h => by
      rcases (dd _).1 h with h | ⟨j, h1, h2, h3, h4⟩
      · have := p.nx (i := 0) i (Nat.zero_le _) (by omega)
        rw [p.zero] at this
        omega
      · by_cases e : j < i
        · have := p.nxNew e (by omega) h3; omega
        · have hne : j ≠ i := fun e => hD (e ▸ h2)
          have := p.nxNew (i := i) (j := j) (by omega) (by omega) hin; omega
    have HM := H'.make hn q2 ty
    have ha := agree_setB (D := DD) α' (Ss i).nx w.heap.size hn
    have hk : Keep DD R (fun x => if (Ss i).nx = x then some (.box ⟨cells, ty⟩) else R x) := fun j L' hj hr => by
      by_cases e : (Ss i).nx = j
      · exact absurd (e ▸ hj) hn
      · simp only [if_neg e] at hr; exact ⟨L', hr, rfl, rfl⟩
    refine hK _ _ (inv_put (DD := fun x => DD x ∨ x = (Ss i).nx) ho hu hD HM (T.mono (fun x h => .inl h) hk ha) d (ag.trans ha fun x hx => (dd x).2 (.inl hx)) (fun x => ?_) (fun x hx => ?_) g1 g2 ?_ ?_)
    · rw [dd]
      constructor
      · rintro ((h | ⟨j, h1, h2, h3, h4⟩) | h)
        · exact .inl h
        · exact .inr ⟨j, h1, .inl h2, h3, h4⟩
        · exact .inr ⟨i, hi, .inr rfl, hin, h⟩
      · rintro (h | ⟨j, h1, h2 | rfl, h3, h4⟩)
        · exact .inl (.inl h)
        · exact .inl (.inr ⟨j, h1, h2, h3, h4⟩)
        · exact .inr h4
    · by_cases e : (Ss i).nx = x
      · subst e
        simp only [if_true]
        exact (p.resNew hi hout).symm
      · simp only [if_neg e]
        rcases hx with hx | hx
        · exact rr x hx
        · exact absurd hx.symm e
    · rw [hout]
      cases sl <;> exact .inr rfl
    · rw [hout]
      cases sl <;> simp [outV, newV, newVal, SV.den, SW.den, SC.den, Al.setB]
end

/-! ### The tail -/
theorem tail_ok {E : Env} (EO : EnvOk E) {ih : IH} (hih : IHok E ih) {ops : List Oper} {k : St → Prop} {Q : Exit → Act → World → Prop} {B : Nat} {w0 : World} (hE : allEdges ops 0 = true) {n : Nat} (hn : n ≤ ops.length) (ht : tailOk (befs ops []) (ops.drop n) n = true) :
    ∀ (fuel m : Nat) (listed : Array Bool) (S : St) (α : Al) (ω : Nat → Option Nat) (a : Act) (w : World), unl listed ops.length ≤ fuel → listed.size = ops.length → n ≤ m → m ≤ ops.length → (∀ i, i < ops.length → (listed.getD i true = true ↔ i < m)) →
      Rel S α ω B w0 a w → exOps E ih ops (ops.drop m) S k → (∀ S' α' ω' a' w', Evo S S' α α' → Rel S' α' ω' B w0 a' w' → k S' → Q .normal a' w') → wpAny E.P .any ops.toArray Q fuel listed a w := by
  intro fuel
  induction fuel with
  | zero =>
    intro m listed S α ω a w hf hsz hnm hm hl r h K
    have hall := unl_zero (l := listed) (k := ops.length) (by omega)
    have : m = ops.length := by
      by_cases e : m < ops.length
      · have := (hl m e).1 (hall m e); omega
      · omega
    rw [this, List.drop_length] at h
    exact ⟨ready_all hall, K S α ω a w (Evo.refl _ _) r h⟩
  | succ fuel ih' =>
    intro m listed S α ω a w hf hsz hnm hm hl r h K
    refine ⟨fun hr => ?_, fun i hi => ?_⟩
    · have hall := ready_nil hE hsz hr
      have : m = ops.length := by
        by_cases e : m < ops.length
        · have := (hl m e).1 (hall m e); omega
        · omega
      rw [this, List.drop_length] at h
      exact K S α ω a w (Evo.refl _ _) r h
    · obtain ⟨h1, h2, o, ho, he⟩ := mem_ready hi
      have hge : m ≤ i := by
        by_cases e : i < m
        · rw [(hl i h1).2 e] at h2; cases h2
        · omega
      have him : i = m := by
        by_cases e : i = m
        · exact e
        · exfalso
          have hc : Closed ops (fun j => j < m ∨ j = i) := fun j o' ho' hj e' he' hb => by
            rcases hj with hj | rfl
            · have := allEdges_iff hE j o' ho' e' he' hb
              exact .inl (by omega)
            · rw [ho] at ho'; cases ho'
              have := he e' he' hb
              have hlt := allEdges_iff hE j o ho e' he' hb
              refine .inl ((hl e'.on (by omega)).1 ?_)
              rw [Array.getD_eq_getD_getElem?] at this ⊢
              have hs : e'.on < listed.size := by omega
              rw [Array.getElem?_eq_getElem hs] at this ⊢
              exact this
          have hw := tail_iff ht i (by omega) (by simp; omega) m (by omega)
          rcases waits_in hc (i := i) (.inr rfl) hw with h | h <;> omega
      subst him
      have hdrop : ops.drop i = o :: ops.drop (i + 1) := by
        have := (List.getElem?_eq_some_iff.1 ho).2
        rw [← this]
        exact List.drop_eq_getElem_cons h1
      rw [hdrop] at h
      have hl' : ∀ j, j < ops.length → ((listed.setIfInBounds i true).getD j true = true ↔ j < i + 1) := fun j hj => by
        rw [getD_set listed i j true true (by omega)]
        by_cases e : i = j
        · rw [if_pos e]; simp; omega
        · rw [if_neg e, hl j hj]; omega
      have hf' : unl (listed.setIfInBounds i true) ops.length ≤ fuel := by
        have := unl_set (l := listed) (i := i) (by omega) h2 ops.length
        rw [if_pos h1] at this; omega
      obtain ⟨S', x, e1, r1, hx1, hx⟩ := guardV_ok (show guardV ops S o.guard _ from h) r
      have hw : Region.wanted o (yielded ops.toArray a.tmps) = x := (wanted_eq _ _).trans hx
      unfold wpOp
      have ho' : ops.toArray[i]? = some o := by simpa using ho
      rw [ho']
      simp only
      rw [hw]
      cases x with
      | true =>
        simp only [if_true]
        refine .inl (exOp_ok EO hih hx1 r1 Q fun S'' α'' ω'' a'' w'' e2 r2 h2 => ?_)
        exact ih' (i + 1) _ S'' α'' ω'' a'' w'' hf' (by simp [hsz]) (by omega) (by omega) hl' r2 h2 fun S3 α3 ω3 a3 w3 e3 r3 h3 => K S3 α3 ω3 a3 w3 ((e1.trans e2).trans e3) r3 h3
      | false =>
        simp only [Bool.false_eq_true, if_false]
        exact ih' (i + 1) _ _ α ω _ w hf' (by simp [hsz]) (by omega) (by omega) hl' (r1.put (v := undefV) trivial o.dst fun _ => rfl) hx1 fun S3 α3 ω3 a3 w3 e3 r3 h3 => K S3 α3 ω3 a3 w3 ((e1.trans (Evo.put S' _ _ _)).trans e3) r3 h3

/-! ### A small region in every order -/
theorem rdyB_iff {l : List Bool} : ∀ {es : List Edge}, rdyB l es = true ↔ ∀ e ∈ es, Region.binds .any e = true → l.getD e.on false = true
  | [] => by simp [rdyB]
  | e :: r => by
    unfold rdyB
    rw [Bool.and_eq_true, rdyB_iff (es := r)]
    cases hb : Region.binds .any e with
    | true => simp only [List.mem_cons, forall_eq_or_imp, hb, true_implies]
    | false =>
      simp only [List.mem_cons, forall_eq_or_imp, hb, true_and]
      exact ⟨fun h => ⟨fun h' => by simp at h', h⟩, fun h => h.2⟩
theorem rdyL_iff {l : List Bool} {i : Nat} : ∀ {r : List Oper} {n : Nat}, i ∈ rdyL l r n ↔ ∃ j o, r[j]? = some o ∧ i = n + j ∧ l.getD i true = false ∧ rdyB l o.after.toList = true
  | [], n => by simp [rdyL]
  | x :: r, n => by
    have ih := rdyL_iff (l := l) (i := i) (r := r) (n := n + 1)
    have key : (∃ j o, (x :: r)[j]? = some o ∧ i = n + j ∧ l.getD i true = false ∧ rdyB l o.after.toList = true) ↔ (i = n ∧ l.getD i true = false ∧ rdyB l x.after.toList = true) ∨ i ∈ rdyL l r (n + 1) := by
      rw [ih]
      constructor
      · rintro ⟨j, o, h1, h2, h3, h4⟩
        cases j with
        | zero => cases h1; exact .inl ⟨by omega, h3, h4⟩
        | succ j => exact .inr ⟨j, o, by simpa using h1, by omega, h3, h4⟩
      · rintro (⟨h2, h3, h4⟩ | ⟨j, o, h1, h2, h3, h4⟩)
        · exact ⟨0, x, rfl, by omega, h3, h4⟩
        · exact ⟨j + 1, o, by simpa using h1, by omega, h3, h4⟩
    rw [key]
    show i ∈ (match (!(l.getD n true)) && rdyB l x.after.toList with | true => n :: rdyL l r (n + 1) | false => rdyL l r (n + 1)) ↔ _
    cases hc : (!(l.getD n true)) && rdyB l x.after.toList with
    | true =>
      rw [Bool.and_eq_true] at hc
      have h1 : l.getD n true = false := by simpa using hc.1
      dsimp only
      rw [List.mem_cons]
      constructor
      · rintro (rfl | h)
        · exact .inl ⟨rfl, h1, hc.2⟩
        · exact .inr h
      · rintro (⟨rfl, _⟩ | h)
        · exact .inl rfl
        · exact .inr h
    | false =>
      dsimp only
      constructor
      · exact .inr
      · rintro (⟨rfl, h3, h4⟩ | h)
        · rw [h3, h4] at hc; exact absurd hc (by decide)
        · exact h
theorem getD_list (a : Array Bool) (i : Nat) (d : Bool) : a.getD i d = a.toList.getD i d := by
  rw [Array.getD_eq_getD_getElem?, List.getD_eq_getElem?_getD, Array.getElem?_toList]
theorem ready_rdy {ops : List Oper} {listed : Array Bool} {i : Nat} : i ∈ Region.ready .any ops.toArray listed ↔ i ∈ rdyL listed.toList ops 0 := by
  rw [rdyL_iff]
  constructor
  · intro h
    obtain ⟨h1, h2, o, h3, h4⟩ := mem_ready h
    exact ⟨i, o, h3, by omega, by rw [← getD_list]; exact h2, rdyB_iff.2 fun e he hb => by rw [← getD_list]; exact h4 e he hb⟩
  · rintro ⟨j, o, h1, h2, h3, h4⟩
    obtain rfl : i = j := by omega
    exact ready_mem h1 (by rw [getD_list]; exact h3) fun e he hb => by rw [getD_list]; exact rdyB_iff.1 h4 e he hb
theorem setL_set : ∀ (l : List Bool) (i : Nat), setL l i = l.set i true
  | [], _ => rfl
  | _ :: _, 0 => rfl
  | b :: r, n + 1 => by rw [setL, setL_set r n]; rfl
theorem allN_iff {P : Nat → Prop} : ∀ {l : List Nat}, allN l P → ∀ i ∈ l, P i
  | [], _, i, hi => by cases hi
  | [j], h, i, hi => by rw [List.mem_singleton.1 hi]; exact h
  | j :: k :: r, h, i, hi => by
    rcases List.mem_cons.1 hi with rfl | hi
    · exact h.1
    · exact allN_iff (l := k :: r) h.2 i hi
theorem falses_rep : ∀ n, falses n = List.replicate n false
  | 0 => rfl
  | n + 1 => by rw [falses, falses_rep n]; rfl
theorem exAny_ok {E : Env} (EO : EnvOk E) {ih : IH} (hih : IHok E ih) {ops : List Oper} {k : St → Prop} {Q : Exit → Act → World → Prop} {B : Nat} {w0 : World} :
    ∀ (n : Nat) (listed : Array Bool) (S : St) (α : Al) (ω : Nat → Option Nat) (a : Act) (w : World), exAny E ih ops n listed.toList S k → Rel S α ω B w0 a w →
      (∀ S' α' ω' a' w', Evo S S' α α' → Rel S' α' ω' B w0 a' w' → k S' → Q .normal a' w') → wpAny E.P .any ops.toArray Q n listed a w := by
  intro n
  induction n with
  | zero =>
    intro listed S α ω a w h r K
    unfold exAny at h
    split at h
    · rename_i hn
      refine ⟨?_, K S α ω a w (Evo.refl _ _) r h⟩
      cases e : Region.ready .any ops.toArray listed with
      | nil => rfl
      | cons i l =>
        have : i ∈ rdyL listed.toList ops 0 := ready_rdy.1 (by rw [e]; exact List.mem_cons_self ..)
        rw [hn] at this; cases this
    · cases h
  | succ n ih' =>
    intro listed S α ω a w h r K
    unfold exAny at h
    refine ⟨fun hr => ?_, fun i hi => ?_⟩
    · split at h
      · exact K S α ω a w (Evo.refl _ _) r h
      · rename_i rs hne
        exfalso
        cases e : rdyL listed.toList ops 0 with
        | nil => exact hne e
        | cons i l =>
          have : i ∈ Region.ready .any ops.toArray listed := ready_rdy.2 (by rw [e]; exact List.mem_cons_self ..)
          rw [hr] at this; cases this
    · have hi' := ready_rdy.1 hi
      split at h
      · rename_i hn; rw [hn] at hi'; cases hi'
      · obtain ⟨h1, h2, o, ho, he⟩ := mem_ready hi
        have h := allN_iff h i hi'
        rw [ho] at h
        dsimp only at h
        obtain ⟨S', x, e1, r1, hx1, hx⟩ := guardV_ok h r
        have hw : Region.wanted o (yielded ops.toArray a.tmps) = x := (wanted_eq _ _).trans hx
        unfold wpOp
        have ho' : ops.toArray[i]? = some o := by simpa using ho
        rw [ho']
        simp only
        rw [hw]
        have hset : (listed.setIfInBounds i true).toList = setL listed.toList i := by rw [setL_set]; simp
        cases x with
        | true =>
          simp only [if_true]
          refine .inl (exOp_ok EO hih hx1 r1 Q fun S'' α'' ω'' a'' w'' e2 r2 h2 => ?_)
          exact ih' _ S'' α'' ω'' a'' w'' (by rw [hset]; exact h2) r2 fun S3 α3 ω3 a3 w3 e3 r3 h3 => K S3 α3 ω3 a3 w3 ((e1.trans e2).trans e3) r3 h3
        | false =>
          simp only [Bool.false_eq_true, if_false]
          exact ih' _ _ α ω _ w (by rw [hset]; exact hx1) (r1.put (v := undefV) trivial o.dst fun _ => rfl) fun S3 α3 ω3 a3 w3 e3 r3 h3 => K S3 α3 ω3 a3 w3 ((e1.trans (Evo.put S' _ _ _)).trans e3) r3 h3

theorem exDraw_ok {E : Env} (EO : EnvOk E) {ih : IH} (hih : IHok E ih) {ops : List Oper} {S : St} {k : St → Prop} {Q : Exit → Act → World → Prop} {B : Nat} {w0 : World} {α : Al} {ω : Nat → Option Nat} {a : Act} {w : World}
    (h : exDraw E ih ops S k) (r : Rel S α ω B w0 a w) (K : ∀ S' α' ω' a' w', Evo S S' α α' → Rel S' α' ω' B w0 a' w' → k S' → Q .normal a' w') :
    wpAny E.P .any ops.toArray Q ops.length (Array.replicate ops.length false) a w := by
  unfold exDraw at h
  split at h
  · rename_i hd
    simp only [drawOk, Bool.and_eq_true] at hd
    obtain ⟨_, ⟨hE, hquiet⟩, htail⟩ := hd
    have hqn := quietLen_le ops
    generalize quietLen ops = n at h hquiet htail hqn
    have hqlen : (ops.take n).length = n := by simp; omega
    generalize hq : ops.take n = q at h hquiet hqlen
    obtain ⟨Ss, out, p, hk⟩ := exQ_path q 0 S h
    have hS : ∀ x, S.nx ≤ x → S.res x = none := fun x hx => by
      cases e : S.res x with
      | none => rfl
      | some r' => have := r.h.dec x r' e; have : x < S.nx := this; omega
    have hsl : ∀ j o', q[j]? = some o' → slotsOk (befs ops []) ops o' j q 0 = true := fun j o' h => by have := quiet_iff hquiet j o' h; rwa [Nat.zero_add] at this
    have hu : ∀ j j' t, wr q j t → wr q j' t → j = j' := fun j j' t ⟨o1, h1, e1⟩ ⟨o2, h2, e2⟩ => by
      by_cases e : j' = j
      · exact e.symm
      · exact absurd e1 (slots_iff (hsl j o1 h1) j' o2 t h2 e2 (by omega)).2
    have hwl : ∀ j t, wr q j t → j < q.length := fun j t ⟨o1, h1, _⟩ => (List.getElem?_eq_some_iff.1 h1).1
    have key : ∀ (listed : Array Bool) (a : Act) (w : World), (∀ i, i < n → listed.getD i true = true) → Inv q S Ss out α B w0 (fun i => i < ops.length ∧ listed.getD i true = true) a w →
        ∃ α' ω', Rel (Ss q.length) α' ω' B w0 a w ∧ Evo S (Ss q.length) α α' := by
      intro listed a w hall I
      obtain ⟨α', ω', DD, R, get, H, T, d, ag, dd, rr, g1, g2⟩ := I
      have hnx : S.nx ≤ (Ss q.length).nx := by have := p.nx (i := 0) q.length (Nat.zero_le _) (Nat.le_refl _); rwa [p.zero] at this
      have hDD : DD = (· < (Ss q.length).nx) := by
        funext x
        apply propext
        rw [dd]
        constructor
        · rintro (h | ⟨j, h1, h2, h3, h4⟩)
          · show x < _; omega
          · rw [h4]; exact p.nxNew h1 (Nat.le_refl _) h3
        · intro h
          rcases p.cover q.length (Nat.le_refl _) x h with h | ⟨i, h1, h2, h3⟩
          · exact .inl h
          · exact .inr ⟨i, h1, ⟨by omega, hall i (by omega)⟩, h2, h3⟩
      have hR : R = (Ss q.length).res := by
        funext x
        by_cases hx : DD x
        · exact rr x hx
        · have h1 : R x = none := by
            cases e : R x with
            | none => rfl
            | some r' => exact absurd (H.dec x r' e) hx
          rw [hDD] at hx
          rw [h1, p.resNone hS q.length (Nat.le_refl _) x (by have : ¬ x < _ := hx; omega)]
      have hG : get = (Ss q.length).get := by
        funext t
        by_cases hex : ∃ j, wr q j t
        · obtain ⟨j, hw⟩ := hex
          have hj := hwl j t hw
          rw [g1 j t ⟨by omega, hall j (by omega)⟩ hw, p.getSome hw q.length hj (Nat.le_refl _) fun j' hj' hne hw' => hne (hu j' j t hw' hw)]
        · rw [g2 t fun j _ hw => hex ⟨j, hw⟩, p.getNone q.length (Nat.le_refl _) fun j _ hw => hex ⟨j, hw⟩]
      subst hDD hR hG
      have hnt := p.nt q.length (Nat.le_refl _)
      refine ⟨α', ω', ⟨H, by rw [hnt]; exact T, d⟩, hnx, ag, fun j L' hj hL => ⟨L', ?_, rfl, rfl⟩, hnt, p.ext q.length (Nat.le_refl _)⟩
      have := p.res (i := 0) (x := j) (by rw [p.zero]; exact hj) q.length (Nat.zero_le _) (Nat.le_refl _)
      rw [p.zero] at this
      rw [← this]; exact hL
    have main : ∀ (fuel : Nat) (listed : Array Bool) (a : Act) (w : World), unl listed ops.length ≤ fuel → listed.size = ops.length → (∀ i, n ≤ i → i < ops.length → listed.getD i true = false) → Closed ops (fun i => i < ops.length ∧ listed.getD i true = true) →
        Inv q S Ss out α B w0 (fun i => i < ops.length ∧ listed.getD i true = true) a w → wpAny E.P .any ops.toArray Q fuel listed a w := by
      intro fuel
      induction fuel with
      | zero =>
        intro listed a w hf hsz htl hcl I
        have hall := unl_zero (l := listed) (k := ops.length) (by omega)
        obtain ⟨α', ω', r', ev⟩ := key listed a w (fun i hi => hall i (by omega)) I
        have hN : n = ops.length := by
          by_cases e : n < ops.length
          · have h1 := hall n e; rw [htl n (Nat.le_refl _) e] at h1; cases h1
          · omega
        exact tail_ok EO hih hE hqn htail 0 n listed _ _ _ a w hf hsz (Nat.le_refl _) hqn (fun i hi => ⟨fun _ => by omega, fun h => hall i hi⟩) r' hk fun S' α'' ω'' a' w' ev' r'' hk' => K S' α'' ω'' a' w' (ev.trans ev') r'' hk'
      | succ fuel ih' =>
        intro listed a w hf hsz htl hcl I
        by_cases hall : ∀ i, i < n → listed.getD i true = true
        · obtain ⟨α', ω', r', ev⟩ := key listed a w hall I
          exact tail_ok EO hih hE hqn htail (fuel + 1) n listed _ _ _ a w hf hsz (Nat.le_refl _) hqn (fun i hi => ⟨(fun h => by
            by_cases e : i < n
            · exact e
            · rw [htl i (by omega) hi] at h; cases h), fun h => hall i h⟩) r' hk fun S' α'' ω'' a' w' ev' r'' hk' => K S' α'' ω'' a' w' (ev.trans ev') r'' hk'
        · refine ⟨fun hr => absurd (fun i hi => ready_nil hE hsz hr i (by omega)) hall, fun i hi => ?_⟩
          obtain ⟨h1, h2, o, ho, he⟩ := mem_ready hi
          have c2 : Closed ops (fun j => (j < ops.length ∧ listed.getD j true = true) ∨ j = i) := fun j o' ho' hj e' he' hb => by
            rcases hj with hj | rfl
            · exact .inl (hcl j o' ho' hj e' he' hb)
            · rw [ho] at ho'; cases ho'
              have := he e' he' hb
              have hlt := allEdges_iff hE j o ho e' he' hb
              refine .inl ⟨by omega, ?_⟩
              rw [Array.getD_eq_getD_getElem?] at this ⊢
              have hs : e'.on < listed.size := by omega
              rw [Array.getElem?_eq_getElem hs] at this ⊢
              exact this
          by_cases hin : i < n
          · have hoq : q[i]? = some o := by rw [← hq, List.getElem?_take, if_pos hin]; exact ho
            have hD' : (fun j => (j < ops.length ∧ listed.getD j true = true) ∨ j = i) = (fun j => j < ops.length ∧ (listed.setIfInBounds i true).getD j true = true) := by
              funext j
              apply propext
              rw [getD_set listed i j true true (by omega)]
              by_cases e : i = j
              · subst e; simp [h1]
              · rw [if_neg e]
                constructor
                · rintro (h | h)
                  · exact h
                  · exact absurd h.symm e
                · exact .inl
            refine inv_step EO p hq.symm hquiet hoq (fun h => by rw [h2] at h; cases h.2) hcl c2 I Q fun a' w' I' => ?_
            rw [hD'] at I' c2
            refine ih' _ a' w' ?_ (by simp [hsz]) (fun j hj hjl => ?_) c2 I'
            · have := unl_set (l := listed) (i := i) (by omega) h2 ops.length
              rw [if_pos h1] at this; omega
            · rw [getD_set listed i j true true (by omega), if_neg (by omega)]
              exact htl j hj hjl
          · exfalso
            refine hall fun j hj => ?_
            have hw := tail_iff htail i (by omega) (by simp; omega) j (by omega)
            rcases waits_in c2 (i := i) (.inr rfl) hw with h | h
            · exact h.2
            · omega
    have hrep : ∀ i, i < ops.length → (Array.replicate ops.length false).getD i true = false := fun i hi => by
      simp [Array.getD_eq_getD_getElem?, Array.getElem?_replicate, hi]
    refine main ops.length _ a w (unl_le _ _) (by simp) (fun i _ hi => hrep i hi) (fun i o ho hi => absurd ((hrep i hi.1).symm.trans hi.2) (by decide)) ⟨α, ω, _, _, _, r.h, r.t, r.d, Agree.refl _ _, fun x => ⟨.inl, ?_⟩, fun x hx => ?_, (fun j t hj => absurd ((hrep j hj.1).symm.trans hj.2) (by decide)), fun t _ => rfl⟩
    · rintro (h | ⟨j, h1, h2, _⟩)
      · exact h
      · exact absurd ((hrep j h2.1).symm.trans h2.2) (by decide)
    · have := p.res (i := 0) (x := x) (by rw [p.zero]; exact hx) q.length (Nat.zero_le _) (Nat.le_refl _)
      rw [p.zero] at this
      exact this.symm
  · split at h
    · exact exAny_ok EO hih _ (Array.replicate ops.length false) S α ω a w (by rw [Array.toList_replicate, ← falses_rep]; exact h) r K
    · cases h
end Go.Fx
