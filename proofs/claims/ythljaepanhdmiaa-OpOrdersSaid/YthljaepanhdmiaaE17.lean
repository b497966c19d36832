/-
  The engine, part 17: the executor is sound; calls by contract.
-/
import Derived.Test.YthljaepanhdmiaaE16M
namespace Go.Fx
open Go RowKit

theorem cond_learn {S : St} {α : Al} {ω : Nat → Option Nat} {B : Nat} {w0 w : World} {a : Act} (r : Rel S α ω B w0 a w) {c : Operand} {b : Bool} (h : S.ev c = .w (.c (.bool b none))) {x : Bool} (hx : b = x) : Rel (learn S c x) α ω B w0 a w ∧ Evo S (learn S c x) α α := by
  cases c with
  | tmp t =>
    have h' : (match Nat.blt t S.nt with | true => S.get t | false => SV.any) = .w (.c (.bool b none)) := h
    split at h'
    · rename_i hlt
      have hlt : t < S.nt := by simpa [Nat.blt_eq] using hlt
      exact ⟨r.learn h' hlt hx, Evo.put S (some t) _ _⟩
    · cases h'
  | _ => exact ⟨r, Evo.refl _ _⟩
/-- A loop with an invariant. -/
theorem loop_ok {E : Env} {ih : IH} (hih : IHok E ih) {f : FuncId} {c : Code} {S : St} {k : Cont} {L : LoopSpec} {y : HL (shs L.fix)} {v0 : HL (shs L.vars)} (hv0 : readAll S L.vars = some v0)
    (hi0 : L.inv y v0) (h : allV (shs L.vars) fun v => L.inv y v → match writeAll (havoc S (wrote c ++ slotsOf L.vars)) (havoc S (wrote c ++ slotsOf L.vars)) L.vars v with
        | some S1 => ih f c S1 fun ex S' => match ex with
          | .normal => match backOk S S1 S' (wrote c ++ slotsOf L.vars) (boxesOf (havoc S (wrote c ++ slotsOf L.vars)) L.vars), readAll S' L.vars with
            | true, some v' => L.inv y v' ∧ ble 0 (L.mu y v') = true ∧ blt (L.mu y v') (L.mu y v) = true
            | _, _ => Bad 118
          | ex => k ex S'
        | none => Bad 117)
    {α : Al} {ω : Nat → Option Nat} {B : Nat} {w0 : World} {a : Act} {w : World} {Q : Exit → Act → World → Prop} (r : Rel S α ω B w0 a w)
    (K : ∀ ex S' α' ω' a' w', Evo S S' α α' → Rel S' α' ω' B w0 a' w' → k ex S' → Q (exR ex) a' w') : Lwp E.P c Q a w := by
  have h := fun v hv => allV_all h v hv
  have hsl : ∀ t, t ∈ slotsOf L.vars → t ∈ wrote c ++ slotsOf L.vars := fun t ht => List.mem_append_right _ ht
  generalize wrote c ++ slotsOf L.vars = ts at h hsl
  obtain ⟨hv1, hv2, hv3, hv4⟩ := havoc_same S ts
  have hvg := havoc_get S ts
  have claim : ∀ (n : Nat) (v : HL (shs L.vars)) (S1 : St) (α1 : Al) (ω1 : Nat → Option Nat) (a1 : Act) (w1 : World), (L.mu y v).toNat = n → L.inv y v → inAll (shs L.vars) v → writeAll (havoc S ts) (havoc S ts) L.vars v = some S1 → Rel S1 α1 ω1 B w0 a1 w1 → Agree (· < S.nx) α α1 → Lwp E.P c Q a1 w1 := by
    intro n
    induction n using Nat.strongRecOn with
    | _ n IH =>
      intro v S1 α1 ω1 a1 w1 hmu hinv hin hw r1 ag
      have hrun := h v hin hinv
      rw [hw] at hrun
      dsimp only at hrun
      obtain ⟨b1, b2, b3⟩ := writeAll_same hw
      obtain ⟨o1, o2⟩ := writeAll_out hw
      have e1 : Evo S S1 α α1 := by
        refine ⟨by rw [b1, hv1]; exact Nat.le_refl _, ag, fun j L' hj hL => ?_, b2.trans hv2, hv4.trans b3⟩
        have hnb : j ∉ boxesOf (havoc S ts) L.vars := fun hb => by
          obtain ⟨x, hx⟩ := boxes_after hw j hb
          rw [hx] at hL
          cases hL
        have := o2 j hnb
        rw [this, hv3] at hL
        exact ⟨L', hL, rfl, rfl⟩
      refine lwp_once (WP.wp (hih f c S1 _ α1 ω1 B w0 a1 w1 _ hrun r1 fun ex S' α' ω' a' w' ev r' hk => ?_))
      cases ex with
      | normal =>
        dsimp only at hk
        split at hk
        · rename_i v' hb hr
          obtain ⟨A1, A2, A3⟩ := back_same ev.ext hb
          obtain ⟨S2, ω2, q1, q2⟩ := back_ok r hw (by rw [ev.nt, b2, hv2]) (fun t ht => by
              rw [A1 t ht, o1 t fun h => ht (hsl t h), hvg, if_neg ht]) (fun i hi hb => by
              rw [A2 i (by rw [b1, hv1]; exact hi) hb, o2 i hb, hv3]) A3 hr r'
          have ag' : Agree (· < S.nx) α α' := ag.trans ev.agree fun i hi => by
            show i < S1.nx
            rw [b1, hv1]; exact hi
          exact IH _ (by
            have k1 : 0 ≤ L.mu y v' := of_decide_eq_true hk.2.1
            have k2 : L.mu y v' < L.mu y v := of_decide_eq_true hk.2.2
            rw [← hmu]; omega) v' S2 α' ω2 a' w' rfl hk.1 (readAll_in r' hr) q1 q2 ag'
        · cases hk
      | exit id => exact K (.exit id) S' α' ω' a' w' (e1.trans ev) r' hk
      | ret => exact K .ret S' α' ω' a' w' (e1.trans ev) r' hk
  have hin0 := readAll_in r hv0
  have hrun0 := h v0 hin0 hi0
  split at hrun0
  · rename_i S1 hw
    have hbx := boxes_are hw
    obtain ⟨S2, ω2, q1, q2⟩ := back_ok r hw rfl (fun _ _ => rfl) (fun _ _ _ => rfl) (fun b hb => by
      obtain ⟨x, hx⟩ := hbx b hb
      rw [hv3] at hx
      exact ⟨x, x, hx, hx, rfl⟩) hv0 r
    exact claim _ v0 S2 α ω2 a w rfl hi0 hin0 q1 q2 (Agree.refl _ _)
  · cases hrun0
theorem step_ok {E : Env} (EO : EnvOk E) {ih : IH} (hih : IHok E ih) : IHok E (step E ih) := by
  intro f c S k α ω B w0 a w Q h r K
  unfold step at h
  split at h
  · exact wp_skip (K .normal S α ω a w (Evo.refl _ _) r h)
  · rename_i id ops draw
    split at h
    · exact wp_region_list (exOps_ok EO hih _ _ _ _ _ _ _ h r fun S' α' ω' a' w' ev r' hk => K .normal S' α' ω' a' w' ev r' hk)
    · refine wp_region_any EO.mixed ?_
      have := exDraw_ok EO hih (Q := Q) h (r.world r.h.drew) fun S' α' ω' a' w' ev r' hk => K .normal S' α' ω' a' w' ev r' hk
      simpa using this
  · rename_i x y
    refine wp_seq (WP.wp (hih f x S _ α ω B w0 a w _ h r fun ex S' α' ω' a' w' ev r' hk => ?_))
    cases ex with
    | normal => exact WP.wp (hih f y S' _ α' ω' B w0 a' w' _ hk r' fun ex S'' α'' ω'' a'' w'' ev' r'' hk' => K ex S'' α'' ω'' a'' w'' (ev.trans ev') r'' hk')
    | exit id => exact K (.exit id) S' α' ω' a' w' ev r' hk
    | ret => exact K .ret S' α' ω' a' w' ev r' hk
  · rename_i c t e
    split at h
    · rename_i b hc
      obtain ⟨p1, p2⟩ := ev_c r.t hc
      obtain rfl : b = true := p2 _ rfl
      exact wp_cond_true p1 (WP.wp (hih f t S k α ω B w0 a w Q h r K))
    · rename_i b hc
      obtain ⟨p1, p2⟩ := ev_c r.t hc
      obtain rfl : b = false := p2 _ rfl
      exact wp_cond_false p1 (WP.wp (hih f e S k α ω B w0 a w Q h r K))
    · rename_i b hc
      obtain ⟨p1, p2⟩ := ev_c r.t hc
      refine wp_cond_split p1 (fun hb => ?_) (fun hb => ?_)
      · obtain ⟨q1, q2⟩ := cond_learn r hc hb
        exact WP.wp (hih f t _ k α ω B w0 a w Q (h.1 hb) q1 fun ex S' α' ω' a' w' ev r' hk => K ex S' α' ω' a' w' (q2.trans ev) r' hk)
      · obtain ⟨q1, q2⟩ := cond_learn r hc hb
        exact WP.wp (hih f e _ k α ω B w0 a w Q (h.2 hb) q1 fun ex S' α' ω' a' w' ev r' hk => K ex S' α' ω' a' w' (q2.trans ev) r' hk)
    · cases h
  · rename_i id c
    refine wp_block (WP.wp (hih f c S _ α ω B w0 a w _ h r fun ex S' α' ω' a' w' ev r' hk => ?_))
    cases ex with
    | normal => exact K .normal S' α' ω' a' w' ev r' hk
    | ret => exact K .ret S' α' ω' a' w' ev r' hk
    | exit id' =>
      show Exit.inBlock id Q (.exit id') a' w'
      unfold Exit.inBlock
      have hk : (match Nat.beq id' id with | true => k .normal S' | false => k (.exit id') S') := hk
      cases e : Nat.beq id' id with
      | true =>
        rw [e] at hk
        simp only [Nat.eq_of_beq_eq_true e, if_true]
        exact K .normal S' α' ω' a' w' ev r' hk
      | false =>
        rw [e] at hk
        simp only [Nat.ne_of_beq_eq_false e, if_false]
        exact K (.exit id') S' α' ω' a' w' ev r' hk
  · rename_i c
    split at h
    · refine lwp_once (WP.wp (hih f c S _ α ω B w0 a w _ h r fun ex S' α' ω' a' w' ev r' hk => ?_))
      cases ex with
      | normal => exact hih f (.loop c) S' _ α' ω' B w0 a' w' _ hk r' fun ex S'' α'' ω'' a'' w'' ev' r'' hk' => K ex S'' α'' ω'' a'' w'' (ev.trans ev') r'' hk'
      | exit id => exact K (.exit id) S' α' ω' a' w' ev r' hk
      | ret => exact K .ret S' α' ω' a' w' ev r' hk
    · split at h
      · rename_i y v0 hy hv0
        exact loop_ok hih hv0 h.1 h.2 r K
      · cases h
  · rename_i id
    exact wp_exit (K (.exit id) S α ω a w (Evo.refl _ _) r h)
  · exact wp_ret (K .ret S α ω a w (Evo.refl _ _) r h)
  · cases h
theorem exec_ok {E : Env} (EO : EnvOk E) : ∀ n, IHok E (exec E n)
  | 0 => fun _ _ _ _ _ _ _ _ _ _ _ h _ _ => by cases h
  | n + 1 => step_ok EO (exec_ok EO n)

/-! ### The beginning of a call -/
theorem look_addAll : ∀ (rs : List Res) (acc : List (Nat × Option Res)) (n i : Nat), look (addAll acc n rs) i = if n ≤ i ∧ i < n + rs.length then some rs[i - n]? else look acc i
  | [], acc, n, i => by
    rw [if_neg (by simp)]; rfl
  | r :: l, acc, n, i => by
    rw [addAll, look_addAll l, look_cons]
    by_cases h : n = i
    · subst h
      rw [if_neg (by omega), if_pos rfl, if_pos (by simp)]
      simp
    · rw [if_neg h]
      by_cases h2 : n ≤ i ∧ i < n + (r :: l).length
      · rw [if_pos h2, if_pos (by simp at h2; omega), show i - n = (i - (n + 1)) + 1 by omega]
        simp
      · rw [if_neg h2, if_neg (by simp at h2; omega)]
/-- The values of the lists among the arguments. -/
def lvals : List Sh → List Value → List Value
  | .list _ :: r, v :: vs => v :: lvals r vs
  | _ :: r, _ :: vs => lvals r vs
  | _, _ => []
theorem LRep.one {w : World} {f : Fl} {l : List f.ty} {v : Value} {m : Nat → Prop} {own : Bool} (h : LRep w f l v m own) : v.oneCell' = true := by
  obtain ⟨_, _, h3⟩ := h
  rcases h3 with ⟨a, cap, rfl, _⟩ | ⟨blk, off, cap, cs, ty, fz, rfl, _⟩ <;> rfl
theorem lvals_one {w : World} : ∀ {l : List Sh} {x : HL l} {vals : List Value}, ArgsR w l x vals → ∀ v ∈ lvals l vals, v.oneCell' = true
  | [], _, [], _, v, hv => by cases hv
  | s :: r, x, u :: vs, h, v, hv => by
    have ih := lvals_one h.2 v
    cases s with
    | list f =>
      rcases List.mem_cons.1 hv with rfl | hv
      · exact LRep.one h.1
      · exact ih hv
    | int k => exact ih hv
    | bool => exact ih hv
    | agg f => exact ih hv
    | lit k z => exact ih hv
  | [], _, _ :: _, h, _, _ => h.elim
  | _ :: _, _, [], h, _, _ => h.elim
theorem argAll_ok {w : World} {α : Al} {ω : Nat → Option Nat} (hω : ∀ b, ω b = none) {m : Nat} {R : Nat → Option Res} : ∀ {l : List Sh} {x : HL l} {vals : List Value} {n : Nat} {vs : List SV} {rs : List Res}, argAll l x n = (vs, rs) → ArgsR w l x vals →
    (∀ i v, (lvals l vals)[i]? = some v → α.sv (n + i) = v) → n + rs.length ≤ m →
    vs.map (SV.den α) = vals ∧ (∀ v ∈ vs, v.good (· < m) R) ∧ ∀ i r, rs[i]? = some r → RRel α ω w (n + i) r ∧ ∃ L, r = .list L
  | [], _, [], n, vs, rs, h, _, _, _ => by
    cases h
    exact ⟨rfl, (fun v hv => by cases hv), (fun i r hr => by cases hr)⟩
  | s :: t, x, u :: vals, n, vs, rs, h, ha, hv, hm => by
    cases s with
    | int k =>
      simp only [argAll] at h
      cases e : argAll t x.2 n with
      | mk vs' rs' =>
        rw [e] at h
        cases h
        obtain ⟨q1, q2, q3⟩ := argAll_ok hω e ha.2 hv hm
        obtain ⟨e1, e2, e3⟩ := ha.1
        exact ⟨by rw [List.map_cons, q1, e1]; rfl, fun v hv' => by rcases List.mem_cons.1 hv' with rfl | hv'; exact ⟨e2, e3⟩; exact q2 v hv', q3⟩
    | bool =>
      simp only [argAll] at h
      cases e : argAll t x.2 n with
      | mk vs' rs' =>
        rw [e] at h
        cases h
        obtain ⟨q1, q2, q3⟩ := argAll_ok hω e ha.2 hv hm
        have e1 : u = .bool x.1 := ha.1
        exact ⟨by rw [List.map_cons, q1, e1]; rfl, fun v hv' => by rcases List.mem_cons.1 hv' with rfl | hv'; exact (fun x hx => by cases hx); exact q2 v hv', q3⟩
    | agg f =>
      simp only [argAll] at h
      cases e : argAll t x.2 n with
      | mk vs' rs' =>
        rw [e] at h
        cases h
        obtain ⟨q1, q2, q3⟩ := argAll_ok hω e ha.2 hv hm
        obtain ⟨e1, e2⟩ := ha.1
        refine ⟨?_, fun v hv' => by rcases List.mem_cons.1 hv' with rfl | hv'; exact sw_good e2; exact q2 v hv', q3⟩
        rw [List.map_cons, q1, e1]
        exact congrArg (· :: vals) (congrArg (fun l => Value.agg (List.toArray l)) (sw_den (α := α) f x.1))
    | lit k z =>
      simp only [argAll] at h
      cases e : argAll t x.2 n with
      | mk vs' rs' =>
        rw [e] at h
        cases h
        obtain ⟨q1, q2, q3⟩ := argAll_ok hω e ha.2 hv hm
        obtain ⟨e1, e2, e3⟩ := ha.1
        exact ⟨by rw [List.map_cons, q1, e1]; rfl, fun v hv' => by rcases List.mem_cons.1 hv' with rfl | hv'; exact ⟨Int.le_refl _, Int.le_refl _⟩; exact q2 v hv', q3⟩
    | list f =>
      simp only [argAll] at h
      cases e : argAll t x.2 (n + 1) with
      | mk vs' rs' =>
        rw [e] at h
        cases h
        simp only [List.length_cons] at hm
        obtain ⟨q1, q2, q3⟩ := argAll_ok hω e ha.2 (fun i v hi => by have := hv (i + 1) v (by simpa [lvals] using hi); rwa [show n + (i + 1) = n + 1 + i by omega] at this) (show n + 1 + rs'.length ≤ m by omega)
        have e1 : α.sv n = u := hv 0 u rfl
        refine ⟨by rw [List.map_cons, q1, ← e1]; rfl, fun v hv' => ?_, fun i r hr => ?_⟩
        · rcases List.mem_cons.1 hv' with rfl | hv'
          · show n < m; omega
          · exact q2 v hv'
        · cases i with
          | zero =>
            cases hr
            refine ⟨?_, _, rfl⟩
            show LRep w f x.1 (α.sv n) _ false
            rw [e1]
            exact LRep.frame ha.1 fun b _ _ => ⟨hω b, rfl⟩
          | succ i => have := q3 i r (by simpa using hr); rwa [show n + 1 + i = n + (i + 1) by omega] at this
  | [], _, _ :: _, _, _, _, _, h, _, _ => h.elim
  | _ :: _, _, [], _, _, _, _, h, _, _ => h.elim
theorem svs_one (vs : List SW) : svs (oneOrTup vs) = vs.map SV.w := by
  match vs with
  | [] => rfl
  | [v] => rfl
  | v :: u :: r => rfl
theorem argsR_resR {w : World} {own : Nat → Option Nat} {n0 : Nat} : ∀ {l : List Sh} {y : HL l} {vs : List Value} {i : Nat}, noLists l = true → ArgsR w l y vs → ResR w own n0 l y vs i
  | [], _, [], _, _, _ => trivial
  | s :: r, y, v :: vs, i, hn, h => by
    have hn' : noLists r = true := by cases s <;> first | exact hn | cases hn
    refine ⟨?_, argsR_resR hn' h.2⟩
    cases s with
    | list f => cases hn
    | lit k z => exact h.1
    | int k => exact h.1
    | bool => exact h.1
    | agg f => exact h.1
  | [], _, _ :: _, _, _, h => h.elim
  | _ :: _, _, [], _, _, h => h.elim
theorem runs_at {E : Env} (EO : EnvOk E) {n : Nat} {f : FuncId} {C : Contract} (x : HL C.args) (w : World) (vals : List Value) (ha : ArgsR w C.args x vals) (h : runs E n f C x) :
    Calls E.P f vals.toArray w fun e w' => ∃ vs own, e = .returned (oneV vs) ∧ Below w.heap.size w w' ∧ ResR w' own w.heap.size C.res (C.F x) vs 0 := by
  unfold runs at h
  split at h
  · rename_i fn hfn
    obtain ⟨f1, f2, f3⟩ := EO.fns _ (look_mem hfn)
    split at h
    · rename_i c hc
      split at h
      rename_i args rs harg
      let α : Al := ⟨fun _ => 0, fun i => (lvals C.args vals)[i]?.getD (.slice none 0 0)⟩
      let ω : Nat → Option Nat := fun _ => none
      have hsv : ∀ i v, (lvals C.args vals)[i]? = some v → α.sv (0 + i) = v := fun i v hi => by
        show ((lvals C.args vals)[0 + i]?).getD _ = v
        rw [Nat.zero_add, hi]; rfl
      let S0 : St := { tm := initTm args 0, tb := fun _ => undefV, nt := args.length + (fn.ntmps - args.length), rs := addAll [] 0 rs, rb := fun _ => none, nx := rs.length }
      have hres : ∀ i, S0.res i = if i < rs.length then rs[i]? else none := fun i => by
        show (match look (addAll [] 0 rs) i with | some r => r | none => none) = _
        rw [look_addAll]
        by_cases hi : i < rs.length
        · rw [if_pos (by omega), if_pos hi]; rfl
        · rw [if_neg (by omega), if_neg hi]; rfl
      obtain ⟨q1, q2, q3⟩ := argAll_ok (w := w) (α := α) (ω := ω) (fun _ => rfl) (m := rs.length) (R := S0.res) harg ha hsv (by omega)
      have hlen : args.length = vals.length := by rw [← q1]; simp
      have H : HRel (· < S0.nx) S0.res α ω w.heap.size w w := by
        refine ⟨Below.refl _ _, Nat.le_refl _, (fun b i hb => by cases hb), fun i r hr => ?_, fun i r hr => ?_, fun i b hb => ?_, fun j => ?_⟩
        · rw [hres] at hr
          split at hr
          · assumption
          · cases hr
        · rw [hres] at hr
          split at hr
          · have := (q3 i r hr).1; rwa [Nat.zero_add] at this
          · cases hr
        · rw [hres] at hb
          split at hb
          · obtain ⟨L, hL⟩ := (q3 i _ hb).2; cases hL
          · cases hb
        · show (((lvals C.args vals)[j]?).getD (.slice none 0 0)).oneCell' = true
          cases e : (lvals C.args vals)[j]? with
          | none => rfl
          | some v => exact lvals_one ha v (List.mem_of_getElem? e)
      have r0 : Rel S0 α ω w.heap.size w { tmps := vals.toArray ++ Array.replicate (fn.ntmps - vals.toArray.size) undef, defers := [] } w := by
        refine ⟨H, ⟨?_, fun t ht => ?_, fun t ht hn => ?_⟩, rfl⟩
        · show (vals.toArray ++ Array.replicate (fn.ntmps - vals.toArray.size) undef).size = args.length + (fn.ntmps - args.length)
          simp [hlen]
        · show SV.good _ _ (match look (initTm args 0) t with | some v => v | none => undefV)
          rw [initTm_get]
          simp only [Nat.not_lt_zero, if_false, Nat.sub_zero]
          cases e : args[t]? with
          | none => exact trivial
          | some v => exact q2 v (List.mem_of_getElem? e)
        · show _ = some (SV.den α (match look (initTm args 0) t with | some v => v | none => undefV))
          rw [initTm_get]
          simp only [Nat.not_lt_zero, if_false, Nat.sub_zero]
          have ht' : t < args.length + (fn.ntmps - args.length) := ht
          cases e : args[t]? with
          | none =>
            have hge : args.length ≤ t := List.getElem?_eq_none_iff.1 e
            rw [Array.getElem?_append_right (by simpa [← hlen] using hge)]
            simp only [List.size_toArray]
            rw [Array.getElem?_replicate, if_pos (by omega)]
            rfl
          | some v =>
            have hlt : t < args.length := (List.getElem?_eq_some_iff.1 e).1
            rw [Array.getElem?_append_left (by simpa [← hlen] using hlt)]
            rw [← q1]
            simp [e]
      refine calls_of_wp (fn := fn) f1 hc (WP.wp (exec_ok EO n f c S0 _ α ω w.heap.size w _ w _ h r0 fun ex S' α' ω' a' w' ev r' hk => ?_))
      have body : (match resOf E S' fn.results.toList with
          | some vs => match decArgs S' C.res (svs (oneOrTup vs)), noLists C.res with
            | some y, true => y = C.F x
            | _, _ => Bad 97
          | none => Bad 98) → a'.defers = [] ∧ ∃ v, (results fn a'.tmps).run E.P w' = .ok v w' ∧ (∃ vs own, Ending.returned v = .returned (oneV vs) ∧ Below w.heap.size w w' ∧ ResR w' own w.heap.size C.res (C.F x) vs 0) := fun hk => by
        split at hk
        · rename_i vs hvs
          split at hk
          · rename_i y hy hl
            obtain ⟨p1, p2⟩ := results_ok r' hvs
            rw [svs_one] at hy
            have p3 := decArgs_ok r'.h hy (fun v hv => by obtain ⟨u, hu, rfl⟩ := List.mem_map.1 hv; exact p2 u hu)
            rw [hk] at p3
            refine ⟨r'.d, _, p1, _, fun _ => none, congrArg Ending.returned (oneOrTup_den α' vs), r'.h.bel, argsR_resR hl ?_⟩
            rw [List.map_map] at p3
            exact p3
          · cases hk
        · cases hk
      cases ex with
      | normal => exact body hk
      | ret => exact body hk
      | exit id => cases hk
    · cases h
  · cases h
/-- The arguments lie in their kinds' ranges. -/
def inK (k : IntKind) (z : Int) : Prop := kmin k ≤ z ∧ z ≤ kmax k
def okL (f : Fl) (l : List f.ty) : Prop := (∀ x ∈ l, f.okv x) ∧ l.length * f.bytes ≤ reach
def Sh.okA : (s : Sh) → s.ty → Prop
  | .int k, z => inK k z
  | .bool, _ => True
  | .agg f, x => f.okv x
  | .list f, l => okL f l
  | .lit _ _, _ => True
def okArgs : (l : List Sh) → HL l → Prop
  | [], _ => True
  | s :: r, x => s.okA x.1 ∧ okArgs r x.2
theorem argsR_ok {w : World} : ∀ {l : List Sh} {x : HL l} {vals : List Value}, ArgsR w l x vals → okArgs l x
  | [], _, [], _ => trivial
  | s :: r, x, v :: vs, h => by
    refine ⟨?_, argsR_ok h.2⟩
    cases s with
    | int k => exact h.1.2
    | bool => exact trivial
    | agg f => exact h.1.2
    | list f => exact ⟨h.1.1, h.1.2.1⟩
    | lit k z => exact trivial
  | [], _, _ :: _, h => h.elim
  | _ :: _, _, [], h => h.elim
theorem runs_ok {E : Env} (EO : EnvOk E) {n : Nat} {f : FuncId} {C : Contract} (h : ∀ x, C.pre x → ∀ (w : World) (vals : List Value), ArgsR w C.args x vals → runs E n f C x) : Sound E.P f C :=
  fun x w vals ha hp => runs_at EO x w vals ha (h x hp w vals ha)
theorem sound_of_eq {E : Env} (EO : EnvOk E) {n : Nat} {f : FuncId} {C : Contract} (T : HL C.args → Prop) (h : ∀ x, runs E n f C x = T x) (hT : ∀ x, okArgs C.args x → C.pre x → T x) : Sound E.P f C :=
  runs_ok EO fun x hp _ _ ha => by rw [h x]; exact hT x (argsR_ok ha) hp
/-- The same, where the loops' invariants speak of the arguments. -/
theorem sound_of_eqs {P : Program} {n : Nat} {f : FuncId} {C : Contract} (E : HL C.args → Env) (hP : ∀ x, (E x).P = P) (EO : ∀ x, EnvOk (E x)) (T : HL C.args → Prop) (h : ∀ x, runs (E x) n f C x = T x) (hT : ∀ x, okArgs C.args x → C.pre x → T x) : Sound P f C :=
  fun x w vals ha hp => by
    have := runs_at (EO x) x w vals ha (n := n) (f := f) (by rw [h x]; exact hT x (argsR_ok ha) hp)
    rw [hP x] at this
    exact this
end Go.Fx
