/-
  The engine, part 14: calls, and the operations of a region one behind the other.
-/
import Derived.Test.YthljaepanhdmiaaE13
import Derived.Maps.Keyed
namespace Go.Fx
open Go RowKit

def exR : Ex → Exit
  | .normal => .normal
  | .exit id => .exit id
  | .ret => .ret
/-- Keys of a type, as Lean has them. -/
structure KeyOk (P : Program) (k : TypeId) (f : Fl) : Prop where
  keyed : Maps.Keyed P k
  key : ∀ x, f.okv x → ∃ l, keyOf P k (f.kv x) = some l
  form : f = .int ∨ f = .op
structure EnvOk (E : Env) : Prop where
  fns : ∀ p ∈ E.fns, E.P.funcs[p.1]? = some p.2 ∧ (p.2.name == "runtime.NumGoroutine") = false ∧ p.2.body.isNone = false
  con : ∀ p ∈ E.con, Sound E.P p.1 p.2
  mixed : E.P.follows .mixedOrders = true
  keys : ∀ p ∈ E.keys, KeyOk E.P p.1 p.2
theorem look_mem {α : Type} : ∀ {l : List (Nat × α)} {n : Nat} {v : α}, look l n = some v → (n, v) ∈ l
  | (k, u) :: r, n, v, h => by
    rw [look_cons] at h
    split at h
    · rename_i e; cases h; rw [e]; exact List.mem_cons_self ..
    · exact List.mem_cons_of_mem _ (look_mem h)
/-- A loop that stands at its body's head. -/
def Lwp (P : Program) (c : Code) (Q : Exit → Act → World → Prop) (a : Act) (w : World) : Prop :=
  ∀ (b : Frame) (k : List Item) (cs : List Frame), ∃ e a' w', Q e a' w' ∧ Arrives P (lone (b.at a (.code c :: .inLoop c :: k)) cs w) b k cs e a' w'
def WP (P : Program) (c : Code) (Q : Exit → Act → World → Prop) (a : Act) (w : World) : Prop := match c with
  | .loop c => Lwp P c Q a w
  | c => c.wp P Q a w
theorem Lwp.wp {P : Program} {c : Code} {Q : Exit → Act → World → Prop} {a : Act} {w : World} (h : Lwp P c Q a w) : (Code.loop c).wp P Q a w := fun b k cs =>
  let ⟨e, a', w', q, r⟩ := h b k cs; ⟨e, a', w', q, .of_steps (.one step_loop) r⟩
theorem WP.wp {P : Program} {c : Code} {Q : Exit → Act → World → Prop} {a : Act} {w : World} (h : WP P c Q a w) : c.wp P Q a w := by
  cases c <;> first | exact h | exact Lwp.wp h
theorem lwp_once {P : Program} {c : Code} {Q : Exit → Act → World → Prop} {a : Act} {w : World} (h : c.wp P (Exit.then (Lwp P c Q) Q) a w) : Lwp P c Q a w := by
  intro b k cs
  obtain ⟨e, a₁, w₁, hq, harr⟩ := h b (.inLoop c :: k) cs
  cases e with
  | normal =>
    obtain ⟨e₂, a₂, w₂, hq₂, harr₂⟩ := hq b k cs
    exact ⟨e₂, a₂, w₂, hq₂, .of_steps (Steps.trans harr (.one step_inLoop)) harr₂⟩
  | exit id => exact ⟨_, a₁, w₁, hq, .pass (x := .inLoop c) rfl (fun _ _ => .inl (by simp)) harr⟩
  | goto l => exact ⟨_, a₁, w₁, hq, .pass (x := .inLoop c) rfl (fun _ _ => .inl (by simp)) harr⟩
  | ret => exact ⟨_, a₁, w₁, hq, .pass (x := .inLoop c) rfl (fun _ _ => .inl (by simp)) harr⟩
  | panic ch => exact ⟨_, a₁, w₁, hq, .pass (x := .inLoop c) rfl (fun _ _ => .inl (by simp)) harr⟩
  | outgrown => exact ⟨_, a₁, w₁, hq, .pass (x := .inLoop c) rfl (fun _ _ => .inl (by simp)) harr⟩
/-- What is asked of the executor one level down. -/
def IHok (E : Env) (ih : IH) : Prop :=
  ∀ (f : FuncId) (c : Code) (S : St) (k : Cont) (α : Al) (ω : Nat → Option Nat) (B : Nat) (w0 : World) (a : Act) (w : World) (Q : Exit → Act → World → Prop), ih f c S k → Rel S α ω B w0 a w →
    (∀ ex S' α' ω' a' w', Evo S S' α α' → Rel S' α' ω' B w0 a' w' → k ex S' → Q (exR ex) a' w') → WP E.P c Q a w

theorem noAny_iff : ∀ {l : List SV}, noAny l = true → ∀ v ∈ l, v ≠ .any
  | v :: r, h, u, hu => by
    have key : v ≠ .any ∧ noAny r = true := by
      cases v <;> first | exact ⟨(fun e => by cases e), h⟩ | cases h
    rcases List.mem_cons.1 hu with rfl | hu
    · exact key.1
    · exact noAny_iff key.2 u hu
theorem initTm_get : ∀ (l : List SV) (n t : Nat), look (initTm l n) t = if t < n then none else l[t - n]?
  | [], n, t => by simp [initTm, look]
  | v :: r, n, t => by
    rw [initTm, look_cons, initTm_get r (n + 1) t]
    by_cases h1 : n = t
    · subst h1; simp
    · rw [if_neg h1]
      by_cases h2 : t < n
      · rw [if_pos h2, if_pos (by omega)]
      · rw [if_neg h2, if_neg (by omega), show t - n = (t - (n + 1)) + 1 by omega]
        simp
theorem resOf_run {E : Env} {S : St} {α : Al} {ω : Nat → Option Nat} {B : Nat} {w0 w : World} {a : Act} (r : Rel S α ω B w0 a w) {F : ResultVar → Sem Value}
    (hF : ∀ t, F (.tmp t) = pure (a.tmps.getD t undef)) (hF' : ∀ x t, F (.cell x t) = (do loadVar t (← asAddr (a.tmps.getD x undef)))) : ∀ (rv : List ResultVar) (vs : List SW), resOf E S rv = some vs →
    (rv.mapM F).run E.P w = .ok (vs.map (SW.den α)) w ∧ ∀ v ∈ vs, v.good (· < S.nx) S.res
  | [], vs, h => by cases h; exact ⟨rfl, fun v hv => by cases hv⟩
  | .tmp t :: rv, vs, h => by
    unfold resOf at h
    split at h
    · rename_i v l e1 e2
      cases h
      obtain ⟨q1, q2⟩ := resOf_run r hF hF' rv l e2
      obtain ⟨p1, p2⟩ := ev_w r.t e1
      refine ⟨?_, fun u hu => ?_⟩
      · rw [List.mapM_cons, hF]
        simp only [Sem.run_bind, Sem.run_pure, Result.andThen_ok, q1, List.map_cons]
        rw [show a.tmps.getD t undef = v.den α from p1]
      · rcases List.mem_cons.1 hu with rfl | hu
        · exact p2
        · exact q2 u hu
    · cases h
  | .cell x t :: rv, vs, h => by
    unfold resOf at h
    split at h
    · rename_i v l e1 e2
      cases h
      obtain ⟨q1, q2⟩ := resOf_run r hF hF' rv l e2
      have hn : S.ev (.tmp x) ≠ .any := fun e => by rw [e] at e1; cases e1
      obtain ⟨p1, p2, _⟩ := load_ok r.h e1 (ev_good r.t _)
      have p3 := ev_den r.t hn
      refine ⟨?_, fun u hu => ?_⟩
      · rw [List.mapM_cons, hF']
        rw [← p3] at p1
        have p4 : (do loadVar t (← asAddr (a.tmps.getD x undef)) : Sem Value).run E.P w = .ok (v.den α) w := by
          have : (Instr.loadAt t (a.eval (.tmp x))).run E.P w = .ok (v.den α) w := p1
          simp only [Instr.loadAt, Act.eval] at this
          cases e3 : a.tmps.getD x undef with
          | pointer p =>
            rw [e3] at this
            cases p with
            | none => simp [Instr.sureAddr] at this
            | some ad => simpa [Instr.sureAddr, asAddr] using this
          | _ => rw [e3] at this; simp [Instr.sureAddr] at this
        simp only [Sem.run_bind] at p4 ⊢
        simp only [p4, Result.andThen_ok, q1, Sem.run_pure, List.map_cons]
      · rcases List.mem_cons.1 hu with rfl | hu
        · exact p2
        · exact q2 u hu
    · cases h
theorem results_ok {E : Env} {S : St} {α : Al} {ω : Nat → Option Nat} {B : Nat} {w0 w : World} {a : Act} (r : Rel S α ω B w0 a w) {fn : Func} {vs : List SW} (h : resOf E S fn.results.toList = some vs) :
    (results fn a.tmps).run E.P w = .ok ((oneOrTup vs).den α) w ∧ ∀ v ∈ vs, v.good (· < S.nx) S.res := by
  have key : (results fn a.tmps).run E.P w = .ok (oneV (vs.map (SW.den α))) w := by
    unfold results
    rw [Array.mapM_eq_mapM_toList]
    simp only [Sem.run_bind, Sem.run_map]
    rw [(resOf_run (E := E) r (fun _ => rfl) (fun _ _ => rfl) _ _ h).1]
    simp only [Result.andThen_ok, Sem.run_pure]
    congr 1
    generalize vs.map (SW.den α) = l
    match l with
    | [] => rfl
    | [v] => rfl
    | v :: u :: r => rfl
  exact ⟨by rw [key, oneOrTup_den], (resOf_run (E := E) r (F := fun | .tmp t => pure (a.tmps.getD t undef) | .cell x t => do loadVar t (← asAddr (a.tmps.getD x undef))) (fun _ => rfl) (fun _ _ => rfl) _ _ h).2⟩

theorem pickC_ok {f : FuncId} {args : List SV} {S : St} : ∀ {l : List (FuncId × Contract)} {C : Contract} {x : HL C.args}, pickC f args S l = .some C x → (f, C) ∈ l ∧ decArgs S C.args args = some x ∧ noLists C.res = true
  | (g, C') :: r, C, x, h => by
    unfold pickC at h
    split at h
    · rename_i hc
      rw [Bool.and_eq_true] at hc
      split at h
      · rename_i y hy
        cases h
        exact ⟨by rw [Nat.eq_of_beq_eq_true hc.1]; exact List.mem_cons_self .., hy, hc.2⟩
      · obtain ⟨q1, q2, q3⟩ := pickC_ok h
        exact ⟨List.mem_cons_of_mem _ q1, q2, q3⟩
    · obtain ⟨q1, q2, q3⟩ := pickC_ok h
      exact ⟨List.mem_cons_of_mem _ q1, q2, q3⟩
  | [], _, _, h => by cases h
theorem callV_ok {E : Env} (EO : EnvOk E) {ih : IH} (hih : IHok E ih) {f : FuncId} {args : List SV} {S : St} {k : SV → St → Prop} {α : Al} {ω : Nat → Option Nat} {B : Nat} {w0 w : World} {a : Act}
    (h : callV E ih f args S k) (r : Rel S α ω B w0 a w) (hg : ∀ v ∈ args, v.good (· < S.nx) S.res) {Rr : Ending → World → Prop}
    (K : ∀ v S' α' ω' w', Evo S S' α α' → Rel S' α' ω' B w0 a w' → v.good (· < S'.nx) S'.res → v ≠ .any → k v S' → Rr (.returned (v.den α')) w') :
    Calls E.P f (args.map (SV.den α)).toArray w Rr ∧ ∃ fn, E.P.funcs[f]? = some fn ∧ (fn.name == "runtime.NumGoroutine") = false ∧ fn.body.isNone = false ∧ ∀ v ∈ args, v ≠ .any := by
  unfold callV at h
  split at h
  · rename_i fn hfn hna
    have hany := noAny_iff hna
    obtain ⟨f1, f2, f3⟩ := EO.fns _ (look_mem hfn)
    refine ⟨?_, fn, f1, f2, f3, hany⟩
    split at h
    · rename_i C x hC
      obtain ⟨hm, hx, hl⟩ := pickC_ok hC
      obtain ⟨hp, hk⟩ := h
      have hk : k (oneOrTup (putAll C.res (C.F x) S.nx).1) S := by
        cases e : C.opq with
        | false => rw [e] at hk; exact hk
        | true => rw [e] at hk; exact opqAll_self _ _ (fun y => k (oneOrTup (putAll C.res y S.nx).1) S) hk
      have hs := EO.con _ hm x w _ (decArgs_ok r.h hx hg) hp
      refine hs.mono fun e w' he => ?_
      obtain ⟨vs, own, rfl, hb, hr⟩ := he
      have H' : HRel (· < S.nx) S.res α ω B w0 w' := r.h.frame (r.h.bel.trans (hb.mono r.h.base)) hb.size (fun b hb' => hb.block b hb')
      obtain ⟨q1, q2⟩ := put_ok (D := (· < S.nx)) (R := S.res) α (n := S.nx) hl hr
      obtain ⟨q3, q4⟩ := oneOrTup_good q2
      have := K _ S α ω w' (Evo.refl S α) (r.world H') q3 q4 hk
      rw [oneOrTup_den, q1] at this
      exact this
    · split at h
      · rename_i c hc
        have hlen : (args.map (SV.den α)).length = args.length := by simp
        let S1 : St := { S with tm := initTm args 0, tb := fun _ => undefV, nt := args.length + (fn.ntmps - args.length) }
        have r1 : Rel S1 α ω B w0 { tmps := (args.map (SV.den α)).toArray ++ Array.replicate (fn.ntmps - (args.map (SV.den α)).toArray.size) undef, defers := [] } w := by
          refine ⟨r.h, ⟨?_, fun t ht => ?_, fun t ht hn => ?_⟩, rfl⟩
          · show ((args.map (SV.den α)).toArray ++ Array.replicate (fn.ntmps - (args.map (SV.den α)).toArray.size) undef).size = args.length + (fn.ntmps - args.length)
            simp
          · show SV.good _ _ (match look (initTm args 0) t with | some v => v | none => undefV)
            rw [initTm_get]
            simp only [Nat.not_lt_zero, if_false, Nat.sub_zero]
            cases e : args[t]? with
            | none => exact trivial
            | some v => exact hg v (List.mem_of_getElem? e)
          · show _ = some (SV.den α (match look (initTm args 0) t with | some v => v | none => undefV))
            rw [initTm_get]
            simp only [Nat.not_lt_zero, if_false, Nat.sub_zero]
            have ht' : t < args.length + (fn.ntmps - args.length) := ht
            cases e : args[t]? with
            | none =>
              have hge : args.length ≤ t := List.getElem?_eq_none_iff.1 e
              rw [Array.getElem?_append_right (by simpa using hge)]
              simp only [List.size_toArray, List.length_map]
              rw [Array.getElem?_replicate, if_pos (by omega)]
              rfl
            | some v =>
              have hlt : t < args.length := (List.getElem?_eq_some_iff.1 e).1
              rw [Array.getElem?_append_left (by simpa using hlt)]
              simp [e]
        refine calls_of_wp (fn := fn) f1 hc (WP.wp (hih f c S1 _ α ω B w0 _ w _ h r1 fun ex S' α' ω' a' w' ev r' hk => ?_))
        have body : (match resOf E S' fn.results.toList with | some vs => k (oneOrTup vs) { S' with tm := S.tm, tb := S.tb, nt := S.nt } | none => Bad 103) → a'.defers = [] ∧ ∃ v, (results fn a'.tmps).run E.P w' = .ok v w' ∧ Rr (.returned v) w' := fun hk => by
          split at hk
          · rename_i vs hvs
            obtain ⟨q1, q2⟩ := results_ok r' hvs
            obtain ⟨q3, q4⟩ := oneOrTup_good q2
            let S2 : St := { S' with tm := S.tm, tb := S.tb, nt := S.nt }
            have e2 : Evo S S2 α α' := ⟨ev.nx, ev.agree, ev.keep, rfl, rfl, ev.ext.rb, ⟨[], rfl⟩, ev.ext.rs⟩
            have r2 : Rel S2 α' ω' B w0 a w' := ⟨r'.h, r.t.mono (fun i hi => Nat.lt_of_lt_of_le hi ev.nx) ev.keep ev.agree, r.d⟩
            exact ⟨r'.d, _, q1, K _ S2 α' ω' w' e2 r2 q3 q4 hk⟩
          · cases hk
        cases ex with
        | normal => exact body hk
        | ret => exact body hk
        | exit id => cases hk
      · cases h
  · cases h
end Go.Fx
