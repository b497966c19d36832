/-
  The engine, part three: closures, maps, regions.
-/
import Derived.Test.YtcadkndjcneedaaGreatE12W
import Derived.Maps.Keyed
set_option linter.unusedSimpArgs false
set_option linter.unusedVariables false
set_option linter.unusedSectionVars false
section
namespace Go.Fx
open Go RowKit

def exR : Ex → Exit
  | .normal => .normal
  | .exit id => .exit id
  | .ret => .ret
/-- Keys of a type, as Lean has them. -/
structure KeyOk (P : Program) (k : TypeId) (f : Fl) : Prop where
  keyed : Maps.Keyed P k
  key : ∀ x, f.okv x → ∃ l, keyOf P k (f.kv x) = some l
  form : f = .int ∨ f = .op
structure EnvOk (E : Env) : Prop where
  fns : ∀ p ∈ E.fns, E.P.funcs[p.1]? = some p.2 ∧ (p.2.name == "runtime.NumGoroutine") = false ∧ p.2.body.isNone = false
  con : ∀ p ∈ E.con, Sound E.P p.1 p.2
  mixed : E.P.follows .mixedOrders = true
  keys : ∀ p ∈ E.keys, KeyOk E.P p.1 p.2
  els : ElsOk E
  muts : ∀ p ∈ E.muts, MutSound E.P p.1 p.2
/-- A loop that stands at its body's head. -/
def Lwp (P : Program) (c : Code) (Q : Exit → Act → World → Prop) (a : Act) (w : World) : Prop :=
  ∀ (b : Frame) (k : List Item) (cs : List Frame), ∃ e a' w', Q e a' w' ∧ Arrives P (lone (b.at a (.code c :: .inLoop c :: k)) cs w) b k cs e a' w'
def WP (P : Program) (c : Code) (Q : Exit → Act → World → Prop) (a : Act) (w : World) : Prop := match c with
  | .loop c => Lwp P c Q a w
  | c => c.wp P Q a w
theorem Lwp.wp {P : Program} {c : Code} {Q : Exit → Act → World → Prop} {a : Act} {w : World} (h : Lwp P c Q a w) : (Code.loop c).wp P Q a w := fun b k cs =>
  let ⟨e, a', w', q, r⟩ := h b k cs; ⟨e, a', w', q, .of_steps (.one step_loop) r⟩
theorem WP.wp {P : Program} {c : Code} {Q : Exit → Act → World → Prop} {a : Act} {w : World} (h : WP P c Q a w) : c.wp P Q a w := by
  cases c <;> first | exact h | exact Lwp.wp h
theorem lwp_once {P : Program} {c : Code} {Q : Exit → Act → World → Prop} {a : Act} {w : World} (h : c.wp P (Exit.then (Lwp P c Q) Q) a w) : Lwp P c Q a w := by
  intro b k cs
  obtain ⟨e, a₁, w₁, hq, harr⟩ := h b (.inLoop c :: k) cs
  cases e with
  | normal =>
    obtain ⟨e₂, a₂, w₂, hq₂, harr₂⟩ := hq b k cs
    exact ⟨e₂, a₂, w₂, hq₂, .of_steps (Steps.trans harr (.one step_inLoop)) harr₂⟩
  | exit id => exact ⟨_, a₁, w₁, hq, .pass (x := .inLoop c) rfl (fun _ _ => .inl (by simp)) harr⟩
  | goto l => exact ⟨_, a₁, w₁, hq, .pass (x := .inLoop c) rfl (fun _ _ => .inl (by simp)) harr⟩
  | ret => exact ⟨_, a₁, w₁, hq, .pass (x := .inLoop c) rfl (fun _ _ => .inl (by simp)) harr⟩
  | panic ch => exact ⟨_, a₁, w₁, hq, .pass (x := .inLoop c) rfl (fun _ _ => .inl (by simp)) harr⟩
  | outgrown => exact ⟨_, a₁, w₁, hq, .pass (x := .inLoop c) rfl (fun _ _ => .inl (by simp)) harr⟩
/-- What is asked of the executor one level down. -/
def IHok (E : Env) (ih : IH) : Prop :=
  ∀ (f : FuncId) (c : Code) (S : St) (k : Cont) (α : Al) (ω : Nat → Option Nat) (B : Nat) (w0 : World) (a : Act) (w : World) (Q : Exit → Act → World → Prop), ih f c S k → Rel S α ω B w0 a w →
    (∀ ex S' α' ω' a' w', Evo S S' α α' → Rel S' α' ω' B w0 a' w' → k ex S' → Q (exR ex) a' w') → WP E.P c Q a w

theorem noAny_iff : ∀ {l : List SV}, noAny l = true → ∀ v ∈ l, v ≠ .any
  | v :: r, h, u, hu => by
    have key : v ≠ .any ∧ noAny r = true := by
      cases v <;> first | exact ⟨(fun e => by cases e), h⟩ | cases h
    rcases List.mem_cons.1 hu with rfl | hu
    · exact key.1
    · exact noAny_iff key.2 u hu
theorem initTm_get : ∀ (l : List SV) (n t : Nat), look (initTm l n) t = if t < n then none else l[t - n]?
  | [], n, t => by simp [initTm, look]
  | v :: r, n, t => by
    rw [initTm, look_cons, initTm_get r (n + 1) t]
    by_cases h1 : n = t
    · subst h1; simp
    · rw [if_neg h1]
      by_cases h2 : t < n
      · rw [if_pos h2, if_pos (by omega)]
      · rw [if_neg h2, if_neg (by omega), show t - n = (t - (n + 1)) + 1 by omega]
        simp
theorem resOf_run {E : Env} {S : St} {α : Al} {ω : Nat → Option Nat} {B : Nat} {w0 w : World} {a : Act} (r : Rel S α ω B w0 a w) {F : ResultVar → Sem Value}
    (hF : ∀ t, F (.tmp t) = pure (a.tmps.getD t undef)) (hF' : ∀ x t, F (.cell x t) = (do loadVar t (← asAddr (a.tmps.getD x undef)))) : ∀ (rv : List ResultVar) (vs : List SW), resOf E S rv = some vs →
    (rv.mapM F).run E.P w = .ok (vs.map (SW.den α)) w ∧ ∀ v ∈ vs, v.good (· < S.nx) S.res
  | [], vs, h => by cases h; exact ⟨rfl, fun v hv => by cases hv⟩
  | .tmp t :: rv, vs, h => by
    unfold resOf at h
    split at h
    · rename_i v l e1 e2
      cases h
      obtain ⟨q1, q2⟩ := resOf_run r hF hF' rv l e2
      obtain ⟨p1, p2⟩ := ev_w r.t e1
      refine ⟨?_, fun u hu => ?_⟩
      · rw [List.mapM_cons, hF]
        simp only [Sem.run_bind, Sem.run_pure, Result.andThen_ok, q1, List.map_cons]
        rw [show a.tmps.getD t undef = v.den α from p1]
      · rcases List.mem_cons.1 hu with rfl | hu
        · exact p2
        · exact q2 u hu
    · cases h
  | .cell x t :: rv, vs, h => by
    unfold resOf at h
    split at h
    · rename_i v l e1 e2
      cases h
      obtain ⟨q1, q2⟩ := resOf_run r hF hF' rv l e2
      have hn : S.ev (.tmp x) ≠ .any := fun e => by rw [e] at e1; cases e1
      obtain ⟨p1, p2, _⟩ := load_ok r.h e1 (ev_good r.t _)
      have p3 := ev_den r.t hn
      refine ⟨?_, fun u hu => ?_⟩
      · rw [List.mapM_cons, hF']
        rw [← p3] at p1
        have p4 : (do loadVar t (← asAddr (a.tmps.getD x undef)) : Sem Value).run E.P w = .ok (v.den α) w := by
          have : (Instr.loadAt t (a.eval (.tmp x))).run E.P w = .ok (v.den α) w := p1
          simp only [Instr.loadAt, Act.eval] at this
          cases e3 : a.tmps.getD x undef with
          | pointer p =>
            rw [e3] at this
            cases p with
            | none => simp [Instr.sureAddr] at this
            | some ad => simpa [Instr.sureAddr, asAddr] using this
          | _ => rw [e3] at this; simp [Instr.sureAddr] at this
        simp only [Sem.run_bind] at p4 ⊢
        simp only [p4, Result.andThen_ok, q1, Sem.run_pure, List.map_cons]
      · rcases List.mem_cons.1 hu with rfl | hu
        · exact p2
        · exact q2 u hu
    · cases h
theorem results_ok {E : Env} {S : St} {α : Al} {ω : Nat → Option Nat} {B : Nat} {w0 w : World} {a : Act} (r : Rel S α ω B w0 a w) {fn : Func} {vs : List SW} (h : resOf E S fn.results.toList = some vs) :
    (results fn a.tmps).run E.P w = .ok ((oneOrTup vs).den α) w ∧ ∀ v ∈ vs, v.good (· < S.nx) S.res := by
  have key : (results fn a.tmps).run E.P w = .ok (oneV (vs.map (SW.den α))) w := by
    unfold results
    rw [Array.mapM_eq_mapM_toList]
    simp only [Sem.run_bind, Sem.run_map]
    rw [(resOf_run (E := E) r (fun _ => rfl) (fun _ _ => rfl) _ _ h).1]
    simp only [Result.andThen_ok, Sem.run_pure]
    congr 1
    generalize vs.map (SW.den α) = l
    match l with
    | [] => rfl
    | [v] => rfl
    | v :: u :: r => rfl
  exact ⟨by rw [key, oneOrTup_den], (resOf_run (E := E) r (F := fun | .tmp t => pure (a.tmps.getD t undef) | .cell x t => do loadVar t (← asAddr (a.tmps.getD x undef))) (fun _ => rfl) (fun _ _ => rfl) _ _ h).2⟩

theorem pickC_ok {f : FuncId} {args : List SV} {S : St} : ∀ {l : List (FuncId × Contract)} {C : Contract} {x : HL C.args}, pickC f args S l = .some C x → (f, C) ∈ l ∧ decArgs S C.args args = some x ∧ noMaps C.args = true
  | (g, C') :: r, C, x, h => by
    unfold pickC at h
    split at h
    · rename_i hc
      rw [Bool.and_eq_true] at hc
      split at h
      · rename_i y hy
        cases h
        exact ⟨by rw [Nat.eq_of_beq_eq_true hc.1]; exact List.mem_cons_self .., hy, hc.2⟩
      · obtain ⟨q1, q2, q3⟩ := pickC_ok h
        exact ⟨List.mem_cons_of_mem _ q1, q2, q3⟩
    · obtain ⟨q1, q2, q3⟩ := pickC_ok h
      exact ⟨List.mem_cons_of_mem _ q1, q2, q3⟩
  | [], _, _, h => by cases h
/-- What a call by contract brings. -/
theorem res_added {D : Nat → Prop} {R : Nat → Option Res} {α : Al} {ω : Nat → Option Nat} {B : Nat} {w0 w w' : World} {n : Nat} (H : HRel D R α ω B w0 w) {l : List Sh} {y : HL l} {vs : List Value} {own : Nat → Option Nat} (hn : ∀ i, n ≤ i → i < n + (putAll l y n).2.length → ¬ D i) (hb : Below w.heap.size w w') (hr : ResR w' own w.heap.size l y vs 0) :
    ∃ α' ω', HRel (DN D n (putAll l y n).2.length) (addR R n (putAll l y n).2) α' ω' B w0 w' ∧ Agree D α α' ∧ (putAll l y n).1.map (SW.den α') = vs ∧ (oneOrTup (putAll l y n).1).good (DN D n (putAll l y n).2.length) (addR R n (putAll l y n).2) ∧ oneOrTup (putAll l y n).1 ≠ .any := by
  have H' : HRel D R α ω B w0 w' := H.frame (H.bel.trans (hb.mono H.base)) hb.size (fun b hb' => hb.block b hb')
  obtain ⟨α', ω', q1, q2, q3, q4⟩ := put_ok H.base (n := n) H' hr (fun b k h1 _ _ => by
    cases e : ω b with
    | none => rfl
    | some i => have := (H.own b i e).2.1; omega) hn
  obtain ⟨q5, q6⟩ := oneOrTup_good q4
  exact ⟨α', ω', q1, q2, q3, q5, q6⟩
theorem callV_ok {E : Env} (EO : EnvOk E) {ih : IH} (hih : IHok E ih) {f : FuncId} {args : List SV} {S : St} {k : SV → St → Prop} {α : Al} {ω : Nat → Option Nat} {B : Nat} {w0 w : World} {a : Act}
    (h : callV E ih f args S k) (r : Rel S α ω B w0 a w) (hg : ∀ v ∈ args, v.good (· < S.nx) S.res) {Rr : Ending → World → Prop}
    (K : ∀ v S' α' ω' w', Evo S S' α α' → Rel S' α' ω' B w0 a w' → v.good (· < S'.nx) S'.res → v ≠ .any → k v S' → Rr (.returned (v.den α')) w') :
    Calls E.P f (args.map (SV.den α)).toArray w Rr ∧ ∃ fn, E.P.funcs[f]? = some fn ∧ (fn.name == "runtime.NumGoroutine") = false ∧ fn.body.isNone = false ∧ ∀ v ∈ args, v ≠ .any := by
  unfold callV at h
  split at h
  · rename_i fn hfn hna
    have hany := noAny_iff hna
    obtain ⟨f1, f2, f3⟩ := EO.fns _ (look_mem hfn)
    refine ⟨?_, fn, f1, f2, f3, hany⟩
    split at h
    · rename_i C x hC
      obtain ⟨hm, hx, hl⟩ := pickC_ok hC
      obtain ⟨hp, hk⟩ := h
      have hk : k (oneOrTup (putAll C.res (C.F x) S.nx).1) (S.add (putAll C.res (C.F x) S.nx).2) := by
        cases e : C.opq with
        | false => rw [e] at hk; exact hk
        | true => rw [e] at hk; exact opqAll_self _ _ (fun y => k (oneOrTup (putAll C.res y S.nx).1) (S.add (putAll C.res y S.nx).2)) hk
      have hs := EO.con _ hm x w _ (decArgs_ok r.h hl hx hg) hp
      refine hs.mono fun e w' he => ?_
      obtain ⟨vs, own, rfl, hb, hr⟩ := he
      obtain ⟨α', ω', q1, q2, q3, q4, q5⟩ := res_added (n := S.nx) r.h (fun i h1 _ h2 => by have : i < S.nx := h2; omega) hb hr
      obtain ⟨e1, r1⟩ := Rel.added r q1 q2 q4 none (x := (oneOrTup (putAll C.res (C.F x) S.nx).1).den α') (fun _ => rfl)
      have := K _ _ α' ω' w' e1 r1 (by
        show SV.good (· < S.nx + _) (S.add _).res _
        rw [add_res, ← DN_lt]; exact q4) q5 hk
      rw [oneOrTup_den, q3] at this
      exact this
    · split at h
      · rename_i c hc
        have hlen : (args.map (SV.den α)).length = args.length := by simp
        let S1 : St := { S with tm := initTm args 0, tb := fun _ => undefV, nt := args.length + (fn.ntmps - args.length) }
        have r1 : Rel S1 α ω B w0 { tmps := (args.map (SV.den α)).toArray ++ Array.replicate (fn.ntmps - (args.map (SV.den α)).toArray.size) undef, defers := [] } w := by
          refine ⟨r.h, ⟨?_, fun t ht => ?_, fun t ht hn => ?_⟩, rfl⟩
          · show ((args.map (SV.den α)).toArray ++ Array.replicate (fn.ntmps - (args.map (SV.den α)).toArray.size) undef).size = args.length + (fn.ntmps - args.length)
            simp
          · show SV.good _ _ (match look (initTm args 0) t with | some v => v | none => undefV)
            rw [initTm_get]
            simp only [Nat.not_lt_zero, if_false, Nat.sub_zero]
            cases e : args[t]? with
            | none => exact trivial
            | some v => exact hg v (List.mem_of_getElem? e)
          · show _ = some (SV.den α (match look (initTm args 0) t with | some v => v | none => undefV))
            rw [initTm_get]
            simp only [Nat.not_lt_zero, if_false, Nat.sub_zero]
            have ht' : t < args.length + (fn.ntmps - args.length) := ht
            cases e : args[t]? with
            | none =>
              have hge : args.length ≤ t := List.getElem?_eq_none_iff.1 e
              rw [Array.getElem?_append_right (by simpa using hge)]
              simp only [List.size_toArray, List.length_map]
              rw [Array.getElem?_replicate, if_pos (by omega)]
              rfl
            | some v =>
              have hlt : t < args.length := (List.getElem?_eq_some_iff.1 e).1
              rw [Array.getElem?_append_left (by simpa using hlt)]
              simp [e]
        refine calls_of_wp (fn := fn) f1 hc (WP.wp (hih f c S1 _ α ω B w0 _ w _ h r1 fun ex S' α' ω' a' w' ev r' hk => ?_))
        have body : (match resOf E S' fn.results.toList with | some vs => k (oneOrTup vs) { S' with tm := S.tm, tb := S.tb, nt := S.nt } | none => Bad 103) → a'.defers = [] ∧ ∃ v, (results fn a'.tmps).run E.P w' = .ok v w' ∧ Rr (.returned v) w' := fun hk => by
          split at hk
          · rename_i vs hvs
            obtain ⟨q1, q2⟩ := results_ok r' hvs
            obtain ⟨q3, q4⟩ := oneOrTup_good q2
            let S2 : St := { S' with tm := S.tm, tb := S.tb, nt := S.nt }
            have e2 : Evo S S2 α α' := ⟨ev.nx, ev.agree, ev.keep, rfl, rfl, ev.ext.rb, ⟨[], rfl⟩, ev.ext.rs⟩
            have r2 : Rel S2 α' ω' B w0 a w' := ⟨r'.h, r.t.mono (fun i hi => Nat.lt_of_lt_of_le hi ev.nx) ev.keep ev.agree, r.d⟩
            exact ⟨r'.d, _, q1, K _ S2 α' ω' w' e2 r2 q3 q4 hk⟩
          · cases hk
        cases ex with
        | normal => exact body hk
        | ret => exact body hk
        | exit id => cases hk
      · cases h
  · cases h
end Go.Fx
end
section
namespace Go.Fx
open Go RowKit

/-! ### Entries -/
theorem eqI_iff (a b : Int) : eqI a b = true ↔ a = b := decide_eq_true_iff
theorem kq_iff {f : Fl} (hf : f = .int ∨ f = .op) (x y : f.ty) : f.kq x y = true ↔ x = y := by
  rcases hf with rfl | rfl
  · exact eqI_iff x y
  · refine Iff.trans decide_eq_true_iff ⟨fun h => ?_, fun h => by rw [h]⟩
    have : Fl.op.dec (Fl.op.enc x) = Fl.op.dec (Fl.op.enc y) := by rw [h]
    exact this
theorem kv_inj {f : Fl} (hf : f = .int ∨ f = .op) {x y : f.ty} (h : f.kv x = f.kv y) : x = y := by
  rcases hf with rfl | rfl
  · have h' : Value.int .i64 x = Value.int .i64 y := h
    cases h'; rfl
  · have h' : Value.agg (Fl.op.vals x).toArray = Value.agg (Fl.op.vals y).toArray := h
    have h2 : (Fl.op.vals x) = (Fl.op.vals y) := by
      injection h' with h2
      injection h2
    obtain ⟨⟨a1, a2, a3, a4, a5, a6, a7, a8, a9⟩, ⟨b1, b2, b3⟩⟩ := x
    obtain ⟨⟨c1, c2, c3, c4, c5, c6, c7, c8, c9⟩, ⟨d1, d2, d3⟩⟩ := y
    simp only [Fl.vals, Fl.sw, Fl.ks, Fl.enc, cksc, CK.sc, ckI, List.map_cons, List.map_nil, SC.lit, List.cons.injEq, Value.int.injEq, true_and, and_true] at h2
    obtain ⟨rfl, rfl, rfl, rfl, rfl, rfl, rfl, rfl, rfl, rfl, rfl, rfl⟩ := h2
    rfl
theorem mfind_none {f : Fl} (hf : f = .int ∨ f = .op) {x : f.ty} : ∀ {m : List (f.ty × Int)}, (∀ p ∈ m, p.1 ≠ x) → mfind f.kq m x = none ∧ ∀ v, mset f.kq m x v = m ++ [(x, v)]
  | [], _ => ⟨rfl, fun _ => rfl⟩
  | p :: r, h => by
    have h1 : ¬ f.kq p.1 x = true := fun e => h p (List.mem_cons_self ..) ((kq_iff hf _ _).1 e)
    obtain ⟨q1, q2⟩ := mfind_none hf (m := r) fun p hp => h p (List.mem_cons_of_mem _ hp)
    unfold mfind mset
    rw [if_neg h1]
    exact ⟨q1, fun v => by rw [if_neg h1, q2]; rfl⟩
theorem mfind_some {f : Fl} (hf : f = .int ∨ f = .op) {x : f.ty} {z : Int} : ∀ {m : List (f.ty × Int)} {j : Nat}, (m.map (·.1)).Nodup → m[j]? = some (x, z) → mfind f.kq m x = some z ∧ ∀ v, mset f.kq m x v = m.set j (x, v)
  | p :: r, 0, _, h => by
    cases h
    have h1 : f.kq x x = true := (kq_iff hf _ _).2 rfl
    unfold mfind mset
    rw [if_pos h1]
    exact ⟨rfl, fun v => by rw [if_pos h1]; rfl⟩
  | p :: r, j + 1, hn, h => by
    have h : r[j]? = some (x, z) := by simpa using h
    rw [List.map_cons, List.nodup_cons] at hn
    have h1 : ¬ f.kq p.1 x = true := fun e => hn.1 (by
      rw [(kq_iff hf _ _).1 e]
      exact List.mem_map.2 ⟨(x, z), List.mem_of_getElem? h, rfl⟩)
    obtain ⟨q1, q2⟩ := mfind_some hf hn.2 h
    unfold mfind mset
    rw [if_neg h1]
    exact ⟨q1, fun v => by rw [if_neg h1, q2]; rfl⟩
  | [], _, _, h => by cases h
section
variable {P : Program} {k : TypeId} {f : Fl} (K : KeyOk P k f)
theorem ents_keys (K : KeyOk P k f) {m : List (f.ty × Int)} {es : Array MapEntry} (h : Ents f m es) : ∀ e ∈ es.toList, ∃ l, keyOf P k e.key = some l := fun e he => by
  have : (e.key, e.val) ∈ es.toList.map (fun e => (e.key, e.val)) := List.mem_map.2 ⟨e, he, rfl⟩
  rw [h.1] at this
  obtain ⟨p, hp, e2⟩ := List.mem_map.1 this
  have e3 : f.kv p.1 = e.key := congrArg Prod.fst e2
  rw [← e3]
  exact K.key p.1 (h.2.1 p hp).1
theorem ents_at {m : List (f.ty × Int)} {es : Array MapEntry} (h : Ents f m es) {j : Nat} {e : MapEntry} (he : es.toList[j]? = some e) : ∃ p, m[j]? = some p ∧ f.kv p.1 = e.key ∧ Value.int .i64 p.2 = e.val := by
  have h1 : (es.toList.map (fun e => (e.key, e.val)))[j]? = some (e.key, e.val) := by rw [List.getElem?_map, he]; rfl
  rw [h.1, List.getElem?_map] at h1
  cases e2 : m[j]? with
  | none => rw [e2] at h1; cases h1
  | some p =>
    rw [e2] at h1
    simp only [Option.map_some, Option.some.injEq, Prod.mk.injEq] at h1
    exact ⟨p, rfl, h1.1, h1.2⟩
theorem find_ok (K : KeyOk P k f) (w : World) {x : f.ty} (hx : f.okv x) {m : List (f.ty × Int)} {es : Array MapEntry} (h : Ents f m es) :
    ((Instr.findKey k (f.kv x) es.toList).run P w = .ok none w ∧ mfind f.kq m x = none ∧ (∀ p ∈ m, p.1 ≠ x) ∧ ∀ v, mset f.kq m x v = m ++ [(x, v)]) ∨
    ∃ j z e, (Instr.findKey k (f.kv x) es.toList).run P w = .ok (some (j, .int .i64 z)) w ∧ es[j]? = some e ∧ e.key = f.kv x ∧ m[j]? = some (x, z) ∧ mfind f.kq m x = some z ∧ ∀ v, mset f.kq m x v = m.set j (x, v) := by
  obtain ⟨l, hl⟩ := K.key x hx
  rcases K.keyed.find w hl es.toList (ents_keys K h) with ⟨h1, h2⟩ | ⟨j, e, h1, h2, h3⟩
  · have hne : ∀ p ∈ m, p.1 ≠ x := fun p hp e => by
      have : (f.kv p.1, Value.int .i64 p.2) ∈ m.map (fun p => (f.kv p.1, Value.int .i64 p.2)) := List.mem_map.2 ⟨p, hp, rfl⟩
      rw [← h.1] at this
      obtain ⟨e', he', e2⟩ := List.mem_map.1 this
      exact h2 e' he' (by have := congrArg Prod.fst e2; rw [e] at this; exact this)
    obtain ⟨q1, q2⟩ := mfind_none K.form hne
    exact .inl ⟨h1, q1, hne, q2⟩
  · obtain ⟨p, hp, e1, e2⟩ := ents_at h h2
    have hpx : p.1 = x := kv_inj K.form (e1.trans h3)
    have hp' : m[j]? = some (x, p.2) := by rw [hp, ← hpx]
    obtain ⟨q1, q2⟩ := mfind_some K.form h.2.2 hp'
    exact .inr ⟨j, p.2, e, by rw [h1, ← e2], by simpa using h2, h3, hp', q1, q2⟩
end

/-! ### The world -/
section
variable {D : Nat → Prop} {R : Nat → Option Res} {α : Al} {ω : Nat → Option Nat} {B : Nat} {w0 w : World}
theorem HRel.makeMap (H : HRel D R α ω B w0 w) {n : Nat} (hn : ¬ D n) (f : Fl) :
    ∃ ω', HRel (fun i => D i ∨ i = n) (fun i => if n = i then some (.map ⟨f, []⟩) else R i) (α.setB n w.heap.size) ω' B w0 (w.alloc (.map #[] 0)) := by
  have hsz : (w.alloc (.map #[] 0)).heap.size = w.heap.size + 1 := by
    show (w.heap.push _).size = _
    simp
  have hold : ∀ b, b < w.heap.size → (w.alloc (.map #[] 0)).heap[b]? = w.heap[b]? := fun b hb => Below.heap_alloc _ _ _ hb
  have hnew : (w.alloc (.map #[] 0)).heap[w.heap.size]? = some (.map #[] 0) := by
    show (w.heap.push _)[w.heap.size]? = _
    simp
  have H1 : HRel D R α ω B w0 (w.alloc (.map #[] 0)) := H.frameU (H.bel.alloc H.base _) (by rw [hsz]; omega) fun b i hb => hold b (H.own b i hb).2.1
  have ha := agree_setB (D := D) α n w.heap.size hn
  have hb : (α.setB n w.heap.size).blk n = w.heap.size := by simp [Al.setB]
  refine ⟨_, H1.addRes hn ha H.one (fun b => b = w.heap.size) ⟨?_, #[], 0, by rw [hb, hnew], rfl, (fun p hp => by cases hp), List.nodup_nil⟩ (fun b e => by cases e) (fun L e => by cases e)⟩
  rw [hb]
  exact ownN_new rfl (below_none H) H.base (by rw [hsz]; omega)
theorem HRel.setMap (H : HRel D R α ω B w0 w) {i : Nat} {M M' : MB} (hi : R i = some (.map M)) {w' : World} {es : Array MapEntry} {clock : Nat}
    (hs : w'.heap.size = w.heap.size) (hnew : w'.heap[α.blk i]? = some (.map es clock)) (he : Ents M'.f M'.m es) (hold : ∀ k, k ≠ α.blk i → w'.heap[k]? = w.heap[k]?)
    (ho : w'.os = w.os) (ht : w'.tape = w.tape) (hout : OutD w w') :
    HRel D (fun j => if i = j then some (.map M') else R j) α ω B w0 w' := by
  obtain ⟨h1, _⟩ : RRel α ω B w i (.map M) := H.rel i _ hi
  have hB := (H.own _ _ h1).1
  exact H.setOwn (H.dec _ _ hi) (H.bel.trans ⟨⟨ho, ht, hout.out, by omega, fun k hk' => hold k (by omega)⟩, hout.drawn⟩) (by omega) (fun b' i' hb' hne => hold b' fun e => hne (by rw [e, h1] at hb'; cases hb'; rfl)) ⟨h1, es, clock, hnew, he⟩
    (Keep.updN (fun L e => by cases e) (fun L e => by cases e)) (fun b' e => by cases e) (fun L e => by cases e)
end

/-! ### The operations -/
theorem mapT_ok {E : Env} (EO : EnvOk E) {t : TypeId} {f : Fl} (h : mapT E t = some f) : ∃ k e, E.P.underlying t = some (.map k e) ∧ (∀ w, (zeroValue e).run E.P w = .ok (.int .i64 0) w) ∧ KeyOk E.P k f := by
  unfold mapT at h
  split at h
  · rename_i k e hu
    split at h
    · rename_i i he
      split at h
      · rename_i hi
        rw [Bool.and_eq_true, ile_iff, ile_iff] at hi
        have hv : i.v = 0 := by omega
        refine ⟨k, e, hu, fun w => ?_, EO.keys _ (look_mem h)⟩
        rw [zero_run he ⟨fun _ => 0, fun _ => undef, fun _ _ => undef⟩ w]
        simp only [SW.den, SC.den, hv]
      · cases h
    · cases h
  · cases h
theorem keyV_ok {f : Fl} {v : SV} {x : f.ty} (h : f.keyV v = some x) {D : Nat → Prop} {R : Nat → Option Res} {α : Al} (hg : v.good D R) : v.den α = f.kv x ∧ f.okv x := by
  cases f with
  | int =>
    obtain ⟨q1, q2, q3⟩ := dec_int (α := α) (show decI .i64 v = some x from h) hg
    refine ⟨q1, fun c hc => ?_⟩
    have : c = .int .i64 ⟨x, kmin .i64, kmax .i64⟩ := by simpa [Fl.sw, Fl.ks, Fl.enc, cksc, CK.sc, ckI] using hc
    subst this
    exact ⟨q2, q3⟩
  | op => exact dec_agg (α := α) (show decA .op v = some x from h) hg
  | _ => cases h
theorem run_getM {P : Program} {w : World} {b : Nat} {es : Array MapEntry} {c : Nat} (h : w.heap[b]? = some (.map es c)) : (getObj b).run P w = .ok (.map es c) w := by
  simp [getObj, Sem.run, h]
theorem run_setMap {P : Program} {w : World} {b : Nat} {es : Array MapEntry} {c : Nat} (h : w.heap[b]? = some (.map es c)) (o : Obj) : (setObj b o).run P w = .ok () { w with heap := w.heap.setIfInBounds b o } := by
  simp [setObj, Sem.run, h]
theorem mapSet_ok {E : Env} (EO : EnvOk E) {S S' : St} {t : TypeId} {m kx v : SV} {α : Al} {ω : Nat → Option Nat} {B : Nat} {w0 w : World} {a : Act} (r : Rel S α ω B w0 a w) (h : mapSetV E t S m kx v = some S')
    (gm : m.good (· < S.nx) S.res) (gk : kx.good (· < S.nx) S.res) (gv : v.good (· < S.nx) S.res) :
    ∃ w', (Instr.mapUpdate t (m.den α) (kx.den α) (v.den α)).run E.P w = .ok () w' ∧ Evo S S' α α ∧ Rel S' α ω B w0 a w' ∧ m ≠ .any ∧ kx ≠ .any ∧ v ≠ .any := by
  unfold mapSetV at h
  split at h
  · rename_i j
    split at h
    · rename_i f M hT hM
      split at h
      · rename_i x z hf hx hz
        cases h
        obtain ⟨k, e, hu, he, K⟩ := mapT_ok EO hT
        obtain rfl := feq_eq hf
        obtain ⟨k1, k2⟩ := keyV_ok (α := α) hx gk
        obtain ⟨v1, v2, v3⟩ := dec_int (α := α) hz gv
        obtain ⟨h1, es, clock, h2, h3⟩ : RRel α ω B w j (.map M) := r.h.rel j _ hM
        have hlt := (r.h.own _ _ h1).2.1
        obtain ⟨l, hl⟩ := K.key x k2
        have hany : kx ≠ .any ∧ v ≠ .any := by
          refine ⟨fun e => ?_, fun e => ?_⟩
          · rw [e] at hx
            obtain ⟨f', m'⟩ := M
            cases f' <;> cases hx
          · rw [e] at hz; cases hz
        have fin : ∀ (es' : Array MapEntry) (c' : Nat), Ents M.f (mset M.f.kq M.m x z) es' →
            Evo S (S.set j (some (.map ⟨M.f, mset M.f.kq M.m x z⟩))) α α ∧ Rel (S.set j (some (.map ⟨M.f, mset M.f.kq M.m x z⟩))) α ω B w0 a { w with heap := w.heap.setIfInBounds (α.blk j) (.map es' c') } := fun es' c' he' => by
          have hk : Keep (· < S.nx) S.res (S.set j (some (.map ⟨M.f, mset M.f.kq M.m x z⟩))).res := by
            rw [res_set]
            exact Keep.updN (fun L e => by cases e) (fun L e => by cases e)
          refine ⟨⟨Nat.le_refl _, Agree.refl _ _, hk, rfl, Ext.set _ _ _⟩, ?_, r.t.mono (fun _ h => h) hk (Agree.refl _ _), r.d⟩
          rw [res_set]
          refine r.h.setMap (M' := ⟨M.f, mset M.f.kq M.m x z⟩) hM (es := es') (clock := c') (by simp) ?_ he' (fun i hi => ?_) rfl rfl ⟨rfl, Nat.le_refl _⟩
          · simp [hlt]
          · exact Array.getElem?_setIfInBounds_ne (fun e => hi e.symm)
        rcases find_ok K w k2 h3 with ⟨q1, q2, q3, q4⟩ | ⟨i, z0, en, q1, q2, q3, q4, q5, q6⟩
        · obtain ⟨f1, f2⟩ := fin (es.push { key := M.f.kv x, val := .int .i64 z, born := clock }) (clock + 1) (by
            rw [q4]
            refine ⟨by simp [h3.1], fun p hp => ?_, ?_⟩
            · rcases List.mem_append.1 hp with hp | hp
              · exact h3.2.1 p hp
              · obtain rfl := List.mem_singleton.1 hp
                exact ⟨k2, v2, v3⟩
            · rw [List.map_append, List.nodup_append]
              refine ⟨h3.2.2, by simp, fun y hy y' hy' e => ?_⟩
              obtain ⟨p, hp, rfl⟩ := List.mem_map.1 hy
              simp only [List.map_cons, List.map_nil, List.mem_singleton] at hy'
              exact q3 p hp (e.trans hy'))
          refine ⟨_, ?_, f1, f2, (fun e => by cases e), hany⟩
          rw [k1, v1]
          simp only [SV.den, SW.den, SC.den, Instr.mapUpdate, Sem.run_bind, und_run hu, Result.andThen_ok, run_getM h2, K.keyed.check w false hl, q1, run_setMap h2]
        · obtain ⟨f1, f2⟩ := fin (es.modify i fun e => { e with key := M.f.kv x, val := .int .i64 z }) clock (by
            rw [q6]
            refine ⟨?_, fun p hp => ?_, ?_⟩
            · have e1 : (es.modify i fun e => { e with key := M.f.kv x, val := .int .i64 z }).toList = es.toList.modify i fun e => { e with key := M.f.kv x, val := .int .i64 z } := by simp
              rw [e1]
              apply List.ext_getElem?
              intro n
              have h5 : (es.toList.map (fun e => (e.key, e.val)))[n]? = (M.m.map (fun p => (M.f.kv p.1, Value.int .i64 p.2)))[n]? := by rw [h3.1]
              rw [List.getElem?_map, List.getElem?_map] at h5
              rw [List.getElem?_map, List.getElem?_map, List.getElem?_modify, List.getElem?_set]
              by_cases e : i = n
              · subst e
                have hl1 : i < M.m.length := (List.getElem?_eq_some_iff.1 q4).1
                have q2' : es.toList[i]? = some en := by simpa using q2
                simp [hl1, q2']
              · simp only [if_neg e]
                rw [← h5]
                cases es.toList[n]? <;> rfl
            · rcases List.mem_or_eq_of_mem_set hp with hp | rfl
              · exact h3.2.1 p hp
              · exact ⟨k2, v2, v3⟩
            · have : (M.m.set i (x, z)).map (·.1) = M.m.map (·.1) := by
                rw [List.map_set]
                apply List.ext_getElem?
                intro n
                rw [List.getElem?_set]
                by_cases e : i = n
                · subst e
                  have hl1 : i < M.m.length := (List.getElem?_eq_some_iff.1 q4).1
                  rw [if_pos rfl, if_pos (by simpa using hl1), List.getElem?_map, q4]; rfl
                · rw [if_neg e]
              rw [this]; exact h3.2.2)
          refine ⟨_, ?_, f1, f2, (fun e => by cases e), hany⟩
          rw [k1, v1]
          have hst : (Instr.keyThatStays ((((es[i]?).map (·.key)).getD (M.f.kv x))) (M.f.kv x)).run E.P w = .ok (M.f.kv x) w := by
            rw [q2]
            show (Instr.keyThatStays en.key _).run E.P w = _
            rw [q3]
            exact K.keyed.stays w hl
          simp only [SV.den, SW.den, SC.den, Instr.mapUpdate, Sem.run_bind, und_run hu, Result.andThen_ok, run_getM h2, K.keyed.check w false hl, q1, hst, run_setMap h2]
      · cases h
    · cases h
  · cases h
theorem mapGet_ok {E : Env} (EO : EnvOk E) {S : St} {t : TypeId} {ok : Bool} {m kx v : SV} {α : Al} {ω : Nat → Option Nat} {B : Nat} {w0 w : World} {a : Act} (r : Rel S α ω B w0 a w) (h : mapGetV E t S ok m kx = some v)
    (gm : m.good (· < S.nx) S.res) (gk : kx.good (· < S.nx) S.res) :
    (Instr.lookup t (m.den α) (kx.den α) ok).run E.P w = .ok (v.den α) w ∧ v.good (· < S.nx) S.res ∧ m ≠ .any ∧ kx ≠ .any := by
  unfold mapGetV at h
  split at h
  · rename_i j
    split at h
    · rename_i f M hT hM
      split at h
      · rename_i x hf hx
        obtain ⟨k, e, hu, he, K⟩ := mapT_ok EO hT
        obtain rfl := feq_eq hf
        obtain ⟨k1, k2⟩ := keyV_ok (α := α) hx gk
        obtain ⟨h1, es, clock, h2, h3⟩ : RRel α ω B w j (.map M) := r.h.rel j _ hM
        obtain ⟨l, hl⟩ := K.key x k2
        have hany : kx ≠ .any := fun e => by
          rw [e] at hx
          obtain ⟨f', m'⟩ := M
          cases f' <;> cases hx
        have hz := he w
        have key : (Instr.lookup t (.map (some (α.blk j))) (M.f.kv x) ok).run E.P w = .ok (if ok then .tuple #[.int .i64 (mgetD M.f.kq M.m x), .bool (mhas M.f.kq M.m x)] else .int .i64 (mgetD M.f.kq M.m x)) w ∧ kmin .i64 ≤ mgetD M.f.kq M.m x ∧ mgetD M.f.kq M.m x ≤ kmax .i64 := by
          rcases find_ok K w k2 h3 with ⟨q1, q2, q3, q4⟩ | ⟨i, z0, en, q1, q2, q3, q4, q5, q6⟩
          · refine ⟨?_, ?_⟩
            · simp only [Instr.lookup, Sem.run_bind, und_run hu, Result.andThen_ok, run_getM h2, Sem.run_pure, K.keyed.check w es.isEmpty hl, q1, hz, mgetD, mhas, q2]
              rfl
            · simp only [mgetD, q2, Option.getD_none]; decide
          · refine ⟨?_, ?_⟩
            · simp only [Instr.lookup, Sem.run_bind, und_run hu, Result.andThen_ok, run_getM h2, Sem.run_pure, K.keyed.check w es.isEmpty hl, q1, mgetD, mhas, q5]
              rfl
            · simp only [mgetD, q5, Option.getD_some]
              exact (h3.2.1 _ (List.mem_of_getElem? q4)).2
        obtain ⟨q1, q2, q3⟩ := key
        cases ok with
        | true =>
          cases h
          refine ⟨by rw [k1]; exact q1, fun v hv => ?_, (fun e => by cases e), hany⟩
          rcases List.mem_cons.1 hv with rfl | hv
          · exact ⟨q2, q3⟩
          · obtain rfl := List.mem_singleton.1 hv
            exact fun x hx => by cases hx
        | false =>
          cases h
          exact ⟨by rw [k1]; exact q1, ⟨q2, q3⟩, (fun e => by cases e), hany⟩
      · cases h
    · cases h
  · cases h
theorem makeMap_ok {E : Env} {S : St} {t : TypeId} {f : Fl} {α : Al} {ω : Nat → Option Nat} {B : Nat} {w0 w : World} {a : Act} (r : Rel S α ω B w0 a w) (d : Option Tmp) :
    ∃ α' ω', (Instr.makeMap t none).run E.P w = .ok (.map (some w.heap.size)) (w.alloc (.map #[] 0)) ∧ Evo S ({ S.set S.nx (some (.map ⟨f, []⟩)) with nx := S.nx + 1 }.put d (.w (.c (.mp S.nx)))) α α' ∧
      Rel ({ S.set S.nx (some (.map ⟨f, []⟩)) with nx := S.nx + 1 }.put d (.w (.c (.mp S.nx)))) α' ω' B w0 (a.put d (.map (some w.heap.size))) (w.alloc (.map #[] 0)) := by
  have hn : ¬ (S.nx < S.nx) := Nat.lt_irrefl _
  have hD : (fun i => i < S.nx ∨ i = S.nx) = (· < S.nx + 1) := by funext i; apply propext; omega
  obtain ⟨ω', H'⟩ := r.h.makeMap hn f
  rw [hD] at H'
  have hk : Keep (· < S.nx) S.res (fun i => if S.nx = i then some (.map ⟨f, []⟩) else S.res i) := Keep.upd _ hn
  have ha := agree_setB (D := (· < S.nx)) α S.nx w.heap.size hn
  let S1 : St := { S.set S.nx (some (.map ⟨f, []⟩)) with nx := S.nx + 1 }
  have hres : S1.res = fun i => if S.nx = i then some (.map ⟨f, []⟩) else S.res i := res_set S S.nx _
  have r1 : Rel S1 (α.setB S.nx w.heap.size) ω' B w0 a (w.alloc (.map #[] 0)) := by
    refine ⟨?_, ?_, r.d⟩
    · rw [hres]; exact H'
    · rw [hres]
      exact r.t.mono (fun i h => Nat.lt_succ_of_lt h) hk ha
  have e1 : Evo S S1 α (α.setB S.nx w.heap.size) := ⟨Nat.le_succ _, ha, by rw [hres]; exact hk, rfl, Ext.new _ _ _ _⟩
  refine ⟨α.setB S.nx w.heap.size, _, ?_, e1.trans (Evo.put S1 d _ _), r1.put ?_ d fun _ => ?_⟩
  · simp only [Instr.makeMap, Sem.run_bind, run_newObj_alloc, Result.andThen_ok, Sem.run_pure]
  · exact Nat.lt_succ_self _
  · simp [SV.den, SW.den, SC.den, Al.setB]
end Go.Fx
end
section
namespace Go.Fx
open Go RowKit

theorem exOp1_ok {E : Env} (EO : EnvOk E) {ih : IH} (hih : IHok E ih) {o : Oper} {S : St} {k : St → Prop} {α : Al} {ω : Nat → Option Nat} {B : Nat} {w0 w : World} {a : Act}
    (h : exOp1 E ih o S k) (r : Rel S α ω B w0 a w) {next : Act → World → Prop} (Q : Exit → Act → World → Prop)
    (K : ∀ S' α' ω' a' w', Evo S S' α α' → Rel S' α' ω' B w0 a' w' → k S' → next a' w') : o.wp E.P a w next Q := by
  unfold exOp1 at h
  unfold Oper.wp
  split at h
  · rename_i ho
    have hrun : (execOp a.eval o).run E.P w = .ok (.value (.map none)) w := by
      simp only [execOp, ho, Sem.run_bind, Sem.run_pure, Result.andThen_ok]
      rfl
    rw [hrun]
    show next (a.put o.dst (.map none)) w
    exact K _ α ω _ w (Evo.put S _ _ _) (r.put (v := .any) trivial o.dst fun h => absurd rfl h) h
  · rename_i t ho
    split at h
    · rename_i f hT
      obtain ⟨α', ω', q1, q2, q3⟩ := makeMap_ok (E := E) (t := t) (f := f) r o.dst
      have hrun : (execOp a.eval o).run E.P w = .ok (.value (.map (some w.heap.size))) (w.alloc (.map #[] 0)) := by
        simp only [execOp, ho, Option.map_none, Sem.run_bind, q1, Result.andThen_ok, Sem.run_pure]
      rw [hrun]
      show next (a.put o.dst (.map (some w.heap.size))) _
      exact K _ α' ω' _ _ q2 q3 h
    · cases h
  · rename_i t m x v ho
    split at h
    · rename_i S' hS
      obtain ⟨w', q1, q2, q3, q4, q5, q6⟩ := mapSet_ok EO r hS (ev_good r.t _) (ev_good r.t _) (ev_good r.t _)
      have hrun : (execOp a.eval o).run E.P w = .ok .skip w' := by
        simp only [execOp, ho, ev_den r.t q4, ev_den r.t q5, ev_den r.t q6, Sem.run_bind, q1, Result.andThen_ok, Sem.run_pure]
      rw [hrun]
      show next (a.put o.dst undef) w'
      exact K _ α ω _ w' (q2.trans (Evo.put S' _ _ _)) (q3.put (v := undefV) trivial o.dst fun _ => rfl) h
    · cases h
  · rename_i t m x v ho
    split at h
    · rename_i S' hS
      obtain ⟨w', q1, q2, q3, q4, q5, q6⟩ := mapSet_ok EO r hS (ev_good r.t _) (ev_good r.t _) (ev_good r.t _)
      have hrun : (execOp a.eval o).run E.P w = .ok .skip w' := by
        simp only [execOp, ho, ev_den r.t q4, ev_den r.t q5, ev_den r.t q6, Sem.run_bind, q1, Result.andThen_ok, Sem.run_pure]
      rw [hrun]
      show next (a.put o.dst undef) w'
      exact K _ α ω _ w' (q2.trans (Evo.put S' _ _ _)) (q3.put (v := undefV) trivial o.dst fun _ => rfl) h
    · cases h
  · rename_i t m x ok ho
    split at h
    · rename_i v hv
      obtain ⟨q1, q2, q3, q4⟩ := mapGet_ok EO r hv (ev_good r.t _) (ev_good r.t _)
      have hrun : (execOp a.eval o).run E.P w = .ok (.value (v.den α)) w := by
        simp only [execOp, ho, ev_den r.t q3, ev_den r.t q4, Sem.run_bind, q1, Result.andThen_ok, Sem.run_pure]
      rw [hrun]
      show next (a.put o.dst (v.den α)) w
      exact K _ α ω _ w (Evo.put S _ _ _) (r.put q2 o.dst fun _ => rfl) h
    · cases h
  · rename_i t x y ho
    split at h
    · rename_i S' hS
      obtain ⟨w', q1, q2, q3⟩ := store_ok r ho hS
      rw [q1]
      show next (a.put o.dst undef) w'
      exact K _ α ω _ w' (q2.trans (Evo.put S' _ _ _)) (q3.put (v := undefV) trivial o.dst fun _ => rfl) h
    · split at h
      · rename_i j res hS
        obtain ⟨w', q1, q2, q3⟩ := storeL_ok r ho hS
        rw [q1]
        show next (a.put o.dst undef) w'
        exact K _ α ω _ w' (q2.trans (Evo.put _ _ _ _)) (q3.put (v := undefV) trivial o.dst fun _ => rfl) h
      · split at h
        · rename_i S' hS
          obtain ⟨w', α', ω', q1, q2, q3⟩ := storeR_ok r ho hS
          rw [q1]
          show next (a.put o.dst undef) w'
          exact K _ α' ω' _ w' (q2.trans (Evo.put _ _ _ _)) (q3.put (v := undefV) trivial o.dst fun _ => rfl) h
        · cases h
  · rename_i as ts ho
    split at h
    · rename_i x y t t' has hts
      split at h
      · rename_i q hq
        obtain ⟨v, w', S', α', ω', q1, q2, q3, q4⟩ := app2_ok EO.els r ho has hts hq h
        rw [q1]
        exact K S' α' ω' _ w' q2 q3 q4
      · obtain ⟨v, w', S', α', ω', q1, q2, q3, q4⟩ := app_ok EO.els r ho has hts h
        rw [q1]
        exact K S' α' ω' _ w' q2 q3 q4
    · cases h
  · rename_i as ts ho
    split at h
    · rename_i x y t tr has hts
      obtain ⟨v, w', S', α', ω', q1, q2, q3, q4⟩ := copy_op r ho has hts h
      rw [q1]
      exact K S' α' ω' _ w' q2 q3 q4
    · cases h
  · rename_i as ts ho
    split at h
    · rename_i x t has hts
      obtain ⟨v, w', S', α', ω', q1, q2, q3, q4⟩ := clear_op EO.els r ho has hts h
      rw [q1]
      exact K S' α' ω' _ w' q2 q3 q4
    · cases h
  · rename_i fo as at' ho
    have direct : ∀ (f : FuncId) (cap : List (Nat × Nat)), S.ev fo = .w (.c (.fn f cap)) → (∀ v ∈ S.evs as.toList ++ cap.map (fun p => SV.w (.c (.ptr p.1 p.2))), v ≠ .any) → (∃ fn, E.P.funcs[f]? = some fn ∧ (fn.name == "runtime.NumGoroutine") = false ∧ fn.body.isNone = false) → (execOp a.eval o).run E.P w = .ok (.enter f ((S.evs as.toList ++ cap.map (fun p => SV.w (.c (.ptr p.1 p.2)))).map (SV.den α)).toArray) w := fun f cap hf f4 hfn => by
      obtain ⟨p1, p2⟩ := ev_c r.t hf
      obtain ⟨fn, f1, f2, f3⟩ := hfn
      have hargs : as.map a.eval ++ (cap.map fun p => Value.pointer (some ⟨α.blk p.1, p.2, none⟩)).toArray = ((S.evs as.toList ++ cap.map (fun p => SV.w (.c (.ptr p.1 p.2)))).map (SV.den α)).toArray := by
        apply Array.ext'
        have := evs_den r.t as.toList (fun v hv => f4 v (List.mem_append_left _ hv))
        simp only [Array.toList_append, Array.toList_map, List.map_append, this, List.map_map]
        rfl
      have f2' : ¬ (fn.name = "runtime.NumGoroutine") := by simpa using f2
      simp only [execOp, ho, resolve, p1, SC.den, Deferred.ofValue, Sem.run_bind, Sem.run_pure, Result.andThen_ok, invoke, callFunc, run_program, f1, f3]
      simp only [beq_iff_eq, f2', if_false, Bool.false_eq_true, Sem.run_pure]
      rw [← hargs]
      simp
    have byC : ∀ (f : FuncId) (cap : List (Nat × Nat)), S.ev fo = .w (.c (.fn f cap)) → callV E ih f (S.evs as.toList ++ cap.map fun p => .w (.c (.ptr p.1 p.2))) S (fun v S' => k (S'.put o.dst v)) → ∃ f args, (execOp a.eval o).run E.P w = .ok (.enter f args) w ∧ Calls E.P f args w fun e w' => ∃ v, e = .returned v ∧ next (a.put o.dst v) w' := fun f cap hf h => by
      obtain ⟨p1, p2⟩ := ev_c r.t hf
      have hg : ∀ v ∈ S.evs as.toList ++ cap.map (fun p => SV.w (.c (.ptr p.1 p.2))), v.good (· < S.nx) S.res := fun v hv => by
        rcases List.mem_append.1 hv with hv | hv
        · exact evs_good r.t _ v hv
        · obtain ⟨p, hp, rfl⟩ := List.mem_map.1 hv
          exact p2 p hp
      obtain ⟨q1, fn, f1, f2, f3, f4⟩ := callV_ok EO hih h r hg (Rr := fun e w' => ∃ v, e = .returned v ∧ next (a.put o.dst v) w') fun v S' α' ω' w' ev r' hv hn hk =>
        ⟨_, rfl, K _ α' ω' _ w' (ev.trans (Evo.put S' _ _ _)) (r'.put hv o.dst fun _ => rfl) hk⟩
      exact ⟨_, _, direct f cap hf f4 ⟨fn, f1, f2, f3⟩, q1⟩
    have fin : (∃ f args, (execOp a.eval o).run E.P w = .ok (.enter f args) w ∧ Calls E.P f args w fun e w' => ∃ v, e = .returned v ∧ next (a.put o.dst v) w') → o.upon E.P a next Q ((execOp a.eval o).run E.P w) := fun hh => by
      obtain ⟨f, args, q1, q2⟩ := hh
      rw [q1]
      show Calls _ _ _ _ _
      refine q2.mono fun e w' he => ?_
      obtain ⟨v, rfl, hn⟩ := he
      exact hn
    refine fin ?_
    split at h
    · rename_i f hf
      split at h
      · rename_i M hM
        split at h
        · rename_i fn pr S' hfn hS
          obtain ⟨hpr, h⟩ := h
          obtain ⟨q1, q2⟩ := mut_ok r (EO.muts _ (look_mem hM)) hS hpr
          have hd := direct f [] hf (fun v hv => q1 v (by simpa using hv)) ⟨fn, EO.fns _ (look_mem hfn)⟩
          refine ⟨f, _, hd, ?_⟩
          simp only [List.map_nil, List.append_nil]
          refine q2.mono fun e w' he => ?_
          obtain ⟨rfl, e2, e3⟩ := he
          exact ⟨_, rfl, K _ α ω _ w' (e2.trans (Evo.put _ _ _ _)) (e3.put (v := .tup []) (fun v hv => by cases hv) o.dst fun _ => rfl) h⟩
        · cases h
      · exact byC f [] hf (by simpa using h)
    · rename_i f cap hne hf
      exact byC f cap hf h
    · cases h
  · split at h
    · cases h
    · rename_i side v hv
      rw [sideAnd_iff] at h
      obtain ⟨q1, q2, q3⟩ := opv_val r.h r.t hv h.1
      rw [q1]
      show next (a.put o.dst (v.den α)) w
      exact K _ α ω _ w (Evo.put S _ _ _) (r.put q2 o.dst fun _ => rfl) h.2
    · rename_i side rs v hv
      rw [sideAnd_iff] at h
      obtain ⟨w', α', ω', q1, q2, q3, q4, q5⟩ := opv_new EO.els r.h r.t hv h.1 (fun i h1 _ h2 => by have : i < S.nx := h2; omega)
      rw [q1]
      obtain ⟨e1, r1⟩ := Rel.added r q2 q3 q4 o.dst (x := v.den α') (fun _ => rfl)
      exact K _ α' ω' _ w' e1 r1 h.2
theorem fewOf_ok {S : St} {x : Operand} {t : Nat} {k : IntKind} {i : SI} (h : fewOf S x = some (t, k, i)) : t < S.nt ∧ S.get t = .w (.c (.int k i)) := by
  unfold fewOf at h
  split at h
  · split at h
    · rename_i hlt hget
      split at h
      · cases h
      · split at h
        · cases h; exact ⟨by simpa [Nat.blt_eq] using hlt, hget⟩
        · cases h
    · cases h
  · cases h
theorem splitOn_ok {S : St} {op : Op} {t : Nat} {k : IntKind} {i : SI} (h : splitOn S op = some (t, k, i)) : t < S.nt ∧ S.get t = .w (.c (.int k i)) := by
  unfold splitOn at h
  split at h
  · exact fewOf_ok h
  · split at h
    · exact fewOf_ok h
    · exact fewOf_ok h
    · exact fewOf_ok h
    · cases h
  · split at h
    · exact fewOf_ok h
    · cases h
  · cases h
theorem allI_at {P : Int → Prop} : ∀ {n : Nat} {lo x : Int}, allI lo n P → lo ≤ x → x ≤ lo + n → P x
  | 0, lo, x, h, h1, h2 => by
    have : x = lo := by simp at h2; omega
    rw [this]; exact h
  | n + 1, lo, x, h, h1, h2 => by
    obtain ⟨h3, h4⟩ := h
    by_cases e : x = lo
    · rw [e]; exact h3
    · exact allI_at h4 (by omega) (by omega)
theorem exOp_ok {E : Env} (EO : EnvOk E) {ih : IH} (hih : IHok E ih) {o : Oper} {S : St} {k : St → Prop} {α : Al} {ω : Nat → Option Nat} {B : Nat} {w0 w : World} {a : Act}
    (h : exOp E ih o S k) (r : Rel S α ω B w0 a w) {next : Act → World → Prop} (Q : Exit → Act → World → Prop)
    (K : ∀ S' α' ω' a' w', Evo S S' α α' → Rel S' α' ω' B w0 a' w' → k S' → next a' w') : o.wp E.P a w next Q := by
  unfold exOp at h
  split at h
  · rename_i t kk i hs
    obtain ⟨hlt, hget⟩ := splitOn_ok hs
    have hg : i.ok := by have := r.t.good t hlt; rw [hget] at this; exact this
    have hn := allI_at h hg.1 (by have := hg.1; have := hg.2; omega) rfl
    exact exOp1_ok EO hih hn (r.learnI hget hlt rfl) Q fun S' α' ω' a' w' e r' h' => K S' α' ω' a' w' ((Evo.put S _ _ _).trans e) r' h'
  · exact exOp1_ok EO hih h r Q K
def wantB (g : Option (Nat × Bool)) (y : Nat → Option Bool) : Bool := match g with
  | none => true
  | some (j, want) => y j == some want
theorem wanted_eq (o : Oper) (y : Nat → Option Bool) : Region.wanted o y = wantB o.guard y := by
  unfold Region.wanted wantB
  cases o.guard <;> rfl
/-- A guard. -/
theorem guardV_ok {ops : List Oper} {S : St} {g : Option (Nat × Bool)} {k : St → Bool → Prop} {α : Al} {ω : Nat → Option Nat} {B : Nat} {w0 w : World} {a : Act} (h : guardV ops S g k) (r : Rel S α ω B w0 a w) :
    ∃ S' x, Evo S S' α α ∧ Rel S' α ω B w0 a w ∧ k S' x ∧ wantB g (yielded ops.toArray a.tmps) = x := by
  cases g with
  | none => exact ⟨S, true, Evo.refl _ _, r, h, rfl⟩
  | some p =>
    obtain ⟨j, want⟩ := p
    simp only [guardV] at h
    split at h
    · rename_i oj hj
      split at h
      · rename_i d hd
        have hy : ∀ v, a.tmps[d]? = some v → yielded ops.toArray a.tmps j = (match v with | .bool b => some b | _ => none) := fun v hv => by
          unfold yielded
          simp only [List.getElem?_toArray, hj, Option.bind_some, hd, hv]
          cases v <;> rfl
        split at h
        · rename_i b x hlt hget
          have hlt : d < S.nt := by simpa [Nat.blt_eq] using hlt
          have hb : b = x := by have := r.t.good d hlt; rw [hget] at this; exact this x rfl
          have := r.t.den d hlt (by rw [hget]; exact fun e => by cases e)
          rw [hget] at this
          refine ⟨S, _, Evo.refl _ _, r, h, ?_⟩
          simp only [wantB, hy _ this, SV.den, SW.den, SC.den]
          subst hb
          cases b <;> cases want <;> rfl
        · rename_i b hlt hget
          have hlt : d < S.nt := by simpa [Nat.blt_eq] using hlt
          have := r.t.den d hlt (by rw [hget]; exact fun e => by cases e)
          rw [hget] at this
          cases b with
          | true =>
            refine ⟨_, _, Evo.put S _ _ _, r.learn hget hlt (x := true) rfl, h.1 rfl, ?_⟩
            simp only [wantB, hy _ this, SV.den, SW.den, SC.den]
            cases want <;> rfl
          | false =>
            refine ⟨_, _, Evo.put S _ _ _, r.learn hget hlt (x := false) rfl, h.2 rfl, ?_⟩
            simp only [wantB, hy _ this, SV.den, SW.den, SC.den]
            cases want <;> rfl
        · rename_i hlt hget
          have hlt : d < S.nt := by simpa [Nat.blt_eq] using hlt
          have := r.t.den d hlt (by rw [hget]; exact fun e => by cases e)
          rw [hget] at this
          refine ⟨S, false, Evo.refl _ _, r, h, ?_⟩
          simp only [wantB, hy _ this, SV.den, SW.den, SC.den, undef]
          rfl
        · cases h
      · cases h
    · cases h
theorem exOps_okA {E : Env} (EO : EnvOk E) {ih : IH} (hih : IHok E ih) {ops : List Oper} {Q : Exit → Act → World → Prop} {B : Nat} {w0 : World} {t : List Oper} : ∀ (r : List Oper) (S : St) (k : St → Prop) (α : Al) (ω : Nat → Option Nat) (a : Act) (w : World),
    exOps E ih ops r S k → Rel S α ω B w0 a w → (∀ S' α' ω' a' w', Evo S S' α α' → Rel S' α' ω' B w0 a' w' → k S' → wpList E.P ops.toArray Q t a' w') → wpList E.P ops.toArray Q (r ++ t) a w
  | [], S, k, α, ω, a, w, h, r, K => K S α ω a w (Evo.refl _ _) r h
  | o :: rest, S, k, α, ω, a, w, h, r, K => by
    obtain ⟨S', x, e1, r1, h1, hx⟩ := guardV_ok (show guardV ops S o.guard _ from h) r
    have hw : Region.wanted o (yielded ops.toArray a.tmps) = x := (wanted_eq _ _).trans hx
    rw [List.cons_append]
    unfold wpList
    rw [hw]
    cases x with
    | true =>
      simp only [if_true]
      refine .inl (exOp_ok EO hih h1 r1 Q fun S'' α'' ω'' a'' w'' e2 r2 h2 => ?_)
      exact exOps_okA EO hih rest S'' k α'' ω'' a'' w'' h2 r2 fun S3 α3 ω3 a3 w3 e3 r3 h3 => K S3 α3 ω3 a3 w3 ((e1.trans e2).trans e3) r3 h3
    | false =>
      simp only [Bool.false_eq_true, if_false]
      refine exOps_okA EO hih rest _ k α ω _ w h1 (r1.put (v := undefV) trivial o.dst fun _ => rfl) fun S3 α3 ω3 a3 w3 e3 r3 h3 => K S3 α3 ω3 a3 w3 ((e1.trans (Evo.put S' _ _ _)).trans e3) r3 h3
theorem exOps_ok {E : Env} (EO : EnvOk E) {ih : IH} (hih : IHok E ih) {ops : List Oper} {Q : Exit → Act → World → Prop} {B : Nat} {w0 : World} (r : List Oper) (S : St) (k : St → Prop) (α : Al) (ω : Nat → Option Nat) (a : Act) (w : World)
    (h : exOps E ih ops r S k) (R : Rel S α ω B w0 a w) (K : ∀ S' α' ω' a' w', Evo S S' α α' → Rel S' α' ω' B w0 a' w' → k S' → Q .normal a' w') : wpList E.P ops.toArray Q r a w := by
  have := exOps_okA EO hih (Q := Q) (t := []) r S k α ω a w h R K
  rwa [List.append_nil] at this

/-! ### An append to a row, stored back -/
theorem appOf3_eq {o : Oper} {t t' : TypeId} {x y : Operand} {d : Nat} (h : appOf3 o = some (t, t', x, y, d)) : o.guard = none ∧ o.dst = some d ∧ ∃ as ts, o.op = .call { callee := .builtin .append, args := as, argTypes := ts } ∧ as.toList = [x, y] ∧ ts.toList = [t, t'] := by
  unfold appOf3 at h
  split at h
  · rename_i d' as ts h1 h2 h3
    split at h
    · rename_i x' y' u u' h4 h5
      cases h
      exact ⟨h1, h2, as, ts, h3, h4, h5⟩
    · cases h
  · cases h
theorem idxOf3_eq {o : Oper} {t : TypeId} {x i : Operand} {d : Nat} (h : idxOf3 o = some (t, x, i, d)) : o.guard = none ∧ o.dst = some d ∧ o.op = .indexAddr t x i := by
  unfold idxOf3 at h
  split at h
  · rename_i d' t' x' i' h1 h2 h3
    cases h
    exact ⟨h1, h2, h3⟩
  · cases h
theorem stoOf3_eq {o : Oper} {t : TypeId} {p q : Nat} (h : stoOf3 o = some (t, p, q)) : o.guard = none ∧ o.op = .store t (.tmp p) (.tmp q) := by
  unfold stoOf3 at h
  split at h
  · rename_i t' p' q' h1 h2
    cases h
    exact ⟨h1, h2⟩
  · cases h
theorem eval_put_ne {a : Act} {d : Nat} {v : Value} {x : Operand} (h : isTmp d x = false) : (a.put (some d) v).eval x = a.eval x := by
  cases x with
  | tmp t =>
    have hne : t ≠ d := fun e => by subst e; simp [isTmp] at h
    show (a.tmps.setIfInBounds d v).getD t undef = a.tmps.getD t undef
    simp only [Array.getD_eq_getD_getElem?]
    rw [Array.getElem?_setIfInBounds_ne (fun e => hne e.symm)]
  | const v => rfl
  | global g => rfl
  | func f => rfl
theorem eval_put_self {a : Act} {d : Nat} {v : Value} (h : d < a.tmps.size) : (a.put (some d) v).eval (.tmp d) = v := by
  show (a.tmps.setIfInBounds d v).getD d undef = v
  simp only [Array.getD_eq_getD_getElem?]
  rw [Array.getElem?_setIfInBounds_self_of_lt h]; rfl
/-- What is owned may change hands where nothing is lost. -/
theorem HRel.setOwnW {D : Nat → Prop} {R : Nat → Option Res} {α α' : Al} {ω ω' : Nat → Option Nat} {B : Nat} {w0 w w' : World} (H : HRel D R α ω B w0 w) {n : Nat} (ha : Agree D α α') (h1 : ∀ j, (α'.sv j).oneCell' = true) {j : Nat} {r' : Res} (hj : D j) (hb : Below B w w') (hs : w.heap.size ≤ w'.heap.size)
    (hw : ∀ b i, ω b = some i → i ≠ j → ω' b = some i ∧ w'.heap[b]? = w.heap[b]?) (ho : ∀ b i, ω' b = some i → B ≤ b ∧ b < w'.heap.size ∧ D i) (hr : RRel α' ω' B w' j r') (hk : Keep D R (fun i => if j = i then some r' else R i)) (hg : ∀ b, r' ≠ .box b) (hv : ∀ L, r' = .lists L → D L.ver ∨ L.ver = n) (hx : (∀ r, some r' = some r → ∀ v ∈ r.xrefs, D v ∨ v = n) := by exact xr_nil rfl) :
    HRel (fun i => D i ∨ i = n) (fun i => if j = i then some r' else R i) α' ω' B w0 w' := by
  refine ⟨H.bel.trans hb, Nat.le_trans H.base hs, fun b i hb' => by obtain ⟨q1, q2, q3⟩ := ho b i hb'; exact ⟨q1, q2, .inl q3⟩, fun i r hr => ?_, fun i L hL => ?_, fun i r hr => ?_, fun i b hb' => ?_, h1, xr_upd H.xr (fun _ h => .inl h) hx⟩
  · by_cases e : j = i
    · subst e; exact .inl hj
    · simp only [if_neg e] at hr; exact .inl (H.dec i r hr)
  · by_cases e : j = i
    · simp only [if_pos e] at hL; cases hL; exact hv L rfl
    · simp only [if_neg e] at hL; exact .inl (H.ver i L hL)
  · by_cases e : j = i
    · subst e
      simp only [if_true] at hr; cases hr
      assumption
    · simp only [if_neg e] at hr
      exact H.frameAt hr ha (fun b hb' => hw b i hb' (fun e' => e e'.symm)) (fun b hb' => by rw [hb.block b hb'])
  · by_cases e : j = i
    · simp only [if_pos e] at hb'; cases hb'; exact absurd rfl (hg b)
    · simp only [if_neg e] at hb'
      exact fun c hc => SC.good_mono (H.good i b hb' c hc) (fun _ h => .inl h) hk
theorem rowApp_ok {E : Env} (EO : EnvOk E) {S S' : St} {a b c : Oper} {side : Prop} (h : rowApp E S a b c = some (side, S')) (hs : side) {α : Al} {ω : Nat → Option Nat} {B : Nat} {w0 w : World} {act : Act} (r : Rel S α ω B w0 act w)
    {ops : Array Oper} {Q : Exit → Act → World → Prop} {t : List Oper} (K : ∀ α' ω' act' w', Evo S S' α α' → Rel S' α' ω' B w0 act' w' → wpList E.P ops Q t act' w') : wpList E.P ops Q (a :: b :: c :: t) act w := by
  unfold rowApp at h
  split at h
  · rename_i t1 t1' x y d1 t2 x2 i2 d2 t3 p q hA hB hC
    split at h
    · rename_i hcond
      split at h
      · rename_i v j i j2 kk n ex ex2 ei
        split at h
        · rename_i L e e2 hj hu hu2
          split at h
          · rename_i f sz sz3 m he hsz hsz3 hm
            split at h
            · rename_i hcc
              simp only [Option.some.injEq, Prod.mk.injEq] at h
              obtain ⟨hside, hS'⟩ := h
              subst hside
              obtain ⟨hni, hfitm⟩ := hs
              have hni : n.v = i := hni
              simp only [Bool.and_eq_true, Bool.not_eq_true', Nat.blt_eq] at hcond hcc
              obtain ⟨⟨⟨⟨⟨⟨⟨cp, cq⟩, cd⟩, cx2⟩, ci2⟩, ct⟩, l1⟩, l2⟩ := hcond
              obtain ⟨⟨⟨⟨⟨cf, cown⟩, cver⟩, cj⟩, csz⟩, csz3⟩ := hcc
              have cp := Nat.eq_of_beq_eq_true cp
              have cq := Nat.eq_of_beq_eq_true cq
              have ct := Nat.eq_of_beq_eq_true ct
              have cver := Nat.eq_of_beq_eq_true cver
              have cj := Nat.eq_of_beq_eq_true cj
              have csz := Nat.eq_of_beq_eq_true csz
              have csz3 := Nat.eq_of_beq_eq_true csz3
              have cd : d1 ≠ d2 := fun e => by subst e; simp at cd
              subst cp cq ct cj csz csz3 cver
              obtain ⟨gA, dA, as, ts, oA, has, hts⟩ := appOf3_eq hA
              obtain ⟨gB, dB, oB⟩ := idxOf3_eq hB
              obtain ⟨gC, oC⟩ := stoOf3_eq hC
              have cf := feq_eq cf
              subst cf
              -- what is there
              obtain ⟨p1, p2⟩ := ev_c r.t ex
              obtain ⟨p3, p4⟩ := ev_c r.t ex2
              obtain ⟨p5, p6⟩ := ev_c r.t ei
              obtain ⟨pv, pj, pL⟩ := p2
              obtain ⟨g2, g3⟩ := pL L hj rfl
              have hrow := row_den r.h hj g2 g3
              rw [hrow] at p1
              have hrel : LLRep w L.f L.ll (α.sv j) (α.rv L.ver) (mineOf ω B j L.own) L.own := r.h.rel j _ hj
              rw [cown] at hrel
              have m1 : ∀ b k, mineOf ω B k true b → ω b = some k := fun b k hm => by unfold mineOf at hm; simpa using hm
              have hold : L.ll[i.toNat]? = some (nthD L.ll i []) := nth_get g2 g3 []
              have d1r : LRep w L.f (nthD L.ll i []) (α.rv L.ver i.toNat) (mineOf ω B j true) true := hrel.1 _ _ hold
              have s1 := listOf_ok r.h hm (ev_good r.t y)
              have hy : S.ev y ≠ .any := fun e' => by rw [e'] at hm; cases hm
              obtain ⟨ti, z, hi, i1, i2', hz, i3⟩ := (EO.els (e, L.f) (look_mem he)).ok
              dsimp only at hi i1 i2' i3
              obtain ⟨base, sCap, e1, hdst⟩ := d1r.dst
              obtain ⟨xa, xc, e2', _, hsrc⟩ := s1.src
              have hfit : ((nthD L.ll i []).length + m.length) * L.f.bytes ≤ room := by
                have : (lapp (nthD L.ll i []) m).length * L.f.bytes ≤ 140737488355328 := hfitm
                rw [lapp, List.length_append] at this; exact this
              have hzs : z.cells.size = ti.size := by rw [i1, ← Array.length_toList, i3, vals_len]
              obtain ⟨v', w1, hrun, q1, q2, q3, q4, q5⟩ := raw_append (P := E.P) w t1 a.type e ti z hu hi hz hzs (by rw [i2']; exact bytes_pos L.f) base (nthD L.ll i []).length sCap ((nthD L.ll i []).flatMap L.f.vals) (by rw [i1]; exact flat_len (vals_len L.f) _)
                (by rcases hdst with h | ⟨g, cs, te, h1, _, h3, h4, h5, h6⟩
                    · exact .inl h
                    · exact .inr ⟨g, cs, te, h1, h3, by rw [i1]; exact h4, h5, h6⟩)
                xa m.length xc (m.flatMap L.f.vals) (by rw [i1]; exact flat_len (vals_len L.f) m) (by rcases hsrc with h | ⟨ad, h1, h2⟩; exact .inl h; exact .inr ⟨ad, h1, h2⟩) flat_one (by rw [i2']; exact hfit)
              have hrunA : (execOp act.eval a).run E.P w = .ok (.value v') w1 := append_run oA has hts (by rw [p1, ev_den r.t hy, e1, e2']; exact hrun)
              -- the outer list
              obtain ⟨obase, oCap, f1, hd⟩ := hrel.dst
              obtain ⟨g, cs, te, rfl, hmg, hg, hsz', hcap, hcs, hap⟩ := hd.resolve_left fun e => by have := e.1; omega
              have hmg' := m1 _ _ hmg
              have hB := (r.h.own _ _ hmg').1
              have hgl : g < w.heap.size := (r.h.own _ _ hmg').2.1
              have hil : i.toNat < L.ll.length := by omega
              -- the block of the row behind it
              have hrb : ∀ b, rowBlk v' = some b → (b = w.heap.size ∨ rowBlk (α.rv L.ver i.toNat) = some b) := by
                intro b hb
                rcases q5 with ⟨a1, a2, a3, a4⟩ | ⟨g', cap', cs', te', a1, a2, a3, a4, a5, a6, a7⟩
                · subst a3
                  rw [e1]
                  rcases hdst with ⟨_, h2⟩ | ⟨gg, _, _, h1, _⟩
                  · subst h2; unfold rowBlk at hb; cases base <;> simp at hb
                  · subst h1; unfold rowBlk at hb; simp at hb
                · subst a1
                  have hb' : b = g' := by
                    unfold rowBlk at hb; dsimp only at hb
                    split at hb
                    · cases hb
                    · cases hb; rfl
                  subst hb'
                  rcases a7 with ⟨h1, _, h3⟩ | h1
                  · right
                    rw [e1, h1]
                    unfold rowBlk; dsimp only
                    rw [if_neg]
                    rcases hdst with h4 | ⟨_, _, _, _, _, _, _, h8, _⟩
                    · exact absurd h4 h3
                    · intro e0; exact h3 ⟨by omega, e0⟩
                  · exact .inl h1
              have oldrow : ∀ k b, k < L.ll.length → rowBlk (α.rv L.ver k) = some b → ω b = some j ∧ b ≠ g ∧ b < w.heap.size := fun k b hk hb => by
                have := (hrel.1 k _ (List.getElem?_eq_getElem hk)).rowBlk hb
                exact ⟨m1 _ _ this.1, (hap k b hk hb).1, this.2⟩
              -- what is not the row's block is as it was
              have fr1 : ∀ b, b < w.heap.size → rowBlk (α.rv L.ver i.toNat) ≠ some b → w1.heap[b]? = w.heap[b]? := fun b hb hne => by
                rcases q5 with ⟨_, _, _, a4⟩ | ⟨g', cap', cs', te', a1, a2, a3, a4, a5, a6, a7⟩
                · rw [a4]
                · refine a6 b hb fun e0 => ?_
                  subst e0
                  rcases a7 with ⟨h1, h2, h3⟩ | h1
                  · apply hne
                    rw [e1, h1]
                    unfold rowBlk; dsimp only
                    rw [if_neg]
                    rcases hdst with h4 | ⟨_, _, _, _, _, _, _, h8, _⟩
                    · exact absurd h4 h3
                    · intro e0; exact h3 ⟨by omega, e0⟩
                  · omega
              have hgrow : rowBlk (α.rv L.ver i.toNat) ≠ some g := fun e0 => (hap _ _ hil e0).1 rfl
              have hg1 : w1.heap[g]? = some (.cells cs te (0, 0)) := by rw [fr1 g hgl hgrow]; exact hg
              have hvone : v'.oneCell' = true := by
                rcases q5 with ⟨_, _, a3, _⟩ | ⟨g', cap', cs', te', a1, _⟩
                · rw [a3]; rfl
                · rw [a1]; rfl
              obtain ⟨w2, s1', s2, s3, s4, s5, s6, s7⟩ := write_cells (P := E.P) hg1 (o := i.toNat) (vs := [v']) (by simp; omega) (fun u hu => by rw [List.mem_singleton.1 hu]; exact hvone)
              -- the three runs
              have ad1 : (act.put a.dst v').eval x2 = α.sv j := by rw [dA, eval_put_ne cx2, p3]; rfl
              have ad2 : (act.put a.dst v').eval i2 = .int kk i := by rw [dA, eval_put_ne ci2, p5, ← hni]; rfl
              have hrunB : (execOp (act.put a.dst v').eval b).run E.P w1 = .ok (.value (.pointer (some ⟨g, i.toNat, none⟩))) w1 := by
                simp only [execOp, oB, ad1, ad2, f1, Instr.indexAt, asIntOf, Sem.run_bind, Sem.run_pure, Result.andThen_ok, und_run hu2]
                rw [if_pos ⟨g2, g3⟩]
                simp only [Sem.run_bind, size_run hsz, Result.andThen_ok, Sem.run_pure, Addr.add_mid, Nat.zero_add, Nat.mul_one]
              have hsize : act.tmps.size = S.nt := r.t.size
              have ad3 : ((act.put a.dst v').put b.dst (.pointer (some ⟨g, i.toNat, none⟩))).eval (.tmp p) = .pointer (some ⟨g, i.toNat, none⟩) := by
                rw [dA, dB]
                exact eval_put_self (by show p < (act.tmps.setIfInBounds q v').size; simp; omega)
              have ad4 : ((act.put a.dst v').put b.dst (.pointer (some ⟨g, i.toNat, none⟩))).eval (.tmp q) = v' := by
                rw [dA, dB, eval_put_ne (by show Nat.beq q p = false; cases e0 : Nat.beq q p; rfl; exact absurd (Nat.eq_of_beq_eq_true e0) cd)]
                exact eval_put_self (by omega)
              have hcells : v'.cells = #[v'] := by
                cases e0 : v' <;> first | rfl | (rw [e0] at hvone; cases hvone)
              have hrunC : (execOp ((act.put a.dst v').put b.dst (.pointer (some ⟨g, i.toNat, none⟩))).eval c).run E.P w1 = .ok .skip w2 := by
                simp only [execOp, oC, ad3, ad4, Instr.storeAt, Instr.sureAddr, Sem.run_bind, Sem.run_pure, Result.andThen_ok, storeVar, size_run hsz3]
                rw [hcells, if_neg (by simp)]
                simp only [Result.andThen_ok, s1']
              -- the state behind
              let ω2 : Nat → Option Nat := ownN ω B j w2.heap.size fun _ => True
              have own2 : ∀ b, ω b = some j → ω2 b = some j := fun b hb => ownN_old hb
              have mk : ∀ b, ω2 b = some j → mineOf ω2 B j true b := fun b hb => by unfold mineOf; simpa using hb
              let rv' : Nat → Value := fun k => if k = i.toNat then v' else α.rv L.ver k
              have rvi : rv' i.toNat = v' := if_pos rfl
              have rvk : ∀ k, k ≠ i.toNat → rv' k = α.rv L.ver k := fun k hk => if_neg hk
              have hn : ¬ S.nx < S.nx := Nat.lt_irrefl _
              have ha := agree_setS (D := (· < S.nx)) α S.nx (.slice none 0 0) rv' hn
              have hlen : (lset L.ll i (lapp (nthD L.ll i []) m)).length = L.ll.length := lset_len _ _ _
              have hw2 : w2.heap.size = w1.heap.size := s3
              have hnew : ∀ b, rowBlk v' = some b → ω2 b = some j := fun b hb => by
                rcases hrb b hb with h0 | h0
                · refine ownN_new trivial ?_ ?_ ?_
                  · rw [h0]; exact below_none r.h
                  · rw [h0]; exact r.h.base
                  · rcases q5 with ⟨a1, a2, a3, a4⟩ | ⟨g', cap', cs', te', a1, a2, a3, a4, a5, a6, a7⟩
                    · subst a3
                      exfalso
                      unfold rowBlk at hb
                      rcases hdst with ⟨_, h2⟩ | ⟨gg, _, _, h1, _⟩
                      · cases base <;> simp at hb
                      · subst h1; simp at hb
                    · subst a1
                      have : b = g' := by
                        unfold rowBlk at hb; dsimp only at hb
                        split at hb
                        · cases hb
                        · cases hb; rfl
                      rw [this, hw2]
                      exact (Array.getElem?_eq_some_iff.1 a3).1
                · exact own2 _ (oldrow _ _ hil h0).1
              have hbl : Below B w w2 := ⟨⟨by rw [s5, q1], by rw [s6, q2], by rw [s7.out, q3.out], by omega, fun k hk => by
                have hkl : k < w.heap.size := Nat.lt_of_lt_of_le hk r.h.base
                rw [s4 k (by omega), fr1 k hkl fun e0 => by have := (r.h.own _ _ (oldrow _ _ hil e0).1).1; omega]⟩, Nat.le_trans q3.drawn s7.drawn⟩
              have hokv : ∀ x ∈ lapp (nthD L.ll i []) m, L.f.okv x := fun x hx => by
                rcases List.mem_append.1 hx with hx | hx
                · exact d1r.1 x hx
                · exact s1.1 x hx
              have hrow2 : LRep w2 L.f (lapp (nthD L.ll i []) m) v' (mineOf ω2 B j true) true := by
                rcases q5 with ⟨a1, a2, a3, a4⟩ | ⟨g', cap', cs', te', a1, a2, a3, a4, a5, a6, a7⟩
                · have hnil : lapp (nthD L.ll i []) m = [] := by
                    rw [lapp, List.eq_nil_of_length_eq_zero a1, List.eq_nil_of_length_eq_zero a2]; rfl
                  exact ⟨hokv, hfitm, .inl ⟨_, 0, a3, hnil, fun _ => rfl⟩⟩
                · have hne : g' ≠ g := fun e0 => by
                    rcases a7 with ⟨h1, h2, h3⟩ | h1
                    · apply hgrow
                      rw [e1, h1, e0]
                      unfold rowBlk; dsimp only
                      rw [if_neg]
                      rcases hdst with h4 | ⟨_, _, _, _, _, _, _, h8, _⟩
                      · exact absurd h4 h3
                      · intro e0; exact h3 ⟨by omega, e0⟩
                    · omega
                  by_cases hc0 : cap' = 0
                  · have hnil : lapp (nthD L.ll i []) m = [] := List.eq_nil_of_length_eq_zero (by rw [lapp, List.length_append]; omega)
                    refine ⟨hokv, hfitm, .inl ⟨_, cap', by rw [a1]; congr 1; omega, hnil, fun _ => hc0⟩⟩
                  · have := LRep.of (w := w2) (f := L.f) (l := lapp (nthD L.ll i []) m) (m := mineOf ω2 B j true) hokv hfitm (by rw [s4 g' hne]; exact a3) (mk _ (hnew _ (by rw [a1]; unfold rowBlk; dsimp only; rw [if_neg hc0]))) (by rw [lapp, List.length_append]; exact a2) (by rw [a4, i1]) (fun k u hk => a5 k u (by rw [lapp, List.flatMap_append] at hk; exact hk))
                    rw [a1]
                    rw [lapp, List.length_append] at this
                    exact this
              have hcell : ∀ k, k < L.ll.length → (cs.toList.take i.toNat ++ [v'] ++ cs.toList.drop (i.toNat + [v'].length)).toArray[k]? = some (rv' k) := fun k hk => by
                rw [List.getElem?_toArray, splice_get (by simp; omega)]
                by_cases h1 : k < i.toNat
                · rw [if_pos h1, rvk k (by omega)]; have := hcs k hk; simpa using this
                · rw [if_neg h1]
                  by_cases h2 : k = i.toNat
                  · subst h2; rw [if_pos (by simp), rvi]; simp
                  · rw [if_neg (by simp; omega), rvk k h2]; have := hcs k hk; simpa using this
              have hcsl : cs.toList.length = cs.size := Array.length_toList
              have hrep : LLRep w2 L.f (lset L.ll i (lapp (nthD L.ll i []) m)) (α.sv j) rv' (mineOf ω2 B j true) true := by
                refine ⟨fun k l hl => ?_, by rw [hlen]; exact hrel.2.1, .inr ⟨g, 0, oCap, _, te, (0, 0), by rw [hlen]; exact f1, by rw [hlen]; exact hcap, s2, mk _ (own2 _ hmg'), fun k hk => by rw [Nat.zero_add]; exact hcell k (by rw [hlen] at hk; exact hk), fun _ => ⟨rfl, rfl, ?_, fun k b hk hb => ?_⟩⟩⟩
                · unfold lset at hl
                  rw [List.getElem?_set] at hl
                  by_cases e0 : i.toNat = k
                  · rw [if_pos e0, if_pos hil] at hl
                    have hl := Option.some.inj hl
                    rw [← hl, ← e0, rvi]; exact hrow2
                  · rw [if_neg e0] at hl
                    have hk := (List.getElem?_eq_some_iff.1 hl).1
                    rw [rvk k (fun e' => e0 e'.symm)]
                    refine (hrel.1 k l hl).frame1 fun b hb => ?_
                    obtain ⟨o1, o2, o3⟩ := oldrow k b hk hb
                    exact ⟨by rw [s4 b o2, fr1 b o3 fun e' => e0 ((hap _ _ hil e').2 k hk hb)], mk _ (own2 b o1)⟩
                · rw [List.size_toArray]; simp only [List.length_append, List.length_take, List.length_drop, List.length_cons, List.length_nil, hcsl]; omega
                · rw [hlen] at hk
                  by_cases e0 : k = i.toNat
                  · subst e0
                    rw [rvi] at hb
                    refine ⟨fun e' => ?_, fun k' hk' hb' => ?_⟩
                    · rcases hrb b hb with h0 | h0
                      · omega
                      · exact (oldrow _ _ hil h0).2.1 e'
                    · by_cases e' : k' = i.toNat
                      · exact e'.symm
                      · rw [hlen] at hk'
                        rw [rvk k' e'] at hb'
                        obtain ⟨o1, o2, o3⟩ := oldrow k' b hk' hb'
                        rcases hrb b hb with h0 | h0
                        · omega
                        · exact (hap _ _ hil h0).2 k' hk' hb'
                  · rw [rvk k e0] at hb
                    obtain ⟨o1, o2, o3⟩ := oldrow k b hk hb
                    refine ⟨o2, fun k' hk' hb' => ?_⟩
                    rw [hlen] at hk'
                    by_cases e' : k' = i.toNat
                    · subst e'
                      rw [rvi] at hb'
                      rcases hrb b hb' with h0 | h0
                      · omega
                      · exact (hap _ _ hk hb).2 _ hil h0
                    · rw [rvk k' e'] at hb'
                      exact (hap k b hk hb).2 k' hk' hb'
              have hk1 : ∀ D : Nat → Prop, ¬ D S.nx → Keep D S.res (fun i' => if j = i' then some (.lists ⟨L.f, lset L.ll i (lapp (nthD L.ll i []) m), S.nx, true⟩) else S.res i') := fun D hD =>
                Keep.updLL hj rfl hlen.symm fun h => absurd h hD
              have hk := hk1 (· < S.nx) hn
              have svj : (α.setS S.nx (.slice none 0 0) rv').sv j = α.sv j := ((ha j pj).2.1).symm
              have HS := r.h.setOwnW (n := S.nx) (ω' := ω2) ha (setS_one r.h.one rfl) pj (r' := .lists ⟨L.f, lset L.ll i (lapp (nthD L.ll i []) m), S.nx, true⟩) hbl (by omega)
                (fun b i' hb' hne => ⟨ownN_old hb', by
                  have o3 := (r.h.own _ _ hb').2.1
                  have hbg : b ≠ g := fun e0 => hne (by rw [e0, hmg'] at hb'; cases hb'; rfl)
                  rw [s4 b hbg, fr1 b o3 fun e0 => hne (by rw [(oldrow _ _ hil e0).1] at hb'; cases hb'; rfl)]⟩)
                (fun b i' hb' => by
                  rcases ownN_inv hb' with ⟨h1, _, _, h2, h3⟩ | h1
                  · rw [h1]; exact ⟨h2, h3, pj⟩
                  · obtain ⟨z1, z2, z3⟩ := r.h.own _ _ h1
                    exact ⟨z1, by omega, z3⟩)
                (by
                  show LLRep w2 L.f _ ((α.setS S.nx (.slice none 0 0) rv').sv j) ((α.setS S.nx (.slice none 0 0) rv').rv S.nx) _ true
                  rw [svj, setS_rv]; exact hrep) hk (fun b e => by cases e) (fun L e => by cases e; exact .inr rfl)
              have hD : (fun i' => i' < S.nx ∨ i' = S.nx) = (· < S.nx + 1) := by funext i'; apply propext; omega
              rw [hD] at HS
              let S1 : St := { S.set j (some (.lists ⟨L.f, lset L.ll i (lapp (nthD L.ll i []) m), S.nx, true⟩)) with nx := S.nx + 1 }
              have hres : S1.res = fun i' => if j = i' then some (.lists ⟨L.f, lset L.ll i (lapp (nthD L.ll i []) m), S.nx, true⟩) else S.res i' := res_set S j _
              have r1 : Rel S1 (α.setS S.nx (.slice none 0 0) rv') ω2 B w0 act w2 := by
                refine ⟨?_, ?_, r.d⟩
                · rw [hres]; exact HS
                · rw [hres]; exact r.t.mono (fun i h => Nat.lt_succ_of_lt h) hk ha
              have ev1 : Evo S S1 α (α.setS S.nx (.slice none 0 0) rv') := ⟨Nat.le_succ _, ha, by rw [hres]; exact hk, rfl, ⟨rfl, rfl, ⟨[], rfl⟩, ⟨[(j, _)], rfl⟩⟩⟩
              have r2 := (((r1.put (v := .any) trivial (some q) (x := v') (fun e => absurd rfl e)).put (v := .any) trivial (some p) (x := .pointer (some ⟨g, i.toNat, none⟩)) (fun e => absurd rfl e)).put (v := undefV) trivial c.dst (x := undef) fun _ => rfl)
              have ev2 := ((ev1.trans (Evo.put _ (some q) .any _)).trans (Evo.put _ (some p) .any _)).trans (Evo.put _ c.dst undefV _)
              have wn : ∀ (o : Oper) (tm : Array Value), o.guard = none → Region.wanted o (yielded ops tm) = true := fun o tm ho => by rw [wanted_eq, ho]; rfl
              unfold wpList
              rw [wn a _ gA, if_pos rfl]
              refine .inl ?_
              unfold Oper.wp
              rw [hrunA]
              show wpList E.P ops Q (b :: c :: t) (act.put a.dst v') w1
              unfold wpList
              rw [wn b _ gB, if_pos rfl]
              refine .inl ?_
              unfold Oper.wp
              rw [hrunB]
              show wpList E.P ops Q (c :: t) ((act.put a.dst v').put b.dst (.pointer (some ⟨g, i.toNat, none⟩))) w1
              unfold wpList
              rw [wn c _ gC, if_pos rfl]
              refine .inl ?_
              unfold Oper.wp
              rw [hrunC]
              show wpList E.P ops Q t (((act.put a.dst v').put b.dst (.pointer (some ⟨g, i.toNat, none⟩))).put c.dst undef) w2
              rw [dA, dB]
              subst hS'
              exact K _ ω2 _ w2 ev2 r2
            · cases h
          · cases h
        · cases h
      · cases h
    · cases h
  · cases h

end Go.Fx
end
section
namespace Go.Fx
open Go RowKit

/-- A set of places that holds whom its members wait for. -/
def Closed (ops : List Oper) (D : Nat → Prop) : Prop := ∀ i o, ops[i]? = some o → D i → ∀ e ∈ o.after.toList, Region.binds .any e = true → D e.on
theorem befOne_bit {acc : List Nat} {D : Nat → Prop} {j : Nat} (hacc : ∀ i, D i → ∀ j, Nat.testBit (acc.getD i 0) j = true → D j) : ∀ (l : List Edge), (∀ e ∈ l, Region.binds .any e = true → D e.on) → Nat.testBit (befOne acc l) j = true → D j
  | [], _, h => by simp [befOne] at h
  | e :: r, hl, h => by
    unfold befOne at h
    split at h
    · rename_i hb
      rw [Nat.testBit_or, Nat.testBit_or, Bool.or_eq_true, Bool.or_eq_true] at h
      rcases h with h | h | h
      · exact befOne_bit hacc r (fun e he => hl e (List.mem_cons_of_mem _ he)) h
      · rw [Nat.testBit_two_pow] at h
        have : e.on = j := by simpa using h
        exact this ▸ hl e (List.mem_cons_self ..) hb
      · exact hacc _ (hl e (List.mem_cons_self ..) hb) j h
    · exact befOne_bit hacc r (fun e he => hl e (List.mem_cons_of_mem _ he)) h
theorem befs_bit {ops : List Oper} {D : Nat → Prop} (hD : Closed ops D) : ∀ (r : List Oper) (acc : List Nat), (∀ k, r[k]? = ops[acc.length + k]?) → (∀ i, D i → ∀ j, Nat.testBit (acc.getD i 0) j = true → D j) →
    ∀ i, D i → ∀ j, Nat.testBit ((befs r acc).getD i 0) j = true → D j
  | [], acc, _, hacc => hacc
  | o :: r, acc, hr, hacc => by
    refine befs_bit hD r _ (fun k => ?_) fun i hi j hj => ?_
    · have := hr (k + 1)
      simp only [List.getElem?_cons_succ] at this
      rw [this, List.length_append, List.length_singleton, show acc.length + (k + 1) = acc.length + 1 + k by omega]
    · have ho : ops[acc.length]? = some o := by have := hr 0; simpa using this.symm
      rw [List.getD_eq_getElem?_getD] at hj
      by_cases h1 : i < acc.length
      · rw [List.getElem?_append_left h1, ← List.getD_eq_getElem?_getD] at hj
        exact hacc i hi j hj
      · by_cases h2 : i = acc.length
        · subst h2
          simp only [List.getElem?_append_right (Nat.le_refl _), Nat.sub_self, List.getElem?_cons_zero, Option.getD_some] at hj
          exact befOne_bit hacc _ (hD _ o ho hi) hj
        · rw [List.getElem?_eq_none (by simp; omega)] at hj
          simp at hj
theorem waits_in {ops : List Oper} {D : Nat → Prop} (hD : Closed ops D) {i j : Nat} (hi : D i) (h : waitsM (befs ops []) i j = true) : D j :=
  befs_bit hD ops [] (fun k => by simp) (fun i _ j hj => by simp at hj) i hi j h

theorem mem_ready {ops : List Oper} {listed : Array Bool} {i : Nat} (h : i ∈ Region.ready .any ops.toArray listed) :
    i < ops.length ∧ listed.getD i true = false ∧ ∃ o, ops[i]? = some o ∧ ∀ e ∈ o.after.toList, Region.binds .any e = true → listed.getD e.on false = true := by
  unfold Region.ready at h
  rw [List.mem_filter, List.mem_range] at h
  obtain ⟨h1, h2⟩ := h
  have h1 : i < ops.length := by simpa using h1
  rw [Bool.and_eq_true] at h2
  obtain ⟨h2, h3⟩ := h2
  have ho : ops.toArray[i]? = some ops[i] := by simp [h1]
  rw [ho] at h3
  simp only [Option.map_some, Option.getD_some, Array.all_eq_true'] at h3
  refine ⟨h1, by simpa using h2, ops[i], by simp [h1], fun e he hb => ?_⟩
  have := h3 e (Array.mem_toList_iff.1 he)
  simpa [hb] using this
theorem ready_mem {ops : List Oper} {listed : Array Bool} {i : Nat} {o : Oper} (ho : ops[i]? = some o) (hl : listed.getD i true = false) (he : ∀ e ∈ o.after.toList, Region.binds .any e = true → listed.getD e.on false = true) :
    i ∈ Region.ready .any ops.toArray listed := by
  have hi : i < ops.length := (List.getElem?_eq_some_iff.1 ho).1
  unfold Region.ready
  rw [List.mem_filter, List.mem_range]
  refine ⟨by simpa using hi, ?_⟩
  have ho' : ops.toArray[i]? = some o := by simpa using ho
  rw [hl, ho']
  simp only [Option.map_some, Option.getD_some, Bool.not_false, Bool.true_and, Array.all_eq_true']
  intro e hm
  have := he e (Array.mem_toList_iff.2 hm)
  cases hb : Region.binds .any e with
  | false => rfl
  | true => simp [this hb]
theorem edgesLt_iff {i : Nat} : ∀ {l : List Edge}, edgesLt i l = true → ∀ e ∈ l, Region.binds .any e = true → e.on < i
  | [], _, e, he, _ => by cases he
  | x :: r, h, e, he, hb => by
    unfold edgesLt at h
    rw [Bool.and_eq_true] at h
    rcases List.mem_cons.1 he with rfl | he
    · have := h.1
      rw [hb] at this
      simpa [Nat.blt_eq] using this
    · exact edgesLt_iff h.2 e he hb
theorem allEdges_iff : ∀ {l : List Oper} {n : Nat}, allEdges l n = true → ∀ i o, l[i]? = some o → ∀ e ∈ o.after.toList, Region.binds .any e = true → e.on < n + i
  | [], n, _, i, o, ho, _, _, _ => by cases ho
  | x :: r, n, h, i, o, ho, e, he, hb => by
    unfold allEdges at h
    rw [Bool.and_eq_true] at h
    cases i with
    | zero => cases ho; exact edgesLt_iff h.1 e he hb
    | succ i => have := allEdges_iff h.2 i o (by simpa using ho) e he hb; omega

/-! ### How many are left -/
def unl (l : Array Bool) : Nat → Nat
  | 0 => 0
  | k + 1 => unl l k + (if l.getD k true then 0 else 1)
theorem unl_succ (l : Array Bool) (k : Nat) : unl l (k + 1) = unl l k + (if l.getD k true then 0 else 1) := rfl
theorem unl_zero {l : Array Bool} : ∀ {k : Nat}, unl l k = 0 → ∀ i, i < k → l.getD i true = true
  | 0, _, i, hi => by omega
  | k + 1, h, i, hi => by
    rw [unl_succ] at h
    by_cases e : i = k
    · subst e
      cases hb : l.getD i true with
      | true => rfl
      | false => rw [hb] at h; simp at h
    · exact unl_zero (k := k) (by omega) i (by omega)
theorem unl_le (l : Array Bool) : ∀ k, unl l k ≤ k
  | 0 => Nat.le_refl _
  | k + 1 => by have := unl_le l k; rw [unl_succ]; split <;> omega
theorem getD_set (l : Array Bool) (i j : Nat) (b : Bool) (d : Bool) (hi : i < l.size) : (l.setIfInBounds i b).getD j d = if i = j then b else l.getD j d := by
  simp only [Array.getD_eq_getD_getElem?, Array.getElem?_setIfInBounds]
  by_cases e : i = j
  · subst e; simp [hi]
  · simp [e]
theorem unl_set {l : Array Bool} {i : Nat} (hi : i < l.size) (hl : l.getD i true = false) : ∀ k, unl (l.setIfInBounds i true) k + (if i < k then 1 else 0) = unl l k
  | 0 => rfl
  | k + 1 => by
    have ih := unl_set hi hl k
    rw [unl_succ, unl_succ, getD_set l i k true true hi]
    by_cases e : i = k
    · subst e
      rw [if_neg (Nat.lt_irrefl _)] at ih
      rw [if_pos rfl, if_pos rfl, if_pos (Nat.lt_succ_self _), hl, if_neg (by decide)]
      omega
    · rw [if_neg e]
      by_cases h : i < k
      · rw [if_pos h] at ih; rw [if_pos (show i < k + 1 by omega)]; omega
      · rw [if_neg h] at ih; rw [if_neg (show ¬ i < k + 1 by omega)]; omega
/-- When nothing is ready, all is listed. -/
theorem ready_nil {ops : List Oper} (hE : allEdges ops 0 = true) {listed : Array Bool} (hsz : listed.size = ops.length) (h : Region.ready .any ops.toArray listed = []) : ∀ i, i < ops.length → listed.getD i true = true := by
  intro i
  induction i using Nat.strongRecOn with
  | _ i ih =>
    intro hi
    cases hl : listed.getD i true with
    | true => rfl
    | false =>
      exfalso
      have := ready_mem (ops := ops) (o := ops[i]) (by simp [hi]) hl fun e he hb => by
        have h1 := allEdges_iff hE i ops[i] (by simp [hi]) e he hb
        have h2 := ih e.on (by omega) (by omega)
        rw [Array.getD_eq_getD_getElem?] at h2 ⊢
        have : e.on < listed.size := by omega
        rw [Array.getElem?_eq_getElem this] at h2 ⊢
        exact h2
      rw [h] at this
      cases this
theorem ready_all {ops : List Oper} {listed : Array Bool} (h : ∀ i, i < ops.length → listed.getD i true = true) : Region.ready .any ops.toArray listed = [] := by
  cases e : Region.ready .any ops.toArray listed with
  | nil => rfl
  | cons i r =>
    have hm : i ∈ Region.ready .any ops.toArray listed := by rw [e]; exact List.mem_cons_self ..
    obtain ⟨h1, h2, _⟩ := mem_ready hm
    rw [h i h1] at h2
    cases h2
end Go.Fx
end
section
namespace Go.Fx
open Go RowKit

/-- Values that name boxes and lists of D alone. -/
abbrev SV.inn (v : SV) (D : Nat → Prop) : Prop := v.good D fun _ => none
section
variable {E : Env} {S1 S2 : St} {D : Nat → Prop} (hres : ∀ i, D i → S1.res i = S2.res i)
theorem loadV_congr (hres : ∀ i, D i → S1.res i = S2.res i) {t : TypeId} {v : SV} (hv : v.inn D) : loadV E S1 t v = loadV E S2 t v := by
  cases v with
  | w x =>
    cases x with
    | c y =>
      cases y with
      | ptr b off => simp only [loadV, hres b hv]
      | lptr j n i c => simp only [loadV, hres j hv.1]
      | rptr j i => simp only [loadV, hres j hv.1]
      | eptr v j n i k => simp only [loadV, hres j hv.2.1]
      | _ => rfl
    | agg _ => rfl
  | _ => rfl
theorem isList_congr (hres : ∀ i, D i → S1.res i = S2.res i) {j : Nat} (hj : D j) : isList S1 j = isList S2 j := by
  simp only [isList, hres j hj]
theorem indexAddrV_congr (hres : ∀ i, D i → S1.res i = S2.res i) {t : TypeId} {v ix : SV} (hv : v.inn D) : indexAddrV E S1 t v ix = indexAddrV E S2 t v ix := by
  have key : ∀ j, v = .w (.c (.sl j)) → S1.res j = S2.res j := fun j e => by subst e; exact hres j hv
  have key2 : ∀ j n lo len, v = .w (.c (.vw j n lo len)) → S1.res j = S2.res j := fun j n lo len e => by subst e; exact hres j hv.1
  have key3 : ∀ u j i, v = .w (.c (.row u j i)) → S1.res j = S2.res j := fun u j i e => by subst e; exact hres j hv.2.1
  unfold indexAddrV
  cases ix with
  | w x =>
    cases x with
    | c y =>
      cases y with
      | int k i =>
        dsimp only
        cases E.P.underlying t with
        | none => rfl
        | some d =>
          cases d <;> try rfl
          all_goals
            cases v with
            | w x =>
              cases x with
              | c y => cases y <;> first | rfl | (dsimp only; rw [key _ rfl]) | (dsimp only; rw [key2 _ _ _ _ rfl]) | (dsimp only; rw [key3 _ _ _ rfl])
              | agg _ => rfl
            | _ => rfl
      | _ => rfl
    | agg _ => rfl
  | _ => rfl
theorem fieldAddrV_congr (hres : ∀ i, D i → S1.res i = S2.res i) {t : TypeId} {v : SV} {f : Nat} (hv : v.inn D) : fieldAddrV E S1 t v f = fieldAddrV E S2 t v f := by
  have key : ∀ j n i c, v = .w (.c (.lptr j n i c)) → isList S1 j = isList S2 j := fun j n i c e => by subst e; exact isList_congr hres hv.1
  unfold fieldAddrV
  cases E.P.underlying t with
  | none => rfl
  | some d =>
    cases d <;> try rfl
    rename_i fs
    dsimp only
    cases fs.toList[f]? with
    | none => rfl
    | some fd =>
      dsimp only
      cases E.size fd.type with
      | none => rfl
      | some n =>
        cases n with
        | zero => rfl
        | succ n =>
          cases v with
          | w x =>
            cases x with
            | c y => cases y <;> first | rfl | (dsimp only; rw [key _ _ _ _ rfl])
            | agg _ => rfl
          | _ => rfl
theorem arrIdxV_congr (hres : ∀ i, D i → S1.res i = S2.res i) {t : TypeId} {v ix : SV} (hv : v.inn D) : arrIdxV E S1 t v ix = arrIdxV E S2 t v ix := by
  unfold arrIdxV
  cases v with
  | w x =>
    cases x with
    | c y =>
      cases y with
      | lptr j n i c =>
        have key : isList S1 j = isList S2 j := isList_congr hres hv.1
        cases ix with
        | w x =>
          cases x with
          | c y =>
            cases y with
            | int k i =>
              dsimp only
              rw [key]
            | _ => rfl
          | agg _ => rfl
        | _ => rfl
      | _ => rfl
    | agg _ => rfl
  | _ => rfl
theorem lenV_congr (hres : ∀ i, D i → S1.res i = S2.res i) {v : SV} (hv : v.inn D) : lenV S1 v = lenV S2 v := by
  cases v with
  | w x =>
    cases x with
    | c y =>
      cases y with
      | sl j => simp only [lenV, hres j hv]
      | vw j n lo len => simp only [lenV, hres j hv.1]
      | row u j i => simp only [lenV, hres j hv.2.1]
      | _ => rfl
    | agg _ => rfl
  | _ => rfl
theorem listOf_congr (hres : ∀ i, D i → S1.res i = S2.res i) {f : Fl} {v : SV} (hv : v.inn D) : S1.listOf f v = S2.listOf f v := by
  cases v with
  | w x =>
    cases x with
    | c y =>
      cases y with
      | sl j => simp only [St.listOf, hres j hv]
      | csl b off len cap => simp only [St.listOf, hres b hv]
      | vw j n lo len => simp only [St.listOf, hres j hv.1]
      | row u j i => simp only [St.listOf, hres j hv.2.1]
      | _ => rfl
    | agg _ => rfl
  | _ => rfl
/-- What a row of lists names. -/
def SV.deep (S : St) (D : Nat → Prop) (v : SV) : Prop := ∀ c ∈ inCsl S v, c.good D fun _ => none
theorem cellRows_congr (hres : ∀ i, D i → S1.res i = S2.res i) {f : Fl} : ∀ {cs : List SC}, (∀ c ∈ cs, c.good D fun _ => none) → cellRows S1 f cs = cellRows S2 f cs
  | [], _ => rfl
  | c :: r, h => by
    unfold cellRows
    rw [listOf_congr hres (v := .w (.c c)) (h c (List.mem_cons_self ..)), cellRows_congr hres fun c hc => h c (List.mem_cons_of_mem _ hc)]
theorem dec_congr (hres : ∀ i, D i → S1.res i = S2.res i) {s : Sh} {v : SV} (hv : v.inn D) (hd : v.deep S1 D) : s.dec S1 v = s.dec S2 v := by
  cases s with
  | list f => exact listOf_congr hres hv
  | lists f =>
    show S1.listsOf f v = S2.listsOf f v
    cases v with
    | w x =>
      cases x with
      | c y =>
        cases y with
        | sl j => simp only [St.listsOf, hres j hv]
        | csl b off len cap =>
          have e := hres b hv
          simp only [St.listsOf, ← e]
          cases hb : S1.res b with
          | none => rfl
          | some r =>
            cases r with
            | box bx =>
              dsimp only
              have hin : ∀ c ∈ bx.cells, c.good D fun _ => none := by
                have : inCsl S1 (.w (.c (.csl b off len cap))) = bx.cells := by simp only [inCsl, hb]
                rw [← this]; exact hd
              rw [cellRows_congr hres fun c hc => hin c (List.mem_of_mem_drop (List.mem_of_mem_take hc))]
            | _ => rfl
        | _ => rfl
      | agg _ => rfl
    | _ => rfl
  | map f =>
    show S1.mapOf f v = S2.mapOf f v
    cases v with
    | w x =>
      cases x with
      | c y =>
        cases y with
        | mp j => simp only [St.mapOf, hres j hv]
        | _ => rfl
      | agg _ => rfl
    | _ => rfl
  | _ => rfl
theorem decArgs_congr (hres : ∀ i, D i → S1.res i = S2.res i) : ∀ {l : List Sh} {vs : List SV}, (∀ v ∈ vs, v.inn D ∧ v.deep S1 D) → decArgs S1 l vs = decArgs S2 l vs
  | [], [], _ => rfl
  | s :: r, v :: vs, h => by
    unfold decArgs
    rw [dec_congr hres (h v (List.mem_cons_self ..)).1 (h v (List.mem_cons_self ..)).2, decArgs_congr hres fun u hu => h u (List.mem_cons_of_mem _ hu)]
  | [], _ :: _, _ => rfl
  | _ :: _, [], _ => rfl
theorem evs_congr : ∀ {l : List Operand}, (∀ x ∈ l, S1.ev x = S2.ev x) → S1.evs l = S2.evs l
  | [], _ => rfl
  | x :: r, h => by
    unfold St.evs
    rw [h x (List.mem_cons_self ..), evs_congr fun u hu => h u (List.mem_cons_of_mem _ hu)]
theorem evp_congr : ∀ {l : List (Nat × Operand)}, (∀ x ∈ l.map (·.2), S1.ev x = S2.ev x) → S1.evp l = S2.evp l
  | [], _ => rfl
  | x :: r, h => by
    unfold St.evp
    rw [h x.2 (List.mem_cons_self ..), evp_congr fun u hu => h u (List.mem_cons_of_mem _ hu)]
theorem sliceV_congr (hres : ∀ i, D i → S1.res i = S2.res i) {t : TypeId} {v : SV} {lo hi : Option SV} (hv : v.inn D) : sliceV E S1 t v lo hi = sliceV E S2 t v lo hi := by
  unfold sliceV
  cases E.P.underlying t with
  | none => rfl
  | some d =>
    cases d <;> try rfl
    cases v with
    | w x =>
      cases x with
      | c y =>
        cases y with
        | sl j => simp only [hres j hv]
        | vw j n l0 len => simp only [isList_congr hres hv.1]
        | _ => rfl
      | agg _ => rfl
    | _ => rfl
theorem nilV_congr (hres : ∀ i, D i → S1.res i = S2.res i) {x y : SV} (hx : x.inn D) : nilV S1 x y = nilV S2 x y := by
  unfold nilV
  split
  · rfl
  · rfl
  · rename_i j
    have : D j := hx
    simp only [hres j this]
  · rfl
theorem binS_congr (hres : ∀ i, D i → S1.res i = S2.res i) {op : BinOp} {t : TypeId} {x y : SV} (hx : x.inn D) : binS E S1 op t x y = binS E S2 op t x y := by
  unfold binS
  rw [nilV_congr hres hx]
theorem isSl_congr (hres : ∀ i, D i → S1.res i = S2.res i) {x : SV} (hx : x.inn D) : isSl S1 x = isSl S2 x := by
  cases x with
  | w x =>
    cases x with
    | c y =>
      cases y with
      | sl j => exact isList_congr hres hx
      | _ => rfl
    | agg _ => rfl
  | _ => rfl
theorem opv_congr (hres : ∀ i, D i → S1.res i = S2.res i) (hnx : S1.nx = S2.nx) {op : Op} (h : ∀ x ∈ op.operands.toList, S1.ev x = S2.ev x ∧ (S1.ev x).inn D) : opv E S1 op = opv E S2 op := by
  have one : ∀ {x : Operand}, op.operands = #[x] → S1.ev x = S2.ev x ∧ (S1.ev x).inn D := fun {x} e => h x (by rw [e]; simp)
  cases op with
  | move x => simp only [opv, (one rfl).1]
  | assign x => simp only [opv, (one rfl).1]
  | pick c x y => simp only [opv, (h c (by simp [Op.operands])).1, (h x (by simp [Op.operands])).1, (h y (by simp [Op.operands])).1]
  | alloc t => simp only [opv, hnx]
  | box t x => simp only [opv, (one rfl).1, hnx]
  | build t parts => simp only [opv, evp_congr (S1 := S1) (S2 := S2) (l := parts.toList) fun x hx => (h x hx).1]
  | buildSlice t len parts => simp only [opv, evp_congr (S1 := S1) (S2 := S2) (l := parts.toList) fun x hx => (h x hx).1, hnx]
  | makeSlice t len cap => simp only [opv, (h len (by simp [Op.operands])).1, (h cap (by simp [Op.operands])).1, hnx]
  | slice t x low high max =>
    cases max with
    | some m =>
      cases low with
      | some l => rfl
      | none =>
        cases high with
        | none => rfl
        | some y =>
          have hx := h x (by simp [Op.operands])
          have hy := h y (by simp [Op.operands])
          have hm := h m (by simp [Op.operands])
          simp only [opv, noneV, hx.1, hy.1, hm.1, hnx]
          rw [isSl_congr hres (by rw [← hx.1]; exact hx.2)]
    | none =>
      have hx := h x (by simp [Op.operands])
      have e1 : low.map S1.ev = low.map S2.ev := by
        cases low with
        | none => rfl
        | some y => simp only [Option.map_some, (h y (by simp [Op.operands])).1]
      have e2 : high.map S1.ev = high.map S2.ev := by
        cases high with
        | none => rfl
        | some y => simp only [Option.map_some, (h y (by simp [Op.operands])).1]
      simp only [opv]
      rw [sliceV_congr hres hx.2, hx.1, e1, e2]
  | load t x => simp only [opv]; rw [loadV_congr hres (one rfl).2, (one rfl).1]
  | nilCheck x => simp only [opv, (one rfl).1]
  | binOp o t x y t' =>
    have hx := h x (by simp [Op.operands])
    simp only [opv, hx.1, (h y (by simp [Op.operands])).1]
    exact binS_congr hres (by rw [← hx.1]; exact hx.2)
  | unOp o t x => simp only [opv, (one rfl).1]
  | convert s d x => simp only [opv, (one rfl).1]
  | makeFunc fn first cap => cases fn <;> simp only [opv, evs_congr (S1 := S1) (S2 := S2) (l := cap.toList) fun x hx => (h x (by simp only [Op.operands, Array.toList_append, List.mem_append]; exact .inr hx)).1]
  | fieldAddr t x f => simp only [opv]; rw [fieldAddrV_congr hres (one rfl).2, (one rfl).1]
  | field t x f => simp only [opv, (one rfl).1]
  | indexAddr t x y =>
    obtain ⟨ex, hx⟩ := h x (by simp [Op.operands])
    obtain ⟨ey, hy⟩ := h y (by simp [Op.operands])
    simp only [opv]
    rw [← ex, ← ey]
    split
    · rename_i e; rw [e] at hx; exact arrIdxV_congr hres hx
    · exact indexAddrV_congr hres hx
  | index t x y => simp only [opv, (h x (by simp [Op.operands])).1, (h y (by simp [Op.operands])).1]
  | extract x i => simp only [opv, (one rfl).1]
  | call c =>
    simp only [opv]
    split
    · split
      · rename_i x t e1 e2
        split
        · obtain ⟨q1, q2⟩ := h x (by simp only [Op.operands, Call.operands, Array.toList_append, List.mem_append]; exact .inr (by rw [e1]; exact List.mem_cons_self ..))
          rw [lenV_congr hres q2, q1]
        · rfl
      · rfl
    · split
      · rename_i x y e1
        obtain ⟨q1, _⟩ := h x (by simp only [Op.operands, Call.operands, Array.toList_append, List.mem_append]; exact .inr (by rw [e1]; exact List.mem_cons_self ..))
        obtain ⟨q2, _⟩ := h y (by simp only [Op.operands, Call.operands, Array.toList_append, List.mem_append]; exact .inr (by rw [e1]; exact List.mem_cons_of_mem _ (List.mem_cons_self ..)))
        rw [q1, q2]
      · rfl
    · split
      · rename_i x y e1
        obtain ⟨q1, _⟩ := h x (by simp only [Op.operands, Call.operands, Array.toList_append, List.mem_append]; exact .inr (by rw [e1]; exact List.mem_cons_self ..))
        obtain ⟨q2, _⟩ := h y (by simp only [Op.operands, Call.operands, Array.toList_append, List.mem_append]; exact .inr (by rw [e1]; exact List.mem_cons_of_mem _ (List.mem_cons_self ..)))
        rw [q1, q2]
      · rfl
    · rfl
  | _ => rfl
theorem pickC_congr (hres : ∀ i, D i → S1.res i = S2.res i) {f : FuncId} {args : List SV} (h : ∀ v ∈ args, v.inn D ∧ v.deep S1 D) : ∀ {l : List (FuncId × Contract)}, pickC f args S1 l = pickC f args S2 l
  | [] => rfl
  | (g, C) :: r => by
    unfold pickC
    rw [decArgs_congr hres h, pickC_congr hres h]
theorem callQ_congr (hres : ∀ i, D i → S1.res i = S2.res i) (hnx : S1.nx = S2.nx) {f : FuncId} {args : List SV} (h : ∀ v ∈ args, v.inn D ∧ v.deep S1 D) : callQ E f args S1 = callQ E f args S2 := by
  unfold callQ
  rw [pickC_congr hres h, hnx]
theorem evs_inn {P : SV → Prop} : ∀ {l : List Operand}, (∀ x ∈ l, P (S1.ev x)) → ∀ v ∈ S1.evs l, P v
  | x :: r, h, v, hv => by
    unfold St.evs at hv
    rcases List.mem_cons.1 hv with rfl | hv
    · exact h x (List.mem_cons_self ..)
    · exact evs_inn (fun u hu => h u (List.mem_cons_of_mem _ hu)) v hv
theorem qv_congr (hres : ∀ i, D i → S1.res i = S2.res i) (hnx : S1.nx = S2.nx) {op : Op} (h : ∀ x ∈ op.operands.toList, S1.ev x = S2.ev x ∧ (S1.ev x).inn D ∧ (S1.ev x).deep S1 D) : qv E S1 op = qv E S2 op := by
  unfold qv
  split
  · rename_i fo as ts
    obtain ⟨ef, hf⟩ := h fo (by simp [Op.operands, Call.operands])
    have ha : ∀ x ∈ as.toList, S1.ev x = S2.ev x ∧ (S1.ev x).inn D ∧ (S1.ev x).deep S1 D := fun x hx => h x (by simp only [Op.operands, Call.operands, Array.toList_append, List.mem_append]; exact .inr hx)
    rw [← ef]
    split
    · rename_i f cap e
      rw [e] at hf
      obtain ⟨hf, _⟩ := hf
      rw [evs_congr (S1 := S2) (S2 := S1) fun x hx => (ha x hx).1.symm]
      refine callQ_congr hres hnx fun v hv => ?_
      rcases List.mem_append.1 hv with hv | hv
      · exact evs_inn (P := fun v => v.inn D ∧ v.deep S1 D) (fun x hx => (ha x hx).2) v hv
      · obtain ⟨p, hp, rfl⟩ := List.mem_map.1 hv
        exact ⟨hf p hp, fun c hc => by cases hc⟩
    · rfl
  · exact opv_congr hres hnx fun x hx => ⟨(h x hx).1, (h x hx).2.1⟩
/-! ### Values within a bound -/
theorem ltAll_iff {n : Nat} : ∀ {l : List (Nat × Nat)}, ltAll n l = true → ∀ p ∈ l, p.1 < n
  | p :: r, h, q, hq => by
    unfold ltAll at h
    rw [Bool.and_eq_true] at h
    rcases List.mem_cons.1 hq with rfl | hq
    · simpa [Nat.blt_eq] using h.1
    · exact ltAll_iff h.2 q hq
theorem sc_inn {D : Nat → Prop} {R : Nat → Option Res} {n : Nat} {c : SC} (h : scSC n c = true) (hg : c.good D R) : c.good (fun i => D i ∧ i < n) fun _ => none := by
  cases c with
  | ptr b off => exact ⟨hg, by simpa [scSC, Nat.blt_eq] using h⟩
  | lptr j m i c => exact ⟨⟨hg.1, by simpa [scSC, Nat.blt_eq] using h⟩, fun L hL => by cases hL⟩
  | fn f cap => exact fun p hp => ⟨hg p hp, ltAll_iff h p hp⟩
  | sl j => exact ⟨hg, by simpa [scSC, Nat.blt_eq] using h⟩
  | csl b off len cap => exact ⟨hg, by simpa [scSC, Nat.blt_eq] using h⟩
  | mp j => exact ⟨hg, by simpa [scSC, Nat.blt_eq] using h⟩
  | vw j n lo len => exact ⟨⟨hg.1, by simpa [scSC, Nat.blt_eq] using h⟩, hg.2.1, hg.2.2.1, fun L hL => by cases hL⟩
  | row v j i =>
    simp only [scSC, Bool.and_eq_true, Nat.blt_eq] at h
    exact ⟨⟨hg.1, h.1⟩, ⟨hg.2.1, h.2⟩, fun L hL => by cases hL⟩
  | rptr j i => exact ⟨⟨hg.1, by simpa [scSC, Nat.blt_eq] using h⟩, fun L hL => by cases hL⟩
  | eptr v j n i k =>
    simp only [scSC, Bool.and_eq_true, Nat.blt_eq] at h
    exact ⟨⟨hg.1, h.1⟩, ⟨hg.2.1, h.2⟩, fun L hL => by cases hL⟩
  | _ => exact hg
theorem scOps_iff {S : St} : ∀ {l : List Operand}, scOps S l = true → ∀ x ∈ l, scSV S.nx (S.ev x) = true ∧ scSCs S.nx (inCsl S (S.ev x)) = true
  | y :: r, h, x, hx => by
    unfold scOps at h
    rw [Bool.and_eq_true, Bool.and_eq_true] at h
    rcases List.mem_cons.1 hx with rfl | hx
    · exact h.1
    · exact scOps_iff h.2 x hx
end
end Go.Fx
end
section
namespace Go.Fx
open Go RowKit

inductive Out where
  | skip
  | val (v : SV)
  | new (rs : List Res) (v : SV)
  | sto (b : Nat) (bx : Res)
  | app (b : Nat) (n : Int) (L : LB) (k : Nat)
/-- What an operation writes over. -/
def wOf : Out → Option (Nat × Res)
  | .sto b bx => some (b, bx)
  | .app b n _ _ => some (b, .gone n)
  | _ => none
/-- What it brings. -/
def nOf : Out → List Res
  | .new rs _ => rs
  | .app _ _ L _ => [.list L]
  | _ => []
noncomputable def sNext (S : St) (dst : Option Tmp) : Out → St
  | .skip => S.put dst undefV
  | .val v => S.put dst v
  | .new rs v => (S.add rs).put dst v
  | .sto b bx => (S.set b (some bx)).put dst undefV
  | .app b n L k => ((S.set b (some (.gone n))).add [.list L]).put dst (.w (.c (.sl k)))
noncomputable def outV : Out → SV
  | .skip => undefV
  | .val v => v
  | .new _ v => v
  | .sto _ _ => undefV
  | .app _ _ _ k => .w (.c (.sl k))
def cnt (u : Out) : Nat := (nOf u).length
def StepQ (E : Env) (ops : List Oper) (o : Oper) (S : St) : Out → Prop
  | .skip => guardQ ops S o.guard = some false
  | .val v => guardQ ops S o.guard = some true ∧ scOps S o.op.operands.toList = true ∧ ∃ side v0, qv E S o.op = .val side v0 ∧ sideH side ∧ (v = v0 ∨ (∃ b, v0 = .w (.c (.bool b none)) ∧ v = .w (.c (.bool b (some b)))) ∨ ∃ k i n, v0 = .w (.c (.int k i)) ∧ v = .w (.c (.int k (.lit n))) ∧ i.v = n)
  | .new rs v => guardQ ops S o.guard = some true ∧ scOps S o.op.operands.toList = true ∧ ∃ side, qv E S o.op = .new side rs v ∧ sideH side
  | .sto b bx => guardQ ops S o.guard = some true ∧ scOps S o.op.operands.toList = true ∧ o.dst = none ∧ ∃ t x y, o.op = .store t x y ∧ stoQ E t S (S.ev x) (S.ev y) = some (b, bx)
  | .app b n L k => guardQ ops S o.guard = some true ∧ scOps S o.op.operands.toList = true ∧ k = S.nx ∧ ∃ t t' x y side, appOf o.op = some (t, t', x, y) ∧ appQ E S t t' (S.ev x) (S.ev y) = some (side, b, n, L) ∧ side
/-- Operation j writes box x. -/
def stoAt (out : Nat → Out) (j x : Nat) : Prop := ∃ bx, wOf (out j) = some (x, bx)
/-- Operation j is carried out and looks at box x. -/
def seesAt (q : List Oper) (Ss : Nat → St) (out : Nat → Out) (j x : Nat) : Prop := out j ≠ .skip ∧ ∃ o, q[j]? = some o ∧ x ∈ bxOp (Ss j) o.op
/-- Stores and those who look at their boxes wait for one another. -/
structure Ordd (ms : List Nat) (q : List Oper) (i0 : Nat) (acc : List (Nat × List Nat)) (sts : List (Nat × Nat)) (Ss : Nat → St) (out : Nat → Out) : Prop where
  acc : ∀ j x, stoAt out j x → j < q.length → (∀ p ∈ acc, x ∈ p.2 → waitsM ms (i0 + j) p.1 = true) ∧ ∀ p ∈ sts, p.2 ≠ x
  sts : ∀ j x, seesAt q Ss out j x → ∀ p ∈ sts, p.2 = x → waitsM ms (i0 + j) p.1 = true
  before : ∀ i j x, i < j → j < q.length → seesAt q Ss out i x → stoAt out j x → waitsM ms (i0 + j) (i0 + i) = true
  after : ∀ i j x, j < i → i < q.length → stoAt out j x → seesAt q Ss out i x → waitsM ms (i0 + i) (i0 + j) = true
  once : ∀ j j' x, j < q.length → j' < q.length → stoAt out j x → stoAt out j' x → j = j'
structure Path (E : Env) (ops q : List Oper) (S : St) (Ss : Nat → St) (out : Nat → Out) : Prop where
  zero : Ss 0 = S
  step : ∀ j o, q[j]? = some o → StepQ E ops o (Ss j) (out j) ∧ Ss (j + 1) = sNext (Ss j) o.dst (out j)
theorem okRd_iff {ms : List Nat} {i : Nat} {l : List Nat} : ∀ {r : List (Nat × Nat)}, okRd ms i l r = true → ∀ p ∈ r, p.2 ∈ l → waitsM ms i p.1 = true
  | q :: r, h, p, hp, hl => by
    unfold okRd at h
    rw [Bool.and_eq_true, Bool.or_eq_true] at h
    rcases List.mem_cons.1 hp with rfl | hp
    · rcases h.1 with h1 | h1
      · have : nmem p.2 l = true := by
          clear h h1
          induction l with
          | nil => cases hl
          | cons y l ih =>
            unfold nmem
            rcases List.mem_cons.1 hl with e | hl
            · rw [e]; simp
            · rw [ih hl, Bool.or_true]
        rw [this] at h1; cases h1
      · exact h1
    · exact okRd_iff h.2 p hp hl
theorem nmem_of {x : Nat} : ∀ {l : List Nat}, x ∈ l → nmem x l = true
  | y :: l, h => by
    unfold nmem
    rcases List.mem_cons.1 h with e | h
    · rw [e]; simp
    · rw [nmem_of h, Bool.or_true]
theorem okSto_iff {ms : List Nat} {i b : Nat} : ∀ {r : List (Nat × List Nat)}, okSto ms i b r = true → ∀ p ∈ r, b ∈ p.2 → waitsM ms i p.1 = true
  | q :: r, h, p, hp, hl => by
    unfold okSto at h
    rw [Bool.and_eq_true, Bool.or_eq_true] at h
    rcases List.mem_cons.1 hp with rfl | hp
    · rcases h.1 with h1 | h1
      · rw [nmem_of hl] at h1; cases h1
      · exact h1
    · exact okSto_iff h.2 p hp hl
theorem notSto_iff {b : Nat} : ∀ {r : List (Nat × Nat)}, notSto b r = true → ∀ p ∈ r, p.2 ≠ b
  | q :: r, h, p, hp => by
    unfold notSto at h
    rw [Bool.and_eq_true] at h
    rcases List.mem_cons.1 hp with rfl | hp
    · intro e
      rw [e] at h
      simp at h
    · exact notSto_iff h.2 p hp
def accOf (i : Nat) (l : List Nat) (acc : List (Nat × List Nat)) : Out → List (Nat × List Nat)
  | .skip => acc
  | _ => (i, l) :: acc
def stsOf (i : Nat) (sts : List (Nat × Nat)) (u : Out) : List (Nat × Nat) := match wOf u with
  | some p => (i, p.1) :: sts
  | none => sts
theorem accOf_mem (i : Nat) (l : List Nat) (acc : List (Nat × List Nat)) {u : Out} (h : u ≠ .skip) : (i, l) ∈ accOf i l acc u := by
  cases u <;> first | exact absurd rfl h | exact List.mem_cons_self ..
section
variable {E : Env} {ops : List Oper} {ms : List Nat}
/-- A path, one operation longer. -/
theorem path_cons {r : List Oper} {o : Oper} {S : St} {u : Out} {i0 : Nat} {acc : List (Nat × List Nat)} {sts : List (Nat × Nat)} (h : StepQ E ops o S u)
    (hr : u ≠ .skip → okRd ms i0 (bxOp S o.op) sts = true) (hs : ∀ b bx, wOf u = some (b, bx) → okSto ms i0 b acc = true ∧ notSto b sts = true) {k : St → Prop}
    (ih : ∃ Ss out, Path E ops r (sNext S o.dst u) Ss out ∧ Ordd ms r (i0 + 1) (accOf i0 (bxOp S o.op) acc u) (stsOf i0 sts u) Ss out ∧ k (Ss r.length)) : ∃ Ss out, Path E ops (o :: r) S Ss out ∧ Ordd ms (o :: r) i0 acc sts Ss out ∧ k (Ss (o :: r).length) := by
  obtain ⟨Ss, out, p, od, hk⟩ := ih
  have inAcc : ∀ p ∈ acc, p ∈ accOf i0 (bxOp S o.op) acc u := fun p hp => by
    cases u <;> first | exact hp | exact List.mem_cons_of_mem _ hp
  have inSts : ∀ p ∈ sts, p ∈ stsOf i0 sts u := fun p hp => by
    unfold stsOf
    split
    · exact List.mem_cons_of_mem _ hp
    · exact hp
  have atSts : ∀ x bx, wOf u = some (x, bx) → (i0, x) ∈ stsOf i0 sts u := fun x bx e => by
    unfold stsOf
    rw [e]; exact List.mem_cons_self ..
  refine ⟨fun | 0 => S | j + 1 => Ss j, fun | 0 => u | j + 1 => out j, ⟨rfl, fun j x hx => ?_⟩, ⟨fun j x hst hj => ?_, fun j x hse p hp hpx => ?_, fun i j x hij hj hse hst => ?_, fun i j x hij hi hst hse => ?_, fun j j' x hj hj' hst hst' => ?_⟩, hk⟩
  · cases j with
    | zero => cases hx; exact ⟨h, p.zero⟩
    | succ j => exact p.step j x (by simpa using hx)
  · cases j with
    | zero =>
      obtain ⟨bx, e⟩ := hst
      obtain ⟨h1, h2⟩ := hs x bx e
      exact ⟨fun p hp hl => okSto_iff h1 p hp hl, notSto_iff h2⟩
    | succ j =>
      obtain ⟨h1, h2⟩ := od.acc j x hst (by simpa using hj)
      exact ⟨fun p hp hl => by have := h1 p (inAcc p hp) hl; rwa [show i0 + 1 + j = i0 + (j + 1) by omega] at this, fun p hp => h2 p (inSts p hp)⟩
  · cases j with
    | zero =>
      obtain ⟨h1, o', ho, hx⟩ := hse
      cases ho
      exact okRd_iff (hr h1) p hp (by rw [hpx]; exact hx)
    | succ j =>
      have := od.sts j x ⟨hse.1, hse.2⟩ p (inSts p hp) hpx
      rwa [show i0 + 1 + j = i0 + (j + 1) by omega] at this
  · cases j with
    | zero => omega
    | succ j =>
      cases i with
      | zero =>
        obtain ⟨h1, o', ho, hx⟩ := hse
        cases ho
        have h1 : u ≠ .skip := h1
        have := (od.acc j x hst (by simpa using hj)).1 (i0, bxOp S o.op) (accOf_mem _ _ _ h1) hx
        rwa [show i0 + 1 + j = i0 + (j + 1) by omega] at this
      | succ i =>
        have := od.before i j x (by omega) (by simpa using hj) ⟨hse.1, hse.2⟩ hst
        rwa [show i0 + 1 + j = i0 + (j + 1) by omega, show i0 + 1 + i = i0 + (i + 1) by omega] at this
  · cases i with
    | zero => omega
    | succ i =>
      cases j with
      | zero =>
        obtain ⟨bx, e⟩ := hst
        have := od.sts i x ⟨hse.1, hse.2⟩ (i0, x) (atSts x bx e) rfl
        rwa [show i0 + 1 + i = i0 + (i + 1) by omega] at this
      | succ j =>
        have := od.after i j x (by omega) (by simpa using hi) hst ⟨hse.1, hse.2⟩
        rwa [show i0 + 1 + j = i0 + (j + 1) by omega, show i0 + 1 + i = i0 + (i + 1) by omega] at this
  · cases j with
    | zero =>
      cases j' with
      | zero => rfl
      | succ j' =>
        obtain ⟨bx, e⟩ := hst
        exact absurd rfl ((od.acc j' x hst' (by simpa using hj')).2 (i0, x) (atSts x bx e))
    | succ j =>
      cases j' with
      | zero =>
        obtain ⟨bx, e⟩ := hst'
        exact absurd rfl ((od.acc j x hst (by simpa using hj)).2 (i0, x) (atSts x bx e))
      | succ j' => rw [od.once j j' x (by simpa using hj) (by simpa using hj') hst hst']
theorem stoOf_eq {op : Op} {t : TypeId} {x y : Operand} (h : stoOf op = some (t, x, y)) : op = .store t x y := by
  cases op <;> first | (cases h; rfl) | cases h
theorem fewV_eq {S : St} {ops : List Oper} {d : Option Nat} {v : SV} {k : IntKind} {i : SI} (h : fewV S ops d v = some (k, i)) : v = .w (.c (.int k i)) := by
  unfold fewV at h
  split at h
  · split at h
    · cases h
    · split at h
      · cases h; rfl
      · cases h
  · cases h
theorem exQ_path {k : St → Prop} : ∀ (q : List Oper) (i : Nat) (acc : List (Nat × List Nat)) (sts : List (Nat × Nat)) (S : St), exQ E ops ms q i acc sts S k → ∃ Ss out, Path E ops q S Ss out ∧ Ordd ms q i acc sts Ss out ∧ k (Ss q.length)
  | [], _, acc, sts, S, h => ⟨fun _ => S, fun _ => .skip, ⟨rfl, fun j o hj => by cases hj⟩, ⟨(fun j x hst hj => by cases hj), (fun j x hse => by obtain ⟨_, o, ho, _⟩ := hse; cases ho), (fun i j x _ hj => by cases hj), (fun i j x _ hi => by cases hi), (fun j j' x hj => by cases hj)⟩, h⟩
  | o :: r, i, acc, sts, S, h => by
    unfold exQ at h
    split at h
    · rename_i hg
      split at h
      · rename_i hsc
        rw [Bool.and_eq_true] at hsc
        obtain ⟨hsc, hrd⟩ := hsc
        split at h
        · rename_i t x y hso
          have hop := stoOf_eq hso
          split at h
          · rename_i b bx hd hB
            split at h
            · rename_i hck
              rw [Bool.and_eq_true] at hck
              refine path_cons (u := .sto b bx) ⟨hg, hsc, hd, t, x, y, hop, hB⟩ (fun _ => hrd) (fun b' bx' e => by cases e; exact hck) ?_
              have := exQ_path r _ _ _ _ h
              rw [sNext, hd]; exact this
            · cases h
          · cases h
        · split at h
          · rename_i t t' x y hap
            split at h
            · rename_i side b n L hA
              split at h
              · rename_i hck
                rw [Bool.and_eq_true] at hck
                exact path_cons (u := .app b n L S.nx) ⟨hg, hsc, rfl, t, t', x, y, side, hap, hA, h.1⟩ (fun _ => hrd) (fun b' bx' e => by cases e; exact hck) (exQ_path r _ _ _ _ h.2)
              · cases h
            · cases h
          split at h
          · cases h
          · rename_i side v hv
            rw [sideAnd_iff] at h
            obtain ⟨hs, h⟩ := h
            have go : ∀ u v', u = .val v' → StepQ E ops o S u → exQ E ops ms r (i + 1) ((i, bxOp S o.op) :: acc) sts (S.put o.dst v') k → ∃ Ss out, Path E ops (o :: r) S Ss out ∧ Ordd ms (o :: r) i acc sts Ss out ∧ k (Ss (o :: r).length) := fun u v' e hst hx => by
              subst e
              exact path_cons (u := .val v') hst (fun _ => hrd) (fun b bx e => by cases e) (exQ_path r _ _ _ _ hx)
            split at h
            · rename_i b hb
              cases b with
              | true => exact go _ _ rfl ⟨hg, hsc, side, _, hv, hs, .inr (.inl ⟨true, rfl, rfl⟩)⟩ (h.1 rfl)
              | false => exact go _ _ rfl ⟨hg, hsc, side, _, hv, hs, .inr (.inl ⟨false, rfl, rfl⟩)⟩ (h.2 rfl)
            · rename_i v x1 v2 x2
              split at h
              · rename_i kk x hf
                obtain ⟨⟨b1, b2⟩, h⟩ := h
                have b1 : x.lo ≤ x.v := b1
                have b2 : x.v ≤ x.hi := b2
                have hn := allI_at h b1 (by omega) rfl
                have hfv := fewV_eq hf
                exact go _ _ rfl ⟨hg, hsc, side, _, hv, hs, .inr (.inr ⟨kk, x, _, hfv, rfl, rfl⟩)⟩ hn
              · exact go _ _ rfl ⟨hg, hsc, side, _, hv, hs, .inl rfl⟩ h
          · rename_i side rs v hv
            rw [sideAnd_iff] at h
            exact path_cons (u := .new rs v) ⟨hg, hsc, side, hv, h.1⟩ (fun _ => hrd) (fun b bx e => by cases e) (exQ_path r _ _ _ _ h.2)
      · cases h
    · rename_i hg
      exact path_cons (u := .skip) hg (fun h => absurd rfl h) (fun b bx e => by cases e) (exQ_path r _ _ _ _ h)
    · cases h
end

/-! ### What a path keeps -/
theorem put_get (S : St) (d : Option Tmp) (v : SV) (t : Nat) : (S.put d v).get t = if d = some t then v else S.get t := by
  cases d with
  | none => rw [if_neg (by simp)]; rfl
  | some d =>
    rw [get_put]
    by_cases e : d = t
    · simp [e]
    · simp [e]
theorem sNext_get (S : St) (d : Option Tmp) (u : Out) (t : Nat) : (sNext S d u).get t = if d = some t then outV u else S.get t := by
  cases u with
  | sto b bx => exact put_get (S.set b (some bx)) _ _ _
  | app b n L k => exact put_get ((S.set b (some (.gone n))).add [.list L]) _ _ _
  | _ => exact put_get _ _ _ _
theorem sNext_nt (S : St) (d : Option Tmp) (u : Out) : (sNext S d u).nt = S.nt := by
  cases u <;> exact put_nt _ _ _
theorem sNext_ext (S : St) (d : Option Tmp) (u : Out) : Ext S (sNext S d u) := by
  cases u with
  | skip => exact Ext.put S d _
  | val v => exact Ext.put S d v
  | new rs v => exact (ext_add S rs).trans (Ext.put _ d _)
  | sto b bx => exact (Ext.set S b (some bx)).trans (Ext.put _ d _)
  | app b n L k => exact ((Ext.set S b (some (.gone n))).trans (ext_add _ _)).trans (Ext.put _ d _)
theorem sNext_nx (S : St) (d : Option Tmp) (u : Out) : (sNext S d u).nx = S.nx + cnt u := by
  cases u <;> exact put_nx _ _ _
theorem sNext_res (S : St) (d : Option Tmp) (u : Out) (x : Nat) (hx : x < S.nx) (hu : ∀ bx, wOf u ≠ some (x, bx)) : (sNext S d u).res x = S.res x := by
  cases u with
  | skip => exact congrFun (put_res ..) x
  | val v => exact congrFun (put_res ..) x
  | new rs v =>
    rw [sNext, put_res, add_res]
    unfold addR
    rw [if_neg (by omega)]
  | sto b bx =>
    rw [sNext, put_res, res_set]
    simp only
    rw [if_neg fun e => hu bx (by rw [← e]; rfl)]
  | app b n L k =>
    rw [sNext, put_res, add_res]
    unfold addR
    rw [if_neg (by show ¬ (S.nx ≤ x ∧ _); omega), res_set]
    simp only
    rw [if_neg fun e => hu (.gone n) (by rw [← e]; rfl)]
theorem sNext_sto (S : St) (d : Option Tmp) (u : Out) (b : Nat) (bx : Res) (hb : b < S.nx) (h : wOf u = some (b, bx)) : (sNext S d u).res b = some bx := by
  cases u with
  | sto b' bx' =>
    cases h
    rw [sNext, put_res, res_set]
    simp only [if_true]
  | app b' n L k =>
    cases h
    rw [sNext, put_res, add_res]
    unfold addR
    rw [if_neg (by show ¬ (S.nx ≤ b ∧ _); omega), res_set]
    simp only [if_true]
  | _ => cases h
theorem sNext_new (S : St) (d : Option Tmp) (u : Out) (x : Nat) (h1 : S.nx ≤ x) (h2 : x < S.nx + (nOf u).length) : (sNext S d u).res x = (nOf u)[x - S.nx]? := by
  cases u with
  | new rs v =>
    rw [sNext, put_res, add_res]
    unfold addR
    rw [if_pos ⟨h1, h2⟩]; rfl
  | app b n L k =>
    rw [sNext, put_res, add_res]
    unfold addR
    rw [if_pos ⟨h1, h2⟩]; rfl
  | _ => simp only [nOf, List.length_nil] at h2; omega
theorem sNext_resNone (S : St) (d : Option Tmp) (u : Out) (x : Nat) (hx : (sNext S d u).nx ≤ x) (h : S.res x = none) (hu : ∀ b bx, wOf u = some (b, bx) → b < S.nx) : (sNext S d u).res x = none := by
  rw [sNext_nx] at hx
  cases u with
  | skip => rw [← h]; exact congrFun (put_res ..) x
  | val v => rw [← h]; exact congrFun (put_res ..) x
  | new rs v =>
    simp only [cnt, nOf] at hx
    rw [sNext, put_res, add_res]
    unfold addR
    rw [if_neg (by omega), h]
  | sto b bx =>
    have := hu b bx rfl
    simp only [cnt, nOf, List.length_nil] at hx
    rw [sNext, put_res, res_set]
    simp only
    rw [if_neg (by omega), h]
  | app b n L k =>
    have := hu b _ rfl
    simp only [cnt, nOf, List.length_singleton] at hx
    rw [sNext, put_res, add_res]
    unfold addR
    rw [if_neg (by show ¬ (S.nx ≤ x ∧ x < S.nx + 1); omega), res_set]
    simp only
    rw [if_neg (by omega), h]
/-- Operation j writes slot t. -/
def wr (q : List Oper) (j t : Nat) : Prop := ∃ o, q[j]? = some o ∧ o.dst = some t
section
variable {E : Env} {ops q : List Oper} {S : St} {Ss : Nat → St} {out : Nat → Out} (p : Path E ops q S Ss out)
theorem Path.at {j : Nat} (p : Path E ops q S Ss out) (hj : j < q.length) : StepQ E ops q[j] (Ss j) (out j) ∧ Ss (j + 1) = sNext (Ss j) q[j].dst (out j) := p.step j q[j] (by simp [hj])
theorem Path.nt (p : Path E ops q S Ss out) : ∀ j, j ≤ q.length → (Ss j).nt = S.nt
  | 0, _ => by rw [p.zero]
  | j + 1, h => by rw [(p.at (j := j) (by omega)).2, sNext_nt]; exact p.nt j (by omega)
theorem Path.ext (p : Path E ops q S Ss out) : ∀ j, j ≤ q.length → Ext S (Ss j)
  | 0, _ => by rw [p.zero]; exact Ext.refl S
  | j + 1, h => by rw [(p.at (j := j) (by omega)).2]; exact (p.ext j (by omega)).trans (sNext_ext _ _ _)
theorem Path.nx (p : Path E ops q S Ss out) {i : Nat} : ∀ j, i ≤ j → j ≤ q.length → (Ss i).nx ≤ (Ss j).nx
  | 0, h, _ => by rw [Nat.le_zero.1 h]; exact Nat.le_refl _
  | j + 1, h, hl => by
    by_cases e : i = j + 1
    · rw [e]; exact Nat.le_refl _
    · have := Path.nx (i := i) p j (by omega) (by omega)
      rw [(p.at (j := j) (by omega)).2, sNext_nx]; omega
theorem Path.res (p : Path E ops q S Ss out) {i x : Nat} (hx : x < (Ss i).nx) : ∀ j, i ≤ j → j ≤ q.length → (∀ l, i ≤ l → l < j → ¬ stoAt out l x) → (Ss j).res x = (Ss i).res x
  | 0, h, _, _ => by rw [Nat.le_zero.1 h]
  | j + 1, h, hl, hn => by
    by_cases e : i = j + 1
    · rw [e]
    · have h1 := p.nx (i := i) j (by omega) (by omega)
      rw [(p.at (j := j) (by omega)).2, sNext_res _ _ _ _ (by omega) (fun bx e => hn j (by omega) (by omega) ⟨bx, e⟩)]
      exact Path.res (i := i) p hx j (by omega) (by omega) fun l h1 h2 => hn l h1 (by omega)
theorem Path.nxAt (p : Path E ops q S Ss out) {i : Nat} (hi : i < q.length) : (Ss (i + 1)).nx = (Ss i).nx + cnt (out i) := by
  rw [(p.at hi).2, sNext_nx]
theorem Path.resNew (p : Path E ops q S Ss out) {i : Nat} (hi : i < q.length) {rs : List Res} (h : nOf (out i) = rs) {x : Nat} (h1 : (Ss i).nx ≤ x) (h2 : x < (Ss i).nx + rs.length) : (Ss (i + 1)).res x = rs[x - (Ss i).nx]? := by
  subst h
  rw [(p.at hi).2, sNext_new _ _ _ _ h1 h2]
/-- A store's box is there. -/
theorem stoQ_cases {E : Env} {t : TypeId} {S : St} {x v : SV} {b : Nat} {r : Res} (h : stoQ E t S x v = some (b, r)) : (∃ bx, r = .box bx ∧ storeB E t S x v = some (b, bx)) ∨ ∃ L, r = .list L ∧ storeL E t S x v = some (b, .list L) := by
  unfold stoQ at h
  split at h
  · rename_i hB; cases h; exact .inl ⟨_, rfl, hB⟩
  · split at h
    · rename_i hL; cases h; exact .inr ⟨_, rfl, hL⟩
    · cases h
theorem storeL_list {E : Env} {t : TypeId} {S : St} {x v : SV} {b : Nat} {L' : LB} (h : storeL E t S x v = some (b, .list L')) : ∃ n i c y, x = .w (.c (.lptr b n i c)) ∧ v = .w y ∧ ∃ L, S.res b = some (.list L) ∧ L.f = L'.f ∧ L.l.length = L'.l.length := by
  unfold storeL at h
  split at h
  · split at h
    · rename_i hj e1
      split at h
      · split at h
        · cases h; exact ⟨_, _, _, _, rfl, rfl, _, hj, rfl, (lset_len ..).symm⟩
        · cases h
      · cases h
    · cases h
  · split at h
    · split at h
      · split at h
        · cases h
        · cases h
      · cases h
    · cases h
  · cases h
/-- An append's list. -/
theorem appQ_eq {E : Env} {S : St} {t t' : TypeId} {x y : SV} {side : Prop} {b : Nat} {n : Int} {L' : LB} (h : appQ E S t t' x y = some (side, b, n, L')) :
    ∃ e f L m, ∃ hf : feq L.f f = true, x = .w (.c (.sl b)) ∧ t = t' ∧ E.P.underlying t = some (.slice e) ∧ look E.els e = some f ∧ S.res b = some (.list L) ∧ L.own = true ∧ S.listOf f y = some m ∧ side = lfit f.bytes (lapp ((feq_eq hf) ▸ L.l) m) ∧ n = lenI L.l ∧ L' = ⟨f, lapp ((feq_eq hf) ▸ L.l) m, true⟩ := by
  unfold appQ at h
  split at h
  · rename_i j e ht hu
    split at h
    · rename_i f L he hj
      split at h
      · rename_i m hf ho hm
        cases h
        exact ⟨e, f, L, m, hf, rfl, Nat.eq_of_beq_eq_true ht, hu, he, hj, ho, hm, rfl, rfl, rfl⟩
      · cases h
    · cases h
  · cases h
theorem appOf_eq {op : Op} {t t' : TypeId} {x y : Operand} (h : appOf op = some (t, t', x, y)) : ∃ as ts, op = .call { callee := .builtin .append, args := as, argTypes := ts } ∧ as.toList = [x, y] ∧ ts.toList = [t, t'] := by
  unfold appOf at h
  split at h
  · split at h
    · rename_i e1 e2
      cases h
      exact ⟨_, _, rfl, e1, e2⟩
    · cases h
  · cases h
theorem app_operands {op : Op} {t t' : TypeId} {x y : Operand} (h : appOf op = some (t, t', x, y)) : x ∈ op.operands.toList ∧ y ∈ op.operands.toList := by
  obtain ⟨as, ts, rfl, h1, _⟩ := appOf_eq h
  have e : as = #[x, y] := by rw [← Array.toArray_toList (xs := as), h1]
  subst e
  constructor
  · simp [Op.operands, Call.operands]
  · simp [Op.operands, Call.operands]
theorem Path.stoHere (p : Path E ops q S Ss out) {i : Nat} (hi : i < q.length) {b : Nat} {bx : Res} (h : wOf (out i) = some (b, bx)) : b < (Ss i).nx ∧ ((∃ bx0, bx = .box bx0) ∨ (∃ n, bx = .gone n) ∨ ∃ L L', (Ss i).res b = some (.list L) ∧ bx = .list L' ∧ L.f = L'.f ∧ L.l.length = L'.l.length) := by
  have st := (p.at hi).1
  cases hu : out i with
  | sto b' bx' =>
    rw [hu] at st h
    cases h
    obtain ⟨_, hsc, _, t, x, y, hop, hB⟩ := st
    rw [hop] at hsc
    have e : (Op.store t x y).operands.toList = [x, y] := rfl
    rw [e] at hsc
    unfold scOps at hsc
    rw [Bool.and_eq_true, Bool.and_eq_true] at hsc
    rcases stoQ_cases hB with ⟨bx0, e0, hB⟩ | ⟨L', e0, hL⟩
    · unfold storeB at hB
      split at hB
      · rename_i b' off v ex ey
        split at hB
        · rename_i bx0 n hb e1
          split at hB
          · cases hB
            rw [ex] at hsc
            exact ⟨by simpa [scSV, scSW, scSC, Nat.blt_eq] using hsc.1.1, .inl ⟨_, e0⟩⟩
          · cases hB
        · cases hB
      · cases hB
    · obtain ⟨n, k, c, y', ex, ey, L, h1, h2, h3⟩ := storeL_list hL
      rw [ex] at hsc
      exact ⟨by simpa [scSV, scSW, scSC, Nat.blt_eq] using hsc.1.1, .inr (.inr ⟨L, L', h1, e0, h2, h3⟩)⟩
  | app b' n L k =>
    rw [hu] at st h
    cases h
    obtain ⟨_, hsc, _, t, t', x, y, side, hap, hA, _⟩ := st
    obtain ⟨_, _, _, _, _, ex, _⟩ := appQ_eq hA
    have := (scOps_iff hsc x (app_operands hap).1).1
    rw [ex] at this
    exact ⟨by simpa [scSV, scSW, scSC, Nat.blt_eq] using this, .inr (.inl ⟨_, rfl⟩)⟩
  | _ => rw [hu] at h; cases h
theorem Path.resSto (p : Path E ops q S Ss out) {i : Nat} (hi : i < q.length) {b : Nat} {bx : Res} (h : wOf (out i) = some (b, bx)) : (Ss (i + 1)).res b = some bx := by
  rw [(p.at hi).2, sNext_sto _ _ _ _ _ (p.stoHere hi h).1 h]
theorem Path.resNone (p : Path E ops q S Ss out) (h0 : ∀ x, S.nx ≤ x → S.res x = none) : ∀ j, j ≤ q.length → ∀ x, (Ss j).nx ≤ x → (Ss j).res x = none
  | 0, _, x, hx => by rw [p.zero] at hx ⊢; exact h0 x hx
  | j + 1, hl, x, hx => by
    have h1 := p.nx (i := j) (j + 1) (by omega) hl
    rw [(p.at (j := j) (by omega)).2] at hx ⊢
    exact sNext_resNone _ _ _ _ hx (p.resNone h0 j (by omega) x (by rw [sNext_nx] at hx; omega)) fun b bx e => (p.stoHere (by omega) e).1
theorem Path.getNone (p : Path E ops q S Ss out) {t : Nat} : ∀ j, j ≤ q.length → (∀ j', j' < j → ¬ wr q j' t) → (Ss j).get t = S.get t
  | 0, _, _ => by rw [p.zero]
  | j + 1, hl, h => by
    rw [(p.at (j := j) (by omega)).2, sNext_get, if_neg fun e => h j (by omega) ⟨q[j], by simp [show j < q.length by omega], e⟩]
    exact p.getNone j (by omega) fun j' hj' => h j' (by omega)
theorem Path.getSome (p : Path E ops q S Ss out) {t i : Nat} (hw : wr q i t) : ∀ j, i < j → j ≤ q.length → (∀ j', j' < j → j' ≠ i → ¬ wr q j' t) → (Ss j).get t = outV (out i)
  | 0, h, _, _ => by omega
  | j + 1, h, hl, hu => by
    rw [(p.at (j := j) (by omega)).2, sNext_get]
    by_cases e : j = i
    · subst e
      obtain ⟨o, ho, hd⟩ := hw
      have : q[j] = o := by
        have := (List.getElem?_eq_some_iff.1 ho).2; exact this
      rw [this, if_pos hd]
    · rw [if_neg fun e' => hu j (by omega) e ⟨q[j], by simp [show j < q.length by omega], e'⟩]
      exact p.getSome (i := i) hw j (by omega) (by omega) fun j' hj' => hu j' (by omega)
theorem Path.cover (p : Path E ops q S Ss out) : ∀ j, j ≤ q.length → ∀ x, x < (Ss j).nx → x < S.nx ∨ ∃ i, i < j ∧ (Ss i).nx ≤ x ∧ x < (Ss (i + 1)).nx
  | 0, _, x, hx => by rw [p.zero] at hx; exact .inl hx
  | j + 1, hl, x, hx => by
    by_cases h : x < (Ss j).nx
    · rcases p.cover j (by omega) x h with h | ⟨i, h1, h2, h3⟩
      · exact .inl h
      · exact .inr ⟨i, by omega, h2, h3⟩
    · exact .inr ⟨j, by omega, by omega, hx⟩
end
end Go.Fx
end
