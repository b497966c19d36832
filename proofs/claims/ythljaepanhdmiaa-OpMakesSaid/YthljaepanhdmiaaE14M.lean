/-
  The engine, part 14m: maps.
-/
import Derived.Test.YthljaepanhdmiaaE14
namespace Go.Fx
open Go RowKit

/-! ### Entries -/
theorem eqI_iff (a b : Int) : eqI a b = true ↔ a = b := decide_eq_true_iff
theorem kq_iff {f : Fl} (hf : f = .int ∨ f = .op) (x y : f.ty) : f.kq x y = true ↔ x = y := by
  rcases hf with rfl | rfl
  · exact eqI_iff x y
  · refine Iff.trans decide_eq_true_iff ⟨fun h => ?_, fun h => by rw [h]⟩
    have : Fl.op.dec (Fl.op.enc x) = Fl.op.dec (Fl.op.enc y) := by rw [h]
    exact this
theorem kv_inj {f : Fl} (hf : f = .int ∨ f = .op) {x y : f.ty} (h : f.kv x = f.kv y) : x = y := by
  rcases hf with rfl | rfl
  · have h' : Value.int .i64 x = Value.int .i64 y := h
    cases h'; rfl
  · have h' : Value.agg (Fl.op.vals x).toArray = Value.agg (Fl.op.vals y).toArray := h
    have h2 : (Fl.op.vals x) = (Fl.op.vals y) := by
      injection h' with h2
      injection h2
    obtain ⟨⟨a1, a2, a3, a4, a5, a6, a7, a8, a9⟩, ⟨b1, b2, b3⟩⟩ := x
    obtain ⟨⟨c1, c2, c3, c4, c5, c6, c7, c8, c9⟩, ⟨d1, d2, d3⟩⟩ := y
    simp only [Fl.vals, Fl.sw, Fl.ks, Fl.enc, cksc, CK.sc, ckI, List.map_cons, List.map_nil, SC.lit, List.cons.injEq, Value.int.injEq, true_and, and_true] at h2
    obtain ⟨rfl, rfl, rfl, rfl, rfl, rfl, rfl, rfl, rfl, rfl, rfl, rfl⟩ := h2
    rfl
theorem mfind_none {f : Fl} (hf : f = .int ∨ f = .op) {x : f.ty} : ∀ {m : List (f.ty × Int)}, (∀ p ∈ m, p.1 ≠ x) → mfind f.kq m x = none ∧ ∀ v, mset f.kq m x v = m ++ [(x, v)]
  | [], _ => ⟨rfl, fun _ => rfl⟩
  | p :: r, h => by
    have h1 : ¬ f.kq p.1 x = true := fun e => h p (List.mem_cons_self ..) ((kq_iff hf _ _).1 e)
    obtain ⟨q1, q2⟩ := mfind_none hf (m := r) fun p hp => h p (List.mem_cons_of_mem _ hp)
    unfold mfind mset
    rw [if_neg h1]
    exact ⟨q1, fun v => by rw [if_neg h1, q2]; rfl⟩
theorem mfind_some {f : Fl} (hf : f = .int ∨ f = .op) {x : f.ty} {z : Int} : ∀ {m : List (f.ty × Int)} {j : Nat}, (m.map (·.1)).Nodup → m[j]? = some (x, z) → mfind f.kq m x = some z ∧ ∀ v, mset f.kq m x v = m.set j (x, v)
  | p :: r, 0, _, h => by
    cases h
    have h1 : f.kq x x = true := (kq_iff hf _ _).2 rfl
    unfold mfind mset
    rw [if_pos h1]
    exact ⟨rfl, fun v => by rw [if_pos h1]; rfl⟩
  | p :: r, j + 1, hn, h => by
    have h : r[j]? = some (x, z) := by simpa using h
    rw [List.map_cons, List.nodup_cons] at hn
    have h1 : ¬ f.kq p.1 x = true := fun e => hn.1 (by
      rw [(kq_iff hf _ _).1 e]
      exact List.mem_map.2 ⟨(x, z), List.mem_of_getElem? h, rfl⟩)
    obtain ⟨q1, q2⟩ := mfind_some hf hn.2 h
    unfold mfind mset
    rw [if_neg h1]
    exact ⟨q1, fun v => by rw [if_neg h1, q2]; rfl⟩
  | [], _, _, h => by cases h
section
variable {P : Program} {k : TypeId} {f : Fl} (K : KeyOk P k f)
theorem ents_keys (K : KeyOk P k f) {m : List (f.ty × Int)} {es : Array MapEntry} (h : Ents f m es) : ∀ e ∈ es.toList, ∃ l, keyOf P k e.key = some l := fun e he => by
  have : (e.key, e.val) ∈ es.toList.map (fun e => (e.key, e.val)) := List.mem_map.2 ⟨e, he, rfl⟩
  rw [h.1] at this
  obtain ⟨p, hp, e2⟩ := List.mem_map.1 this
  have e3 : f.kv p.1 = e.key := congrArg Prod.fst e2
  rw [← e3]
  exact K.key p.1 (h.2.1 p hp).1
theorem ents_at {m : List (f.ty × Int)} {es : Array MapEntry} (h : Ents f m es) {j : Nat} {e : MapEntry} (he : es.toList[j]? = some e) : ∃ p, m[j]? = some p ∧ f.kv p.1 = e.key ∧ Value.int .i64 p.2 = e.val := by
  have h1 : (es.toList.map (fun e => (e.key, e.val)))[j]? = some (e.key, e.val) := by rw [List.getElem?_map, he]; rfl
  rw [h.1, List.getElem?_map] at h1
  cases e2 : m[j]? with
  | none => rw [e2] at h1; cases h1
  | some p =>
    rw [e2] at h1
    simp only [Option.map_some, Option.some.injEq, Prod.mk.injEq] at h1
    exact ⟨p, rfl, h1.1, h1.2⟩
theorem find_ok (K : KeyOk P k f) (w : World) {x : f.ty} (hx : f.okv x) {m : List (f.ty × Int)} {es : Array MapEntry} (h : Ents f m es) :
    ((Instr.findKey k (f.kv x) es.toList).run P w = .ok none w ∧ mfind f.kq m x = none ∧ (∀ p ∈ m, p.1 ≠ x) ∧ ∀ v, mset f.kq m x v = m ++ [(x, v)]) ∨
    ∃ j z e, (Instr.findKey k (f.kv x) es.toList).run P w = .ok (some (j, .int .i64 z)) w ∧ es[j]? = some e ∧ e.key = f.kv x ∧ m[j]? = some (x, z) ∧ mfind f.kq m x = some z ∧ ∀ v, mset f.kq m x v = m.set j (x, v) := by
  obtain ⟨l, hl⟩ := K.key x hx
  rcases K.keyed.find w hl es.toList (ents_keys K h) with ⟨h1, h2⟩ | ⟨j, e, h1, h2, h3⟩
  · have hne : ∀ p ∈ m, p.1 ≠ x := fun p hp e => by
      have : (f.kv p.1, Value.int .i64 p.2) ∈ m.map (fun p => (f.kv p.1, Value.int .i64 p.2)) := List.mem_map.2 ⟨p, hp, rfl⟩
      rw [← h.1] at this
      obtain ⟨e', he', e2⟩ := List.mem_map.1 this
      exact h2 e' he' (by have := congrArg Prod.fst e2; rw [e] at this; exact this)
    obtain ⟨q1, q2⟩ := mfind_none K.form hne
    exact .inl ⟨h1, q1, hne, q2⟩
  · obtain ⟨p, hp, e1, e2⟩ := ents_at h h2
    have hpx : p.1 = x := kv_inj K.form (e1.trans h3)
    have hp' : m[j]? = some (x, p.2) := by rw [hp, ← hpx]
    obtain ⟨q1, q2⟩ := mfind_some K.form h.2.2 hp'
    exact .inr ⟨j, p.2, e, by rw [h1, ← e2], by simpa using h2, h3, hp', q1, q2⟩
end

/-! ### The world -/
section
variable {D : Nat → Prop} {R : Nat → Option Res} {α : Al} {ω : Nat → Option Nat} {B : Nat} {w0 w : World}
theorem HRel.makeMap (H : HRel D R α ω B w0 w) {n : Nat} (hn : ¬ D n) (f : Fl) :
    HRel (fun i => D i ∨ i = n) (fun i => if n = i then some (.map ⟨f, []⟩) else R i) (α.setB n w.heap.size) (fun b => if b = w.heap.size then some n else ω b) B w0 (w.alloc (.map #[] 0)) := by
  have ha := agree_setB α n w.heap.size hn
  have hsz : (w.alloc (.map #[] 0)).heap.size = w.heap.size + 1 := by
    show (w.heap.push _).size = _
    simp
  have hold : ∀ b, b < w.heap.size → (w.alloc (.map #[] 0)).heap[b]? = w.heap[b]? := fun b hb => Below.heap_alloc _ _ _ hb
  have hnew : (w.alloc (.map #[] 0)).heap[w.heap.size]? = some (.map #[] 0) := by
    show (w.heap.push _)[w.heap.size]? = _
    simp
  have hk : Keep D R (fun i => if n = i then some (.map ⟨f, []⟩) else R i) := fun j L' hj hr => by
    by_cases e : n = j
    · exact absurd (e ▸ hj) hn
    · simp only [if_neg e] at hr; exact ⟨L', hr, rfl, rfl⟩
  refine ⟨H.bel.alloc H.base _, by rw [hsz]; have := H.base; omega, fun b i hb => ?_, fun i r hr => ?_, fun i r hr => ?_, fun i b hb => ?_, H.one⟩
  · by_cases e : b = w.heap.size
    · simp only [e, if_true] at hb; cases hb
      exact ⟨by rw [e]; exact H.base, by rw [hsz]; omega, .inr rfl⟩
    · simp only [e, if_false] at hb
      obtain ⟨q1, q2, q3⟩ := H.own b i hb
      exact ⟨q1, by rw [hsz]; omega, .inl q3⟩
  · by_cases e : n = i
    · exact .inr e.symm
    · simp only [if_neg e] at hr; exact .inl (H.dec i r hr)
  · by_cases e : n = i
    · subst e
      simp only [if_true] at hr; cases hr
      refine ⟨?_, #[], 0, ?_, rfl, (fun p hp => by cases hp), List.nodup_nil⟩
      · show (if (α.setB n w.heap.size).blk n = w.heap.size then some n else _) = some n
        simp [Al.setB]
      · rw [show (α.setB n w.heap.size).blk n = w.heap.size by simp [Al.setB], hnew]
    · simp only [if_neg e] at hr
      refine (H.rel i r hr).frame (H.dec i r hr) ha (fun b e' => H.good i b (by rw [hr, e'])) (fun b hb => ?_) (fun b hb hn' => ?_)
      · have hlt := (H.own b i hb).2.1
        exact ⟨by simp only [if_neg (show b ≠ w.heap.size by omega)]; exact hb, hold b hlt⟩
      · exact ⟨by simp only [if_neg (show b ≠ w.heap.size by omega)]; exact hn', hold b hb⟩
  · by_cases e : n = i
    · subst e
      simp only [if_true] at hb; cases hb
    · simp only [if_neg e] at hb
      exact fun c hc => SC.good_mono (H.good i b hb c hc) (fun i h => .inl h) hk
theorem HRel.setMap (H : HRel D R α ω B w0 w) {i : Nat} {M M' : MB} (hi : R i = some (.map M)) {w' : World} {es : Array MapEntry} {clock : Nat}
    (hs : w'.heap.size = w.heap.size) (hnew : w'.heap[α.blk i]? = some (.map es clock)) (he : Ents M'.f M'.m es) (hold : ∀ k, k ≠ α.blk i → w'.heap[k]? = w.heap[k]?)
    (ho : w'.os = w.os) (ht : w'.tape = w.tape) (hout : w'.output = w.output) :
    HRel D (fun j => if i = j then some (.map M') else R j) α ω B w0 w' := by
  obtain ⟨h1, _⟩ : RRel α ω w i (.map M) := H.rel i _ hi
  have hB := (H.own _ _ h1).1
  have hk : Keep D R (fun j => if i = j then some (.map M') else R j) := fun j L' hj hr => by
    by_cases e : i = j
    · simp only [e, if_true] at hr; cases hr
    · simp only [if_neg e] at hr; exact ⟨L', hr, rfl, rfl⟩
  refine ⟨H.bel.trans ⟨ho, ht, hout, by omega, fun k hk' => hold k (by omega)⟩, by rw [hs]; exact H.base, fun b' i' hb' => by rw [hs]; exact H.own b' i' hb', fun j r hr => ?_, fun j r hr => ?_, fun j b' hb' => ?_, H.one⟩
  · by_cases e : i = j
    · subst e; exact H.dec _ _ hi
    · simp only [if_neg e] at hr; exact H.dec j r hr
  · by_cases e : i = j
    · subst e
      simp only [if_true] at hr; cases hr
      exact ⟨h1, es, clock, hnew, he⟩
    · simp only [if_neg e] at hr
      refine (H.rel j r hr).frame (H.dec j r hr) (Agree.refl D α) (fun b e' => H.good j b (by rw [hr, e'])) (fun b hb => ⟨hb, hold b fun e' => ?_⟩) (fun b hb hn' => ⟨hn', hold b fun e' => ?_⟩)
      · rw [e', h1] at hb; cases hb; exact e rfl
      · rw [e', h1] at hn'; cases hn'
  · by_cases e : i = j
    · subst e
      simp only [if_true] at hb'; cases hb'
    · simp only [if_neg e] at hb'
      exact fun c hc => SC.good_mono (H.good j b' hb' c hc) (fun _ h => h) hk
end

/-! ### The operations -/
theorem mapT_ok {E : Env} (EO : EnvOk E) {t : TypeId} {f : Fl} (h : mapT E t = some f) : ∃ k e, E.P.underlying t = some (.map k e) ∧ (∀ w, (zeroValue e).run E.P w = .ok (.int .i64 0) w) ∧ KeyOk E.P k f := by
  unfold mapT at h
  split at h
  · rename_i k e hu
    split at h
    · rename_i i he
      split at h
      · rename_i hi
        rw [Bool.and_eq_true, ile_iff, ile_iff] at hi
        have hv : i.v = 0 := by omega
        refine ⟨k, e, hu, fun w => ?_, EO.keys _ (look_mem h)⟩
        rw [zero_run he ⟨fun _ => 0, fun _ => undef⟩ w]
        simp only [SW.den, SC.den, hv]
      · cases h
    · cases h
  · cases h
theorem keyV_ok {f : Fl} {v : SV} {x : f.ty} (h : f.keyV v = some x) {D : Nat → Prop} {R : Nat → Option Res} {α : Al} (hg : v.good D R) : v.den α = f.kv x ∧ f.okv x := by
  cases f with
  | int =>
    obtain ⟨q1, q2, q3⟩ := dec_int (α := α) (show decI .i64 v = some x from h) hg
    refine ⟨q1, fun c hc => ?_⟩
    have : c = .int .i64 ⟨x, kmin .i64, kmax .i64⟩ := by simpa [Fl.sw, Fl.ks, Fl.enc, cksc, CK.sc, ckI] using hc
    subst this
    exact ⟨q2, q3⟩
  | op => exact dec_agg (α := α) (show decA .op v = some x from h) hg
  | _ => cases h
theorem run_getM {P : Program} {w : World} {b : Nat} {es : Array MapEntry} {c : Nat} (h : w.heap[b]? = some (.map es c)) : (getObj b).run P w = .ok (.map es c) w := by
  simp [getObj, Sem.run, h]
theorem run_setMap {P : Program} {w : World} {b : Nat} {es : Array MapEntry} {c : Nat} (h : w.heap[b]? = some (.map es c)) (o : Obj) : (setObj b o).run P w = .ok () { w with heap := w.heap.setIfInBounds b o } := by
  simp [setObj, Sem.run, h]
theorem mapSet_ok {E : Env} (EO : EnvOk E) {S S' : St} {t : TypeId} {m kx v : SV} {α : Al} {ω : Nat → Option Nat} {B : Nat} {w0 w : World} {a : Act} (r : Rel S α ω B w0 a w) (h : mapSetV E t S m kx v = some S')
    (gm : m.good (· < S.nx) S.res) (gk : kx.good (· < S.nx) S.res) (gv : v.good (· < S.nx) S.res) :
    ∃ w', (Instr.mapUpdate t (m.den α) (kx.den α) (v.den α)).run E.P w = .ok () w' ∧ Evo S S' α α ∧ Rel S' α ω B w0 a w' ∧ m ≠ .any ∧ kx ≠ .any ∧ v ≠ .any := by
  unfold mapSetV at h
  split at h
  · rename_i j
    split at h
    · rename_i f M hT hM
      split at h
      · rename_i x z hf hx hz
        cases h
        obtain ⟨k, e, hu, he, K⟩ := mapT_ok EO hT
        obtain rfl := feq_eq hf
        obtain ⟨k1, k2⟩ := keyV_ok (α := α) hx gk
        obtain ⟨v1, v2, v3⟩ := dec_int (α := α) hz gv
        obtain ⟨h1, es, clock, h2, h3⟩ : RRel α ω w j (.map M) := r.h.rel j _ hM
        have hlt := (r.h.own _ _ h1).2.1
        obtain ⟨l, hl⟩ := K.key x k2
        have hany : kx ≠ .any ∧ v ≠ .any := by
          refine ⟨fun e => ?_, fun e => ?_⟩
          · rw [e] at hx
            obtain ⟨f', m'⟩ := M
            cases f' <;> cases hx
          · rw [e] at hz; cases hz
        have fin : ∀ (es' : Array MapEntry) (c' : Nat), Ents M.f (mset M.f.kq M.m x z) es' →
            Evo S (S.set j (some (.map ⟨M.f, mset M.f.kq M.m x z⟩))) α α ∧ Rel (S.set j (some (.map ⟨M.f, mset M.f.kq M.m x z⟩))) α ω B w0 a { w with heap := w.heap.setIfInBounds (α.blk j) (.map es' c') } := fun es' c' he' => by
          have hk : Keep (· < S.nx) S.res (S.set j (some (.map ⟨M.f, mset M.f.kq M.m x z⟩))).res := by
            rw [res_set]
            intro i L' hj hr
            by_cases e : j = i
            · simp only [if_pos e] at hr; cases hr
            · simp only [if_neg e] at hr; exact ⟨L', hr, rfl, rfl⟩
          refine ⟨⟨Nat.le_refl _, Agree.refl _ _, hk, rfl, Ext.set _ _ _⟩, ?_, r.t.mono (fun _ h => h) hk (Agree.refl _ _), r.d⟩
          rw [res_set]
          refine r.h.setMap (M' := ⟨M.f, mset M.f.kq M.m x z⟩) hM (es := es') (clock := c') (by simp) ?_ he' (fun i hi => ?_) rfl rfl rfl
          · simp [hlt]
          · exact Array.getElem?_setIfInBounds_ne (fun e => hi e.symm)
        rcases find_ok K w k2 h3 with ⟨q1, q2, q3, q4⟩ | ⟨i, z0, en, q1, q2, q3, q4, q5, q6⟩
        · obtain ⟨f1, f2⟩ := fin (es.push { key := M.f.kv x, val := .int .i64 z, born := clock }) (clock + 1) (by
            rw [q4]
            refine ⟨by simp [h3.1], fun p hp => ?_, ?_⟩
            · rcases List.mem_append.1 hp with hp | hp
              · exact h3.2.1 p hp
              · obtain rfl := List.mem_singleton.1 hp
                exact ⟨k2, v2, v3⟩
            · rw [List.map_append, List.nodup_append]
              refine ⟨h3.2.2, by simp, fun y hy y' hy' e => ?_⟩
              obtain ⟨p, hp, rfl⟩ := List.mem_map.1 hy
              simp only [List.map_cons, List.map_nil, List.mem_singleton] at hy'
              exact q3 p hp (e.trans hy'))
          refine ⟨_, ?_, f1, f2, (fun e => by cases e), hany⟩
          rw [k1, v1]
          simp only [SV.den, SW.den, SC.den, Instr.mapUpdate, Sem.run_bind, und_run hu, Result.andThen_ok, run_getM h2, K.keyed.check w false hl, q1, run_setMap h2]
        · obtain ⟨f1, f2⟩ := fin (es.modify i fun e => { e with key := M.f.kv x, val := .int .i64 z }) clock (by
            rw [q6]
            refine ⟨?_, fun p hp => ?_, ?_⟩
            · have e1 : (es.modify i fun e => { e with key := M.f.kv x, val := .int .i64 z }).toList = es.toList.modify i fun e => { e with key := M.f.kv x, val := .int .i64 z } := by simp
              rw [e1]
              apply List.ext_getElem?
              intro n
              have h5 : (es.toList.map (fun e => (e.key, e.val)))[n]? = (M.m.map (fun p => (M.f.kv p.1, Value.int .i64 p.2)))[n]? := by rw [h3.1]
              rw [List.getElem?_map, List.getElem?_map] at h5
              rw [List.getElem?_map, List.getElem?_map, List.getElem?_modify, List.getElem?_set]
              by_cases e : i = n
              · subst e
                have hl1 : i < M.m.length := (List.getElem?_eq_some_iff.1 q4).1
                have q2' : es.toList[i]? = some en := by simpa using q2
                simp [hl1, q2']
              · simp only [if_neg e]
                rw [← h5]
                cases es.toList[n]? <;> rfl
            · rcases List.mem_or_eq_of_mem_set hp with hp | rfl
              · exact h3.2.1 p hp
              · exact ⟨k2, v2, v3⟩
            · have : (M.m.set i (x, z)).map (·.1) = M.m.map (·.1) := by
                rw [List.map_set]
                apply List.ext_getElem?
                intro n
                rw [List.getElem?_set]
                by_cases e : i = n
                · subst e
                  have hl1 : i < M.m.length := (List.getElem?_eq_some_iff.1 q4).1
                  rw [if_pos rfl, if_pos (by simpa using hl1), List.getElem?_map, q4]; rfl
                · rw [if_neg e]
              rw [this]; exact h3.2.2)
          refine ⟨_, ?_, f1, f2, (fun e => by cases e), hany⟩
          rw [k1, v1]
          have hst : (Instr.keyThatStays ((((es[i]?).map (·.key)).getD (M.f.kv x))) (M.f.kv x)).run E.P w = .ok (M.f.kv x) w := by
            rw [q2]
            show (Instr.keyThatStays en.key _).run E.P w = _
            rw [q3]
            exact K.keyed.stays w hl
          simp only [SV.den, SW.den, SC.den, Instr.mapUpdate, Sem.run_bind, und_run hu, Result.andThen_ok, run_getM h2, K.keyed.check w false hl, q1, hst, run_setMap h2]
      · cases h
    · cases h
  · cases h
theorem mapGet_ok {E : Env} (EO : EnvOk E) {S : St} {t : TypeId} {ok : Bool} {m kx v : SV} {α : Al} {ω : Nat → Option Nat} {B : Nat} {w0 w : World} {a : Act} (r : Rel S α ω B w0 a w) (h : mapGetV E t S ok m kx = some v)
    (gm : m.good (· < S.nx) S.res) (gk : kx.good (· < S.nx) S.res) :
    (Instr.lookup t (m.den α) (kx.den α) ok).run E.P w = .ok (v.den α) w ∧ v.good (· < S.nx) S.res ∧ m ≠ .any ∧ kx ≠ .any := by
  unfold mapGetV at h
  split at h
  · rename_i j
    split at h
    · rename_i f M hT hM
      split at h
      · rename_i x hf hx
        obtain ⟨k, e, hu, he, K⟩ := mapT_ok EO hT
        obtain rfl := feq_eq hf
        obtain ⟨k1, k2⟩ := keyV_ok (α := α) hx gk
        obtain ⟨h1, es, clock, h2, h3⟩ : RRel α ω w j (.map M) := r.h.rel j _ hM
        obtain ⟨l, hl⟩ := K.key x k2
        have hany : kx ≠ .any := fun e => by
          rw [e] at hx
          obtain ⟨f', m'⟩ := M
          cases f' <;> cases hx
        have hz := he w
        have key : (Instr.lookup t (.map (some (α.blk j))) (M.f.kv x) ok).run E.P w = .ok (if ok then .tuple #[.int .i64 (mgetD M.f.kq M.m x), .bool (mhas M.f.kq M.m x)] else .int .i64 (mgetD M.f.kq M.m x)) w ∧ kmin .i64 ≤ mgetD M.f.kq M.m x ∧ mgetD M.f.kq M.m x ≤ kmax .i64 := by
          rcases find_ok K w k2 h3 with ⟨q1, q2, q3, q4⟩ | ⟨i, z0, en, q1, q2, q3, q4, q5, q6⟩
          · refine ⟨?_, ?_⟩
            · simp only [Instr.lookup, Sem.run_bind, und_run hu, Result.andThen_ok, run_getM h2, Sem.run_pure, K.keyed.check w es.isEmpty hl, q1, hz, mgetD, mhas, q2]
              rfl
            · simp only [mgetD, q2, Option.getD_none]; decide
          · refine ⟨?_, ?_⟩
            · simp only [Instr.lookup, Sem.run_bind, und_run hu, Result.andThen_ok, run_getM h2, Sem.run_pure, K.keyed.check w es.isEmpty hl, q1, mgetD, mhas, q5]
              rfl
            · simp only [mgetD, q5, Option.getD_some]
              exact (h3.2.1 _ (List.mem_of_getElem? q4)).2
        obtain ⟨q1, q2, q3⟩ := key
        cases ok with
        | true =>
          cases h
          refine ⟨by rw [k1]; exact q1, fun v hv => ?_, (fun e => by cases e), hany⟩
          rcases List.mem_cons.1 hv with rfl | hv
          · exact ⟨q2, q3⟩
          · obtain rfl := List.mem_singleton.1 hv
            exact fun x hx => by cases hx
        | false =>
          cases h
          exact ⟨by rw [k1]; exact q1, ⟨q2, q3⟩, (fun e => by cases e), hany⟩
      · cases h
    · cases h
  · cases h
theorem makeMap_ok {E : Env} {S : St} {t : TypeId} {f : Fl} {α : Al} {ω : Nat → Option Nat} {B : Nat} {w0 w : World} {a : Act} (r : Rel S α ω B w0 a w) (d : Option Tmp) :
    ∃ α' ω', (Instr.makeMap t none).run E.P w = .ok (.map (some w.heap.size)) (w.alloc (.map #[] 0)) ∧ Evo S ({ S.set S.nx (some (.map ⟨f, []⟩)) with nx := S.nx + 1 }.put d (.w (.c (.mp S.nx)))) α α' ∧
      Rel ({ S.set S.nx (some (.map ⟨f, []⟩)) with nx := S.nx + 1 }.put d (.w (.c (.mp S.nx)))) α' ω' B w0 (a.put d (.map (some w.heap.size))) (w.alloc (.map #[] 0)) := by
  have hn : ¬ (S.nx < S.nx) := Nat.lt_irrefl _
  have hD : (fun i => i < S.nx ∨ i = S.nx) = (· < S.nx + 1) := by funext i; apply propext; omega
  have H' := r.h.makeMap hn f
  rw [hD] at H'
  have hk : Keep (· < S.nx) S.res (fun i => if S.nx = i then some (.map ⟨f, []⟩) else S.res i) := fun j L' hj hr => by
    have : S.nx ≠ j := by have : j < S.nx := hj; omega
    simp only [if_neg this] at hr; exact ⟨L', hr, rfl, rfl⟩
  have ha := agree_setB (D := (· < S.nx)) α S.nx w.heap.size hn
  let S1 : St := { S.set S.nx (some (.map ⟨f, []⟩)) with nx := S.nx + 1 }
  have hres : S1.res = fun i => if S.nx = i then some (.map ⟨f, []⟩) else S.res i := res_set S S.nx _
  have r1 : Rel S1 (α.setB S.nx w.heap.size) (fun b => if b = w.heap.size then some S.nx else ω b) B w0 a (w.alloc (.map #[] 0)) := by
    refine ⟨?_, ?_, r.d⟩
    · rw [hres]; exact H'
    · rw [hres]
      exact r.t.mono (fun i h => Nat.lt_succ_of_lt h) hk ha
  have e1 : Evo S S1 α (α.setB S.nx w.heap.size) := ⟨Nat.le_succ _, ha, by rw [hres]; exact hk, rfl, Ext.new _ _ _ _⟩
  refine ⟨α.setB S.nx w.heap.size, _, ?_, e1.trans (Evo.put S1 d _ _), r1.put ?_ d fun _ => ?_⟩
  · simp only [Instr.makeMap, Sem.run_bind, run_newObj_alloc, Result.andThen_ok, Sem.run_pure]
  · exact Nat.lt_succ_self _
  · simp [SV.den, SW.den, SC.den, Al.setB]
end Go.Fx
