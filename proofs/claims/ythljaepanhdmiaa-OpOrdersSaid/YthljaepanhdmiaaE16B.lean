/-
  The engine, part 16b: what an operation gives hangs on what it looks at alone.
-/
import Derived.Test.YthljaepanhdmiaaE16A
namespace Go.Fx
open Go RowKit

/-- Values that name boxes and lists of D alone. -/
abbrev SV.inn (v : SV) (D : Nat → Prop) : Prop := v.good D fun _ => none
section
variable {E : Env} {S1 S2 : St} {D : Nat → Prop} (hres : ∀ i, D i → S1.res i = S2.res i)
theorem loadV_congr (hres : ∀ i, D i → S1.res i = S2.res i) {t : TypeId} {v : SV} (hv : v.inn D) : loadV E S1 t v = loadV E S2 t v := by
  cases v with
  | w x =>
    cases x with
    | c y =>
      cases y with
      | ptr b off => simp only [loadV, hres b hv]
      | lptr j n i c => simp only [loadV, hres j hv.1]
      | _ => rfl
    | agg _ => rfl
  | _ => rfl
theorem isList_congr (hres : ∀ i, D i → S1.res i = S2.res i) {j : Nat} (hj : D j) : isList S1 j = isList S2 j := by
  simp only [isList, hres j hj]
theorem indexAddrV_congr (hres : ∀ i, D i → S1.res i = S2.res i) {t : TypeId} {v ix : SV} (hv : v.inn D) : indexAddrV E S1 t v ix = indexAddrV E S2 t v ix := by
  have key : ∀ j, v = .w (.c (.sl j)) → S1.res j = S2.res j := fun j e => by subst e; exact hres j hv
  unfold indexAddrV
  cases ix with
  | w x =>
    cases x with
    | c y =>
      cases y with
      | int k i =>
        dsimp only
        cases E.P.underlying t with
        | none => rfl
        | some d =>
          cases d <;> try rfl
          all_goals
            cases v with
            | w x =>
              cases x with
              | c y => cases y <;> first | rfl | (dsimp only; rw [key _ rfl])
              | agg _ => rfl
            | _ => rfl
      | _ => rfl
    | agg _ => rfl
  | _ => rfl
theorem fieldAddrV_congr (hres : ∀ i, D i → S1.res i = S2.res i) {t : TypeId} {v : SV} {f : Nat} (hv : v.inn D) : fieldAddrV E S1 t v f = fieldAddrV E S2 t v f := by
  have key : ∀ j n i c, v = .w (.c (.lptr j n i c)) → isList S1 j = isList S2 j := fun j n i c e => by subst e; exact isList_congr hres hv.1
  unfold fieldAddrV
  cases E.P.underlying t with
  | none => rfl
  | some d =>
    cases d <;> try rfl
    rename_i fs
    dsimp only
    cases fs.toList[f]? with
    | none => rfl
    | some fd =>
      dsimp only
      cases E.size fd.type with
      | none => rfl
      | some n =>
        cases n with
        | zero => rfl
        | succ n =>
          cases v with
          | w x =>
            cases x with
            | c y => cases y <;> first | rfl | (dsimp only; rw [key _ _ _ _ rfl])
            | agg _ => rfl
          | _ => rfl
theorem arrIdxV_congr (hres : ∀ i, D i → S1.res i = S2.res i) {t : TypeId} {v ix : SV} (hv : v.inn D) : arrIdxV E S1 t v ix = arrIdxV E S2 t v ix := by
  unfold arrIdxV
  cases v with
  | w x =>
    cases x with
    | c y =>
      cases y with
      | lptr j n i c =>
        have key : isList S1 j = isList S2 j := isList_congr hres hv.1
        cases ix with
        | w x =>
          cases x with
          | c y =>
            cases y with
            | int k i =>
              dsimp only
              rw [key]
            | _ => rfl
          | agg _ => rfl
        | _ => rfl
      | _ => rfl
    | agg _ => rfl
  | _ => rfl
theorem lenV_congr (hres : ∀ i, D i → S1.res i = S2.res i) {v : SV} (hv : v.inn D) : lenV S1 v = lenV S2 v := by
  cases v with
  | w x =>
    cases x with
    | c y =>
      cases y with
      | sl j => simp only [lenV, hres j hv]
      | _ => rfl
    | agg _ => rfl
  | _ => rfl
theorem listOf_congr (hres : ∀ i, D i → S1.res i = S2.res i) {f : Fl} {v : SV} (hv : v.inn D) : S1.listOf f v = S2.listOf f v := by
  cases v with
  | w x =>
    cases x with
    | c y =>
      cases y with
      | sl j => simp only [St.listOf, hres j hv]
      | csl b off len cap => simp only [St.listOf, hres b hv]
      | _ => rfl
    | agg _ => rfl
  | _ => rfl
theorem dec_congr (hres : ∀ i, D i → S1.res i = S2.res i) {s : Sh} {v : SV} (hv : v.inn D) : s.dec S1 v = s.dec S2 v := by
  cases s with
  | list f => exact listOf_congr hres hv
  | _ => rfl
theorem decArgs_congr (hres : ∀ i, D i → S1.res i = S2.res i) : ∀ {l : List Sh} {vs : List SV}, (∀ v ∈ vs, v.inn D) → decArgs S1 l vs = decArgs S2 l vs
  | [], [], _ => rfl
  | s :: r, v :: vs, h => by
    unfold decArgs
    rw [dec_congr hres (h v (List.mem_cons_self ..)), decArgs_congr hres fun u hu => h u (List.mem_cons_of_mem _ hu)]
  | [], _ :: _, _ => rfl
  | _ :: _, [], _ => rfl
theorem evs_congr : ∀ {l : List Operand}, (∀ x ∈ l, S1.ev x = S2.ev x) → S1.evs l = S2.evs l
  | [], _ => rfl
  | x :: r, h => by
    unfold St.evs
    rw [h x (List.mem_cons_self ..), evs_congr fun u hu => h u (List.mem_cons_of_mem _ hu)]
theorem evp_congr : ∀ {l : List (Nat × Operand)}, (∀ x ∈ l.map (·.2), S1.ev x = S2.ev x) → S1.evp l = S2.evp l
  | [], _ => rfl
  | x :: r, h => by
    unfold St.evp
    rw [h x.2 (List.mem_cons_self ..), evp_congr fun u hu => h u (List.mem_cons_of_mem _ hu)]
theorem opv_congr (hres : ∀ i, D i → S1.res i = S2.res i) {op : Op} (h : ∀ x ∈ op.operands.toList, S1.ev x = S2.ev x ∧ (S1.ev x).inn D) : opv E S1 op = opv E S2 op := by
  have one : ∀ {x : Operand}, op.operands = #[x] → S1.ev x = S2.ev x ∧ (S1.ev x).inn D := fun {x} e => h x (by rw [e]; simp)
  cases op with
  | move x => simp only [opv, (one rfl).1]
  | assign x => simp only [opv, (one rfl).1]
  | pick c x y => simp only [opv, (h c (by simp [Op.operands])).1, (h x (by simp [Op.operands])).1, (h y (by simp [Op.operands])).1]
  | box t x => simp only [opv, (one rfl).1]
  | build t parts => simp only [opv, evp_congr (S1 := S1) (S2 := S2) (l := parts.toList) fun x hx => (h x hx).1]
  | buildSlice t len parts => simp only [opv, evp_congr (S1 := S1) (S2 := S2) (l := parts.toList) fun x hx => (h x hx).1]
  | load t x => simp only [opv]; rw [loadV_congr hres (one rfl).2, (one rfl).1]
  | nilCheck x => simp only [opv, (one rfl).1]
  | binOp o t x y t' => simp only [opv, (h x (by simp [Op.operands])).1, (h y (by simp [Op.operands])).1]
  | unOp o t x => simp only [opv, (one rfl).1]
  | convert s d x => simp only [opv, (one rfl).1]
  | makeFunc fn first cap => cases fn <;> simp only [opv, evs_congr (S1 := S1) (S2 := S2) (l := cap.toList) fun x hx => (h x (by simp only [Op.operands, Array.toList_append, List.mem_append]; exact .inr hx)).1]
  | fieldAddr t x f => simp only [opv]; rw [fieldAddrV_congr hres (one rfl).2, (one rfl).1]
  | field t x f => simp only [opv, (one rfl).1]
  | indexAddr t x y =>
    obtain ⟨ex, hx⟩ := h x (by simp [Op.operands])
    obtain ⟨ey, hy⟩ := h y (by simp [Op.operands])
    simp only [opv]
    rw [← ex, ← ey]
    split
    · rename_i e; rw [e] at hx; exact arrIdxV_congr hres hx
    · exact indexAddrV_congr hres hx
  | index t x y => simp only [opv, (h x (by simp [Op.operands])).1, (h y (by simp [Op.operands])).1]
  | extract x i => simp only [opv, (one rfl).1]
  | call c =>
    simp only [opv]
    split
    · split
      · rename_i x t e1 e2
        split
        · obtain ⟨q1, q2⟩ := h x (by simp only [Op.operands, Call.operands, Array.toList_append, List.mem_append]; exact .inr (by rw [e1]; exact List.mem_cons_self ..))
          rw [lenV_congr hres q2, q1]
        · rfl
      · rfl
    · split
      · rename_i x y e1
        obtain ⟨q1, _⟩ := h x (by simp only [Op.operands, Call.operands, Array.toList_append, List.mem_append]; exact .inr (by rw [e1]; exact List.mem_cons_self ..))
        obtain ⟨q2, _⟩ := h y (by simp only [Op.operands, Call.operands, Array.toList_append, List.mem_append]; exact .inr (by rw [e1]; exact List.mem_cons_of_mem _ (List.mem_cons_self ..)))
        rw [q1, q2]
      · rfl
    · split
      · rename_i x y e1
        obtain ⟨q1, _⟩ := h x (by simp only [Op.operands, Call.operands, Array.toList_append, List.mem_append]; exact .inr (by rw [e1]; exact List.mem_cons_self ..))
        obtain ⟨q2, _⟩ := h y (by simp only [Op.operands, Call.operands, Array.toList_append, List.mem_append]; exact .inr (by rw [e1]; exact List.mem_cons_of_mem _ (List.mem_cons_self ..)))
        rw [q1, q2]
      · rfl
    · rfl
  | _ => rfl
theorem pickC_congr (hres : ∀ i, D i → S1.res i = S2.res i) {f : FuncId} {args : List SV} (h : ∀ v ∈ args, v.inn D) : ∀ {l : List (FuncId × Contract)}, pickC f args S1 l = pickC f args S2 l
  | [] => rfl
  | (g, C) :: r => by
    unfold pickC
    rw [decArgs_congr hres h, pickC_congr hres h]
theorem callQ_congr (hres : ∀ i, D i → S1.res i = S2.res i) {f : FuncId} {args : List SV} (h : ∀ v ∈ args, v.inn D) : callQ E f args S1 = callQ E f args S2 := by
  unfold callQ
  rw [pickC_congr hres h]
theorem evs_inn {D : Nat → Prop} : ∀ {l : List Operand}, (∀ x ∈ l, (S1.ev x).inn D) → ∀ v ∈ S1.evs l, v.inn D
  | x :: r, h, v, hv => by
    unfold St.evs at hv
    rcases List.mem_cons.1 hv with rfl | hv
    · exact h x (List.mem_cons_self ..)
    · exact evs_inn (fun u hu => h u (List.mem_cons_of_mem _ hu)) v hv
theorem qv_congr (hres : ∀ i, D i → S1.res i = S2.res i) {op : Op} (h : ∀ x ∈ op.operands.toList, S1.ev x = S2.ev x ∧ (S1.ev x).inn D) : qv E S1 op = qv E S2 op := by
  unfold qv
  split
  · rename_i fo as ts
    obtain ⟨ef, hf⟩ := h fo (by simp [Op.operands, Call.operands])
    have ha : ∀ x ∈ as.toList, S1.ev x = S2.ev x ∧ (S1.ev x).inn D := fun x hx => h x (by simp only [Op.operands, Call.operands, Array.toList_append, List.mem_append]; exact .inr hx)
    rw [← ef]
    split
    · rename_i f cap e
      rw [e] at hf
      rw [evs_congr (S1 := S2) (S2 := S1) fun x hx => (ha x hx).1.symm]
      refine callQ_congr hres fun v hv => ?_
      rcases List.mem_append.1 hv with hv | hv
      · exact evs_inn (fun x hx => (ha x hx).2) v hv
      · obtain ⟨p, hp, rfl⟩ := List.mem_map.1 hv
        exact hf p hp
    · rfl
  · exact opv_congr hres h
/-! ### Values within a bound -/
theorem ltAll_iff {n : Nat} : ∀ {l : List (Nat × Nat)}, ltAll n l = true → ∀ p ∈ l, p.1 < n
  | p :: r, h, q, hq => by
    unfold ltAll at h
    rw [Bool.and_eq_true] at h
    rcases List.mem_cons.1 hq with rfl | hq
    · simpa [Nat.blt_eq] using h.1
    · exact ltAll_iff h.2 q hq
theorem sc_inn {D : Nat → Prop} {R : Nat → Option Res} {n : Nat} {c : SC} (h : scSC n c = true) (hg : c.good D R) : c.good (fun i => D i ∧ i < n) fun _ => none := by
  cases c with
  | ptr b off => exact ⟨hg, by simpa [scSC, Nat.blt_eq] using h⟩
  | lptr j m i c => exact ⟨⟨hg.1, by simpa [scSC, Nat.blt_eq] using h⟩, fun L hL => by cases hL⟩
  | fn f cap => exact fun p hp => ⟨hg p hp, ltAll_iff h p hp⟩
  | sl j => exact ⟨hg, by simpa [scSC, Nat.blt_eq] using h⟩
  | csl b off len cap => exact ⟨hg, by simpa [scSC, Nat.blt_eq] using h⟩
  | mp j => exact ⟨hg, by simpa [scSC, Nat.blt_eq] using h⟩
  | _ => exact hg
theorem scs_inn {D : Nat → Prop} {R : Nat → Option Res} {n : Nat} : ∀ {cs : List SC}, scSCs n cs = true → (∀ c ∈ cs, c.good D R) → ∀ c ∈ cs, c.good (fun i => D i ∧ i < n) fun _ => none
  | x :: r, h, hg, c, hc => by
    unfold scSCs at h
    rw [Bool.and_eq_true] at h
    rcases List.mem_cons.1 hc with rfl | hc
    · exact sc_inn h.1 (hg _ (List.mem_cons_self ..))
    · exact scs_inn h.2 (fun c hc => hg c (List.mem_cons_of_mem _ hc)) c hc
theorem sw_inn {D : Nat → Prop} {R : Nat → Option Res} {n : Nat} {c : SW} (h : scSW n c = true) (hg : c.good D R) : c.good (fun i => D i ∧ i < n) fun _ => none := by
  cases c with
  | c x => exact sc_inn h hg
  | agg cs => exact scs_inn h hg
theorem sws_inn {D : Nat → Prop} {R : Nat → Option Res} {n : Nat} : ∀ {cs : List SW}, scSWs n cs = true → (∀ c ∈ cs, c.good D R) → ∀ c ∈ cs, c.good (fun i => D i ∧ i < n) fun _ => none
  | x :: r, h, hg, c, hc => by
    unfold scSWs at h
    rw [Bool.and_eq_true] at h
    rcases List.mem_cons.1 hc with rfl | hc
    · exact sw_inn h.1 (hg _ (List.mem_cons_self ..))
    · exact sws_inn h.2 (fun c hc => hg c (List.mem_cons_of_mem _ hc)) c hc
theorem sv_inn {D : Nat → Prop} {R : Nat → Option Res} {n : Nat} {c : SV} (h : scSV n c = true) (hg : c.good D R) : c.inn (fun i => D i ∧ i < n) := by
  cases c with
  | w x => exact sw_inn h hg
  | tup cs => exact sws_inn h hg
  | any => trivial
theorem scOps_iff {S : St} : ∀ {l : List Operand}, scOps S l = true → ∀ x ∈ l, scSV S.nx (S.ev x) = true
  | y :: r, h, x, hx => by
    unfold scOps at h
    rw [Bool.and_eq_true] at h
    rcases List.mem_cons.1 hx with rfl | hx
    · exact h.1
    · exact scOps_iff h.2 x hx
end
end Go.Fx
