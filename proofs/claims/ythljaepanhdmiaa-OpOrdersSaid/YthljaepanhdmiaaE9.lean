/-
  The engine, part 9: reading memory, addresses, and all operations that read, together.
-/
import Derived.Test.YthljaepanhdmiaaE8
namespace Go.Fx
open Go RowKit

section
variable {D : Nat → Prop} {R : Nat → Option Res} {α : Al}
theorem ckSc_lit (k : CK) (c : Cell) : (k.sc c).den α = (k.sc c).lit ∧ ((k.sc c).ok0 → (k.sc c).good D R) := by
  cases k <;> cases c <;> first | exact ⟨rfl, fun h => h⟩ | exact ⟨rfl, fun _ x hx => by cases hx⟩
theorem cksc_lit : ∀ (ks : List CK) (cs : List Cell), ∀ c ∈ cksc ks cs, c.den α = c.lit ∧ (c.ok0 → c.good D R)
  | [], _, c, h => by simp [cksc] at h
  | _ :: _, [], c, h => by simp [cksc] at h
  | k :: ks, x :: cs, c, h => by
    simp only [cksc, List.mem_cons] at h
    rcases h with rfl | h
    · exact ckSc_lit k x
    · exact cksc_lit ks cs c h
theorem sw_den (f : Fl) (x : f.ty) : (f.sw x).map (SC.den α) = f.vals x := List.map_congr_left fun c hc => (cksc_lit (D := fun _ => True) (R := fun _ => none) _ _ c hc).1
theorem sw_good {f : Fl} {x : f.ty} (h : f.okv x) : ∀ c ∈ f.sw x, c.good D R := fun c hc => (cksc_lit (α := ⟨fun _ => 0, fun _ => undef⟩) _ _ c hc).2 (h c hc)
end
theorem cell_of {w : World} {b : Nat} {cs : Array Value} {ty : TypeId} {fz : Nat × Nat} (h : w.heap[b]? = some (.cells cs ty fz)) (o : Nat) : w.cell? ⟨b, o, none⟩ = cs[o]? := by
  simp [World.cell?, h]

section
variable {E : Env} {S : St} {D : Nat → Prop} {α : Al} {ω : Nat → Option Nat} {B : Nat} {w0 w : World} {a : Act}
/-- A list that is not empty lies somewhere. -/
theorem list_at {R : Nat → Option Res} (H : HRel D R α ω B w0 w) {j : Nat} {L : LB} (hj : R j = some (.list L)) {i : Int} (h0 : 0 ≤ i) (h1 : i < (L.l.length : Int)) :
    ∃ blk off cap, α.sv j = .slice (some ⟨blk, off, none⟩) L.l.length cap ∧ ∀ k v, (L.f.vals (nthD L.l i L.f.dflt))[k]? = some v → w.cell? ⟨blk, off + (i.toNat * L.f.ks.length + k), none⟩ = some v := by
  have hr := H.rel j _ hj
  obtain ⟨_, _, h3⟩ : LRep w L.f L.l (α.sv j) _ L.own := hr
  rcases h3 with ⟨_, _, _, e, _⟩ | ⟨blk, off, cap, cs, ty, fz, e1, e2, e3, e4, e5, e6⟩
  · rw [e] at h1; simp at h1; omega
  · refine ⟨blk, off, cap, e1, fun k v hk => ?_⟩
    have hx : L.l[i.toNat]? = some (nthD L.l i L.f.dflt) := by
      unfold nthD
      rw [List.getD_eq_getElem?_getD]
      have : i.toNat < L.l.length := by omega
      rw [List.getElem?_eq_getElem this]; rfl
    have := e5 _ _ hx k v hk
    rw [cell_of e3, ← Nat.add_assoc]
    exact this
theorem list_okv {R : Nat → Option Res} (H : HRel D R α ω B w0 w) {j : Nat} {L : LB} (hj : R j = some (.list L)) {i : Int} (h0 : 0 ≤ i) (h1 : i < (L.l.length : Int)) : L.f.okv (nthD L.l i L.f.dflt) := by
  obtain ⟨h2, _, _⟩ : LRep w L.f L.l (α.sv j) _ L.own := H.rel j _ hj
  refine h2 _ ?_
  unfold nthD
  rw [List.getD_eq_getElem?_getD, List.getElem?_eq_getElem (by omega : i.toNat < L.l.length)]
  exact List.getElem_mem _
theorem load_ok (H : HRel D S.res α ω B w0 w) {t : TypeId} {x v : SV} {side : Option Prop} (h : loadV E S t x = .val side v) (hx : x.good D S.res) :
    (Instr.loadAt t (x.den α)).run E.P w = .ok (v.den α) w ∧ v.good D S.res ∧ v ≠ .any := by
  unfold loadV at h
  split at h
  · rename_i b off
    split at h
    · rename_i bx hb
      unfold ofOpt at h
      split at h
      · rename_i v' hp
        cases h
        obtain ⟨_, h2⟩ : RRel α ω w b (.box bx) := H.rel b _ hb
        have := loadVar_run hp α w (α.blk b) 0 (fun k c hk => by
          rw [cell_of h2]; simp [hk])
        simp only [Nat.zero_add] at this
        refine ⟨?_, part_good hp (H.good b bx hb), fun e => by cases e⟩
        simp only [SV.den, SW.den, SC.den, Instr.loadAt, Instr.sureAddr, Sem.run_bind, Sem.run_pure, Result.andThen_ok]
        exact this
      · cases h
    · cases h
  · rename_i j n i c
    split at h
    · rename_i L hj
      unfold ofOpt at h
      split at h
      · rename_i v' hp
        cases h
        obtain ⟨hd, hL⟩ : D j ∧ _ := hx
        obtain ⟨q1, q2, q3⟩ := hL L hj
        obtain ⟨blk, off, cap, e1, e2⟩ := list_at H hj q2 q3
        have hok := list_okv H hj q2 q3
        have := loadVar_run hp α w blk (off + i.toNat * L.f.ks.length) (fun k c hk => by
          have := e2 k (c.den α) (by rw [← sw_den (α := α), List.getElem?_map, hk]; rfl)
          rwa [← Nat.add_assoc] at this)
        refine ⟨?_, part_good hp (sw_good hok), fun e => by cases e⟩
        simp only [SV.den, SW.den, SC.den, e1, Instr.loadAt, Instr.sureAddr, Sem.run_bind, Sem.run_pure, Result.andThen_ok]
        rw [q1, ← Nat.add_assoc]
        exact this
      · cases h
    · cases h
  · cases h
theorem lptr_at {R : Nat → Option Res} (H : HRel D R α ω B w0 w) {j n : Nat} {i : Int} (c : Nat) (hx : (SC.lptr j n i c).good D R) {L : LB} (hj : R j = some (.list L)) :
    ∃ blk off cap, α.sv j = .slice (some ⟨blk, off, none⟩) L.l.length cap := by
  obtain ⟨_, hL⟩ := hx
  obtain ⟨_, q2, q3⟩ := hL L hj
  obtain ⟨blk, off, cap, e1, _⟩ := list_at H hj q2 q3
  exact ⟨blk, off, cap, e1⟩
theorem isList_ok {j : Nat} (h : isList S j = true) : ∃ L, S.res j = some (.list L) := by
  unfold isList at h
  split at h
  · rename_i L hL; exact ⟨L, hL⟩
  · cases h
theorem indexAddr_ok (H : HRel D S.res α ω B w0 w) {t : TypeId} {x ix v : SV} {side : Option Prop} (h : indexAddrV E S t x ix = .val side v) (hs : sideH side) (hx : x.good D S.res) (hi : ix.good D S.res) :
    (Instr.indexAt t (x.den α) (ix.den α)).run E.P w = .ok (v.den α) w ∧ v.good D S.res ∧ v ≠ .any ∧ x ≠ .any ∧ ix ≠ .any := by
  unfold indexAddrV at h
  split at h
  · rename_i x k i
    have hio : i.ok := hi
    split at h
    · rename_i len elem b off hu
      split at h
      · rename_i n sz e1 e2
        split at h
        · rename_i hb
          cases h
          rw [Bool.and_eq_true, ile_iff, ile_iff] at hb
          obtain ⟨q1, _, _⟩ := SI.lit?_eq hio e1
          refine ⟨?_, hx, (fun e => by cases e), (fun e => by cases e), (fun e => by cases e)⟩
          simp only [SV.den, SW.den, SC.den, Instr.indexAt, asIntOf, Sem.run_bind, Sem.run_pure, Result.andThen_ok, und_run hu, Instr.sureAddr]
          rw [q1, if_pos (by omega)]
          simp only [Sem.run_bind, size_run e2, Result.andThen_ok, Sem.run_pure, Addr.add_mid]
        · cases h
      · cases h
    · rename_i elem b off len cap hu
      split at h
      · rename_i n sz e1 e2
        split at h
        · rename_i hb
          cases h
          rw [Bool.and_eq_true, ile_iff, ile_iff] at hb
          obtain ⟨q1, _, _⟩ := SI.lit?_eq hio e1
          refine ⟨?_, hx, (fun e => by cases e), (fun e => by cases e), (fun e => by cases e)⟩
          simp only [SV.den, SW.den, SC.den, Instr.indexAt, asIntOf, Sem.run_bind, Sem.run_pure, Result.andThen_ok, und_run hu]
          rw [q1, if_pos (by omega)]
          simp only [Sem.run_bind, size_run e2, Result.andThen_ok, Sem.run_pure, Addr.add_mid]
        · cases h
      · cases h
    · rename_i elem j hu
      split at h
      · rename_i L sz hj e2
        split at h
        · rename_i hsz
          cases h
          have hsz := Nat.eq_of_beq_eq_true hsz
          obtain ⟨s1, s2⟩ : 0 ≤ i.v ∧ i.v < (L.l.length : Int) := hs
          obtain ⟨blk, off, cap, e3, _⟩ := list_at H hj s1 s2
          refine ⟨?_, ⟨hx, fun L' hL' => by rw [hj] at hL'; cases hL'; exact ⟨hsz, s1, s2⟩⟩, (fun e => by cases e), (fun e => by cases e), (fun e => by cases e)⟩
          simp only [SV.den, SW.den, SC.den, e3, Instr.indexAt, asIntOf, Sem.run_bind, Sem.run_pure, Result.andThen_ok, und_run hu]
          rw [if_pos ⟨s1, s2⟩]
          simp only [Sem.run_bind, size_run e2, Result.andThen_ok, Sem.run_pure, Addr.add_mid, Nat.add_zero]
        · cases h
      · cases h
    · cases h
  · cases h
theorem arrIdx_ok (H : HRel D S.res α ω B w0 w) {t : TypeId} {x ix v : SV} {side : Option Prop} (h : arrIdxV E S t x ix = .val side v) (hx : x.good D S.res) (hi : ix.good D S.res) :
    (Instr.indexAt t (x.den α) (ix.den α)).run E.P w = .ok (v.den α) w ∧ v.good D S.res ∧ v ≠ .any ∧ x ≠ .any ∧ ix ≠ .any := by
  unfold arrIdxV at h
  split at h
  · rename_i j n i c k' k
    have hio : k.ok := hi
    split at h
    · rename_i len elem m hu e1
      split at h
      · rename_i sz e2
        split at h
        · rename_i hb
          cases h
          rw [Bool.and_eq_true, Bool.and_eq_true, ile_iff, ile_iff] at hb
          obtain ⟨⟨hb1, hb2⟩, hb3⟩ := hb
          obtain ⟨L, hL⟩ := isList_ok hb3
          obtain ⟨blk, off, cap, e3⟩ := lptr_at H c hx hL
          obtain ⟨q1, _, _⟩ := SI.lit?_eq hio e1
          refine ⟨?_, hx, (fun e => by cases e), (fun e => by cases e), (fun e => by cases e)⟩
          simp only [SV.den, SW.den, SC.den, e3, Instr.indexAt, asIntOf, Sem.run_bind, Sem.run_pure, Result.andThen_ok, und_run hu, Instr.sureAddr]
          rw [q1, if_pos (by omega)]
          simp only [Sem.run_bind, size_run e2, Result.andThen_ok, Sem.run_pure, Addr.add_mid, Nat.add_assoc]
        · cases h
      · cases h
    · cases h
  · cases h
theorem fieldAddr_ok (H : HRel D S.res α ω B w0 w) {t : TypeId} {x v : SV} {f : Nat} {side : Option Prop} (h : fieldAddrV E S t x f = .val side v) (hx : x.good D S.res) :
    (Instr.fieldAt t (x.den α) f).run E.P w = .ok (v.den α) w ∧ v.good D S.res ∧ v ≠ .any ∧ x ≠ .any := by
  unfold fieldAddrV at h
  split at h
  · rename_i fs hu
    split at h
    · rename_i fd hf
      have hf' : fs[f]? = some fd := by simpa using hf
      split at h
      · rename_i n b off e2
        cases h
        refine ⟨?_, hx, (fun e => by cases e), (fun e => by cases e)⟩
        simp only [SV.den, SW.den, SC.den, Instr.fieldAt, Sem.run_bind, und_run hu, Result.andThen_ok, hf', Instr.sureAddr, Sem.run_pure, fieldPlace, size_run e2]
        simp [Addr.add_mid]
      · rename_i n j m i c e2
        split at h
        · rename_i hl
          cases h
          obtain ⟨L, hL⟩ := isList_ok hl
          obtain ⟨blk, off, cap, e3⟩ := lptr_at H c hx hL
          refine ⟨?_, hx, (fun e => by cases e), (fun e => by cases e)⟩
          simp only [SV.den, SW.den, SC.den, e3, Instr.fieldAt, Sem.run_bind, und_run hu, Result.andThen_ok, hf', Instr.sureAddr, Sem.run_pure, fieldPlace, size_run e2]
          simp [Addr.add_mid, Nat.add_assoc]
        · cases h
      · cases h
    · cases h
  · cases h
theorem index_ok {R : Nat → Option Res} {t : TypeId} {x ix v : SV} {side : Option Prop} (h : indexV E t x ix = .val side v) (hx : x.good D R) (hi : ix.good D R) (w : World) :
    (Instr.index t (x.den α) (ix.den α)).run E.P w = .ok (v.den α) w ∧ v.good D R ∧ v ≠ .any ∧ x ≠ .any ∧ ix ≠ .any := by
  unfold indexV at h
  split at h
  · rename_i cs k i
    have hio : i.ok := hi
    split at h
    · rename_i len elem n hu e1
      split at h
      · rename_i sz e2
        split at h
        · rename_i hb
          rw [Bool.and_eq_true, ile_iff, ile_iff] at hb
          unfold ofOpt at h
          split at h
          · rename_i v' hp
            cases h
            obtain ⟨q1, _, _⟩ := SI.lit?_eq hio e1
            have hpr := part_run hp α w
            refine ⟨?_, part_good hp hx, (fun e => by cases e), (fun e => by cases e), (fun e => by cases e)⟩
            simp only [SV.den, SW.den, SC.den, Instr.index, asIntOf, Sem.run_bind, Sem.run_pure, Result.andThen_ok, und_run hu]
            rw [q1, if_pos (by omega)]
            simp only [Sem.run_bind, size_run e2, Result.andThen_ok]
            exact hpr
          · cases h
        · cases h
      · cases h
    · cases h
  · cases h
theorem field_ok {R : Nat → Option Res} {t : TypeId} {x v : SV} {f : Nat} {side : Option Prop} (h : fieldV E t x f = .val side v) (hx : x.good D R) (w : World) :
    (Instr.field t (x.den α) f).run E.P w = .ok (v.den α) w ∧ v.good D R ∧ v ≠ .any ∧ x ≠ .any := by
  unfold fieldV at h
  split at h
  · rename_i fs cs hu
    split at h
    · rename_i fd hf
      have hf' : fs[f]? = some fd := by simpa using hf
      unfold ofOpt at h
      split at h
      · rename_i v' hp
        cases h
        have hpr := part_run hp α w
        refine ⟨?_, part_good hp hx, (fun e => by cases e), (fun e => by cases e)⟩
        simp only [SV.den, SW.den, Instr.field, Sem.run_bind, und_run hu, Result.andThen_ok, hf', asAgg, Sem.run_pure]
        exact hpr
      · cases h
    · cases h
  · cases h
theorem un_ok {R : Nat → Option Res} {op : UnOp} {x v : SV} {side : Option Prop} (h : unV op x = .val side v) (hx : x.good D R) (w : World) :
    (Op.unary op (x.den α)).run E.P w = .ok (v.den α) w ∧ v.good D R ∧ v ≠ .any ∧ x ≠ .any := by
  unfold unV at h
  split at h
  · rename_i k i
    have hio : i.ok := hx
    split at h
    · cases h
      obtain ⟨q1, q2⟩ := sub_ok (k := k) (lit_ok 0) hio
      refine ⟨?_, q1, (fun e => by cases e), (fun e => by cases e)⟩
      have q3 : ((SI.lit 0).sub k i).v = k.wrap (0 - i.v) := q2
      simp only [SV.den, SW.den, SC.den, Op.unary, Op.intArith, q3, Sem.run_pure]
    · cases h
  · rename_i b t
    split at h
    · cases h
      obtain ⟨q1, q2⟩ := bnotT_ok (b := b) (t := t) hx
      refine ⟨?_, q2, (fun e => by cases e), (fun e => by cases e)⟩
      simp [SV.den, SW.den, SC.den, Op.unary, q1]
    · cases h
  · cases h
theorem notAny_ok {x v : SV} {side : Option Prop} (h : notAny x = .val side v) : v = x ∧ side = none ∧ x ≠ .any := by
  cases x <;> simp only [notAny] at h <;> first | (cases h; exact ⟨rfl, rfl, fun e => by cases e⟩) | cases h
theorem pick_ok {R : Nat → Option Res} {c x y v : SV} {side : Option Prop} (h : pickV c x y = .val side v) (hc : c.good D R) (hx : x.good D R) (hy : y.good D R) (w : World) (a' b' : Value)
    (ha : x ≠ .any → a' = x.den α) (hb : y ≠ .any → b' = y.den α) :
    ((do pure (.value (if ← asBool (c.den α) then a' else b')) : Sem Next)).run E.P w = .ok (.value (v.den α)) w ∧ v.good D R ∧ c ≠ .any ∧ v ≠ .any := by
  unfold pickV at h
  split at h
  · rename_i b
    obtain ⟨rfl, _, hn⟩ := notAny_ok h
    have : b = true := hc true rfl
    subst this
    exact ⟨by simp [SV.den, SW.den, SC.den, asBool, ha hn], hx, (fun e => by cases e), hn⟩
  · rename_i b
    obtain ⟨rfl, _, hn⟩ := notAny_ok h
    have : b = false := hc false rfl
    subst this
    exact ⟨by simp [SV.den, SW.den, SC.den, asBool, hb hn], hy, (fun e => by cases e), hn⟩
  · rename_i cb xb _ yb _
    cases h
    refine ⟨?_, (fun x hx => by cases hx), (fun e => by cases e), (fun e => by cases e)⟩
    rw [ha (fun e => by cases e), hb (fun e => by cases e)]
    cases cb <;> simp [SV.den, SW.den, SC.den, asBool, bsel]
  · cases h
theorem ptrs_ok {R : Nat → Option Res} : ∀ {l : List SV} {ps : List (Nat × Nat)}, ptrsOf l = some ps → (∀ v ∈ l, v.good D R) →
    l.map (SV.den α) = (ps.map fun p => Value.pointer (some ⟨α.blk p.1, p.2, none⟩)) ∧ (∀ p ∈ ps, D p.1) ∧ ∀ v ∈ l, v ≠ .any
  | [], ps, h, _ => by cases h; exact ⟨rfl, (fun p hp => by cases hp), fun v hv => by cases hv⟩
  | v :: r, ps, h, hg => by
    unfold ptrsOf at h
    split at h
    · rename_i heq; cases heq
    · rename_i b off r' heq
      cases heq
      split at h
      · rename_i l' hl
        cases h
        obtain ⟨q1, q2, q3⟩ := ptrs_ok hl (fun v hv => hg v (List.mem_cons_of_mem _ hv))
        refine ⟨by rw [List.map_cons, q1]; rfl, fun p hp => ?_, fun v hv => ?_⟩
        · rcases List.mem_cons.1 hp with rfl | hp
          · exact hg _ (List.mem_cons_self ..)
          · exact q2 p hp
        · rcases List.mem_cons.1 hv with rfl | hv
          · exact fun e => by cases e
          · exact q3 v hv
      · cases h
    · cases h
theorem evs_den {S : St} {a : Act} (T : TRel D S.res α S.nt S.get a.tmps) : ∀ (l : List Operand), (∀ v ∈ S.evs l, v ≠ .any) → l.map a.eval = (S.evs l).map (SV.den α)
  | [], _ => rfl
  | x :: r, h => by
    have h1 := ev_den T (x := x) (h _ (List.mem_cons_self ..))
    have h2 := evs_den T r (fun v hv => h v (List.mem_cons_of_mem _ hv))
    simp only [St.evs, List.map_cons, h1, h2]
theorem evs_good {S : St} {a : Act} (T : TRel D S.res α S.nt S.get a.tmps) : ∀ (l : List Operand), ∀ v ∈ S.evs l, v.good D S.res
  | [], v, hv => by cases hv
  | x :: r, v, hv => by
    rcases List.mem_cons.1 hv with rfl | hv
    · exact ev_good T x
    · exact evs_good T r v hv
theorem len_ok (H : HRel D S.res α ω B w0 w) {x v : SV} {side : Option Prop} {t : TypeId} {e : TypeId} (hu : E.P.underlying t = some (.slice e)) (h : lenV S x = .val side v) (hx : x.good D S.res) (ty : TypeId) :
    (Builtin.len_ #[t] ty #[x.den α]).run E.P w = .ok (v.den α) w ∧ v.good D S.res ∧ v ≠ .any ∧ x ≠ .any := by
  unfold lenV at h
  split at h
  · cases h
    refine ⟨?_, lit_ok _, (fun e => by cases e), (fun e => by cases e)⟩
    simp [Builtin.len_, SV.den, SW.den, SC.den, und_run hu, goInt, SI.lit]
  · cases h
    refine ⟨?_, lit_ok _, (fun e => by cases e), (fun e => by cases e)⟩
    simp [Builtin.len_, SV.den, SW.den, SC.den, und_run hu, goInt, SI.lit]
  · rename_i j
    split at h
    · rename_i L hj
      cases h
      obtain ⟨_, h2, h3⟩ : LRep w L.f L.l (α.sv j) _ L.own := H.rel j _ hj
      have hb : 1 ≤ L.f.bytes := by cases L.f <;> decide
      have hle : L.l.length ≤ reach := Nat.le_trans (Nat.le_mul_of_pos_right _ hb) h2
      refine ⟨?_, ⟨Int.natCast_nonneg _, by show ((L.l.length : Nat) : Int) ≤ 140737488351232; unfold reach at hle; omega⟩, (fun e => by cases e), (fun e => by cases e)⟩
      rcases h3 with ⟨a, cap, e1, e2, _⟩ | ⟨blk, off, cap, cs, ty', fz, e1, _⟩
      · simp [Builtin.len_, SV.den, SW.den, SC.den, e1, e2, und_run hu, goInt, lenI]
      · simp [Builtin.len_, SV.den, SW.den, SC.den, e1, und_run hu, goInt, lenI]
    · cases h
  · cases h
theorem max_ok {R : Nat → Option Res} {x y v : SV} {side : Option Prop} (h : maxV x y = .val side v) (hx : x.good D R) (hy : y.good D R) (ts : Array TypeId) (ty : TypeId) (P : Program) (w : World) :
    (Builtin.max_ ts ty #[x.den α, y.den α]).run P w = .ok (v.den α) w ∧ v.good D R ∧ v ≠ .any ∧ x ≠ .any ∧ y ≠ .any := by
  unfold maxV at h
  split at h
  · rename_i k a k' b
    split at h
    · rename_i hk
      cases h
      obtain rfl := keq_eq hk
      have ha : a.ok := hx
      have hb : b.ok := hy
      refine ⟨?_, ?_, (fun e => by cases e), (fun e => by cases e), (fun e => by cases e)⟩
      · simp [Builtin.max_, Builtin.max2, SV.den, SW.den, SC.den, zmax]
      · obtain ⟨a1, a2⟩ := ha
        obtain ⟨b1, b2⟩ := hb
        have q1 := imax_ge (a := a.hi) (b := b.hi)
        have q2 : imax a.lo b.lo ≤ (if b.v > a.v then b.v else a.v) := imax_of (by split <;> omega) (by split <;> omega)
        exact ⟨q2, by show (if b.v > a.v then b.v else a.v) ≤ imax a.hi b.hi; split <;> omega⟩
    · cases h
  · cases h
theorem min_ok {R : Nat → Option Res} {x y v : SV} {side : Option Prop} (h : minV x y = .val side v) (hx : x.good D R) (hy : y.good D R) (ts : Array TypeId) (ty : TypeId) (P : Program) (w : World) :
    (Builtin.min_ ts ty #[x.den α, y.den α]).run P w = .ok (v.den α) w ∧ v.good D R ∧ v ≠ .any ∧ x ≠ .any ∧ y ≠ .any := by
  unfold minV at h
  split at h
  · rename_i k a k' b
    split at h
    · rename_i hk
      cases h
      obtain rfl := keq_eq hk
      have ha : a.ok := hx
      have hb : b.ok := hy
      refine ⟨?_, ?_, (fun e => by cases e), (fun e => by cases e), (fun e => by cases e)⟩
      · simp [Builtin.min_, Builtin.min2, SV.den, SW.den, SC.den, zmin]
      · obtain ⟨a1, a2⟩ := ha
        obtain ⟨b1, b2⟩ := hb
        have q1 := imin_le (a := a.lo) (b := b.lo)
        have q2 : (if b.v < a.v then b.v else a.v) ≤ imin a.hi b.hi := imin_of (by split <;> omega) (by split <;> omega)
        exact ⟨by show imin a.lo b.lo ≤ (if b.v < a.v then b.v else a.v); split <;> omega, q2⟩
    · cases h
  · cases h
end

end Go.Fx
