/-
  The engine, part two: blocks, lists, calls.
-/
import Derived.Test.YtcadkndjcneedaaGreatE8
set_option linter.unusedSimpArgs false
set_option linter.unusedVariables false
set_option linter.unusedSectionVars false
section
namespace Go.Fx
open Go RowKit

section
variable {D : Nat → Prop} {R : Nat → Option Res} {α : Al}
theorem ckSc_lit (k : CK) (c : Cell) : (k.sc c).den α = (k.sc c).lit ∧ ((k.sc c).ok0 → (k.sc c).good D R) := by
  cases k <;> cases c <;> first | exact ⟨rfl, fun h => h⟩ | exact ⟨rfl, fun _ x hx => by cases hx⟩
theorem cksc_lit : ∀ (ks : List CK) (cs : List Cell), ∀ c ∈ cksc ks cs, c.den α = c.lit ∧ (c.ok0 → c.good D R)
  | [], _, c, h => by simp [cksc] at h
  | _ :: _, [], c, h => by simp [cksc] at h
  | k :: ks, x :: cs, c, h => by
    simp only [cksc, List.mem_cons] at h
    rcases h with rfl | h
    · exact ckSc_lit k x
    · exact cksc_lit ks cs c h
theorem sw_den (f : Fl) (x : f.ty) : (f.sw x).map (SC.den α) = f.vals x := List.map_congr_left fun c hc => (cksc_lit (D := fun _ => True) (R := fun _ => none) _ _ c hc).1
theorem sw_good {f : Fl} {x : f.ty} (h : f.okv x) : ∀ c ∈ f.sw x, c.good D R := fun c hc => (cksc_lit (α := ⟨fun _ => 0, fun _ => undef, fun _ _ => undef⟩) _ _ c hc).2 (h c hc)
end
theorem cell_of {w : World} {b : Nat} {cs : Array Value} {ty : TypeId} {fz : Nat × Nat} (h : w.heap[b]? = some (.cells cs ty fz)) (o : Nat) : w.cell? ⟨b, o, none⟩ = cs[o]? := by
  simp [World.cell?, h]

section
variable {E : Env} {S : St} {D : Nat → Prop} {α : Al} {ω : Nat → Option Nat} {B : Nat} {w0 w : World} {a : Act}
/-- A list that is not empty lies somewhere. -/
theorem rep_at {f : Fl} {l : List f.ty} {v : Value} {m : Nat → Prop} {own : Bool} (h : LRep w f l v m own) {i : Int} (h0 : 0 ≤ i) (h1 : i < (l.length : Int)) :
    ∃ blk off cap, v = .slice (some ⟨blk, off, none⟩) l.length cap ∧ ∀ k u, (f.vals (nthD l i f.dflt))[k]? = some u → w.cell? ⟨blk, off + (i.toNat * f.ks.length + k), none⟩ = some u := by
  obtain ⟨_, _, h3⟩ := h
  rcases h3 with ⟨_, _, _, e, _⟩ | ⟨blk, off, cap, cs, ty, fz, e1, e2, e3, e4, e5, e6⟩
  · rw [e] at h1; simp at h1; omega
  · refine ⟨blk, off, cap, e1, fun k v hk => ?_⟩
    have hx : l[i.toNat]? = some (nthD l i f.dflt) := by
      unfold nthD
      rw [List.getD_eq_getElem?_getD]
      have : i.toNat < l.length := by omega
      rw [List.getElem?_eq_getElem this]; rfl
    have := e5 _ _ hx k v hk
    rw [cell_of e3, ← Nat.add_assoc]
    exact this
theorem rep_okv {f : Fl} {l : List f.ty} {v : Value} {m : Nat → Prop} {own : Bool} (h : LRep w f l v m own) {i : Int} (h0 : 0 ≤ i) (h1 : i < (l.length : Int)) : f.okv (nthD l i f.dflt) := by
  refine h.1 _ ?_
  unfold nthD
  rw [List.getD_eq_getElem?_getD, List.getElem?_eq_getElem (by omega : i.toNat < l.length)]
  exact List.getElem_mem _
theorem list_at {R : Nat → Option Res} (H : HRel D R α ω B w0 w) {j : Nat} {L : LB} (hj : R j = some (.list L)) {i : Int} (h0 : 0 ≤ i) (h1 : i < (L.l.length : Int)) :
    ∃ blk off cap, α.sv j = .slice (some ⟨blk, off, none⟩) L.l.length cap ∧ ∀ k v, (L.f.vals (nthD L.l i L.f.dflt))[k]? = some v → w.cell? ⟨blk, off + (i.toNat * L.f.ks.length + k), none⟩ = some v :=
  rep_at (show LRep w L.f L.l (α.sv j) _ L.own from H.rel j _ hj) h0 h1
theorem list_okv {R : Nat → Option Res} (H : HRel D R α ω B w0 w) {j : Nat} {L : LB} (hj : R j = some (.list L)) {i : Int} (h0 : 0 ≤ i) (h1 : i < (L.l.length : Int)) : L.f.okv (nthD L.l i L.f.dflt) :=
  rep_okv (show LRep w L.f L.l (α.sv j) _ L.own from H.rel j _ hj) h0 h1
theorem nth_get {β : Type} {l : List β} {i : Int} (h0 : 0 ≤ i) (h1 : i < (l.length : Int)) (d : β) : l[i.toNat]? = some (nthD l i d) := by
  unfold nthD
  rw [List.getD_eq_getElem?_getD]
  have : i.toNat < l.length := by omega
  rw [List.getElem?_eq_getElem this]; rfl
/-- A row. -/
theorem row_rep {R : Nat → Option Res} (H : HRel D R α ω B w0 w) {j : Nat} {L : LLB} (hj : R j = some (.lists L)) {i : Int} (h0 : 0 ≤ i) (h1 : i < (L.ll.length : Int)) : LRep w L.f (nthD L.ll i []) (α.rv L.ver i.toNat) (mineOf ω B j L.own) L.own :=
  (show LLRep w L.f L.ll (α.sv j) (α.rv L.ver) _ L.own from H.rel j _ hj).1 _ _ (nth_get h0 h1 [])
theorem LRep.slice {f : Fl} {l : List f.ty} {v : Value} {m : Nat → Prop} {own : Bool} (h : LRep w f l v m own) : ∃ a cap, v = .slice a l.length cap ∧ l.length ≤ cap ∨ ∃ a cap, v = .slice a 0 cap ∧ l = [] := by
  obtain ⟨_, _, h3⟩ := h
  rcases h3 with ⟨a, cap, e1, e2, _⟩ | ⟨blk, off, cap, cs, ty, fz, e1, e2, _⟩
  · exact ⟨a, cap, .inr ⟨a, cap, e1, e2⟩⟩
  · exact ⟨some ⟨blk, off, none⟩, cap, .inl ⟨e1, e2⟩⟩
/-- The slice's length is the list's. -/
theorem LRep.len {f : Fl} {l : List f.ty} {v : Value} {m : Nat → Prop} {own : Bool} (h : LRep w f l v m own) : ∃ a cap, v = .slice a l.length cap ∧ l.length ≤ cap ∧ l.length ≤ room := by
  obtain ⟨_, h2, h3⟩ := h
  have hb : 1 ≤ f.bytes := by cases f <;> decide
  have hle : l.length ≤ room := Nat.le_trans (Nat.le_mul_of_pos_right _ hb) h2
  rcases h3 with ⟨a, cap, e1, e2, _⟩ | ⟨blk, off, cap, cs, ty, fz, e1, e2, _⟩
  · exact ⟨a, cap, by rw [e1, e2]; rfl, by rw [e2]; exact Nat.zero_le _, hle⟩
  · exact ⟨some ⟨blk, off, none⟩, cap, e1, e2, hle⟩
theorem LLRep.len {f : Fl} {l : List (List f.ty)} {v : Value} {rv : Nat → Value} {m : Nat → Prop} {own : Bool} (h : LLRep w f l v rv m own) : ∃ a cap, v = .slice a l.length cap ∧ l.length ≤ cap ∧ l.length ≤ room := by
  obtain ⟨_, h2, h3⟩ := h
  have hle : l.length ≤ room := Nat.le_trans (Nat.le_mul_of_pos_right _ (by decide)) h2
  rcases h3 with ⟨a, cap, e1, e2, _⟩ | ⟨blk, off, cap, cs, ty, fz, e1, e2, _⟩
  · exact ⟨a, cap, by rw [e1, e2]; rfl, by rw [e2]; exact Nat.zero_le _, hle⟩
  · exact ⟨some ⟨blk, off, none⟩, cap, e1, e2, hle⟩
theorem row_den {R : Nat → Option Res} (H : HRel D R α ω B w0 w) {j : Nat} {L : LLB} (hj : R j = some (.lists L)) {i : Int} (h0 : 0 ≤ i) (h1 : i < (L.ll.length : Int)) : (SC.row L.ver j i).den α = α.rv L.ver i.toNat := by
  obtain ⟨a, cap, e, _⟩ := (row_rep H hj h0 h1).len
  simp only [SC.den, e]
theorem outer_at {R : Nat → Option Res} (H : HRel D R α ω B w0 w) {j : Nat} {L : LLB} (hj : R j = some (.lists L)) {i : Int} (h0 : 0 ≤ i) (h1 : i < (L.ll.length : Int)) :
    ∃ blk off cap, α.sv j = .slice (some ⟨blk, off, none⟩) L.ll.length cap ∧ w.cell? ⟨blk, off + i.toNat, none⟩ = some (α.rv L.ver i.toNat) := by
  obtain ⟨_, _, h3⟩ : LLRep w L.f L.ll (α.sv j) (α.rv L.ver) _ L.own := H.rel j _ hj
  rcases h3 with ⟨_, _, _, e, _⟩ | ⟨blk, off, cap, cs, ty, fz, e1, e2, e3, e4, e5, e6⟩
  · rw [e] at h1; simp at h1; omega
  · exact ⟨blk, off, cap, e1, by rw [cell_of e3]; exact e5 _ (by omega)⟩
/-- A header among headers. -/
theorem hdr_at {R : Nat → Option Res} (H : HRel D R α ω B w0 w) {j : Nat} {js : List Nat} (hj : R j = some (.hdrs js)) {k j' : Nat} (hk : js[k]? = some j') :
    ∃ blk cap, α.sv j = .slice (some ⟨blk, 0, none⟩) js.length cap ∧ w.cell? ⟨blk, 0 + k, none⟩ = some (α.sv j') ∧ D j' := by
  have hlt := (List.getElem?_eq_some_iff.1 hk).1
  have hg : js.getD k 0 = j' := by rw [List.getD_eq_getElem?_getD, hk]; rfl
  rcases (show HRep w (α.sv j) js.length (fun k => α.sv (js.getD k 0)) _ from H.rel j _ hj) with ⟨_, _, e⟩ | ⟨blk, cap, cs, ty, e1, e2, e3, _, _, e6⟩
  · omega
  · refine ⟨blk, cap, e1, ?_, H.xr j _ hj j' (List.mem_of_getElem? hk)⟩
    have := e6 k hlt
    dsimp only at this
    rw [cell_of e3, Nat.zero_add, this, hg]
theorem load_ok (H : HRel D S.res α ω B w0 w) {t : TypeId} {x v : SV} {side : Option Prop} (h : loadV E S t x = .val side v) (hx : x.good D S.res) :
    (Instr.loadAt t (x.den α)).run E.P w = .ok (v.den α) w ∧ v.good D S.res ∧ v ≠ .any := by
  unfold loadV at h
  split at h
  · rename_i b off
    split at h
    · rename_i bx hb
      unfold ofOpt at h
      split at h
      · rename_i v' hp
        cases h
        obtain ⟨_, h2⟩ : RRel α ω B w b (.box bx) := H.rel b _ hb
        have := loadVar_run hp α w (α.blk b) 0 (fun k c hk => by
          rw [cell_of h2]; simp [hk])
        simp only [Nat.zero_add] at this
        refine ⟨?_, part_good hp (H.good b bx hb), fun e => by cases e⟩
        simp only [SV.den, SW.den, SC.den, Instr.loadAt, Instr.sureAddr, Sem.run_bind, Sem.run_pure, Result.andThen_ok]
        exact this
      · cases h
    · cases h
  · rename_i j n i c
    split at h
    · rename_i L hj
      unfold ofOpt at h
      split at h
      · rename_i v' hp
        cases h
        obtain ⟨hd, hL⟩ : D j ∧ _ := hx
        obtain ⟨q1, q2, q3⟩ := hL L hj
        obtain ⟨blk, off, cap, e1, e2⟩ := list_at H hj q2 q3
        have hok := list_okv H hj q2 q3
        have := loadVar_run hp α w blk (off + i.toNat * L.f.ks.length) (fun k c hk => by
          have := e2 k (c.den α) (by rw [← sw_den (α := α), List.getElem?_map, hk]; rfl)
          rwa [← Nat.add_assoc] at this)
        refine ⟨?_, part_good hp (sw_good hok), fun e => by cases e⟩
        simp only [SV.den, SW.den, SC.den, e1, Instr.loadAt, Instr.sureAddr, Sem.run_bind, Sem.run_pure, Result.andThen_ok]
        rw [q1, ← Nat.add_assoc]
        exact this
      · cases h
    · cases h
  · rename_i j i
    split at h
    · rename_i L hj hag
      cases h
      obtain ⟨hd, hL⟩ : D j ∧ _ := hx
      obtain ⟨q2, q3⟩ := hL L hj
      obtain ⟨blk, off, cap, e1, e2⟩ := outer_at H hj q2 q3
      have e3 := row_den H hj q2 q3
      refine ⟨?_, ⟨H.ver j L hj, hd, fun L' hL' _ => by rw [hj] at hL'; cases hL'; exact ⟨q2, q3⟩⟩, fun e => by cases e⟩
      show (Instr.loadAt t ((SC.rptr j i).den α)).run E.P w = .ok ((SC.row L.ver j i).den α) w
      rw [e3]
      simp only [SC.den, e1, Instr.loadAt, Instr.sureAddr, Sem.run_bind, Sem.run_pure, Result.andThen_ok, loadVar]
      simp [isAgg_run hag, e2]
    · rename_i js hj hag
      split at h
      · rename_i j' hk
        cases h
        obtain ⟨blk, cap, e1, e2, e3⟩ := hdr_at H hj hk
        refine ⟨?_, e3, fun e => by cases e⟩
        show (Instr.loadAt t ((SC.rptr j i).den α)).run E.P w = .ok (α.sv j') w
        simp only [SC.den, e1, Instr.loadAt, Instr.sureAddr, Sem.run_bind, Sem.run_pure, Result.andThen_ok, loadVar]
        simp only [isAgg_run hag, Result.andThen_ok, Sem.run_bind]
        simp [e2] at e2 ⊢
        simp [e2]
      · cases h
    · cases h
  · rename_i v' j n i k
    split at h
    · rename_i L hj
      split at h
      · rename_i hv
        have hv := Nat.eq_of_beq_eq_true hv
        unfold ofOpt at h
        split at h
        · rename_i v'' hp
          cases h
          obtain ⟨hd1, hd2, hL⟩ := hx
          obtain ⟨q1, q2, q3, q4, q5⟩ := hL L hj hv
          have hrr := row_rep H hj q2 q3
          obtain ⟨blk, off, cap, e1, e2⟩ := rep_at hrr q4 q5
          have hok := rep_okv hrr q4 q5
          have := loadVar_run hp α w blk (off + k.toNat * L.f.ks.length) (fun m c hk => by
            have := e2 m (c.den α) (by rw [← sw_den (α := α), List.getElem?_map, hk]; rfl)
            rwa [← Nat.add_assoc] at this)
          refine ⟨?_, part_good hp (sw_good hok), fun e => by cases e⟩
          rw [hv] at e1
          show (Instr.loadAt t ((SC.eptr v' j n i k).den α)).run E.P w = .ok (v''.den α) w
          simp only [SC.den, e1, Instr.loadAt, Instr.sureAddr, Sem.run_bind, Sem.run_pure, Result.andThen_ok]
          rw [q1]
          rwa [Nat.add_zero] at this
        · cases h
      · cases h
    · cases h
  · cases h
theorem lptr_at {R : Nat → Option Res} (H : HRel D R α ω B w0 w) {j n : Nat} {i : Int} (c : Nat) (hx : (SC.lptr j n i c).good D R) {L : LB} (hj : R j = some (.list L)) :
    ∃ blk off cap, α.sv j = .slice (some ⟨blk, off, none⟩) L.l.length cap := by
  obtain ⟨_, hL⟩ := hx
  obtain ⟨_, q2, q3⟩ := hL L hj
  obtain ⟨blk, off, cap, e1, _⟩ := list_at H hj q2 q3
  exact ⟨blk, off, cap, e1⟩
theorem isList_ok {j : Nat} (h : isList S j = true) : ∃ L, S.res j = some (.list L) := by
  unfold isList at h
  split at h
  · rename_i L hL; exact ⟨L, hL⟩
  · cases h
theorem indexAddr_ok (H : HRel D S.res α ω B w0 w) {t : TypeId} {x ix v : SV} {side : Option Prop} (h : indexAddrV E S t x ix = .val side v) (hs : sideH side) (hx : x.good D S.res) (hi : ix.good D S.res) :
    (Instr.indexAt t (x.den α) (ix.den α)).run E.P w = .ok (v.den α) w ∧ v.good D S.res ∧ v ≠ .any ∧ x ≠ .any ∧ ix ≠ .any := by
  unfold indexAddrV at h
  split at h
  · rename_i x k i
    have hio : i.ok := hi
    split at h
    · rename_i len elem b off hu
      split at h
      · rename_i n sz e1 e2
        split at h
        · rename_i hb
          cases h
          rw [Bool.and_eq_true, ile_iff, ile_iff] at hb
          obtain ⟨q1, _, _⟩ := SI.lit?_eq hio e1
          refine ⟨?_, hx, (fun e => by cases e), (fun e => by cases e), (fun e => by cases e)⟩
          simp only [SV.den, SW.den, SC.den, Instr.indexAt, asIntOf, Sem.run_bind, Sem.run_pure, Result.andThen_ok, und_run hu, Instr.sureAddr]
          rw [q1, if_pos (by omega)]
          simp only [Sem.run_bind, size_run e2, Result.andThen_ok, Sem.run_pure, Addr.add_mid]
        · cases h
      · cases h
    · rename_i elem b off len cap hu
      split at h
      · rename_i n sz e1 e2
        split at h
        · rename_i hb
          cases h
          rw [Bool.and_eq_true, ile_iff, ile_iff] at hb
          obtain ⟨q1, _, _⟩ := SI.lit?_eq hio e1
          refine ⟨?_, hx, (fun e => by cases e), (fun e => by cases e), (fun e => by cases e)⟩
          simp only [SV.den, SW.den, SC.den, Instr.indexAt, asIntOf, Sem.run_bind, Sem.run_pure, Result.andThen_ok, und_run hu]
          rw [q1, if_pos (by omega)]
          simp only [Sem.run_bind, size_run e2, Result.andThen_ok, Sem.run_pure, Addr.add_mid]
        · cases h
      · cases h
    · rename_i elem j hu
      split at h
      · rename_i L sz hj e2
        split at h
        · rename_i hsz
          cases h
          have hsz := Nat.eq_of_beq_eq_true hsz
          obtain ⟨s1, s2⟩ : 0 ≤ i.v ∧ i.v < (L.l.length : Int) := hs
          obtain ⟨blk, off, cap, e3, _⟩ := list_at H hj s1 s2
          refine ⟨?_, ⟨hx, fun L' hL' => by rw [hj] at hL'; cases hL'; exact ⟨hsz, s1, s2⟩⟩, (fun e => by cases e), (fun e => by cases e), (fun e => by cases e)⟩
          simp only [SV.den, SW.den, SC.den, e3, Instr.indexAt, asIntOf, Sem.run_bind, Sem.run_pure, Result.andThen_ok, und_run hu]
          rw [if_pos ⟨s1, s2⟩]
          simp only [Sem.run_bind, size_run e2, Result.andThen_ok, Sem.run_pure, Addr.add_mid, Nat.add_zero]
        · cases h
      · rename_i L sz hj e2
        split at h
        · rename_i hsz
          cases h
          have hsz := Nat.eq_of_beq_eq_true hsz
          obtain ⟨s1, s2⟩ : 0 ≤ i.v ∧ i.v < (L.ll.length : Int) := hs
          obtain ⟨blk, off, cap, e3, _⟩ := outer_at H hj s1 s2
          refine ⟨?_, ⟨hx, fun L' hL' => by rw [hj] at hL'; cases hL'; exact ⟨s1, s2⟩⟩, (fun e => by cases e), (fun e => by cases e), (fun e => by cases e)⟩
          simp only [SV.den, SW.den, SC.den, e3, Instr.indexAt, asIntOf, Sem.run_bind, Sem.run_pure, Result.andThen_ok, und_run hu]
          rw [if_pos ⟨s1, s2⟩]
          simp only [Sem.run_bind, size_run e2, Result.andThen_ok, Sem.run_pure, Addr.add_mid, hsz, Nat.mul_one]
        · cases h
      · rename_i js sz hj e2
        split at h
        · rename_i n hn hsz
          split at h
          · rename_i hb
            cases h
            have hsz := Nat.eq_of_beq_eq_true hsz
            rw [Bool.and_eq_true, ile_iff, ile_iff] at hb
            obtain ⟨q1, _, _⟩ := SI.lit?_eq hio hn
            have hlt : n.toNat < js.length := by omega
            obtain ⟨blk, cap, e3, _, _⟩ := hdr_at H hj (List.getElem?_eq_getElem hlt)
            refine ⟨?_, ⟨hx, fun L' hL' => by rw [hj] at hL'; cases hL'⟩, (fun e => by cases e), (fun e => by cases e), (fun e => by cases e)⟩
            simp only [SV.den, SW.den, SC.den, e3, Instr.indexAt, asIntOf, Sem.run_bind, Sem.run_pure, Result.andThen_ok, und_run hu]
            rw [q1, if_pos (by omega)]
            simp only [Sem.run_bind, size_run e2, Result.andThen_ok, Sem.run_pure, Addr.add_mid, hsz, Nat.mul_one]
          · cases h
        · cases h
      · cases h
    · rename_i elem j n lo len hu
      split at h
      · rename_i L sz hj e2
        split at h
        · rename_i hsz
          cases h
          rw [Bool.and_eq_true] at hsz
          have hs1 := Nat.eq_of_beq_eq_true hsz.1
          have hs2 := Nat.eq_of_beq_eq_true hsz.2
          obtain ⟨s1, s2⟩ : 0 ≤ i.v ∧ i.v < len.v := hs
          obtain ⟨hd, hlo, hlen, hL⟩ := hx
          obtain ⟨q1, q2, q3, q4⟩ := hL L hj
          have hadd : addZ lo i = lo.v + i.v := by
            unfold addZ
            split
            · rename_i hz
              rw [Bool.and_eq_true, ieq_iff, ieq_iff] at hz
              have := hlo.1; have := hlo.2; omega
            · rfl
          obtain ⟨blk, off, cap, e3, _⟩ := list_at H hj (i := lo.v + i.v) (by omega) (by omega)
          obtain ⟨_, cap', e4, e5, _⟩ := (show LRep w L.f L.l (α.sv j) _ L.own from H.rel j _ hj).len
          rw [e3] at e4; cases e4
          refine ⟨?_, ⟨hd, fun L' hL' => by rw [hj] at hL'; cases hL'; rw [hadd]; exact ⟨hs1, by omega, by omega⟩⟩, (fun e => by cases e), (fun e => by cases e), (fun e => by cases e)⟩
          have hne : ¬ cap = lo.v.toNat := by omega
          simp only [SV.den, SW.den, SC.den, e3, if_neg hne, Option.map_some, Instr.indexAt, asIntOf, Sem.run_bind, Sem.run_pure, Result.andThen_ok, und_run hu]
          rw [if_pos (by omega)]
          simp only [Sem.run_bind, size_run e2, Result.andThen_ok, Sem.run_pure, Addr.add_mid, hadd, Nat.add_zero, ← hs2]
          have : (lo.v + i.v).toNat = lo.v.toNat + i.v.toNat := by omega
          rw [this, Nat.add_mul, Nat.add_assoc]
        · cases h
      · cases h
    · rename_i elem v' j r hu
      split at h
      · rename_i L sz hj e2
        split at h
        · rename_i hsz
          cases h
          rw [Bool.and_eq_true] at hsz
          have hs1 := Nat.eq_of_beq_eq_true hsz.1
          have hs2 := Nat.eq_of_beq_eq_true hsz.2
          obtain ⟨s1, s2⟩ : 0 ≤ i.v ∧ i.v < ((nthD L.ll r []).length : Int) := hs
          obtain ⟨hd1, hd2, hL⟩ := hx
          obtain ⟨q2, q3⟩ := hL L hj hs2
          obtain ⟨blk, off, cap, e3, _⟩ := rep_at (row_rep H hj q2 q3) s1 s2
          rw [hs2] at e3
          refine ⟨?_, ⟨hd1, hd2, fun L' hL' hv => by rw [hj] at hL'; cases hL'; exact ⟨hs1, q2, q3, s1, s2⟩⟩, (fun e => by cases e), (fun e => by cases e), (fun e => by cases e)⟩
          simp only [SV.den, SW.den, SC.den, e3, Instr.indexAt, asIntOf, Sem.run_bind, Sem.run_pure, Result.andThen_ok, und_run hu]
          rw [if_pos ⟨s1, s2⟩]
          simp only [Sem.run_bind, size_run e2, Result.andThen_ok, Sem.run_pure, Addr.add_mid]
        · cases h
      · cases h
    · cases h
  · cases h
theorem arrIdx_ok (H : HRel D S.res α ω B w0 w) {t : TypeId} {x ix v : SV} {side : Option Prop} (h : arrIdxV E S t x ix = .val side v) (hx : x.good D S.res) (hi : ix.good D S.res) :
    (Instr.indexAt t (x.den α) (ix.den α)).run E.P w = .ok (v.den α) w ∧ v.good D S.res ∧ v ≠ .any ∧ x ≠ .any ∧ ix ≠ .any := by
  unfold arrIdxV at h
  split at h
  · rename_i j n i c k' k
    have hio : k.ok := hi
    split at h
    · rename_i len elem m hu e1
      split at h
      · rename_i sz e2
        split at h
        · rename_i hb
          cases h
          rw [Bool.and_eq_true, Bool.and_eq_true, ile_iff, ile_iff] at hb
          obtain ⟨⟨hb1, hb2⟩, hb3⟩ := hb
          obtain ⟨L, hL⟩ := isList_ok hb3
          obtain ⟨blk, off, cap, e3⟩ := lptr_at H c hx hL
          obtain ⟨q1, _, _⟩ := SI.lit?_eq hio e1
          refine ⟨?_, hx, (fun e => by cases e), (fun e => by cases e), (fun e => by cases e)⟩
          simp only [SV.den, SW.den, SC.den, e3, Instr.indexAt, asIntOf, Sem.run_bind, Sem.run_pure, Result.andThen_ok, und_run hu, Instr.sureAddr]
          rw [q1, if_pos (by omega)]
          simp only [Sem.run_bind, size_run e2, Result.andThen_ok, Sem.run_pure, Addr.add_mid, Nat.add_assoc]
        · cases h
      · cases h
    · cases h
  · cases h
theorem fieldAddr_ok (H : HRel D S.res α ω B w0 w) {t : TypeId} {x v : SV} {f : Nat} {side : Option Prop} (h : fieldAddrV E S t x f = .val side v) (hx : x.good D S.res) :
    (Instr.fieldAt t (x.den α) f).run E.P w = .ok (v.den α) w ∧ v.good D S.res ∧ v ≠ .any ∧ x ≠ .any := by
  unfold fieldAddrV at h
  split at h
  · rename_i fs hu
    split at h
    · rename_i fd hf
      have hf' : fs[f]? = some fd := by simpa using hf
      split at h
      · rename_i n b off e2
        cases h
        refine ⟨?_, hx, (fun e => by cases e), (fun e => by cases e)⟩
        simp only [SV.den, SW.den, SC.den, Instr.fieldAt, Sem.run_bind, und_run hu, Result.andThen_ok, hf', Instr.sureAddr, Sem.run_pure, fieldPlace, size_run e2]
        simp [Addr.add_mid]
      · rename_i n j m i c e2
        split at h
        · rename_i hl
          cases h
          obtain ⟨L, hL⟩ := isList_ok hl
          obtain ⟨blk, off, cap, e3⟩ := lptr_at H c hx hL
          refine ⟨?_, hx, (fun e => by cases e), (fun e => by cases e)⟩
          simp only [SV.den, SW.den, SC.den, e3, Instr.fieldAt, Sem.run_bind, und_run hu, Result.andThen_ok, hf', Instr.sureAddr, Sem.run_pure, fieldPlace, size_run e2]
          simp [Addr.add_mid, Nat.add_assoc]
        · cases h
      · cases h
    · cases h
  · cases h
theorem index_ok {R : Nat → Option Res} {t : TypeId} {x ix v : SV} {side : Option Prop} (h : indexV E t x ix = .val side v) (hx : x.good D R) (hi : ix.good D R) (w : World) :
    (Instr.index t (x.den α) (ix.den α)).run E.P w = .ok (v.den α) w ∧ v.good D R ∧ v ≠ .any ∧ x ≠ .any ∧ ix ≠ .any := by
  unfold indexV at h
  split at h
  · rename_i cs k i
    have hio : i.ok := hi
    split at h
    · rename_i len elem n hu e1
      split at h
      · rename_i sz e2
        split at h
        · rename_i hb
          rw [Bool.and_eq_true, ile_iff, ile_iff] at hb
          unfold ofOpt at h
          split at h
          · rename_i v' hp
            cases h
            obtain ⟨q1, _, _⟩ := SI.lit?_eq hio e1
            have hpr := part_run hp α w
            refine ⟨?_, part_good hp hx, (fun e => by cases e), (fun e => by cases e), (fun e => by cases e)⟩
            simp only [SV.den, SW.den, SC.den, Instr.index, asIntOf, Sem.run_bind, Sem.run_pure, Result.andThen_ok, und_run hu]
            rw [q1, if_pos (by omega)]
            simp only [Sem.run_bind, size_run e2, Result.andThen_ok]
            exact hpr
          · cases h
        · cases h
      · cases h
    · cases h
  · cases h
theorem field_ok {R : Nat → Option Res} {t : TypeId} {x v : SV} {f : Nat} {side : Option Prop} (h : fieldV E t x f = .val side v) (hx : x.good D R) (w : World) :
    (Instr.field t (x.den α) f).run E.P w = .ok (v.den α) w ∧ v.good D R ∧ v ≠ .any ∧ x ≠ .any := by
  unfold fieldV at h
  split at h
  · rename_i fs cs hu
    split at h
    · rename_i fd hf
      have hf' : fs[f]? = some fd := by simpa using hf
      unfold ofOpt at h
      split at h
      · rename_i v' hp
        cases h
        have hpr := part_run hp α w
        refine ⟨?_, part_good hp hx, (fun e => by cases e), (fun e => by cases e)⟩
        simp only [SV.den, SW.den, Instr.field, Sem.run_bind, und_run hu, Result.andThen_ok, hf', asAgg, Sem.run_pure]
        exact hpr
      · cases h
    · cases h
  · cases h
theorem un_ok {R : Nat → Option Res} {op : UnOp} {x v : SV} {side : Option Prop} (h : unV op x = .val side v) (hx : x.good D R) (w : World) :
    (Op.unary op (x.den α)).run E.P w = .ok (v.den α) w ∧ v.good D R ∧ v ≠ .any ∧ x ≠ .any := by
  unfold unV at h
  split at h
  · rename_i k i
    have hio : i.ok := hx
    split at h
    · cases h
      obtain ⟨q1, q2⟩ := sub_ok (k := k) (lit_ok 0) hio
      refine ⟨?_, q1, (fun e => by cases e), (fun e => by cases e)⟩
      have q3 : ((SI.lit 0).sub k i).v = k.wrap (0 - i.v) := q2
      simp only [SV.den, SW.den, SC.den, Op.unary, Op.intArith, q3, Sem.run_pure]
    · cases h
  · rename_i b t
    split at h
    · cases h
      obtain ⟨q1, q2⟩ := bnotT_ok (b := b) (t := t) hx
      refine ⟨?_, q2, (fun e => by cases e), (fun e => by cases e)⟩
      simp [SV.den, SW.den, SC.den, Op.unary, q1]
    · cases h
  · cases h
theorem notAny_ok {x v : SV} {side : Option Prop} (h : notAny x = .val side v) : v = x ∧ side = none ∧ x ≠ .any := by
  cases x <;> simp only [notAny] at h <;> first | (cases h; exact ⟨rfl, rfl, fun e => by cases e⟩) | cases h
theorem pick_ok {R : Nat → Option Res} {c x y v : SV} {side : Option Prop} (h : pickV c x y = .val side v) (hc : c.good D R) (hx : x.good D R) (hy : y.good D R) (w : World) (a' b' : Value)
    (ha : x ≠ .any → a' = x.den α) (hb : y ≠ .any → b' = y.den α) :
    ((do pure (.value (if ← asBool (c.den α) then a' else b')) : Sem Next)).run E.P w = .ok (.value (v.den α)) w ∧ v.good D R ∧ c ≠ .any ∧ v ≠ .any := by
  unfold pickV at h
  split at h
  · rename_i b
    obtain ⟨rfl, _, hn⟩ := notAny_ok h
    have : b = true := hc true rfl
    subst this
    exact ⟨by simp [SV.den, SW.den, SC.den, asBool, ha hn], hx, (fun e => by cases e), hn⟩
  · rename_i b
    obtain ⟨rfl, _, hn⟩ := notAny_ok h
    have : b = false := hc false rfl
    subst this
    exact ⟨by simp [SV.den, SW.den, SC.den, asBool, hb hn], hy, (fun e => by cases e), hn⟩
  · rename_i cb xb _ yb _
    cases h
    refine ⟨?_, (fun x hx => by cases hx), (fun e => by cases e), (fun e => by cases e)⟩
    rw [ha (fun e => by cases e), hb (fun e => by cases e)]
    cases cb <;> simp [SV.den, SW.den, SC.den, asBool, bsel]
  · cases h
theorem ptrs_ok {R : Nat → Option Res} : ∀ {l : List SV} {ps : List (Nat × Nat)}, ptrsOf l = some ps → (∀ v ∈ l, v.good D R) →
    l.map (SV.den α) = (ps.map fun p => Value.pointer (some ⟨α.blk p.1, p.2, none⟩)) ∧ (∀ p ∈ ps, D p.1) ∧ ∀ v ∈ l, v ≠ .any
  | [], ps, h, _ => by cases h; exact ⟨rfl, (fun p hp => by cases hp), fun v hv => by cases hv⟩
  | v :: r, ps, h, hg => by
    unfold ptrsOf at h
    split at h
    · rename_i heq; cases heq
    · rename_i b off r' heq
      cases heq
      split at h
      · rename_i l' hl
        cases h
        obtain ⟨q1, q2, q3⟩ := ptrs_ok hl (fun v hv => hg v (List.mem_cons_of_mem _ hv))
        refine ⟨by rw [List.map_cons, q1]; rfl, fun p hp => ?_, fun v hv => ?_⟩
        · rcases List.mem_cons.1 hp with rfl | hp
          · exact hg _ (List.mem_cons_self ..)
          · exact q2 p hp
        · rcases List.mem_cons.1 hv with rfl | hv
          · exact fun e => by cases e
          · exact q3 v hv
      · cases h
    · cases h
theorem evs_den {S : St} {a : Act} (T : TRel D S.res α S.nt S.get a.tmps) : ∀ (l : List Operand), (∀ v ∈ S.evs l, v ≠ .any) → l.map a.eval = (S.evs l).map (SV.den α)
  | [], _ => rfl
  | x :: r, h => by
    have h1 := ev_den T (x := x) (h _ (List.mem_cons_self ..))
    have h2 := evs_den T r (fun v hv => h v (List.mem_cons_of_mem _ hv))
    simp only [St.evs, List.map_cons, h1, h2]
theorem evs_good {S : St} {a : Act} (T : TRel D S.res α S.nt S.get a.tmps) : ∀ (l : List Operand), ∀ v ∈ S.evs l, v.good D S.res
  | [], v, hv => by cases hv
  | x :: r, v, hv => by
    rcases List.mem_cons.1 hv with rfl | hv
    · exact ev_good T x
    · exact evs_good T r v hv
theorem len_run {P : Program} {t e : TypeId} (hu : P.underlying t = some (.slice e)) (ty : TypeId) (a : Option Addr) (n cap : Nat) (w : World) : (Builtin.len_ #[t] ty #[.slice a n cap]).run P w = .ok (.int .i64 n) w := by
  simp [Builtin.len_, und_run hu, goInt]
theorem len_ok (H : HRel D S.res α ω B w0 w) {x v : SV} {side : Option Prop} {t : TypeId} {e : TypeId} (hu : E.P.underlying t = some (.slice e)) (h : lenV S x = .val side v) (hx : x.good D S.res) (ty : TypeId) :
    (Builtin.len_ #[t] ty #[x.den α]).run E.P w = .ok (v.den α) w ∧ v.good D S.res ∧ v ≠ .any ∧ x ≠ .any := by
  have room_i : ∀ n : Nat, n ≤ room → (⟨(n : Int), 0, 140737488355328⟩ : SI).ok := fun n hn => ⟨Int.natCast_nonneg _, by show ((n : Nat) : Int) ≤ 140737488355328; unfold room at hn; omega⟩
  unfold lenV at h
  split at h
  · cases h
    exact ⟨len_run hu ty _ _ _ w, lit_ok _, (fun e => by cases e), (fun e => by cases e)⟩
  · cases h
    exact ⟨len_run hu ty _ _ _ w, lit_ok _, (fun e => by cases e), (fun e => by cases e)⟩
  · rename_i j
    split at h
    · rename_i L hj
      cases h
      obtain ⟨a, cap, e1, _, e3⟩ := (show LRep w L.f L.l (α.sv j) _ L.own from H.rel j _ hj).len
      refine ⟨?_, room_i _ e3, (fun e => by cases e), (fun e => by cases e)⟩
      simp only [SV.den, SW.den, SC.den, e1]
      exact len_run hu ty _ _ _ w
    · rename_i L hj
      cases h
      obtain ⟨a, cap, e1, _, e3⟩ := (show LLRep w L.f L.ll (α.sv j) _ _ L.own from H.rel j _ hj).len
      refine ⟨?_, room_i _ e3, (fun e => by cases e), (fun e => by cases e)⟩
      simp only [SV.den, SW.den, SC.den, e1]
      exact len_run hu ty _ _ _ w
    · rename_i n hj
      cases h
      obtain ⟨a, len, cap, e1, e2, e3⟩ : ∃ a len cap, α.sv j = .slice a len cap ∧ (len : Int) = n ∧ len ≤ room := H.rel j _ hj
      subst e2
      refine ⟨?_, room_i _ e3, (fun e => by cases e), (fun e => by cases e)⟩
      simp only [SV.den, SW.den, SC.den, e1]
      exact len_run hu ty _ _ _ w
    · rename_i js hj
      cases h
      refine ⟨?_, lit_ok _, (fun e => by cases e), (fun e => by cases e)⟩
      have e0 : ∃ a cap, α.sv j = .slice a js.length cap := by
        rcases (show HRep w (α.sv j) js.length (fun k => α.sv (js.getD k 0)) _ from H.rel j _ hj) with ⟨a, e1, e⟩ | ⟨blk, cap, cs, ty, e1, _⟩
        · exact ⟨a, 0, by rw [e]; exact e1⟩
        · exact ⟨_, cap, e1⟩
      obtain ⟨a, cap, e1⟩ := e0
      simp only [SV.den, SW.den, SC.den, e1]
      exact len_run hu ty _ _ _ w
    · cases h
  · rename_i j n lo len
    split at h
    · rename_i L hj
      cases h
      obtain ⟨hd, hlo, hlen, hL⟩ := hx
      obtain ⟨_, _, q3, _⟩ := hL L hj
      obtain ⟨a, cap, e1, _, _⟩ := (show LRep w L.f L.l (α.sv j) _ L.own from H.rel j _ hj).len
      refine ⟨?_, hlen, (fun e => by cases e), (fun e => by cases e)⟩
      simp only [SV.den, SW.den, SC.den, e1]
      rw [len_run hu]
      rw [Int.toNat_of_nonneg q3]
    · cases h
  · rename_i v' j i
    split at h
    · rename_i L hj
      split at h
      · rename_i hv
        have hv := Nat.eq_of_beq_eq_true hv
        cases h
        obtain ⟨hd1, hd2, hL⟩ := hx
        obtain ⟨q2, q3⟩ := hL L hj hv
        have hrr := row_rep H hj q2 q3
        obtain ⟨a, cap, e1, _, e3⟩ := hrr.len
        rw [hv] at e1
        refine ⟨?_, room_i _ e3, (fun e => by cases e), (fun e => by cases e)⟩
        simp only [SV.den, SW.den, SC.den, e1]
        exact len_run hu ty _ _ _ w
      · cases h
    · cases h
  · cases h
theorem bnd_ok {d : SI} {o : Option SV} {x : SI} (h : bndV d o = some x) (hd : d.ok) {R : Nat → Option Res} (hg : ∀ v, o = some v → v.good D R) : x.ok ∧ ((o = none ∧ x = d) ∨ ∃ k, o = some (.w (.c (.int k x)))) := by
  unfold bndV at h
  split at h
  · cases h; exact ⟨hd, .inl ⟨rfl, rfl⟩⟩
  · rename_i k a; cases h; exact ⟨hg _ rfl, .inr ⟨k, rfl⟩⟩
  · cases h
theorem isZ_ok {a : SI} (ha : a.ok) (h : isZ a = true) : a.v = 0 := by
  unfold isZ at h
  rw [Bool.and_eq_true, ieq_iff, ieq_iff] at h
  have := ha.1; have := ha.2; omega
theorem subSI_ok {hi lo : SI} (h1 : hi.ok) (h2 : lo.ok) : (subSI hi lo).ok ∧ (subSI hi lo).v = hi.v - lo.v := by
  unfold subSI
  split
  · rename_i hz
    have := isZ_ok h2 hz
    exact ⟨h1, by rw [this]; omega⟩
  · obtain ⟨a1, a2⟩ := h1
    obtain ⟨b1, b2⟩ := h2
    exact ⟨⟨by show hi.lo - lo.hi ≤ hi.v - lo.v; omega, by show hi.v - lo.v ≤ hi.hi - lo.lo; omega⟩, rfl⟩
/-- The bounds of a part, as the machine reckons them. -/
theorem bounds_run {P : Program} (w : World) {len cap : Nat} {low high : Option SV} {lo hi : SI} (h1 : (low = none ∧ lo.v = 0) ∨ ∃ k, low = some (.w (.c (.int k lo)))) (h2 : (high = none ∧ hi.v = len) ∨ ∃ k, high = some (.w (.c (.int k hi))))
    (a1 : 0 ≤ lo.v) (a2 : lo.v ≤ hi.v) (a3 : hi.v ≤ (cap : Int)) :
    (Instr.sliceBounds true len cap (low.map (SV.den α)) (high.map (SV.den α)) none).run P w = .ok (lo.v.toNat, hi.v.toNat, cap) w := by
  have hb : ∀ (k : IntKind) (x : SI) (y : Nat) (c : BoundsCode), 0 ≤ x.v → x.v ≤ (y : Int) → (Instr.sliceBound (.int k x.v) y c).run P w = .ok x.v.toNat w := fun k x y c q1 q2 => by
    simp only [Instr.sliceBound, asIntOf, Sem.run_bind, Sem.run_pure, Result.andThen_ok]
    rw [if_pos ⟨q1, q2⟩]; rfl
  have hp : ∀ y : Nat, (y : Int) = hi.v → y = hi.v.toNat := fun y e => by omega
  unfold Instr.sliceBounds
  rcases h1 with ⟨rfl, e1⟩ | ⟨k, rfl⟩ <;> rcases h2 with ⟨rfl, e2⟩ | ⟨k', rfl⟩
  · have : len = hi.v.toNat := by omega
    simp [e1, this]
  · have q := hb k' hi cap .sliceAcap (by omega) a3
    simp [SV.den, SW.den, SC.den, e1, q]
  · have : len = hi.v.toNat := by omega
    have q := hb k lo hi.v.toNat .sliceB a1 (by omega)
    simp [SV.den, SW.den, SC.den, this, q]
  · have q := hb k' hi cap .sliceAcap (by omega) a3
    have q' := hb k lo hi.v.toNat .sliceB a1 (by omega)
    simp [SV.den, SW.den, SC.den, q, q']
theorem slice_ok (H : HRel D S.res α ω B w0 w) {t : TypeId} {x v : SV} {low high : Option SV} {side : Option Prop} (h : sliceV E S t x low high = .val side v) (hs : sideH side) (hx : x.good D S.res)
    (hl : ∀ u, low = some u → u.good D S.res) (hh : ∀ u, high = some u → u.good D S.res) :
    (Instr.slice t (x.den α) (low.map (SV.den α)) (high.map (SV.den α)) none).run E.P w = .ok (v.den α) w ∧ v.good D S.res ∧ v ≠ .any ∧ x ≠ .any ∧ (∀ u, low = some u → u ≠ .any) ∧ ∀ u, high = some u → u ≠ .any := by
  have nA : ∀ {o : Option SV} {y d : SI}, ((o = none ∧ y = d) ∨ ∃ k, o = some (.w (.c (.int k y)))) → ∀ u, o = some u → u ≠ .any := fun {o y d} h u hu => by
    rcases h with ⟨e, _⟩ | ⟨k, e⟩
    · rw [e] at hu; cases hu
    · rw [e] at hu; cases hu; exact fun e => by cases e
  unfold sliceV at h
  split at h
  · rename_i elem j hu
    split at h
    · rename_i L sz hj e2
      split at h
      · rename_i lo hi hsz hlo hhi
        cases h
        have hsz := Nat.eq_of_beq_eq_true hsz
        obtain ⟨a, cap, e1, hcap, hroom⟩ := (show LRep w L.f L.l (α.sv j) _ L.own from H.rel j _ hj).len
        have hdi : (⟨lenI L.l, 0, 140737488355328⟩ : SI).ok := ⟨Int.natCast_nonneg _, by show ((L.l.length : Nat) : Int) ≤ 140737488355328; unfold room at hroom; omega⟩
        obtain ⟨l1, l2⟩ := bnd_ok (D := D) (R := S.res) hlo (lit_ok 0) hl
        obtain ⟨k1, k2⟩ := bnd_ok (D := D) (R := S.res) hhi hdi hh
        obtain ⟨s1, s2, s3⟩ : 0 ≤ lo.v ∧ lo.v ≤ hi.v ∧ hi.v ≤ (L.l.length : Int) := hs
        obtain ⟨m1, m2⟩ := subSI_ok k1 l1
        refine ⟨?_, ⟨hx, l1, m1, fun L' hL' => by rw [hj] at hL'; cases hL'; rw [m2]; exact ⟨hsz, s1, by omega, by omega⟩⟩, (fun e => by cases e), (fun e => by cases e), nA l2, nA k2⟩
        have hb := bounds_run (P := E.P) (α := α) w (len := L.l.length) (cap := cap) (low := low) (high := high) (lo := lo) (hi := hi) (by rcases l2 with ⟨e, rfl⟩ | h; exact .inl ⟨e, rfl⟩; exact .inr h) (by rcases k2 with ⟨e, rfl⟩ | h; exact .inl ⟨e, rfl⟩; exact .inr h) s1 s2 (by omega)
        simp only [SV.den, SW.den, SC.den, e1, Instr.slice, Sem.run_bind, und_run hu, Result.andThen_ok, hb, size_run e2, Sem.run_pure, m2]
        rw [show (hi.v - lo.v).toNat = hi.v.toNat - lo.v.toNat by omega]
      · cases h
    · cases h
  · rename_i elem j n l0 len hu
    split at h
    · rename_i sz hl1 e2
      obtain ⟨L, hj⟩ := isList_ok hl1
      split at h
      · rename_i lo hi hsz hlo hhi
        cases h
        rw [Bool.and_eq_true] at hsz
        have hsz1 := Nat.eq_of_beq_eq_true hsz.1
        obtain ⟨hd, g1, g2, hL⟩ := hx
        have hz := isZ_ok g1 hsz.2
        obtain ⟨q1, q2, q3, q4⟩ := hL L hj
        obtain ⟨a, cap, e1, hcap, hroom⟩ := (show LRep w L.f L.l (α.sv j) _ L.own from H.rel j _ hj).len
        obtain ⟨l1, l2⟩ := bnd_ok (D := D) (R := S.res) hlo (lit_ok 0) hl
        obtain ⟨k1, k2⟩ := bnd_ok (D := D) (R := S.res) hhi g2 hh
        obtain ⟨s1, s2, s3⟩ : 0 ≤ lo.v ∧ lo.v ≤ hi.v ∧ hi.v ≤ len.v := hs
        obtain ⟨m1, m2⟩ := subSI_ok k1 l1
        refine ⟨?_, ⟨hd, l1, m1, fun L' hL' => by rw [hj] at hL'; cases hL'; rw [m2]; exact ⟨by rw [hsz1]; exact q1, s1, by omega, by omega⟩⟩, (fun e => by cases e), (fun e => by cases e), nA l2, nA k2⟩
        have hb := bounds_run (P := E.P) (α := α) w (len := len.v.toNat) (cap := cap) (low := low) (high := high) (lo := lo) (hi := hi) (by rcases l2 with ⟨e, rfl⟩ | h; exact .inl ⟨e, rfl⟩; exact .inr h) (by rcases k2 with ⟨e, rfl⟩ | h; exact .inl ⟨e, by omega⟩; exact .inr h) s1 s2 (by omega)
        have hm : ((if cap = l0.v.toNat then a else a.map (·.add (l0.v.toNat * n))) : Option Addr) = a := by
          split
          · rfl
          · rw [hz]; cases a with
            | none => rfl
            | some b => cases b; simp [Addr.add]
        simp only [SV.den, SW.den, SC.den, e1, Instr.slice, Sem.run_bind, und_run hu, Result.andThen_ok, hm, show cap - l0.v.toNat = cap by omega, hb, size_run e2, Sem.run_pure, m2]
        rw [show (hi.v - lo.v).toNat = hi.v.toNat - lo.v.toNat by omega]
      · cases h
    · cases h
  · cases h
theorem nilV_ok (H : HRel D S.res α ω B w0 w) {x y : SV} {side : Option Prop} {b : Bool} (h : nilV S x y = some (side, b)) (hs : sideH side) :
    ∃ a n c, x.den α = .slice a n c ∧ y.den α = .slice none 0 0 ∧ a.isNone = b ∧ x ≠ .any ∧ y ≠ .any := by
  unfold nilV at h
  split at h
  · cases h; exact ⟨none, 0, 0, rfl, rfl, rfl, (fun e => by cases e), fun e => by cases e⟩
  · cases h; exact ⟨some _, _, _, rfl, rfl, rfl, (fun e => by cases e), fun e => by cases e⟩
  · rename_i j
    split at h
    · rename_i L hj
      cases h
      have hne : L.l ≠ [] := hs
      obtain ⟨_, _, h3⟩ : LRep w L.f L.l (α.sv j) _ L.own := H.rel j _ hj
      rcases h3 with ⟨a, cap, e1, e2, _⟩ | ⟨blk, off, cap, cs, ty, fz, e1, _⟩
      · exact absurd e2 hne
      · exact ⟨some _, _, _, e1, rfl, rfl, (fun e => by cases e), fun e => by cases e⟩
    · rename_i L hj
      cases h
      have hne : L.ll ≠ [] := hs
      obtain ⟨_, _, h3⟩ : LLRep w L.f L.ll (α.sv j) _ _ L.own := H.rel j _ hj
      rcases h3 with ⟨a, cap, e1, e2, _⟩ | ⟨blk, off, cap, cs, ty, fz, e1, _⟩
      · exact absurd e2 hne
      · exact ⟨some _, _, _, e1, rfl, rfl, (fun e => by cases e), fun e => by cases e⟩
    · cases h
  · cases h
theorem notB_eq (b : Bool) : notB b = !b := by cases b <;> rfl
theorem binS_ok (H : HRel D S.res α ω B w0 w) {op : BinOp} {t : TypeId} {ox oy : Operand} {x y v : SV} {side : Option Prop} (h : binS E S op t x y = .val side v) (hs : sideH side)
    (gx : x.good D S.res) (gy : y.good D S.res) :
    ((do eqGuard op t ox oy (x.den α) (y.den α); binOp op t (x.den α) (y.den α)) : Sem Value).run E.P w = .ok (v.den α) w ∧ v.good D S.res ∧ v ≠ .any ∧ x ≠ .any ∧ y ≠ .any := by
  unfold binS at h
  split at h
  · rename_i el hu
    have eqv : ∀ (a : Option Addr) (n c : Nat), (Op.equal t (.slice a n c) (.slice none 0 0)).run E.P w = .ok a.isNone w := fun a n c => by
      unfold Op.equal
      rw [show Op.maxDepth = 9999 + 1 from rfl]
      unfold Op.equalIn
      simp only [Sem.run_bind, und_run hu, Result.andThen_ok]
      cases a <;> simp
    split at h
    · rename_i sd b hn
      cases h
      obtain ⟨a, n, c, e1, e2, e3, e4, e5⟩ := nilV_ok H hn hs
      refine ⟨?_, (fun x hx => by cases hx; rfl), (fun e => by cases e), e4, e5⟩
      rw [e1, e2]
      have hg : (eqGuard .eql t ox oy (.slice a n c) (.slice none 0 0)).run E.P w = .ok () w := by simp [eqGuard]
      simp only [Sem.run_bind, hg, Result.andThen_ok, binOp, eqv, Sem.run_pure, e3]
      rfl
    · rename_i sd b hn
      cases h
      obtain ⟨a, n, c, e1, e2, e3, e4, e5⟩ := nilV_ok H hn hs
      refine ⟨?_, (fun x hx => by cases hx; rfl), (fun e => by cases e), e4, e5⟩
      rw [e1, e2]
      have hg : (eqGuard .neq t ox oy (.slice a n c) (.slice none 0 0)).run E.P w = .ok () w := by simp [eqGuard]
      simp only [Sem.run_bind, hg, Result.andThen_ok, binOp, eqv, Sem.run_pure, e3]
      simp only [SV.den, SW.den, SC.den, notB_eq]
    · cases h
  · have hn : x ≠ .any ∧ y ≠ .any := by
      constructor <;> intro e <;> rw [e] at h <;> simp only [binV] at h <;> (try cases h) <;> (split at h <;> simp_all)
    obtain ⟨q1, q2, q3⟩ := binV_ok (ox := ox) (oy := oy) h hs gx gy w (α := α)
    exact ⟨q1, q2, q3, hn.1, hn.2⟩
theorem isSl_ok (H : HRel D S.res α ω B w0 w) {x : SV} (h : isSl S x = true) : x ≠ .any ∧ ∃ a n c, x.den α = .slice a n c := by
  unfold isSl at h
  split at h
  · exact ⟨(fun e => by cases e), none, 0, 0, rfl⟩
  · exact ⟨(fun e => by cases e), _, _, _, rfl⟩
  · rename_i j
    obtain ⟨L, hj⟩ := isList_ok h
    obtain ⟨a, cap, e1, _⟩ := (show LRep w L.f L.l (α.sv j) _ L.own from H.rel j _ hj).len
    exact ⟨(fun e => by cases e), a, _, cap, e1⟩
  · cases h
theorem litZ_ok {R : Nat → Option Res} {x : SV} (h : litZ x = true) (hg : x.good D R) : x ≠ .any ∧ ∃ k, x.den α = .int k 0 := by
  unfold litZ at h
  split at h
  · rename_i k a
    have := isZ_ok (show a.ok from hg) h
    exact ⟨(fun e => by cases e), k, by simp only [SV.den, SW.den, SC.den, this]⟩
  · cases h
theorem max_ok {R : Nat → Option Res} {x y v : SV} {side : Option Prop} (h : maxV x y = .val side v) (hx : x.good D R) (hy : y.good D R) (ts : Array TypeId) (ty : TypeId) (P : Program) (w : World) :
    (Builtin.max_ ts ty #[x.den α, y.den α]).run P w = .ok (v.den α) w ∧ v.good D R ∧ v ≠ .any ∧ x ≠ .any ∧ y ≠ .any := by
  unfold maxV at h
  split at h
  · rename_i k a k' b
    split at h
    · rename_i hk
      cases h
      obtain rfl := keq_eq hk
      have ha : a.ok := hx
      have hb : b.ok := hy
      refine ⟨?_, ?_, (fun e => by cases e), (fun e => by cases e), (fun e => by cases e)⟩
      · simp [Builtin.max_, Builtin.max2, SV.den, SW.den, SC.den, zmax]
      · obtain ⟨a1, a2⟩ := ha
        obtain ⟨b1, b2⟩ := hb
        have q1 := imax_ge (a := a.hi) (b := b.hi)
        have q2 : imax a.lo b.lo ≤ (if b.v > a.v then b.v else a.v) := imax_of (by split <;> omega) (by split <;> omega)
        exact ⟨q2, by show (if b.v > a.v then b.v else a.v) ≤ imax a.hi b.hi; split <;> omega⟩
    · cases h
  · cases h
theorem min_ok {R : Nat → Option Res} {x y v : SV} {side : Option Prop} (h : minV x y = .val side v) (hx : x.good D R) (hy : y.good D R) (ts : Array TypeId) (ty : TypeId) (P : Program) (w : World) :
    (Builtin.min_ ts ty #[x.den α, y.den α]).run P w = .ok (v.den α) w ∧ v.good D R ∧ v ≠ .any ∧ x ≠ .any ∧ y ≠ .any := by
  unfold minV at h
  split at h
  · rename_i k a k' b
    split at h
    · rename_i hk
      cases h
      obtain rfl := keq_eq hk
      have ha : a.ok := hx
      have hb : b.ok := hy
      refine ⟨?_, ?_, (fun e => by cases e), (fun e => by cases e), (fun e => by cases e)⟩
      · simp [Builtin.min_, Builtin.min2, SV.den, SW.den, SC.den, zmin]
      · obtain ⟨a1, a2⟩ := ha
        obtain ⟨b1, b2⟩ := hb
        have q1 := imin_le (a := a.lo) (b := b.lo)
        have q2 : (if b.v < a.v then b.v else a.v) ≤ imin a.hi b.hi := imin_of (by split <;> omega) (by split <;> omega)
        exact ⟨by show imin a.lo b.lo ≤ (if b.v < a.v then b.v else a.v); split <;> omega, q2⟩
    · cases h
  · cases h
end

end Go.Fx
end
section
namespace Go.Fx
open Go RowKit

section
variable {E : Env} {S : St} {D : Nat → Prop} {α : Al} {ω : Nat → Option Nat} {B : Nat} {w0 w : World} {a : Act}
theorem opv_val (H : HRel D S.res α ω B w0 w) (T : TRel D S.res α S.nt S.get a.tmps) {o : Oper} {side : Option Prop} {v : SV} (h : opv E S o.op = .val side v) (hs : sideH side) :
    (execOp a.eval o).run E.P w = .ok (.value (v.den α)) w ∧ v.good D S.res ∧ v ≠ .any := by
  cases ho : o.op with
  | move x =>
    rw [ho] at h
    obtain ⟨rfl, _, hn⟩ := notAny_ok (show notAny (S.ev x) = _ from h)
    exact ⟨by simp only [execOp, ho, ev_den T hn, Sem.run_pure], ev_good T x, hn⟩
  | assign x =>
    rw [ho] at h
    obtain ⟨rfl, _, hn⟩ := notAny_ok (show notAny (S.ev x) = _ from h)
    exact ⟨by simp only [execOp, ho, ev_den T hn, Sem.run_pure], ev_good T x, hn⟩
  | pick c x y =>
    rw [ho] at h
    have h' : pickV (S.ev c) (S.ev x) (S.ev y) = .val side v := h
    obtain ⟨q1, q2, q3, q4⟩ := pick_ok (α := α) h' (ev_good T c) (ev_good T x) (ev_good T y) w (a.eval x) (a.eval y) (ev_den T) (ev_den T)
    exact ⟨by simp only [execOp, ho, ev_den T q3]; exact q1, q2, q4⟩
  | alloc t =>
    rw [ho] at h
    simp only [opv] at h
    split at h <;> cases h
  | box t x =>
    rw [ho] at h
    simp only [opv] at h
    split at h <;> cases h
  | build t parts =>
    rw [ho] at h
    have h' : buildV E t (S.evp parts.toList) = .val side v := h
    obtain ⟨q1, q2, q3, q4⟩ := build_ok H.one h' (evp_good T _) w
    refine ⟨?_, q2, q3⟩
    have e := evp_den (E := E) T parts.toList q4
    have e2 : (parts.map fun p => (p.1, a.eval p.2)) = ((S.evp parts.toList).map fun p => (p.1, p.2.den α)).toArray := by
      rw [← e]; apply Array.ext'; simp only [Array.toList_map]
    simp only [execOp, ho]
    rw [show (parts.map fun x => (x.1, a.eval x.2)) = _ from e2]
    simp only [Sem.run_bind, q1, Result.andThen_ok, Sem.run_pure]
  | buildSlice t len parts =>
    rw [ho] at h
    simp only [opv, buildSliceV] at h
    (repeat' split at h) <;> cases h
  | makeSlice t len cap =>
    rw [ho] at h
    simp only [opv, makeV] at h
    (repeat' split at h) <;> cases h
  | slice t x low high max =>
    rw [ho] at h
    cases max with
    | some m =>
      cases low <;> cases high <;> simp only [opv, noneV] at h <;> (repeat' split at h) <;> cases h
    | none =>
      have h' : sliceV E S t (S.ev x) (low.map S.ev) (high.map S.ev) = .val side v := h
      obtain ⟨q1, q2, q3, q4, q5, q6⟩ := slice_ok H h' hs (ev_good T x) (fun u hu => by
        cases low with
        | none => cases hu
        | some y => cases hu; exact ev_good T y) (fun u hu => by
        cases high with
        | none => cases hu
        | some y => cases hu; exact ev_good T y)
      refine ⟨?_, q2, q3⟩
      have e1 : low.map a.eval = (low.map S.ev).map (SV.den α) := by
        cases low with
        | none => rfl
        | some y => simp only [Option.map_some, ev_den T (q5 _ rfl)]
      have e2 : high.map a.eval = (high.map S.ev).map (SV.den α) := by
        cases high with
        | none => rfl
        | some y => simp only [Option.map_some, ev_den T (q6 _ rfl)]
      simp only [execOp, ho, ev_den T q4]
      rw [show (low.map fun x => a.eval x) = _ from e1, show (high.map fun x => a.eval x) = _ from e2]
      have hs2 : ∃ e, E.P.underlying t = some (.slice e) := by
        unfold sliceV at h'
        split at h'
        · rename_i e _ hu _; exact ⟨e, hu⟩
        · rename_i e _ _ _ _ hu _; exact ⟨e, hu⟩
        · cases h'
      obtain ⟨e, hu⟩ := hs2
      have q7 : ∀ X l h' m, (Instr.sliceAt t X l h' m).run E.P w = (Instr.slice t X l h' m).run E.P w := fun X l h' m => by
        simp only [Instr.sliceAt, Sem.run_bind, und_run hu, Result.andThen_ok]
      simp only [Option.map_none, Sem.run_bind, q7, q1, Result.andThen_ok, Sem.run_pure]
  | load t x =>
    rw [ho] at h
    have h' : loadV E S t (S.ev x) = .val side v := h
    have hn : S.ev x ≠ .any := fun e => by rw [e] at h'; cases h'
    obtain ⟨q1, q2, q3⟩ := load_ok H h' (ev_good T x)
    refine ⟨?_, q2, q3⟩
    simp only [execOp, ho, ev_den T hn, Sem.run_bind, q1, Result.andThen_ok, Sem.run_pure]
  | nilCheck x =>
    rw [ho] at h
    simp only [opv] at h
    split at h
    · rename_i b off e
      cases h
      obtain ⟨q1, q2⟩ := ev_c T e
      refine ⟨?_, q2, fun e => by cases e⟩
      simp only [execOp, ho, q1, SC.den, SV.den, SW.den, Sem.run_pure]
    · rename_i f cap e
      cases h
      obtain ⟨q1, q2⟩ := ev_c T e
      refine ⟨?_, q2, fun e => by cases e⟩
      simp only [execOp, ho, q1, SC.den, SV.den, SW.den, Sem.run_pure]
    · cases h
  | binOp op t x y yt =>
    rw [ho] at h
    have h' : binS E S op t (S.ev x) (S.ev y) = .val side v := h
    obtain ⟨q1, q2, q3, hn1, hn2⟩ := binS_ok H (ox := x) (oy := y) h' hs (ev_good T x) (ev_good T y)
    have hn : S.ev x ≠ .any ∧ S.ev y ≠ .any := ⟨hn1, hn2⟩
    refine ⟨?_, q2, q3⟩
    simp only [execOp, ho, ev_den T hn.1, ev_den T hn.2]
    rw [Sem.run_bind, q1]
    simp only [Result.andThen_ok, Sem.run_pure]
  | unOp op t x =>
    rw [ho] at h
    have h' : unV op (S.ev x) = .val side v := h
    obtain ⟨q1, q2, q3, q4⟩ := un_ok (α := α) h' (ev_good T x) w (E := E)
    refine ⟨?_, q2, q3⟩
    simp only [execOp, ho, ev_den T q4, Sem.run_bind, q1, Result.andThen_ok, Sem.run_pure]
  | convert src dst x =>
    rw [ho] at h
    simp only [opv] at h
    split at h
    · rename_i d k k' i hu1 hu2 e
      cases h
      obtain ⟨q1, q2⟩ := ev_c T e
      obtain ⟨q3, q4⟩ := conv_ok (k := k) (a := i) q2
      refine ⟨?_, q3, fun e => by cases e⟩
      simp only [execOp, ho, q1, SC.den, SV.den, SW.den, convert, Sem.run_bind, und_run hu1, und_run hu2, Result.andThen_ok]
      simp [Conv.intToInt, q4]
    · cases h
  | makeFunc fn first cap =>
    rw [ho] at h
    cases fn with
    | func f =>
      simp only [opv] at h
      split at h
      · rename_i l hf hp
        cases h
        obtain ⟨q1, q2, q3⟩ := ptrs_ok (α := α) hp (evs_good T _)
        have e := evs_den T cap.toList q3
        have hf0 : first = #[] := by simpa using hf
        refine ⟨?_, q2, fun e => by cases e⟩
        have e2 : cap.map a.eval = (l.map fun p => Value.pointer (some ⟨α.blk p.1, p.2, none⟩)).toArray := by
          rw [← q1, ← e]; apply Array.ext'; simp only [Array.toList_map]
        simp only [execOp, ho, SC.den, SV.den, SW.den, Instr.makeFunc, hf0, e2, Sem.run_bind, Sem.run_pure, Result.andThen_ok]
        simp
      · cases h
    | _ => cases h
  | fieldAddr t x f =>
    rw [ho] at h
    have h' : fieldAddrV E S t (S.ev x) f = .val side v := h
    obtain ⟨q1, q2, q3, q4⟩ := fieldAddr_ok H h' (ev_good T x)
    refine ⟨?_, q2, q3⟩
    simp only [execOp, ho, ev_den T q4, Sem.run_bind, q1, Result.andThen_ok, Sem.run_pure]
  | field t x f =>
    rw [ho] at h
    have h' : fieldV E t (S.ev x) f = .val side v := h
    obtain ⟨q1, q2, q3, q4⟩ := field_ok (α := α) h' (ev_good T x) w
    refine ⟨?_, q2, q3⟩
    simp only [execOp, ho, ev_den T q4, Sem.run_bind, q1, Result.andThen_ok, Sem.run_pure]
  | indexAddr t x ix =>
    rw [ho] at h
    simp only [opv] at h
    have key : (Instr.indexAt t ((S.ev x).den α) ((S.ev ix).den α)).run E.P w = .ok (v.den α) w ∧ v.good D S.res ∧ v ≠ .any ∧ S.ev x ≠ .any ∧ S.ev ix ≠ .any := by
      split at h
      · rename_i j m i c e
        have := arrIdx_ok H h (by rw [← e]; exact ev_good T x) (ev_good T ix)
        rw [e]; exact this
      · exact indexAddr_ok H h hs (ev_good T x) (ev_good T ix)
    obtain ⟨q1, q2, q3, q4, q5⟩ := key
    refine ⟨?_, q2, q3⟩
    simp only [execOp, ho, ev_den T q4, ev_den T q5, Sem.run_bind, q1, Result.andThen_ok, Sem.run_pure]
  | index t x ix =>
    rw [ho] at h
    have h' : indexV E t (S.ev x) (S.ev ix) = .val side v := h
    obtain ⟨q1, q2, q3, q4, q5⟩ := index_ok (α := α) h' (ev_good T x) (ev_good T ix) w
    refine ⟨?_, q2, q3⟩
    simp only [execOp, ho, ev_den T q4, ev_den T q5, Sem.run_bind, q1, Result.andThen_ok, Sem.run_pure]
  | extract x ix =>
    rw [ho] at h
    simp only [opv] at h
    split at h
    · rename_i vs e
      split at h
      · rename_i u hu
        cases h
        have h1 := ev_den T (x := x) (by rw [e]; exact fun e => by cases e)
        have h2 := ev_good T x
        rw [e] at h1 h2
        refine ⟨?_, h2 u (List.mem_of_getElem? hu), fun e => by cases e⟩
        simp only [execOp, ho, h1, SV.den, Instr.extract]
        simp [hu]
      · cases h
    · cases h
  | call c =>
    rw [ho] at h
    obtain ⟨callee, args, argTypes⟩ := c
    cases callee with
    | builtin b =>
      cases b with
      | len =>
        simp only [opv] at h
        split at h
        · rename_i x t hx ht
          split at h
          · rename_i e hu
            have e1 : args = #[x] := by rw [← Array.toArray_toList (xs := args), hx]
            have e2 : argTypes = #[t] := by rw [← Array.toArray_toList (xs := argTypes), ht]
            obtain ⟨q1, q2, q3, q4⟩ := len_ok H hu h (ev_good T x) o.type
            refine ⟨?_, q2, q3⟩
            subst e1; subst e2
            simp only [execOp, ho, resolve, invoke, builtin, Sem.run_bind, Sem.run_pure, Result.andThen_ok, List.map_toArray, List.map_cons, List.map_nil, ev_den T q4, q1]
          · cases h
        · cases h
      | max =>
        simp only [opv] at h
        split at h
        · rename_i x y hx
          have e1 : args = #[x, y] := by rw [← Array.toArray_toList (xs := args), hx]
          obtain ⟨q1, q2, q3, q4, q5⟩ := max_ok (α := α) h (ev_good T x) (ev_good T y) argTypes o.type E.P w
          refine ⟨?_, q2, q3⟩
          subst e1
          simp only [execOp, ho, resolve, invoke, builtin, Sem.run_bind, Sem.run_pure, Result.andThen_ok, List.map_toArray, List.map_cons, List.map_nil, ev_den T q4, ev_den T q5, q1]
        · cases h
      | min =>
        simp only [opv] at h
        split at h
        · rename_i x y hx
          have e1 : args = #[x, y] := by rw [← Array.toArray_toList (xs := args), hx]
          obtain ⟨q1, q2, q3, q4, q5⟩ := min_ok (α := α) h (ev_good T x) (ev_good T y) argTypes o.type E.P w
          refine ⟨?_, q2, q3⟩
          subst e1
          simp only [execOp, ho, resolve, invoke, builtin, Sem.run_bind, Sem.run_pure, Result.andThen_ok, List.map_toArray, List.map_cons, List.map_nil, ev_den T q4, ev_den T q5, q1]
        · cases h
      | _ => cases h
    | _ => cases h
  | _ => rw [ho] at h; cases h

/-- A new block. -/
def World.made (w : World) (cells : Array Value) (ty : TypeId) : World := { w with heap := w.heap.push (.cells cells ty (0, 0)) }
def newVal (b : Nat) : Option Nat → Value
  | none => .pointer (some ⟨b, 0, none⟩)
  | some len => .slice (some ⟨b, 0, none⟩) len len
theorem cells_good {R : Nat → Option Res} {v : SW} (h : v.good D R) : ∀ c ∈ v.cells, c.good D R := by
  cases v with
  | c x => intro c hc; simp only [SW.cells, List.mem_singleton] at hc; subst hc; exact h
  | agg l => exact h
end

end Go.Fx
end
section
namespace Go.Fx
open Go RowKit

theorem look_cons {α : Type} (k : Nat) (v : α) (r : List (Nat × α)) (n : Nat) : look ((k, v) :: r) n = if k = n then some v else look r n := by
  show (match Nat.beq k n with | true => some v | false => look r n) = _
  cases h : Nat.beq k n with
  | true => rw [if_pos (Nat.eq_of_beq_eq_true h)]
  | false => rw [if_neg (Nat.ne_of_beq_eq_false h)]
theorem look_mem {α : Type} : ∀ {l : List (Nat × α)} {n : Nat} {v : α}, look l n = some v → (n, v) ∈ l
  | (k, u) :: r, n, v, h => by
    rw [look_cons] at h
    split at h
    · rename_i e; cases h; rw [e]; exact List.mem_cons_self ..
    · exact List.mem_cons_of_mem _ (look_mem h)
theorem res_set (S : St) (i : Nat) (r : Option Res) : (S.set i r).res = fun j => if i = j then r else S.res j := by
  funext j
  show (match look ((i, r) :: S.rs) j with | some r => r | none => S.rb j) = _
  rw [look_cons]
  by_cases e : i = j
  · rw [if_pos e, if_pos e]
  · rw [if_neg e, if_neg e]; rfl
theorem get_put (S : St) (d : Nat) (v : SV) : (S.put (some d) v).get = fun t => if d = t then v else S.get t := by
  funext t
  show (match look ((d, v) :: S.tm) t with | some v => v | none => S.tb t) = _
  rw [look_cons]
  by_cases e : d = t
  · rw [if_pos e, if_pos e]
  · rw [if_neg e, if_neg e]; rfl
def Al.setB (α : Al) (n b : Nat) : Al := { α with blk := fun i => if n = i then b else α.blk i }
theorem agree_setB {D : Nat → Prop} (α : Al) (n b : Nat) (h : ¬ D n) : Agree D α (α.setB n b) := fun i hi => by
  refine ⟨?_, rfl, rfl⟩
  show α.blk i = if n = i then b else α.blk i
  rw [if_neg (fun e : n = i => h (by rw [e]; exact hi))]

/-- The list number n has the header v; the rows' headers. -/
def Al.setS (α : Al) (n : Nat) (v : Value) (rv : Nat → Value) : Al := { α with sv := fun i => if n = i then v else α.sv i, rv := fun i => if n = i then rv else α.rv i }
theorem agree_setS {D : Nat → Prop} (α : Al) (n : Nat) (v : Value) (rv : Nat → Value) (h : ¬ D n) : Agree D α (α.setS n v rv) := fun i hi => by
  have hne : n ≠ i := fun e : n = i => h (by rw [e]; exact hi)
  refine ⟨rfl, ?_, ?_⟩
  · show α.sv i = if n = i then v else α.sv i
    rw [if_neg hne]
  · show α.rv i = if n = i then rv else α.rv i
    rw [if_neg hne]
theorem setS_sv (α : Al) (n : Nat) (v : Value) (rv : Nat → Value) : (α.setS n v rv).sv n = v := by simp [Al.setS]
theorem setS_rv (α : Al) (n : Nat) (v : Value) (rv : Nat → Value) : (α.setS n v rv).rv n = rv := by simp [Al.setS]
theorem setS_one {α : Al} (h : ∀ j, (α.sv j).oneCell' = true) {n : Nat} {v : Value} {rv : Nat → Value} (hv : v.oneCell' = true) : ∀ j, ((α.setS n v rv).sv j).oneCell' = true := fun j => by
  show (if n = j then v else α.sv j).oneCell' = true
  split
  · exact hv
  · exact h j
section
variable {D : Nat → Prop} {R : Nat → Option Res} {α : Al} {ω : Nat → Option Nat} {B : Nat} {w0 w : World}
theorem made_size (w : World) (c : Array Value) (t : TypeId) : (World.made w c t).heap.size = w.heap.size + 1 := by simp [World.made]
theorem made_old (w : World) (c : Array Value) (t : TypeId) {b : Nat} (h : b < w.heap.size) : (World.made w c t).heap[b]? = w.heap[b]? := by
  show (w.heap.push _)[b]? = _
  rw [Array.getElem?_push, if_neg (by omega)]
theorem made_new (w : World) (c : Array Value) (t : TypeId) : (World.made w c t).heap[w.heap.size]? = some (.cells c t (0, 0)) := by
  show (w.heap.push _)[w.heap.size]? = _
  rw [Array.getElem?_push, if_pos rfl]
theorem made_below {B : Nat} {w0 w : World} (h : Below B w0 w) (hB : B ≤ w.heap.size) (c : Array Value) (t : TypeId) : Below B w0 (World.made w c t) :=
  h.alloc hB _
/-- Whose a block is: those of P that belong to nobody become n's. -/
noncomputable def ownN (ω : Nat → Option Nat) (B n sz : Nat) (P : Nat → Prop) (b : Nat) : Option Nat := open Classical in if P b ∧ ω b = none ∧ B ≤ b ∧ b < sz then some n else ω b
theorem ownN_new {ω : Nat → Option Nat} {B n sz : Nat} {P : Nat → Prop} {b : Nat} (h1 : P b) (h2 : ω b = none) (h3 : B ≤ b) (h4 : b < sz) : ownN ω B n sz P b = some n := by
  unfold ownN; rw [if_pos ⟨h1, h2, h3, h4⟩]
theorem ownN_old {ω : Nat → Option Nat} {B n sz : Nat} {P : Nat → Prop} {b i : Nat} (h : ω b = some i) : ownN ω B n sz P b = some i := by
  unfold ownN; rw [if_neg (fun e => by rw [h] at e; cases e.2.1), h]
theorem ownN_inv {ω : Nat → Option Nat} {B n sz : Nat} {P : Nat → Prop} {b i : Nat} (h : ownN ω B n sz P b = some i) : (i = n ∧ P b ∧ ω b = none ∧ B ≤ b ∧ b < sz) ∨ ω b = some i := by
  unfold ownN at h
  split at h
  · rename_i e; cases h; exact .inl ⟨rfl, e⟩
  · exact .inr h
/-- What the state owns, and what lay there before, is as it was. -/
theorem HRel.frameU (H : HRel D R α ω B w0 w) {w' : World} (hb : Below B w0 w') (hs : w.heap.size ≤ w'.heap.size) (hw : ∀ b i, ω b = some i → w'.heap[b]? = w.heap[b]?) : HRel D R α ω B w0 w' :=
  ⟨hb, Nat.le_trans H.base hs, fun b i hb' => by obtain ⟨q1, q2, q3⟩ := H.own b i hb'; exact ⟨q1, by omega, q3⟩, H.dec, H.ver,
    fun i r hr => H.frameAt hr (Agree.refl D α) (fun b hb' => ⟨hb', hw b i hb'⟩) (fun b hb' => by rw [hb.block b hb', H.bel.block b hb']), H.good, H.one, H.xr⟩
theorem xr_upd {D D' : Nat → Prop} {R : Nat → Option Res} {j : Nat} {o : Option Res} (h : ∀ i r, R i = some r → ∀ v ∈ r.xrefs, D v) (hD : ∀ i, D i → D' i) (hx : ∀ r, o = some r → ∀ v ∈ r.xrefs, D' v) : ∀ i r, (if j = i then o else R i) = some r → ∀ v ∈ r.xrefs, D' v := fun i r hr v hv => by
  split at hr
  · exact hx r hr v hv
  · exact hD v (h i r hr v hv)
theorem xr_nil {D : Nat → Prop} {r : Res} (h : r.xrefs = []) : ∀ r', some r = some r' → ∀ v ∈ r'.xrefs, D v := fun r' e v hv => by
  cases e
  rw [h] at hv; cases hv
/-- Something more. -/
theorem HRel.addRes (H : HRel D R α ω B w0 w) {n : Nat} (hn : ¬ D n) {r : Res} {α' : Al} (ha : Agree D α α') (h1 : ∀ j, (α'.sv j).oneCell' = true) (P : Nat → Prop)
    (hr : RRel α' (ownN ω B n w.heap.size P) B w n r) (hg : ∀ b, r = .box b → ∀ c ∈ b.cells, c.good D R) (hv : ∀ L, r = .lists L → D L.ver ∨ L.ver = n) (hx : (∀ r', some r = some r' → ∀ v ∈ r'.xrefs, D v ∨ v = n) := by exact xr_nil rfl) :
    HRel (fun i => D i ∨ i = n) (fun i => if n = i then some r else R i) α' (ownN ω B n w.heap.size P) B w0 w := by
  have hk : Keep D R (fun i => if n = i then some r else R i) := Keep.upd _ hn
  refine ⟨H.bel, H.base, fun b i hb => ?_, fun i r' hr' => ?_, fun i L hL => ?_, fun i r' hr' => ?_, fun i b hb => ?_, h1, xr_upd H.xr (fun _ h => .inl h) hx⟩
  · rcases ownN_inv hb with ⟨rfl, _, _, e1, e2⟩ | e
    · exact ⟨e1, e2, .inr rfl⟩
    · obtain ⟨q1, q2, q3⟩ := H.own b i e; exact ⟨q1, q2, .inl q3⟩
  · by_cases e : n = i
    · exact .inr e.symm
    · simp only [if_neg e] at hr'; exact .inl (H.dec i r' hr')
  · by_cases e : n = i
    · simp only [if_pos e] at hL; cases hL; rcases hv L rfl with h | h
      · exact .inl h
      · exact .inr h
    · simp only [if_neg e] at hL; exact .inl (H.ver i L hL)
  · by_cases e : n = i
    · subst e
      simp only [if_true] at hr'; cases hr'
      exact hr
    · simp only [if_neg e] at hr'
      exact H.frameAt hr' ha (fun b hb => ⟨ownN_old hb, rfl⟩) (fun _ _ => rfl)
  · by_cases e : n = i
    · subst e
      simp only [if_true] at hb; cases hb
      exact fun c hc => SC.good_mono (hg b rfl c hc) (fun i h => .inl h) hk
    · simp only [if_neg e] at hb
      exact fun c hc => SC.good_mono (H.good i b hb c hc) (fun i h => .inl h) hk
/-- What one of them holds is another thing, in the same place. -/
theorem HRel.setOwn (H : HRel D R α ω B w0 w) {j : Nat} {r' : Res} (hj : D j) {w' : World} (hb : Below B w0 w') (hs : w.heap.size ≤ w'.heap.size) (hw : ∀ b i, ω b = some i → i ≠ j → w'.heap[b]? = w.heap[b]?)
    (hr : RRel α ω B w' j r') (hk : Keep D R (fun i => if j = i then some r' else R i)) (hg : ∀ b, r' = .box b → ∀ c ∈ b.cells, c.good D R) (hv : ∀ L, r' = .lists L → D L.ver) (hx : (∀ r, some r' = some r → ∀ v ∈ r.xrefs, D v) := by exact xr_nil rfl) :
    HRel D (fun i => if j = i then some r' else R i) α ω B w0 w' := by
  refine ⟨hb, Nat.le_trans H.base hs, fun b i hb' => by obtain ⟨q1, q2, q3⟩ := H.own b i hb'; exact ⟨q1, by omega, q3⟩, fun i r hr => ?_, fun i L hL => ?_, fun i r hr => ?_, fun i b hb' => ?_, H.one, xr_upd H.xr (fun _ h => h) hx⟩
  · by_cases e : j = i
    · subst e; exact hj
    · simp only [if_neg e] at hr; exact H.dec i r hr
  · by_cases e : j = i
    · simp only [if_pos e] at hL; cases hL; exact hv L rfl
    · simp only [if_neg e] at hL; exact H.ver i L hL
  · by_cases e : j = i
    · subst e
      simp only [if_true] at hr; cases hr
      assumption
    · simp only [if_neg e] at hr
      exact H.frameAt hr (Agree.refl D α) (fun b hb' => ⟨hb', hw b i hb' (fun e' => e e'.symm)⟩) (fun b hb' => by rw [hb.block b hb', H.bel.block b hb'])
  · by_cases e : j = i
    · subst e
      simp only [if_true] at hb'; cases hb'
      exact fun c hc => SC.good_mono (hg b rfl c hc) (fun _ h => h) hk
    · simp only [if_neg e] at hb'
      exact fun c hc => SC.good_mono (H.good i b hb' c hc) (fun _ h => h) hk
/-- One of them is let go: its blocks belong to nobody. -/
def ownD (ω : Nat → Option Nat) (j b : Nat) : Option Nat := if ω b = some j then none else ω b
theorem ownD_inv {ω : Nat → Option Nat} {j b i : Nat} (h : ownD ω j b = some i) : ω b = some i ∧ i ≠ j := by
  unfold ownD at h
  split at h
  · cases h
  · rename_i e; exact ⟨h, fun e' => e (by rw [h, e'])⟩
theorem ownD_old {ω : Nat → Option Nat} {j b i : Nat} (h : ω b = some i) (hi : i ≠ j) : ownD ω j b = some i := by
  unfold ownD; rw [if_neg (fun e => hi (by rw [h] at e; cases e; rfl)), h]
theorem ownD_none {ω : Nat → Option Nat} {j b : Nat} (h : ω b = some j) : ownD ω j b = none := by
  unfold ownD; rw [if_pos h]
theorem HRel.release (H : HRel D R α ω B w0 w) {j : Nat} (hj : D j) (r : Option Res) (hr : ∀ r', r = some r' → ∃ n, r' = .gone n ∧ RRel α (ownD ω j) B w j (.gone n)) :
    HRel D (fun i => if j = i then r else R i) α (ownD ω j) B w0 w := by
  have hk : Keep D R (fun i => if j = i then r else R i) := Keep.updN (fun L e => by obtain ⟨n, e', _⟩ := hr _ e; cases e') (fun L e => by obtain ⟨n, e', _⟩ := hr _ e; cases e')
  refine ⟨H.bel, H.base, fun b i hb' => H.own b i (ownD_inv hb').1, fun i r' hr' => ?_, fun i L hL => ?_, fun i r' hr' => ?_, fun i b hb' => ?_, H.one, xr_upd H.xr (fun _ h => h) fun r' e v hv => by obtain ⟨n, e', _⟩ := hr r' e; rw [e'] at hv; cases hv⟩
  · by_cases e : j = i
    · subst e; exact hj
    · simp only [if_neg e] at hr'; exact H.dec i r' hr'
  · by_cases e : j = i
    · simp only [if_pos e] at hL; obtain ⟨n, e', _⟩ := hr _ hL; cases e'
    · simp only [if_neg e] at hL; exact H.ver i L hL
  · by_cases e : j = i
    · subst e
      simp only [if_true] at hr'
      obtain ⟨n, e', h⟩ := hr _ hr'
      rw [e']; exact h
    · simp only [if_neg e] at hr'
      exact H.frameAt hr' (Agree.refl D α) (fun b hb' => ⟨ownD_old hb' (fun e' => e e'.symm), rfl⟩) (fun _ _ => rfl)
  · by_cases e : j = i
    · simp only [if_pos e] at hb'; obtain ⟨n, e', _⟩ := hr _ hb'; cases e'
    · simp only [if_neg e] at hb'
      exact fun c hc => SC.good_mono (H.good i b hb' c hc) (fun _ h => h) hk
/-- A new block of cells. -/
theorem HRel.make (H : HRel D R α ω B w0 w) {n : Nat} (hn : ¬ D n) {cells : List SC} (hg : ∀ c ∈ cells, c.good D R) (ty : TypeId) :
    ∃ ω', HRel (fun i => D i ∨ i = n) (fun i => if n = i then some (.box ⟨cells, ty⟩) else R i) (α.setB n w.heap.size) ω' B w0 (World.made w (cells.map (SC.den α)).toArray ty) := by
  have hω : ω w.heap.size = none := by
    cases e : ω w.heap.size with
    | none => rfl
    | some i => have := (H.own _ _ e).2.1; omega
  have H1 : HRel D R α ω B w0 (World.made w (cells.map (SC.den α)).toArray ty) :=
    H.frameU (made_below H.bel H.base _ _) (by rw [made_size]; omega) fun b i hb => made_old w _ _ (H.own b i hb).2.1
  have ha := agree_setB (D := D) α n w.heap.size hn
  refine ⟨_, H1.addRes hn ha H.one (fun b => b = w.heap.size) ?_ (fun b e => by cases e; exact hg) (fun L e => by cases e)⟩
  have hb : (α.setB n w.heap.size).blk n = w.heap.size := by simp [Al.setB]
  refine ⟨?_, ?_⟩
  · rw [hb]; exact ownN_new rfl hω H.base (by rw [made_size]; omega)
  · rw [hb, made_new]
    congr 3
    exact List.map_congr_left fun c hc => SC.den_agree (hg c hc) ha
/-- A store into a box. -/
theorem HRel.stored (H : HRel D R α ω B w0 w) {i : Nat} {b : Box} (hi : R i = some (.box b)) {cells : List SC} (hg : ∀ c ∈ cells, c.good D R) {w' : World}
    (hs : w'.heap.size = w.heap.size) (hnew : w'.heap[α.blk i]? = some (.cells (cells.map (SC.den α)).toArray b.ty (0, 0))) (hold : ∀ k, k ≠ α.blk i → w'.heap[k]? = w.heap[k]?)
    (ho : w'.os = w.os) (ht : w'.tape = w.tape) (hout : OutD w w') :
    HRel D (fun j => if i = j then some (.box ⟨cells, b.ty⟩) else R j) α ω B w0 w' := by
  obtain ⟨h1, _⟩ : RRel α ω B w i (.box b) := H.rel i _ hi
  have hB := (H.own _ _ h1).1
  exact H.setOwn (H.dec _ _ hi) (H.bel.trans ⟨⟨ho, ht, hout.out, by omega, fun k hk' => hold k (by omega)⟩, hout.drawn⟩) (by omega) (fun b' i' hb' hne => hold b' fun e => hne (by rw [e, h1] at hb'; cases hb'; rfl)) ⟨h1, hnew⟩
    (Keep.updN (fun L e => by cases e) (fun L e => by cases e)) (fun b' e => by cases e; exact hg) (fun L e => by cases e)
end

/-! ### Slots -/
section
variable {D D' : Nat → Prop} {R R' : Nat → Option Res} {α α' : Al} {nt : Nat} {get : Nat → SV} {tmps : Array Value}
theorem TRel.mono (T : TRel D R α nt get tmps) (hD : ∀ i, D i → D' i) (hk : Keep D R R') (ha : Agree D α α') : TRel D' R' α' nt get tmps :=
  ⟨T.size, fun t ht => SV.good_mono (T.good t ht) hD hk, fun t ht hn => by rw [T.den t ht hn, SV.den_agree (T.good t ht) ha]⟩
theorem TRel.put (T : TRel D R α nt get tmps) {v : SV} (hv : v.good D R) (d : Nat) {x : Value} (hx : v ≠ .any → x = v.den α) : TRel D R α nt (fun t => if d = t then v else get t) (tmps.setIfInBounds d x) := by
  refine ⟨by simp [T.size], fun t ht => ?_, fun t ht hn => ?_⟩
  · split
    · exact hv
    · exact T.good t ht
  · by_cases e : d = t
    · subst e
      simp only [if_true] at hn ⊢
      rw [Array.getElem?_setIfInBounds_self_of_lt (by rw [T.size]; exact ht), hx hn]
    · simp only [if_neg e] at hn ⊢
      rw [Array.getElem?_setIfInBounds_ne e]
      exact T.den t ht hn
end

/-! ### States -/
structure Rel (S : St) (α : Al) (ω : Nat → Option Nat) (B : Nat) (w0 : World) (a : Act) (w : World) : Prop where
  h : HRel (· < S.nx) S.res α ω B w0 w
  t : TRel (· < S.nx) S.res α S.nt S.get a.tmps
  d : a.defers = []
/-- What a state has written stands ahead of what it had. -/
structure Ext (S S' : St) : Prop where
  tb : S'.tb = S.tb
  rb : S'.rb = S.rb
  tm : ∃ l, S'.tm = l ++ S.tm
  rs : ∃ l, S'.rs = l ++ S.rs
theorem Ext.refl (S : St) : Ext S S := ⟨rfl, rfl, ⟨[], rfl⟩, ⟨[], rfl⟩⟩
theorem Ext.trans {S S' S'' : St} (h : Ext S S') (h' : Ext S' S'') : Ext S S'' := by
  obtain ⟨a1, a2, ⟨l, a3⟩, ⟨m, a4⟩⟩ := h
  obtain ⟨b1, b2, ⟨l', b3⟩, ⟨m', b4⟩⟩ := h'
  exact ⟨b1.trans a1, b2.trans a2, ⟨l' ++ l, by rw [b3, a3, List.append_assoc]⟩, ⟨m' ++ m, by rw [b4, a4, List.append_assoc]⟩⟩
theorem Ext.put (S : St) (d : Option Tmp) (v : SV) : Ext S (S.put d v) := by
  cases d with
  | none => exact Ext.refl S
  | some d => exact ⟨rfl, rfl, ⟨[(d, v)], rfl⟩, ⟨[], rfl⟩⟩
theorem Ext.set (S : St) (i : Nat) (r : Option Res) : Ext S (S.set i r) := ⟨rfl, rfl, ⟨[], rfl⟩, ⟨[(i, r)], rfl⟩⟩
theorem Ext.new (S : St) (i : Nat) (r : Option Res) (n : Nat) : Ext S { S.set i r with nx := n } := ⟨rfl, rfl, ⟨[], rfl⟩, ⟨[(i, r)], rfl⟩⟩
structure Evo (S S' : St) (α α' : Al) : Prop where
  nx : S.nx ≤ S'.nx
  agree : Agree (· < S.nx) α α'
  keep : Keep (· < S.nx) S.res S'.res
  nt : S'.nt = S.nt
  ext : Ext S S'
theorem Evo.refl (S : St) (α : Al) : Evo S S α α := ⟨Nat.le_refl _, Agree.refl _ _, Keep.refl _ _, rfl, Ext.refl S⟩
theorem Evo.trans {S S' S'' : St} {α α' α'' : Al} (h : Evo S S' α α') (h' : Evo S' S'' α' α'') : Evo S S'' α α'' :=
  ⟨Nat.le_trans h.nx h'.nx, h.agree.trans h'.agree fun _ hi => Nat.lt_of_lt_of_le hi h.nx, h.keep.trans h'.keep fun _ hi => Nat.lt_of_lt_of_le hi h.nx, h'.nt.trans h.nt, h.ext.trans h'.ext⟩
section
variable {S : St} {α : Al} {ω : Nat → Option Nat} {B : Nat} {w0 w : World} {a : Act}
theorem put_res (S : St) (d : Option Tmp) (v : SV) : (S.put d v).res = S.res := by cases d <;> rfl
theorem put_nx (S : St) (d : Option Tmp) (v : SV) : (S.put d v).nx = S.nx := by cases d <;> rfl
theorem put_nt (S : St) (d : Option Tmp) (v : SV) : (S.put d v).nt = S.nt := by cases d <;> rfl
theorem Rel.put (r : Rel S α ω B w0 a w) {v : SV} (hv : v.good (· < S.nx) S.res) (d : Option Tmp) {x : Value} (hx : v ≠ .any → x = v.den α) : Rel (S.put d v) α ω B w0 (a.put d x) w := by
  cases d with
  | none => exact r
  | some d =>
    refine ⟨?_, ?_, r.d⟩
    · rw [put_res, put_nx]; exact r.h
    · rw [put_res, put_nx, put_nt, get_put]
      exact r.t.put hv d hx
theorem Evo.put (S : St) (d : Option Tmp) (v : SV) (α : Al) : Evo S (S.put d v) α α :=
  ⟨by rw [put_nx]; exact Nat.le_refl _, Agree.refl _ _, by rw [put_res]; exact Keep.refl _ _, put_nt S d v, Ext.put S d v⟩
/-- A bool whose value has been learnt. -/
theorem Rel.learn (r : Rel S α ω B w0 a w) {d : Nat} {b : Bool} (h : S.get d = .w (.c (.bool b none))) (hd : d < S.nt) {x : Bool} (hb : b = x) : Rel (S.put (some d) (.w (.c (.bool x (some x))))) α ω B w0 a w := by
  refine ⟨r.h, ⟨r.t.size, fun t ht => ?_, fun t ht hn => ?_⟩, r.d⟩
  · rw [get_put]
    show SV.good _ _ (if d = t then _ else _)
    split
    · exact fun y hy => by cases hy; rfl
    · exact r.t.good t ht
  · rw [get_put] at hn ⊢
    by_cases e : d = t
    · subst e
      simp only [if_true]
      have := r.t.den d hd (by rw [h]; exact fun e => by cases e)
      rw [this, h, hb]; rfl
    · simp only [if_neg e] at hn ⊢
      exact r.t.den t ht hn
/-- A number whose value has been learnt. -/
theorem Rel.learnI (r : Rel S α ω B w0 a w) {d : Nat} {k : IntKind} {i : SI} (h : S.get d = .w (.c (.int k i))) (hd : d < S.nt) {n : Int} (hn : i.v = n) : Rel (S.put (some d) (.w (.c (.int k (.lit n))))) α ω B w0 a w := by
  refine ⟨r.h, ⟨r.t.size, fun t ht => ?_, fun t ht hn => ?_⟩, r.d⟩
  · rw [get_put]
    show SV.good _ _ (if d = t then _ else _)
    split
    · exact lit_ok n
    · exact r.t.good t ht
  · rw [get_put] at hn ⊢
    by_cases e : d = t
    · subst e
      simp only [if_true]
      have := r.t.den d hd (by rw [h]; exact fun e => by cases e)
      rw [this, h]
      simp only [SV.den, SW.den, SC.den, SI.lit, ‹i.v = n›]
    · simp only [if_neg e] at hn ⊢
      exact r.t.den t ht hn
theorem Rel.world (r : Rel S α ω B w0 a w) {w' : World} (H : HRel (· < S.nx) S.res α ω B w0 w') : Rel S α ω B w0 a w' := ⟨H, r.t, r.d⟩
end

/-! ### More in a state -/
theorem look_addAll : ∀ (rs : List Res) (acc : List (Nat × Option Res)) (n i : Nat), look (addAll acc n rs) i = if n ≤ i ∧ i < n + rs.length then some rs[i - n]? else look acc i
  | [], acc, n, i => by
    rw [if_neg (by simp)]; rfl
  | r :: l, acc, n, i => by
    rw [addAll, look_addAll l, look_cons]
    by_cases h : n = i
    · subst h
      rw [if_neg (by omega), if_pos rfl, if_pos (by simp)]
      simp
    · rw [if_neg h]
      by_cases h2 : n ≤ i ∧ i < n + (r :: l).length
      · rw [if_pos h2, if_pos (by simp at h2; omega), show i - n = (i - (n + 1)) + 1 by omega]
        simp
      · rw [if_neg h2, if_neg (by simp at h2; omega)]
def addR (R : Nat → Option Res) (n : Nat) (rs : List Res) (i : Nat) : Option Res := if n ≤ i ∧ i < n + rs.length then rs[i - n]? else R i
/-- With k numbers more, from n on. -/
def DN (D : Nat → Prop) (n k : Nat) (i : Nat) : Prop := D i ∨ (n ≤ i ∧ i < n + k)
theorem add_res (S : St) (rs : List Res) : (S.add rs).res = addR S.res S.nx rs := by
  funext i
  show (match look (addAll S.rs S.nx rs) i with | some r => r | none => S.rb i) = _
  rw [look_addAll]
  unfold addR
  by_cases h : S.nx ≤ i ∧ i < S.nx + rs.length
  · rw [if_pos h, if_pos h]
  · rw [if_neg h, if_neg h]; rfl
theorem addR_one (R : Nat → Option Res) (n : Nat) (r : Res) : addR R n [r] = fun i => if n = i then some r else R i := by
  funext i
  unfold addR
  by_cases e : n = i
  · subst e; simp
  · rw [if_neg (by simp; omega)]; simp only [if_neg e]
theorem addR_cons (R : Nat → Option Res) (n : Nat) (r : Res) (rs : List Res) : addR R n (r :: rs) = addR (fun i => if n = i then some r else R i) (n + 1) rs := by
  funext i
  unfold addR
  by_cases e : n = i
  · subst e
    rw [if_pos (by simp), if_neg (by omega)]
    simp
  · by_cases h : n ≤ i ∧ i < n + (r :: rs).length
    · rw [if_pos h, if_pos (by simp at h; omega), show i - n = (i - (n + 1)) + 1 by omega]
      simp
    · rw [if_neg h, if_neg (by simp at h; omega)]
      simp only [if_neg e]
theorem DN_one (D : Nat → Prop) (n : Nat) : DN D n 1 = fun i => D i ∨ i = n := by
  funext i; apply propext; unfold DN; constructor
  · rintro (h | h)
    · exact .inl h
    · exact .inr (by omega)
  · rintro (h | h)
    · exact .inl h
    · exact .inr (by omega)
theorem DN_zero (D : Nat → Prop) (n : Nat) : DN D n 0 = D := by
  funext i; apply propext; unfold DN; constructor
  · rintro (h | h)
    · exact h
    · omega
  · exact .inl
theorem DN_cons (D : Nat → Prop) (n k : Nat) : DN (fun i => D i ∨ i = n) (n + 1) k = DN D n (k + 1) := by
  funext i; apply propext; unfold DN; constructor
  · rintro ((h | h) | h)
    · exact .inl h
    · exact .inr (by omega)
    · exact .inr (by omega)
  · rintro (h | h)
    · exact .inl (.inl h)
    · by_cases e : i = n
      · exact .inl (.inr e)
      · exact .inr (by omega)
theorem DN_lt (m k : Nat) : DN (· < m) m k = (· < m + k) := by
  funext i; apply propext; unfold DN; constructor
  · rintro (h | h)
    · show i < m + k; have : i < m := h; omega
    · exact h.2
  · intro h
    have h : i < m + k := h
    by_cases e : i < m
    · exact .inl e
    · exact .inr ⟨by omega, h⟩
theorem keep_add {D : Nat → Prop} {R : Nat → Option Res} {n : Nat} {rs : List Res} (hn : ∀ i, n ≤ i → i < n + rs.length → ¬ D i) : Keep D R (addR R n rs) := Keep.of fun j hj => .inl (by
  unfold addR
  rw [if_neg fun e => hn j e.1 e.2 hj])
theorem ext_add (S : St) (rs : List Res) : Ext S (S.add rs) := by
  have hext : ∀ (rs : List Res) (acc : List (Nat × Option Res)) (n : Nat), ∃ l, addAll acc n rs = l ++ acc := fun rs => by
    induction rs with
    | nil => exact fun acc n => ⟨[], rfl⟩
    | cons r rs ih =>
      intro acc n
      obtain ⟨l, hl⟩ := ih ((n, some r) :: acc) (n + 1)
      exact ⟨l ++ [(n, some r)], by rw [addAll, hl]; simp⟩
  exact ⟨rfl, rfl, ⟨[], rfl⟩, hext rs S.rs S.nx⟩
/-- The state, with what came beside. -/
theorem Rel.added {S : St} {α α' : Al} {ω ω' : Nat → Option Nat} {B : Nat} {w0 w w' : World} {a : Act} (r : Rel S α ω B w0 a w) {rs : List Res} (H : HRel (DN (· < S.nx) S.nx rs.length) (addR S.res S.nx rs) α' ω' B w0 w') (ha : Agree (· < S.nx) α α')
    {v : SV} (hv : v.good (DN (· < S.nx) S.nx rs.length) (addR S.res S.nx rs)) (d : Option Tmp) {x : Value} (hx : v ≠ .any → x = v.den α') :
    Evo S ((S.add rs).put d v) α α' ∧ Rel ((S.add rs).put d v) α' ω' B w0 (a.put d x) w' := by
  have hk : Keep (· < S.nx) S.res (addR S.res S.nx rs) := keep_add fun i h1 _ h2 => by have : i < S.nx := h2; omega
  rw [DN_lt] at H hv
  have r1 : Rel (S.add rs) α' ω' B w0 a w' := by
    refine ⟨?_, ?_, r.d⟩
    · rw [add_res]; exact H
    · rw [add_res]
      exact r.t.mono (fun i h => by show i < S.nx + rs.length; have : i < S.nx := h; omega) hk ha
  have hext : ∀ (rs : List Res) (acc : List (Nat × Option Res)) (n : Nat), ∃ l, addAll acc n rs = l ++ acc := fun rs => by
    induction rs with
    | nil => exact fun acc n => ⟨[], rfl⟩
    | cons r rs ih =>
      intro acc n
      obtain ⟨l, hl⟩ := ih ((n, some r) :: acc) (n + 1)
      exact ⟨l ++ [(n, some r)], by rw [addAll, hl]; simp⟩
  have e1 : Evo S (S.add rs) α α' := ⟨Nat.le_add_right _ _, ha, by rw [add_res]; exact hk, rfl, ⟨rfl, rfl, ⟨[], rfl⟩, hext rs S.rs S.nx⟩⟩
  refine ⟨e1.trans (Evo.put _ d v α'), r1.put ?_ d hx⟩
  rw [add_res]; exact hv

/-! ### Elements -/
/-- Elements of a type, as Lean has them. -/
structure ElOk (P : Program) (e : TypeId) (f : Fl) : Prop where
  ok : ∃ i z, P.info? e = some i ∧ i.size = f.ks.length ∧ i.bytes = f.bytes ∧ i.zero = some z ∧ z.cells.toList = f.vals f.dflt
def ElsOk (E : Env) : Prop := ∀ p ∈ E.els, ElOk E.P p.1 p.2
theorem made_get (z : Array Value) (n m k : Nat) (hk : k < z.size) (hm : m < n) : (madeCells z (n * z.size))[m * z.size + k]? = some z[k] := by
  have hlt : m * z.size + k < n * z.size := by
    have : (m + 1) * z.size ≤ n * z.size := Nat.mul_le_mul_right _ hm
    rw [Nat.succ_mul] at this; omega
  unfold madeCells
  rw [Array.getElem?_map, Array.getElem?_eq_getElem (by simpa using hlt)]
  simp only [Array.getElem_range, Option.map_some]
  rw [Nat.mul_comm, Nat.mul_add_mod, Nat.mod_eq_of_lt hk, getElem!_pos z k hk]
theorem vals_len (f : Fl) (x : f.ty) : (f.vals x).length = f.ks.length := by
  cases f <;> rfl
theorem dflt_okv (f : Fl) : f.okv f.dflt := by
  unfold Fl.okv
  cases f <;> simp [Fl.sw, Fl.dflt, Fl.dec, Fl.enc, Fl.ks, cksc, CK.sc, nthI, nthB, decM, ckI, ckU, ckS, SC.ok0, SI.ok, kmin, kmax, Cell.int]
end Go.Fx
end
section
namespace Go.Fx
open Go RowKit

section
variable {E : Env} {S : St} {D : Nat → Prop} {R : Nat → Option Res} {α : Al} {ω : Nat → Option Nat} {B : Nat} {w0 w : World} {a : Act}
theorem box_new (H : HRel D R α ω B w0 w) {n : Nat} (hn : ¬ D n) {cells : List SC} (hg : ∀ c ∈ cells, c.good D R) (ty : TypeId) :
    ∃ α' ω', HRel (DN D n 1) (addR R n [.box ⟨cells, ty⟩]) α' ω' B w0 (World.made w (cells.map (SC.den α)).toArray ty) ∧ Agree D α α' ∧ α'.blk n = w.heap.size := by
  obtain ⟨ω', h⟩ := H.make hn hg ty
  rw [DN_one, addR_one]
  exact ⟨_, ω', h, agree_setB α n _ hn, by simp [Al.setB]⟩
theorem below_none (H : HRel D R α ω B w0 w) : ω w.heap.size = none := by
  cases e : ω w.heap.size with
  | none => rfl
  | some i => have := (H.own _ _ e).2.1; omega
theorem replicate_get {β : Type} {n i : Nat} {x y : β} (h : (List.replicate n x)[i]? = some y) : i < n ∧ y = x := by
  obtain ⟨h1, h2⟩ := List.getElem?_eq_some_iff.1 h
  simp at h1 h2
  exact ⟨h1, h2.symm⟩
/-- A list of noughts. -/
theorem zeros_rep {f : Fl} {e : TypeId} {z : Value} (hz : z.cells.toList = f.vals f.dflt) (w : World) (c : Nat) (hfit : c * f.bytes ≤ room) {m : Nat → Prop} (hm : m w.heap.size) :
    LRep (World.made w (madeCells z.cells (c * f.ks.length)) e) f (List.replicate c f.dflt) (.slice (some ⟨w.heap.size, 0, none⟩) c c) m true := by
  have hsz : z.cells.size = f.ks.length := by rw [← Array.length_toList, hz, vals_len]
  refine ⟨fun x hx => by rw [List.eq_of_mem_replicate hx]; exact dflt_okv f, by simpa using hfit, .inr ⟨w.heap.size, 0, c, _, e, (0, 0), by simp, by simp, made_new w _ _, hm, fun i x hx => ?_, fun _ => ⟨rfl, rfl, ?_⟩⟩⟩
  · obtain ⟨h1, rfl⟩ := replicate_get hx
    intro k v hk
    have hklt : k < z.cells.size := by
      have := (List.getElem?_eq_some_iff.1 hk).1
      rw [vals_len] at this; omega
    rw [Nat.zero_add, ← hsz, made_get z.cells c i k hklt h1]
    rw [← hz, Array.getElem?_toList, Array.getElem?_eq_getElem hklt] at hk
    exact hk
  · rw [size_madeCells]
theorem list_new (H : HRel D R α ω B w0 w) {n : Nat} (hn : ¬ D n) {f : Fl} {l : List f.ty} {v : Value} {w' : World} (hb : Below B w0 w') (hs : w.heap.size ≤ w'.heap.size) (hw : ∀ b i, ω b = some i → w'.heap[b]? = w.heap[b]?)
    (P : Nat → Prop) (hrep : LRep w' f l v (fun b => P b ∧ ω b = none ∧ B ≤ b) true) :
    ∃ α' ω', HRel (DN D n 1) (addR R n [.list ⟨f, l, true⟩]) α' ω' B w0 w' ∧ Agree D α α' ∧ α'.sv n = v ∧ (∀ b i, ω' b = some i → ω b = some i ∨ P b) ∧ ∀ b i, ω b = some i → ω' b = some i := by
  have hone : v.oneCell' = true := by
    obtain ⟨_, _, h3⟩ := hrep
    rcases h3 with ⟨a, cap, rfl, _⟩ | ⟨blk, off, cap, cs, ty, fz, rfl, _⟩ <;> rfl
  have H1 := H.frameU hb hs hw
  have ha := agree_setS (D := D) α n v (fun _ => undef) hn
  rw [DN_one, addR_one]
  refine ⟨α.setS n v fun _ => undef, _, H1.addRes hn ha (setS_one H.one hone) P ?_ (fun b e => by cases e) (fun L e => by cases e), ha, setS_sv _ _ _ _, fun b i h => ?_, fun b i h => ownN_old h⟩
  · show LRep w' f l ((α.setS n v fun _ => undef).sv n) _ true
    rw [setS_sv]
    refine hrep.frame fun b hb' hm => ⟨?_, rfl⟩
    show mineOf _ B n true b
    unfold mineOf
    rw [if_pos rfl]
    exact ownN_new hm.1 hm.2.1 hm.2.2 hb'
  · rcases ownN_inv h with ⟨_, h, _⟩ | h
    · exact .inr h
    · exact .inl h
theorem lists_new (H : HRel D R α ω B w0 w) {n : Nat} (hn : ¬ D n) {f : Fl} {ll : List (List f.ty)} {v : Value} {rv : Nat → Value} {w' : World} (hb : Below B w0 w') (hs : w.heap.size ≤ w'.heap.size) (hw : ∀ b i, ω b = some i → w'.heap[b]? = w.heap[b]?)
    (P : Nat → Prop) (hrep : LLRep w' f ll v rv (fun b => P b ∧ ω b = none ∧ B ≤ b) true) :
    ∃ α' ω', HRel (DN D n 1) (addR R n [.lists ⟨f, ll, n, true⟩]) α' ω' B w0 w' ∧ Agree D α α' ∧ α'.sv n = v ∧ (∀ b i, ω' b = some i → ω b = some i ∨ P b) ∧ ∀ b i, ω b = some i → ω' b = some i := by
  have hone : v.oneCell' = true := by
    obtain ⟨_, _, h3⟩ := hrep
    rcases h3 with ⟨a, cap, rfl, _⟩ | ⟨blk, off, cap, cs, ty, fz, rfl, _⟩ <;> rfl
  have H1 := H.frameU hb hs hw
  have ha := agree_setS (D := D) α n v rv hn
  rw [DN_one, addR_one]
  refine ⟨α.setS n v rv, _, H1.addRes hn ha (setS_one H.one hone) P ?_ (fun b e => by cases e) (fun L e => by cases e; exact .inr rfl), ha, setS_sv _ _ _ _, fun b i h => ?_, fun b i h => ownN_old h⟩
  · show LLRep w' f ll ((α.setS n v rv).sv n) ((α.setS n v rv).rv n) _ true
    rw [setS_sv, setS_rv]
    refine hrep.frame fun b hb' hm => ⟨?_, rfl⟩
    show mineOf _ B n true b
    unfold mineOf
    rw [if_pos rfl]
    exact ownN_new hm.1 hm.2.1 hm.2.2 hb'
  · rcases ownN_inv h with ⟨_, h, _⟩ | h
    · exact .inr h
    · exact .inl h
theorem rowT_ok {e : TypeId} (h : rowT E e = true) : ∃ i, E.P.info? e = some i ∧ i.size = 1 ∧ i.bytes = 24 ∧ i.zero = some (.slice none 0 0) := by
  unfold rowT at h
  split at h
  · rename_i i hi
    rw [Bool.and_eq_true, Bool.and_eq_true] at h
    refine ⟨i, hi, Nat.eq_of_beq_eq_true h.1.1, Nat.eq_of_beq_eq_true h.1.2, ?_⟩
    have := h.2
    split at this
    · assumption
    · cases this
  · cases h
theorem makeV_ok (hE : ElsOk E) (H : HRel D S.res α ω B w0 w) {n : Nat} (hn : ¬ D n) {t : TypeId} {same : Bool} {len cap : SV} {side : Option Prop} {rs : List Res} {v : SV} (h : makeV E n t same len cap = .new side rs v) (hs : sideH side)
    (hsame : same = true → len = cap) (gl : len.good D S.res) (gc : cap.good D S.res) :
    rs.length = 1 ∧ len ≠ .any ∧ cap ≠ .any ∧ ∃ w' α' ω', (Instr.makeSlice t (len.den α) (cap.den α)).run E.P w = .ok (v.den α') w' ∧ HRel (DN D n rs.length) (addR S.res n rs) α' ω' B w0 w' ∧ Agree D α α' ∧ v.good (DN D n rs.length) (addR S.res n rs) ∧ v ≠ .any := by
  have fitC : ∀ {b : Nat} {β : Type} {x : β} {c : Int}, lfit b (lrep c x) → c.toNat * b ≤ room := fun {b β x c} h => by
    have : (lrep c x).length * b ≤ 140737488355328 := h
    rw [lrep, List.length_replicate] at this; exact this
  unfold makeV at h
  split at h
  · rename_i e k a' k' b' hu
    have ga : a'.ok := gl
    have gb : b'.ok := gc
    split at h
    · rename_i f he hsm
      cases h
      have hab : a'.v = b'.v := by
        rw [Bool.or_eq_true] at hsm
        rcases hsm with h | h
        · have := hsame h; cases this; rfl
        · split at h
          · rename_i x y hx hy
            have := ieq_iff.1 h
            rw [(SI.lit?_eq ga hx).1, (SI.lit?_eq gb hy).1, this]
          · cases h
      obtain ⟨i, z, hi, h1, h2, hz, h3⟩ := (hE (e, f) (look_mem he)).ok
      dsimp only at hi h1 h2 h3
      obtain ⟨s1, s2⟩ : 0 ≤ a'.v ∧ lfit f.bytes (lrep a'.v f.dflt) := hs
      have hfit := fitC s2
      have hb1 : 1 ≤ f.bytes := by cases f <;> decide
      have hle : a'.v.toNat ≤ a'.v.toNat * f.bytes := Nat.le_mul_of_pos_right _ hb1
      have hrun := run_make (P := E.P) w t e i z hu hi hz k k' a'.v b'.v s1 (by omega) (by
        rw [h2, ← hab]
        have : ((a'.v.toNat * f.bytes : Nat) : Int) ≤ 140737488355328 := by unfold room at hfit; omega
        rw [Int.natCast_mul, Int.toNat_of_nonneg s1, Int.mul_comm] at this; omega) (by unfold room at hfit; omega)
      have hrep := zeros_rep (f := f) (e := e) h3 w a'.v.toNat hfit (m := fun b => b = w.heap.size ∧ ω b = none ∧ B ≤ b) ⟨rfl, below_none H, H.base⟩
      obtain ⟨α', ω', q1, q2, q3, _⟩ := list_new H hn (made_below H.bel H.base _ _) (by rw [made_size]; omega) (fun b i hb => made_old w _ _ (H.own b i hb).2.1) (fun b => b = w.heap.size) hrep
      refine ⟨rfl, (fun e => by cases e), (fun e => by cases e), _, α', ω', ?_, q1, q2, .inr ⟨Nat.le_refl _, Nat.lt_succ_self _⟩, fun e => by cases e⟩
      show (Instr.makeSlice t (.int k a'.v) (.int k' b'.v)).run E.P w = .ok (α'.sv n) _
      rw [hrun, q3, ← hab, h1]
      rfl
    · rename_i f he hsm
      cases h
      obtain ⟨i, z, hi, h1, h2, hz, h3⟩ := (hE (e, f) (look_mem he)).ok
      dsimp only at hi h1 h2 h3
      obtain ⟨s1, s0, s2⟩ : 0 ≤ a'.v ∧ a'.v ≤ b'.v ∧ lfit f.bytes (lrep b'.v f.dflt) := hs
      have hfit := fitC s2
      have hb1 : 1 ≤ f.bytes := by cases f <;> decide
      have hle : b'.v.toNat ≤ b'.v.toNat * f.bytes := Nat.le_mul_of_pos_right _ hb1
      have hrun := run_make (P := E.P) w t e i z hu hi hz k k' a'.v b'.v s1 s0 (by
        rw [h2]
        have : ((b'.v.toNat * f.bytes : Nat) : Int) ≤ 140737488355328 := by unfold room at hfit; omega
        rw [Int.natCast_mul, Int.toNat_of_nonneg (by omega), Int.mul_comm] at this; omega) (by unfold room at hfit; omega)
      have hrep := zeros_rep (f := f) (e := e) h3 w b'.v.toNat hfit (m := fun b => b = w.heap.size ∧ ω b = none ∧ B ≤ b) ⟨rfl, below_none H, H.base⟩
      obtain ⟨α', ω', q1, q2, q3, _⟩ := list_new H hn (made_below H.bel H.base _ _) (by rw [made_size]; omega) (fun b i hb => made_old w _ _ (H.own b i hb).2.1) (fun b => b = w.heap.size) hrep
      refine ⟨rfl, (fun e => by cases e), (fun e => by cases e), _, α', ω', ?_, q1, q2, ⟨.inr ⟨Nat.le_refl _, Nat.lt_succ_self _⟩, lit_ok 0, ga, fun L hL => ?_⟩, fun e => by cases e⟩
      · show (Instr.makeSlice t (.int k a'.v) (.int k' b'.v)).run E.P w = .ok ((SC.vw n f.ks.length (.lit 0) a').den α') _
        have hz0 : ∀ c : Nat, (if c = (SI.lit 0).v.toNat then some (⟨w.heap.size, 0, none⟩ : Addr) else (some (⟨w.heap.size, 0, none⟩ : Addr)).map (·.add ((SI.lit 0).v.toNat * f.ks.length))) = some ⟨w.heap.size, 0, none⟩ := fun c => by
          split
          · rfl
          · show some (Addr.add ⟨w.heap.size, 0, none⟩ (0 * f.ks.length)) = _
            rw [Nat.zero_mul]; rfl
        simp only [SC.den, q3, hz0]
        rw [hrun, h1]
        rfl
      · rw [addR_one] at hL
        simp only [if_true] at hL
        cases hL
        refine ⟨rfl, Int.le_refl _, s1, ?_⟩
        show 0 + a'.v ≤ ((lrep b'.v f.dflt).length : Int)
        rw [lrep, List.length_replicate]; omega
    · rename_i he hsm
      split at h
      · rename_i e2 hu2
        split at h
        · rename_i f hf
          cases h
          have hf' : rowT E e = true ∧ look E.els e2 = some f := by
            cases hr : rowT E e with
            | true => rw [hr] at hf; exact ⟨rfl, hf⟩
            | false => rw [hr] at hf; cases hf
          obtain ⟨hr, _⟩ := hf'
          have hab : a'.v = b'.v := by
            rw [Bool.or_eq_true] at hsm
            rcases hsm with h | h
            · have := hsame h; cases this; rfl
            · split at h
              · rename_i x y hx hy
                have := ieq_iff.1 h
                rw [(SI.lit?_eq ga hx).1, (SI.lit?_eq gb hy).1, this]
              · cases h
          obtain ⟨i, hi, h1, h2, hz⟩ := rowT_ok hr
          obtain ⟨s1, s2⟩ : 0 ≤ a'.v ∧ lfit 24 (lrep a'.v ([] : List f.ty)) := hs
          have hfit := fitC s2
          have hrun := run_make (P := E.P) w t e i _ hu hi hz k k' a'.v b'.v s1 (by omega) (by
            rw [h2, ← hab]; unfold room at hfit; omega) (by unfold room at hfit; omega)
          have hcell : ∀ i, i < a'.v.toNat → (madeCells (Value.slice none 0 0).cells (a'.v.toNat * 1))[i]? = some (.slice none 0 0) := fun i hi => by
            have h := made_get (Value.slice none 0 0).cells a'.v.toNat i 0 (by decide) hi
            have e1 : i * (Value.slice none 0 0).cells.size + 0 = i := Nat.mul_one i
            rw [e1] at h
            exact h
          have hrep : LLRep (World.made w (madeCells (Value.slice none 0 0).cells (a'.v.toNat * 1)) e) f (List.replicate a'.v.toNat []) (.slice (some ⟨w.heap.size, 0, none⟩) a'.v.toNat a'.v.toNat) (fun _ => .slice none 0 0) (fun b => b = w.heap.size ∧ ω b = none ∧ B ≤ b) true := by
            refine ⟨fun i l hl => ?_, by simpa using hfit, .inr ⟨w.heap.size, 0, a'.v.toNat, _, e, (0, 0), by simp, by simp, made_new w _ _, ⟨rfl, below_none H, H.base⟩, fun i hi => ?_, fun _ => ⟨rfl, rfl, ?_, fun i b hi hb => by simp [rowBlk] at hb⟩⟩⟩
            · rw [(replicate_get hl).2]
              exact ⟨(fun x hx => by cases hx), by simp, .inl ⟨none, 0, rfl, rfl, fun _ => rfl⟩⟩
            · rw [Nat.zero_add]; exact hcell i (by simpa using hi)
            · rw [size_madeCells, Nat.mul_one]
          obtain ⟨α', ω', q1, q2, q3, _⟩ := lists_new H hn (made_below H.bel H.base _ _) (by rw [made_size]; omega) (fun b i hb => made_old w _ _ (H.own b i hb).2.1) (fun b => b = w.heap.size) hrep
          refine ⟨rfl, (fun e => by cases e), (fun e => by cases e), _, α', ω', ?_, q1, q2, .inr ⟨Nat.le_refl _, Nat.lt_succ_self _⟩, fun e => by cases e⟩
          show (Instr.makeSlice t (.int k a'.v) (.int k' b'.v)).run E.P w = .ok (α'.sv n) _
          rw [hrun, q3, ← hab, h1]
          rfl
        · cases h
      · cases h
    · cases h
  · cases h
theorem opv_new (hE : ElsOk E) (H : HRel D S.res α ω B w0 w) (T : TRel D S.res α S.nt S.get a.tmps) {o : Oper} {side : Option Prop} {rs : List Res} {v : SV} (h : opv E S o.op = .new side rs v) (hs : sideH side)
    (hn : ∀ i, S.nx ≤ i → i < S.nx + rs.length → ¬ D i) :
    ∃ w' α' ω', (execOp a.eval o).run E.P w = .ok (.value (v.den α')) w' ∧ HRel (DN D S.nx rs.length) (addR S.res S.nx rs) α' ω' B w0 w' ∧ Agree D α α' ∧ v.good (DN D S.nx rs.length) (addR S.res S.nx rs) ∧ v ≠ .any := by
  have noNew : ∀ {x : SV}, notAny x ≠ .new side rs v := fun {x} e => by cases x <;> cases e
  cases ho : o.op with
  | move x => rw [ho] at h; exact absurd h noNew
  | assign x => rw [ho] at h; exact absurd h noNew
  | pick c x y =>
    rw [ho] at h
    simp only [opv, pickV] at h
    (split at h) <;> first | exact absurd h noNew | cases h
  | alloc t =>
    rw [ho] at h
    simp only [opv] at h
    split at h
    · rename_i z hz
      cases h
      obtain ⟨α', ω', q1, q2, q3⟩ := box_new H (hn _ (Nat.le_refl _) (Nat.lt_succ_self _)) (cells_good (zero_good hz _ _)) t
      refine ⟨_, α', ω', ?_, q1, q2, .inr ⟨Nat.le_refl _, Nat.lt_succ_self _⟩, fun e => by cases e⟩
      have ev : (SV.w (.c (.ptr S.nx 0))).den α' = .pointer (some ⟨w.heap.size, 0, none⟩) := by simp only [SV.den, SW.den, SC.den, q3]
      rw [ev]
      simp only [execOp, ho, Instr.alloc, Sem.run_bind, zero_run hz α, Result.andThen_ok, newVar, newRow, cells_den H.one, run_newObj, Sem.run_pure]
      rfl
    · cases h
  | box t x =>
    rw [ho] at h
    simp only [opv] at h
    split at h
    · rename_i u e
      cases h
      obtain ⟨p1, p2⟩ := ev_w T e
      obtain ⟨α', ω', q1, q2, q3⟩ := box_new H (hn _ (Nat.le_refl _) (Nat.lt_succ_self _)) (cells_good p2) t
      refine ⟨_, α', ω', ?_, q1, q2, .inr ⟨Nat.le_refl _, Nat.lt_succ_self _⟩, fun e => by cases e⟩
      have ev : (SV.w (.c (.ptr S.nx 0))).den α' = .pointer (some ⟨w.heap.size, 0, none⟩) := by simp only [SV.den, SW.den, SC.den, q3]
      rw [ev]
      simp only [execOp, ho, p1, Instr.box, newVar, newRow, cells_den H.one, Sem.run_bind, run_newObj, Sem.run_pure, Result.andThen_ok]
      rfl
    · cases h
  | build t parts =>
    rw [ho] at h
    simp only [opv, buildV] at h
    (repeat' split at h) <;> cases h
  | buildSlice t len parts =>
    rw [ho] at h
    simp only [opv, buildSliceV] at h
    split at h
    · rename_i elem hu
      split at h
      · rename_i sz z e1 e2
        split at h
        · rename_i hb0 hp0
          split at h
          · rename_i f hf
            cases h
            have hlen : len = 0 := by simpa using hb0
            have hparts : parts = #[] := by
              cases hpl : parts.toList with
              | nil => exact Array.ext' hpl
              | cons x r => rw [hpl] at hp0; cases hp0
            subst hlen hparts
            have hrep : LRep (World.made w #[] elem) f [] (.slice (some ⟨w.heap.size, 0, none⟩) 0 0) (fun b => b = w.heap.size ∧ ω b = none ∧ B ≤ b) true := ⟨(fun x hx => by cases hx), by simp [room], .inl ⟨_, 0, rfl, rfl, fun _ => rfl⟩⟩
            obtain ⟨α', ω', q1, q2, q3, _⟩ := list_new H (hn _ (Nat.le_refl _) (Nat.lt_succ_self _)) (made_below H.bel H.base _ _) (by rw [made_size]; omega) (fun b i hb => made_old w _ _ (H.own b i hb).2.1) (fun b => b = w.heap.size) hrep
            refine ⟨_, α', ω', ?_, q1, q2, .inr ⟨Nat.le_refl _, Nat.lt_succ_self _⟩, fun e => by cases e⟩
            have ev : (SV.w (.c (.sl S.nx))).den α' = .slice (some ⟨w.heap.size, 0, none⟩) 0 0 := q3
            rw [ev]
            simp only [execOp, ho, Instr.buildSlice, Sem.run_bind, und_run hu, Result.andThen_ok, size_run e1]
            simp [Instr.fill, newRow]
            have hr : ∀ g : Nat → Value, Array.map g (Array.range 0) = #[] := fun g => by apply Array.ext'; simp
            rw [hr]
            rfl
          · cases h
        · split at h
          · rename_i hb
            split at h
            · rename_i cs e3
              cases h
              rw [Bool.and_eq_true, Bool.and_eq_true] at hb
              obtain ⟨⟨hb1, hb2⟩, hb3⟩ := hb
              have hb1 := Nat.eq_of_beq_eq_true hb1
              have hb2 : len * sz ≤ 16777216 := by simpa using hb2
              have hb3 : 1 ≤ len * sz := by simpa using hb3
              obtain ⟨q1, q2, q3⟩ := fill_ok (D := D) (R := S.res) H.one (fun i => some (i * sz, sz)) _ _ _ e3 (reps_good (cells_good (zero_good e2 _ _)) len) (evp_good T _)
              obtain ⟨α', ω', k1, k2, k3⟩ := box_new H (hn _ (Nat.le_refl _) (Nat.lt_succ_self _)) q2 elem
              refine ⟨_, α', ω', ?_, k1, k2, .inr ⟨Nat.le_refl _, Nat.lt_succ_self _⟩, fun e => by cases e⟩
              have ev : (SV.w (.c (.csl S.nx 0 len len))).den α' = .slice (some ⟨w.heap.size, 0, none⟩) len len := by simp only [SV.den, SW.den, SC.den, k3]
              rw [ev]
              have e := evp_den (E := E) T parts.toList q3
              have e4 : (parts.map fun p => (p.1, a.eval p.2)) = ((S.evp parts.toList).map fun p => (p.1, p.2.den α)).toArray := by
                rw [← e]; apply Array.ext'; simp only [Array.toList_map]
              have e5 : (reps z.cells len).map (SC.den α) = (List.range (len * sz)).map fun i => (z.cells.map (SC.den α)).toArray[i % sz]! := by
                rw [reps_den, hb1]
              simp only [execOp, ho, Instr.buildSlice, Sem.run_bind, und_run hu, Result.andThen_ok, size_run e1]
              rw [show (parts.map fun x => (x.1, a.eval x.2)) = _ from e4]
              rw [if_neg (by omega)]
              simp only [Sem.run_pure]
              rw [if_neg (by omega)]
              simp only [Sem.run_bind, zero_run e2 α, Result.andThen_ok, Sem.run_pure, cells_den H.one]
              have e6 : ((Array.range (len * sz)).map fun x => (z.cells.map (SC.den α)).toArray[x % (z.cells.map (SC.den α)).toArray.size]!) = ((reps z.cells len).map (SC.den α)).toArray := by
                rw [e5]
                apply Array.ext'
                simp [hb1]
              rw [e6, q1]
              simp only [Sem.run_bind, newRow, run_newObj, Sem.run_pure, Result.andThen_ok]
              rfl
            · cases h
          · cases h
      · cases h
    · cases h
  | makeSlice t len cap =>
    rw [ho] at h
    have h' : makeV E S.nx t (sameOp len cap) (S.ev len) (S.ev cap) = .new side rs v := h
    have hsame : sameOp len cap = true → S.ev len = S.ev cap := fun e => by
      cases len <;> cases cap <;> first | cases e | skip
      rw [Nat.eq_of_beq_eq_true e]
    obtain ⟨q0, q1, q2, w', α', ω', q3, q4⟩ := makeV_ok hE H (n := S.nx) (fun e => by
      cases rs with
      | nil =>
        simp only [makeV] at h'
        (repeat' split at h') <;> cases h'
      | cons r rs => exact hn S.nx (Nat.le_refl _) (by simp) e) h' hs hsame (ev_good T len) (ev_good T cap)
    refine ⟨w', α', ω', ?_, q4⟩
    simp only [execOp, ho, ev_den T q1, ev_den T q2, Sem.run_bind, q3, Result.andThen_ok, Sem.run_pure]
  | load t x =>
    rw [ho] at h
    simp only [opv, loadV, ofOpt, okV] at h
    (repeat' split at h) <;> cases h
  | nilCheck x =>
    rw [ho] at h
    simp only [opv, okV] at h
    (repeat' split at h) <;> cases h
  | binOp op t x y yt =>
    rw [ho] at h
    simp only [opv, binS, binV, shV, andV, cmpI, okV, okB] at h
    (repeat' split at h) <;> cases h
  | unOp op t x =>
    rw [ho] at h
    simp only [opv, unV, okV, okB] at h
    (repeat' split at h) <;> cases h
  | convert src dst x =>
    rw [ho] at h
    simp only [opv, okV] at h
    (repeat' split at h) <;> cases h
  | makeFunc fn first cap =>
    rw [ho] at h
    cases fn <;> simp only [opv, okV] at h <;> (repeat' split at h) <;> cases h
  | fieldAddr t x f =>
    rw [ho] at h
    simp only [opv, fieldAddrV, okV] at h
    (repeat' split at h) <;> cases h
  | field t x f =>
    rw [ho] at h
    simp only [opv, fieldV, ofOpt] at h
    (repeat' split at h) <;> cases h
  | indexAddr t x ix =>
    rw [ho] at h
    simp only [opv, arrIdxV, indexAddrV, okV] at h
    (repeat' split at h) <;> cases h
  | index t x ix =>
    rw [ho] at h
    simp only [opv, indexV, ofOpt] at h
    (repeat' split at h) <;> cases h
  | extract x ix =>
    rw [ho] at h
    simp only [opv] at h
    (repeat' split at h) <;> cases h
  | slice t x low high max =>
    rw [ho] at h
    cases max with
    | none => simp only [opv, sliceV] at h; (repeat' split at h) <;> cases h
    | some m =>
      cases low with
      | some l => cases h
      | none =>
        cases high with
        | none => cases h
        | some hh =>
          have h' : noneV E S t (S.ev x) (S.ev hh) (S.ev m) = .new side rs v := h
          unfold noneV at h'
          split at h'
          · rename_i e hu
            split at h'
            · rename_i f hf hc
              cases h'
              rw [Bool.and_eq_true, Bool.and_eq_true] at hc
              obtain ⟨x1, aa, n, c, ex⟩ := isSl_ok H hc.1.1
              obtain ⟨h1, kh, eh⟩ := litZ_ok (α := α) hc.1.2 (ev_good T hh)
              obtain ⟨m1, km, em⟩ := litZ_ok (α := α) hc.2 (ev_good T m)
              obtain ⟨i, z, hi, _⟩ := (hE (e, f) (look_mem hf)).ok
              have hsz : E.size e = some i.size := by simp only [Env.size]; rw [show E.P.info? e = some i from hi]; rfl
              have hrep : LRep w f [] (.slice aa 0 0) (fun b => False ∧ ω b = none ∧ B ≤ b) true := ⟨(fun x hx => by cases hx), by simp [room], .inl ⟨aa, 0, rfl, rfl, fun _ => rfl⟩⟩
              obtain ⟨α', ω', q1, q2, q3, _⟩ := list_new H (hn _ (Nat.le_refl _) (Nat.lt_succ_self _)) H.bel (Nat.le_refl _) (fun _ _ _ => rfl) (fun _ => False) hrep
              refine ⟨w, α', ω', ?_, q1, q2, .inr ⟨Nat.le_refl _, Nat.lt_succ_self _⟩, fun e => by cases e⟩
              have ev : (SV.w (.c (.sl S.nx))).den α' = .slice aa 0 0 := q3
              rw [ev]
              simp only [execOp, ho, ev_den T x1, ex, Option.map_some, Option.map_none, ev_den T h1, eh, ev_den T m1, em]
              have q7 : ∀ X l h' m, (Instr.sliceAt t X l h' m).run E.P w = (Instr.slice t X l h' m).run E.P w := fun X l h' m => by
                simp only [Instr.sliceAt, Sem.run_bind, und_run hu, Result.andThen_ok]
              simp [q7, Instr.slice, Instr.sliceBounds, Instr.sliceBound, asIntOf, und_run hu, size_run hsz]
            · cases h'
          · cases h'
  | call c =>
    rw [ho] at h
    obtain ⟨callee, args, argTypes⟩ := c
    cases callee with
    | builtin b =>
      cases b with
      | len =>
        simp only [opv, lenV, okV] at h
        (repeat' split at h) <;> cases h
      | max =>
        simp only [opv, maxV, okV] at h
        (repeat' split at h) <;> cases h
      | min =>
        simp only [opv, minV, okV] at h
        (repeat' split at h) <;> cases h
      | _ => cases h
    | _ => cases h
  | _ => rw [ho] at h; cases h
end

end Go.Fx
end
section
namespace Go.Fx
open Go RowKit

theorem setCells_heap (b : Nat) : ∀ (vs : List Value) (o : Nat) (w : World) (cs : List Value) (ty : TypeId) (fz : Nat × Nat), w.heap[b]? = some (.cells cs.toArray ty fz) → o + vs.length ≤ cs.length →
    (w.setCells b o vs).heap[b]? = some (.cells (cs.take o ++ vs ++ cs.drop (o + vs.length)).toArray ty fz) ∧ (w.setCells b o vs).heap.size = w.heap.size ∧ (∀ k, k ≠ b → (w.setCells b o vs).heap[k]? = w.heap[k]?) ∧
      (w.setCells b o vs).os = w.os ∧ (w.setCells b o vs).tape = w.tape ∧ OutD w (w.setCells b o vs)
  | [], o, w, cs, ty, fz, h, _ => by
    refine ⟨?_, rfl, fun _ _ => rfl, rfl, rfl, OutD.refl _⟩
    show w.heap[b]? = _
    simpa using h
  | v :: r, o, w, cs, ty, fz, h, hl => by
    simp only [List.length_cons] at hl
    have h1 : (w.setCell ⟨b, o, none⟩ v).heap[b]? = some (.cells (cs.set o v).toArray ty fz) := by
      simp [World.setCell, Array.getElem?_modify, h]
    obtain ⟨q1, q2, q3, q4, q5, q6⟩ := setCells_heap b r (o + 1) (w.setCell ⟨b, o, none⟩ v) (cs.set o v) ty fz h1 (by simp; omega)
    refine ⟨?_, by rw [World.setCells, q2]; simp, fun k hk => by rw [World.setCells, q3 k hk]; exact Below.heap_setCell _ _ _ _ hk, q4, q5, ⟨q6.out, q6.drawn⟩⟩
    rw [World.setCells, q1]
    congr 3
    have e1 : (cs.set o v).take (o + 1) = cs.take o ++ [v] := by
      rw [List.set_eq_take_append_cons_drop, if_pos (by omega)]
      rw [List.take_append, List.take_of_length_le (by simp; omega)]
      simp only [List.length_take]
      rw [Nat.min_eq_left (by omega), show o + 1 - o = 1 by omega]
      rfl
    have e2 : (cs.set o v).drop (o + 1 + r.length) = cs.drop (o + (r.length + 1)) := by
      rw [List.drop_set_of_lt (by omega)]
      congr 1; omega
    rw [e1, e2, List.length_cons]
    simp
theorem storable_one {S : St} {D : Nat → Prop} {α : Al} {ω : Nat → Option Nat} {B : Nat} {w0 w : World} (H : HRel D S.res α ω B w0 w) : ∀ {cs : List SC}, storable S cs = true → ∀ v ∈ cs.map (SC.den α), v.oneCell' = true
  | [], _, v, hv => by cases hv
  | c :: r, h, v, hv => by
    rw [List.map_cons] at hv
    have key : c ≠ .undef ∧ storable S r = true := by
      cases c <;> simp only [storable] at h <;> first | exact ⟨(fun e => by cases e), h⟩ | cases h | skip
      split at h
      · exact ⟨(fun e => by cases e), h⟩
      · exact ⟨(fun e => by cases e), h⟩
      · cases h
    rcases List.mem_cons.1 hv with rfl | hv
    · exact den_one H.one key.1
    · exact storable_one H key.2 v hv
theorem storeB_ok {E : Env} {S : St} {D : Nat → Prop} {α : Al} {ω : Nat → Option Nat} {B : Nat} {w0 w : World} {a : Act} (H : HRel D S.res α ω B w0 w) (T : TRel D S.res α S.nt S.get a.tmps) {o : Oper} {t : TypeId} {x y : Operand} (ho : o.op = .store t x y)
    {b : Nat} {bx' : Box} (h : storeB E t S (S.ev x) (S.ev y) = some (b, bx')) :
    ∃ bx w', S.res b = some (.box bx) ∧ (execOp a.eval o).run E.P w = .ok .skip w' ∧ HRel D (fun j => if b = j then some (.box bx') else S.res j) α ω B w0 w' := by
  unfold storeB at h
  split at h
  · rename_i b off v ex ey
    split at h
    · rename_i bx n hb e1
      split at h
      · rename_i hc
        cases h
        rw [Bool.and_eq_true, Bool.and_eq_true] at hc
        obtain ⟨⟨c1, c2⟩, c3⟩ := hc
        have c1 := Nat.eq_of_beq_eq_true c1
        have c2 : off + n ≤ bx.cells.length := by simpa using c2
        obtain ⟨p1, p2⟩ := ev_c T ex
        obtain ⟨p3, p4⟩ := ev_w T ey
        obtain ⟨h1, h2⟩ : RRel α ω B w b (.box bx) := H.rel b _ hb
        have hone := storable_one H c3
        have hlen : (v.cells.map (SC.den α)).length = n := by simp [c1]
        obtain ⟨q1, q2, q3, q4, q5, q6⟩ := setCells_heap (α.blk b) (v.cells.map (SC.den α)) off w _ _ _ h2 (by rw [hlen]; simpa using c2)
        have hst := run_storeCells_cells (P := E.P) (α.blk b) off (v.cells.map (SC.den α)) 0 w (fun j hj => by
            rw [cell_of h2]; simp; omega) (fun j hj => by simp [World.frozen?, h2]) hone
        refine ⟨bx, w.setCells (α.blk b) off (v.cells.map (SC.den α)), hb, ?_, ?_⟩
        · simp only [execOp, ho, p1, p3, SC.den, Instr.storeAt, Instr.sureAddr, Sem.run_bind, Sem.run_pure, Result.andThen_ok, storeVar, size_run e1, cells_den H.one]
          rw [if_neg (by simp [c1])]
          simp only [Nat.add_zero] at hst
          simp only [Result.andThen_ok, hst]
        · have hg : ∀ c ∈ bx.cells.take off ++ v.cells ++ bx.cells.drop (off + n), c.good D S.res := fun c hc => by
            have hbg := H.good b bx hb
            rcases List.mem_append.1 hc with hc | hc
            · rcases List.mem_append.1 hc with hc | hc
              · exact hbg c (List.mem_of_mem_take hc)
              · exact cells_good p4 c hc
            · exact hbg c (List.mem_of_mem_drop hc)
          exact H.stored hb hg q2 (by
            rw [q1, hlen]; simp) q3 q4 q5 q6
      · cases h
    · cases h
  · cases h
theorem keep_box {D : Nat → Prop} {R : Nat → Option Res} (b : Nat) (bx : Box) : Keep D R (fun j => if b = j then some (.box bx) else R j) := Keep.updN (fun L e => by cases e) (fun L e => by cases e)
theorem store_ok {E : Env} {S S' : St} {α : Al} {ω : Nat → Option Nat} {B : Nat} {w0 w : World} {a : Act} (r : Rel S α ω B w0 a w) {o : Oper} {t : TypeId} {x y : Operand} (ho : o.op = .store t x y) (h : storeV E t S (S.ev x) (S.ev y) = some S') :
    ∃ w', (execOp a.eval o).run E.P w = .ok .skip w' ∧ Evo S S' α α ∧ Rel S' α ω B w0 a w' := by
  unfold storeV at h
  split at h
  · rename_i b bx' hB
    cases h
    obtain ⟨bx, w', _, h2, h3⟩ := storeB_ok r.h r.t ho hB
    refine ⟨w', h2, ?_, ?_⟩
    · refine ⟨Nat.le_refl _, Agree.refl _ _, ?_, rfl, Ext.set _ _ _⟩
      rw [res_set]; exact keep_box b bx'
    · refine ⟨?_, ?_, r.d⟩
      · rw [res_set]; exact h3
      · rw [res_set]
        exact r.t.mono (fun _ h => h) (keep_box b bx') (Agree.refl _ _)
  · cases h

/-! ### Contracts -/
def intIn (k : IntKind) (z : Int) (v : Value) : Prop := v = .int k z ∧ kmin k ≤ z ∧ z ≤ kmax k
def Sh.arg (w : World) : (s : Sh) → s.ty → Value → Prop
  | .int k, z, v => intIn k z v
  | .bool, b, v => v = .bool b
  | .agg f, x, v => v = .agg (f.vals x).toArray ∧ f.okv x
  | .list f, l, v => LRep w f l v (fun _ => True) false
  | .lists f, l, v => ∃ rv, LLRep w f l v rv (fun _ => True) false
  | .map _, _, _ => False
  | .lit k z, _, v => intIn k z v
def ArgsR (w : World) : (l : List Sh) → HL l → List Value → Prop
  | [], _, [] => True
  | s :: r, x, v :: vs => s.arg w x.1 v ∧ ArgsR w r x.2 vs
  | _, _, _ => False
def Sh.res (w : World) (mine : Nat → Prop) : (s : Sh) → s.ty → Value → Prop
  | .int k, z, v => intIn k z v
  | .bool, b, v => v = .bool b
  | .agg f, x, v => v = .agg (f.vals x).toArray ∧ f.okv x
  | .list f, l, v => LRep w f l v mine true
  | .lists f, l, v => ∃ rv, LLRep w f l v rv mine true
  | .map _, _, _ => False
  | .lit k z, _, v => intIn k z v
def ResR (w : World) (own : Nat → Option Nat) (n0 : Nat) : (l : List Sh) → HL l → List Value → Nat → Prop
  | [], _, [], _ => True
  | s :: r, x, v :: vs, i => s.res w (fun b => own b = some i ∧ n0 ≤ b) x.1 v ∧ ResR w own n0 r x.2 vs (i + 1)
  | _, _, _, _ => False
def oneV : List Value → Value
  | [v] => v
  | vs => .tuple vs.toArray
/-- The call of function f does what the contract says, whatever memory. -/
def Sound (P : Program) (f : FuncId) (C : Contract) : Prop :=
  ∀ (x : HL C.args) (w : World) (vals : List Value), ArgsR w C.args x vals → C.pre x →
    Calls P f vals.toArray w fun e w' => ∃ vs own, e = .returned (oneV vs) ∧ Below w.heap.size w w' ∧ ResR w' own w.heap.size C.res (C.F x) vs 0

theorem fits_ok {D : Nat → Prop} {R : Nat → Option Res} {α : Al} : ∀ {ks : List CK} {cs : List SC}, fitsAll ks cs = true → (∀ c ∈ cs, c.good D R) →
    (cksc ks (cs.map SC.cell)).map SC.lit = cs.map (SC.den α) ∧ ∀ c ∈ cksc ks (cs.map SC.cell), c.ok0
  | [], [], _, _ => ⟨rfl, fun c hc => by cases hc⟩
  | k :: ks, c :: cs, h, hg => by
    simp only [fitsAll, Bool.and_eq_true] at h
    obtain ⟨q1, q2⟩ := fits_ok (α := α) h.2 (fun c hc => hg c (List.mem_cons_of_mem _ hc))
    have hc := hg c (List.mem_cons_self ..)
    have key : (k.sc c.cell).lit = c.den α ∧ (k.sc c.cell).ok0 := by
      have h1 := h.1
      cases k with
      | int k =>
        cases c <;> simp only [CK.fits] at h1 <;> try (cases h1; done)
        rename_i k' i
        simp only [Bool.and_eq_true, ile_iff] at h1
        obtain ⟨⟨h2, h3⟩, h4⟩ := h1
        obtain rfl := keq_eq h2
        have hi : i.ok := hc
        exact ⟨rfl, by show kmin k ≤ i.v; have := hi.1; omega, by show i.v ≤ kmax k; have := hi.2; omega⟩
      | bool =>
        cases c <;> simp only [CK.fits] at h1 <;> try (cases h1; done)
        exact ⟨rfl, trivial⟩
    simp only [List.map_cons, cksc, key.1, q1]
    refine ⟨trivial, fun x hx => ?_⟩
    rcases List.mem_cons.1 hx with rfl | hx
    · exact key.2
    · exact q2 x hx
  | [], _ :: _, h, _ => by simp [fitsAll] at h
  | _ :: _, [], h, _ => by simp [fitsAll] at h
/-- Cells of the right kinds. -/
def kindsOk : List CK → List Cell → Prop
  | [], [] => True
  | .int _ :: ks, .i _ :: cs => kindsOk ks cs
  | .bool :: ks, .b _ :: cs => kindsOk ks cs
  | _, _ => False
theorem fits_kinds : ∀ {ks : List CK} {cs : List SC}, fitsAll ks cs = true → kindsOk ks (cs.map SC.cell)
  | [], [], _ => trivial
  | k :: ks, c :: cs, h => by
    simp only [fitsAll, Bool.and_eq_true] at h
    have := fits_kinds h.2
    have h1 := h.1
    cases k <;> cases c <;> simp only [CK.fits] at h1 <;> first | exact this | cases h1
  | [], _ :: _, h => by simp [fitsAll] at h
  | _ :: _, [], h => by simp [fitsAll] at h
theorem enc_dec : ∀ (f : Fl) (cs : List Cell), kindsOk f.ks cs → f.enc (f.dec cs) = cs := by
  intro f cs h
  have nilCase : ∀ {cs : List Cell}, kindsOk [] cs → cs = [] := fun {cs} h => by cases cs with
    | nil => rfl
    | cons _ _ => exact h.elim
  have iCase : ∀ {k : IntKind} {ks : List CK} {cs : List Cell}, kindsOk (.int k :: ks) cs → ∃ z r, cs = .i z :: r ∧ kindsOk ks r := fun {k ks cs} h => by
    match cs, h with
    | .i z :: r, h => exact ⟨z, r, rfl, h⟩
  have bCase : ∀ {ks : List CK} {cs : List Cell}, kindsOk (.bool :: ks) cs → ∃ z r, cs = .b z :: r ∧ kindsOk ks r := fun {ks cs} h => by
    match cs, h with
    | .b z :: r, h => exact ⟨z, r, rfl, h⟩
  cases f <;> simp only [Fl.ks, ckI, ckU, ckS] at h
  case int =>
    obtain ⟨_, _, rfl, h1⟩ := iCase h
    cases nilCase h1
    rfl
  case bool =>
    obtain ⟨_, _, rfl, h1⟩ := bCase h
    cases nilCase h1
    rfl
  case vec =>
    obtain ⟨_, _, rfl, h1⟩ := iCase h
    obtain ⟨_, _, rfl, h2⟩ := iCase h1
    obtain ⟨_, _, rfl, h3⟩ := iCase h2
    cases nilCase h3
    rfl
  case mat =>
    obtain ⟨_, _, rfl, h1⟩ := iCase h
    obtain ⟨_, _, rfl, h2⟩ := iCase h1
    obtain ⟨_, _, rfl, h3⟩ := iCase h2
    obtain ⟨_, _, rfl, h4⟩ := iCase h3
    obtain ⟨_, _, rfl, h5⟩ := iCase h4
    obtain ⟨_, _, rfl, h6⟩ := iCase h5
    obtain ⟨_, _, rfl, h7⟩ := iCase h6
    obtain ⟨_, _, rfl, h8⟩ := iCase h7
    obtain ⟨_, _, rfl, h9⟩ := iCase h8
    cases nilCase h9
    rfl
  case op =>
    obtain ⟨_, _, rfl, h1⟩ := iCase h
    obtain ⟨_, _, rfl, h2⟩ := iCase h1
    obtain ⟨_, _, rfl, h3⟩ := iCase h2
    obtain ⟨_, _, rfl, h4⟩ := iCase h3
    obtain ⟨_, _, rfl, h5⟩ := iCase h4
    obtain ⟨_, _, rfl, h6⟩ := iCase h5
    obtain ⟨_, _, rfl, h7⟩ := iCase h6
    obtain ⟨_, _, rfl, h8⟩ := iCase h7
    obtain ⟨_, _, rfl, h9⟩ := iCase h8
    obtain ⟨_, _, rfl, h10⟩ := iCase h9
    obtain ⟨_, _, rfl, h11⟩ := iCase h10
    obtain ⟨_, _, rfl, h12⟩ := iCase h11
    cases nilCase h12
    rfl
  case pt =>
    obtain ⟨_, _, rfl, h1⟩ := iCase h
    obtain ⟨_, _, rfl, h2⟩ := iCase h1
    obtain ⟨_, _, rfl, h3⟩ := iCase h2
    obtain ⟨_, _, rfl, h4⟩ := iCase h3
    cases nilCase h4
    rfl
  case met =>
    obtain ⟨_, _, rfl, h1⟩ := iCase h
    obtain ⟨_, _, rfl, h2⟩ := iCase h1
    obtain ⟨_, _, rfl, h3⟩ := iCase h2
    obtain ⟨_, _, rfl, h4⟩ := iCase h3
    obtain ⟨_, _, rfl, h5⟩ := iCase h4
    obtain ⟨_, _, rfl, h6⟩ := iCase h5
    cases nilCase h6
    rfl
  case chg =>
    obtain ⟨_, _, rfl, h1⟩ := iCase h
    obtain ⟨_, _, rfl, h2⟩ := iCase h1
    obtain ⟨_, _, rfl, h3⟩ := iCase h2
    obtain ⟨_, _, rfl, h4⟩ := iCase h3
    obtain ⟨_, _, rfl, h5⟩ := iCase h4
    obtain ⟨_, _, rfl, h6⟩ := iCase h5
    obtain ⟨_, _, rfl, h7⟩ := iCase h6
    obtain ⟨_, _, rfl, h8⟩ := iCase h7
    obtain ⟨_, _, rfl, h9⟩ := iCase h8
    obtain ⟨_, _, rfl, h10⟩ := iCase h9
    obtain ⟨_, _, rfl, h11⟩ := iCase h10
    obtain ⟨_, _, rfl, h12⟩ := iCase h11
    cases nilCase h12
    rfl
  case seed =>
    obtain ⟨_, _, rfl, h1⟩ := bCase h
    obtain ⟨_, _, rfl, h2⟩ := iCase h1
    obtain ⟨_, _, rfl, h3⟩ := iCase h2
    obtain ⟨_, _, rfl, h4⟩ := iCase h3
    obtain ⟨_, _, rfl, h5⟩ := iCase h4
    obtain ⟨_, _, rfl, h6⟩ := iCase h5
    cases nilCase h6
    rfl
  case u8 =>
    obtain ⟨_, _, rfl, h1⟩ := iCase h
    cases nilCase h1
    rfl
  case v16 =>
    obtain ⟨_, _, rfl, h1⟩ := iCase h
    obtain ⟨_, _, rfl, h2⟩ := iCase h1
    obtain ⟨_, _, rfl, h3⟩ := iCase h2
    cases nilCase h3
    rfl
  case v8 =>
    obtain ⟨_, _, rfl, h1⟩ := iCase h
    obtain ⟨_, _, rfl, h2⟩ := iCase h1
    obtain ⟨_, _, rfl, h3⟩ := iCase h2
    cases nilCase h3
    rfl
theorem ofSC_ok {D : Nat → Prop} {R : Nat → Option Res} {α : Al} {f : Fl} {cs : List SC} {x : f.ty} (h : f.ofSC cs = some x) (hg : ∀ c ∈ cs, c.good D R) : f.vals x = cs.map (SC.den α) ∧ f.okv x := by
  unfold Fl.ofSC at h
  split at h
  · rename_i hf
    cases h
    obtain ⟨q1, q2⟩ := fits_ok (α := α) hf hg
    have e := enc_dec f _ (fits_kinds hf)
    refine ⟨?_, ?_⟩
    · show (cksc f.ks (f.enc (f.dec _))).map SC.lit = _
      rw [e]; exact q1
    · show ∀ c ∈ cksc f.ks (f.enc (f.dec _)), _
      rw [e]; exact q2
  · cases h

end Go.Fx
end
section
namespace Go.Fx
open Go RowKit

theorem agcOf_get : ∀ (m : Nat) (cs : List SC) (off n : Nat) (l : List (List SC)), agcOf cs off n m = some l → l.length = m ∧ ∀ i x, l[i]? = some x → x = (cs.drop (off + i * n)).take n
  | 0, cs, off, n, l, h => by cases h; exact ⟨rfl, fun i x hx => by cases hx⟩
  | m + 1, cs, off, n, l, h => by
    unfold agcOf at h
    split at h
    · rename_i l' hl
      cases h
      obtain ⟨q1, q2⟩ := agcOf_get m cs (off + n) n l' hl
      refine ⟨by simp [q1], fun i x hx => ?_⟩
      cases i with
      | zero => simp at hx; simp [hx]
      | succ i =>
        have := q2 i x (by simpa using hx)
        rw [this, Nat.succ_mul, show off + n + i * n = off + (i * n + n) by omega]
    · cases h
theorem ofSCs_get {f : Fl} : ∀ (xs : List (List SC)) (l : List f.ty), ofSCs f xs = some l → l.length = xs.length ∧ ∀ (i : Nat) (y : f.ty), l[i]? = some y → ∃ x : List SC, xs[i]? = some x ∧ f.ofSC x = some y
  | [], l, h => by cases h; exact ⟨rfl, fun i y hy => by cases hy⟩
  | x :: r, l, h => by
    unfold ofSCs at h
    split at h
    · rename_i y l' h1 h2
      cases h
      obtain ⟨q1, q2⟩ := ofSCs_get r l' h2
      refine ⟨by simp [q1], fun i z hz => ?_⟩
      cases i with
      | zero => simp at hz; subst hz; exact ⟨x, rfl, h1⟩
      | succ i => exact q2 i z (by simpa using hz)
    · cases h
section
variable {E : Env} {S : St} {D : Nat → Prop} {α : Al} {ω : Nat → Option Nat} {B : Nat} {w0 w : World}
def subHdr (n : Nat) (lo len : Int) : Value → Value
  | .slice a _ cap => .slice (if cap = lo.toNat then a else a.map (·.add (lo.toNat * n))) len.toNat (cap - lo.toNat)
  | _ => .slice none 0 0
/-- A part of a list. -/
theorem sub_rep {f : Fl} {l : List f.ty} {v : Value} (h : LRep w f l v (fun _ => True) false) {lo len : Int} (h1 : 0 ≤ lo) (h2 : 0 ≤ len) (h3 : lo + len ≤ (l.length : Int)) :
    LRep w f (lsub l lo len) (subHdr f.ks.length lo len v) (fun _ => True) false := by
  obtain ⟨k1, k2, k3⟩ := h
  have hlen : (lsub l lo len).length = len.toNat := by unfold lsub; rw [List.length_take, List.length_drop]; omega
  have hle : len.toNat ≤ l.length := by omega
  refine ⟨fun x hx => k1 x (List.mem_of_mem_drop (List.mem_of_mem_take hx)), by rw [hlen]; exact Nat.le_trans (Nat.mul_le_mul_right _ hle) k2, ?_⟩
  have emp : len.toNat = 0 → lsub l lo len = [] := fun h => List.eq_nil_of_length_eq_zero (by rw [hlen, h])
  rcases k3 with ⟨a, cap, rfl, e2, _⟩ | ⟨blk, off, cap, cs, ty, fz, rfl, e2, e3, _, e5, _⟩
  · rw [e2] at h3
    have : len.toNat = 0 := by simp at h3; omega
    exact .inl ⟨_, _, by rw [subHdr, this], emp this, fun h => by cases h⟩
  · rw [subHdr]
    by_cases hc : cap = lo.toNat
    · have : len.toNat = 0 := by omega
      exact .inl ⟨_, _, by rw [this], emp this, fun h => by cases h⟩
    · rw [if_neg hc, Option.map_some, Addr.add_mid]
      refine .inr ⟨blk, off + lo.toNat * f.ks.length, cap - lo.toNat, cs, ty, fz, by rw [hlen], by rw [hlen]; omega, e3, trivial, fun i x hx => ?_, fun h => by cases h⟩
      unfold lsub at hx
      rw [List.getElem?_take] at hx
      split at hx
      · rw [List.getElem?_drop] at hx
        have := e5 _ _ hx
        rwa [Nat.add_mul, ← Nat.add_assoc] at this
      · cases hx
theorem listOf_ok (H : HRel D S.res α ω B w0 w) {f : Fl} {v : SV} {l : List f.ty} (h : S.listOf f v = some l) (hg : v.good D S.res) : LRep w f l (v.den α) (fun _ => True) false := by
  unfold St.listOf at h
  split at h
  · cases h
    exact ⟨(fun x hx => by cases hx), by simp, .inl ⟨none, 0, rfl, rfl, fun h => by cases h⟩⟩
  · rename_i b off len cap
    split at h
    · rename_i bx hb
      split at h
      · rename_i hc
        split at h
        · rename_i chunks hch
          rw [Bool.and_eq_true, Bool.and_eq_true] at hc
          obtain ⟨⟨c1, c2⟩, c3⟩ := hc
          have c1 : off + len * f.ks.length ≤ bx.cells.length := by simpa using c1
          have c2 : len ≤ cap := by simpa using c2
          have c3 : len * f.bytes ≤ 140737488351232 := by simpa using c3
          obtain ⟨q1, q2⟩ := agcOf_get _ _ _ _ _ hch
          obtain ⟨q3, q4⟩ := ofSCs_get _ _ h
          have hlen : l.length = len := q3.trans q1
          obtain ⟨_, h2⟩ : RRel α ω B w b (.box bx) := H.rel b _ hb
          have key : ∀ i x, l[i]? = some x → f.vals x = (((bx.cells.drop (off + i * f.ks.length)).take f.ks.length).map (SC.den α)) ∧ f.okv x := fun i x hx => by
            obtain ⟨y, hy, hy'⟩ := q4 i x hx
            have := q2 i y hy
            subst this
            exact ofSC_ok hy' (fun c hc => H.good b bx hb c (List.mem_of_mem_drop (List.mem_of_mem_take hc)))
          refine ⟨fun x hx => ?_, by rw [hlen]; unfold room; omega, .inr ⟨α.blk b, off, cap, _, _, _, by rw [hlen]; rfl, by omega, h2, trivial, fun i x hx => ?_, fun h => by cases h⟩⟩
          · obtain ⟨i, hi⟩ := List.getElem?_of_mem hx
            exact (key i x hi).2
          · rw [(key i x hx).1]
            intro k v hk
            rw [List.getElem?_map, List.getElem?_take] at hk
            split at hk
            · rw [List.getElem?_drop] at hk
              simpa [Nat.add_assoc] using hk
            · cases hk
        · cases h
      · cases h
    · cases h
  · rename_i j
    split at h
    · rename_i L hj
      split at h
      · rename_i hf
        have e := feq_eq hf
        have h1 : LRep w L.f L.l (α.sv j) _ L.own := H.rel j _ hj
        cases h
        obtain ⟨f', l', own⟩ := L
        simp only at e h1 ⊢
        subst e
        exact h1.weak
      · cases h
    · cases h
  · rename_i j n lo len
    split at h
    · rename_i L hj
      split at h
      · rename_i hf
        have e := feq_eq hf
        have h1 : LRep w L.f L.l (α.sv j) _ L.own := H.rel j _ hj
        obtain ⟨_, _, _, hL⟩ := hg
        obtain ⟨g1, g2, g3, g4⟩ := hL L hj
        cases h
        obtain ⟨f', l', own⟩ := L
        simp only at e h1 g1 g4 ⊢
        subst e
        have hsub := sub_rep h1.weak g2 g3 g4
        rw [← g1] at hsub
        exact hsub
      · cases h
    · cases h
  · rename_i v' j i
    split at h
    · rename_i L hj
      split at h
      · rename_i hv hf
        have e := feq_eq hf
        have hv := Nat.eq_of_beq_eq_true hv
        obtain ⟨_, _, hL⟩ := hg
        obtain ⟨g2, g3⟩ := hL L hj hv
        have h1 := row_rep H hj g2 g3
        have h2 := row_den H hj g2 g3
        cases h
        show LRep w f _ ((SC.row v' j i).den α) _ _
        rw [← hv, h2]
        obtain ⟨f', l', ver, own⟩ := L
        simp only at e h1 ⊢
        subst e
        exact h1.weak
      · cases h
    · cases h
  · cases h
theorem cellRows_get {f : Fl} : ∀ (cs : List SC) (ll : List (List f.ty)), cellRows S f cs = some ll → ll.length = cs.length ∧ ∀ (i : Nat) (l : List f.ty), ll[i]? = some l → ∃ c : SC, cs[i]? = some c ∧ S.listOf f (.w (.c c)) = some l
  | [], ll, h => by cases h; exact ⟨rfl, fun i y hy => by cases hy⟩
  | x :: r, ll, h => by
    unfold cellRows at h
    split at h
    · rename_i y l' h1 h2
      cases h
      obtain ⟨q1, q2⟩ := cellRows_get r l' h2
      refine ⟨by simp [q1], fun i z hz => ?_⟩
      cases i with
      | zero => simp at hz; subst hz; exact ⟨x, rfl, h1⟩
      | succ i => exact q2 i z (by simpa using hz)
    · cases h
theorem listsOf_ok (H : HRel D S.res α ω B w0 w) {f : Fl} {v : SV} {ll : List (List f.ty)} (h : S.listsOf f v = some ll) (hg : v.good D S.res) : ∃ rv, LLRep w f ll (v.den α) rv (fun _ => True) false := by
  unfold St.listsOf at h
  split at h
  · cases h
    exact ⟨fun _ => undef, (fun i l hl => by cases hl), by simp, .inl ⟨none, 0, rfl, rfl, fun h => by cases h⟩⟩
  · rename_i b off len cap
    split at h
    · rename_i bx hb
      split at h
      · rename_i hc
        rw [Bool.and_eq_true, Bool.and_eq_true] at hc
        obtain ⟨⟨c1, c2⟩, c3⟩ := hc
        have c1 : off + len ≤ bx.cells.length := by simpa using c1
        have c2 : len ≤ cap := by simpa using c2
        have c3 : len * 24 ≤ 140737488351232 := by simpa using c3
        obtain ⟨q1, q2⟩ := cellRows_get _ _ h
        have hlen : ll.length = len := by rw [q1]; simp; omega
        obtain ⟨_, h2⟩ : RRel α ω B w b (.box bx) := H.rel b _ hb
        have cell : ∀ i c, ((bx.cells.drop off).take len)[i]? = some c → bx.cells[off + i]? = some c := fun i c hc => by
          rw [List.getElem?_take] at hc
          split at hc
          · rwa [List.getElem?_drop] at hc
          · cases hc
        refine ⟨fun i => ((bx.cells[off + i]?).map (SC.den α)).getD undef, fun i l hl => ?_, by rw [hlen]; unfold room; omega, .inr ⟨α.blk b, off, cap, _, _, _, by rw [hlen]; rfl, by omega, h2, trivial, fun i hi => ?_, fun h => by cases h⟩⟩
        · obtain ⟨c, hc, hl'⟩ := q2 i l hl
          have hc' := cell i c hc
          show LRep w f l (((bx.cells[off + i]?).map (SC.den α)).getD undef) _ _
          rw [hc']
          exact listOf_ok H hl' (H.good b bx hb c (List.mem_of_getElem? hc'))
        · have hlt : off + i < bx.cells.length := by omega
          simp [hlt]
      · cases h
    · cases h
  · rename_i j
    split at h
    · rename_i L hj
      split at h
      · rename_i hf
        have e := feq_eq hf
        have h1 : LLRep w L.f L.ll (α.sv j) (α.rv L.ver) _ L.own := H.rel j _ hj
        cases h
        obtain ⟨f', l', ver, own⟩ := L
        simp only at e h1 ⊢
        subst e
        exact ⟨_, h1.weak⟩
      · cases h
    · cases h
  · cases h
theorem dec_int {k : IntKind} {v : SV} {x : Int} (h : decI k v = some x) {R : Nat → Option Res} (hg : v.good D R) : intIn k x (v.den α) := by
  unfold decI at h
  split at h
  · rename_i k' i
    split at h
    · rename_i hk
      cases h
      rw [Bool.and_eq_true, Bool.and_eq_true, ile_iff, ile_iff] at hk
      obtain ⟨⟨h1, h2⟩, h3⟩ := hk
      obtain rfl := keq_eq h1
      have hi : i.ok := hg
      exact ⟨rfl, by have := hi.1; omega, by have := hi.2; omega⟩
    · cases h
  · cases h
theorem dec_bool {v : SV} {x : Bool} (h : decB v = some x) : v.den α = .bool x := by
  unfold decB at h
  split at h
  · cases h; rfl
  · cases h
theorem dec_agg {f : Fl} {v : SV} {x : f.ty} (h : decA f v = some x) {R : Nat → Option Res} (hg : v.good D R) : v.den α = .agg (f.vals x).toArray ∧ f.okv x := by
  unfold decA at h
  split at h
  · obtain ⟨q1, q2⟩ := ofSC_ok (α := α) h hg
    exact ⟨by rw [q1]; rfl, q2⟩
  · cases h
theorem dec_lit {k : IntKind} {z : Int} {v : SV} {x : Unit} (h : decL k z v = some x) {R : Nat → Option Res} (hg : v.good D R) : intIn k z (v.den α) := by
  unfold decL at h
  split at h
  · rename_i k' i
    split at h
    · rename_i y hk hy
      split at h
      · rename_i hz
        rw [Bool.and_eq_true, Bool.and_eq_true, Bool.and_eq_true, ile_iff, ile_iff, ile_iff, ile_iff] at hz
        obtain rfl := keq_eq hk
        have hi : i.ok := hg
        have hv := (SI.lit?_eq hi hy).1
        have hz' : i.v = z := by omega
        exact ⟨by simp only [SV.den, SW.den, SC.den, hz'], hz.1.2, hz.2⟩
      · cases h
    · cases h
  · cases h
theorem dec_ok (H : HRel D S.res α ω B w0 w) {s : Sh} {v : SV} {x : s.ty} (h : s.dec S v = some x) (hg : v.good D S.res) (hm : ∀ f, s ≠ .map f) : s.arg w x (v.den α) := by
  cases s with
  | int k => exact dec_int h hg
  | bool => exact dec_bool h
  | agg f => exact dec_agg h hg
  | list f => exact listOf_ok H h hg
  | lists f => exact listsOf_ok H h hg
  | map f => exact (hm f rfl).elim
  | lit k z => exact dec_lit h hg
theorem noMaps_cons {s : Sh} {r : List Sh} (h : noMaps (s :: r) = true) : (∀ f, s ≠ .map f) ∧ noMaps r = true := by
  cases s <;> first | exact ⟨(fun f e => by cases e), h⟩ | cases h
theorem decArgs_ok (H : HRel D S.res α ω B w0 w) : ∀ {l : List Sh} {vs : List SV} {x : HL l}, noMaps l = true → decArgs S l vs = some x → (∀ v ∈ vs, v.good D S.res) → ArgsR w l x (vs.map (SV.den α))
  | [], [], _, _, _, _ => trivial
  | s :: r, v :: vs, x, hn, h, hg => by
    unfold decArgs at h
    split at h
    · rename_i y z h1 h2
      cases h
      exact ⟨dec_ok H h1 (hg _ (List.mem_cons_self ..)) (noMaps_cons hn).1, decArgs_ok H (noMaps_cons hn).2 h2 fun v hv => hg v (List.mem_cons_of_mem _ hv)⟩
    · cases h
  | [], _ :: _, _, _, h, _ => by simp [decArgs] at h
  | _ :: _, [], _, _, h, _ => by simp [decArgs] at h
end
/-- Results. -/
theorem put_ok {B n0 : Nat} {w0 w : World} {own : Nat → Option Nat} (hB : B ≤ n0) : ∀ {l : List Sh} {y : HL l} {vs : List Value} {i n : Nat} {D : Nat → Prop} {R : Nat → Option Res} {α : Al} {ω : Nat → Option Nat}, HRel D R α ω B w0 w → ResR w own n0 l y vs i →
    (∀ b k, n0 ≤ b → own b = some k → i ≤ k → ω b = none) → (∀ k, n ≤ k → k < n + (putAll l y n).2.length → ¬ D k) →
    ∃ α' ω', HRel (DN D n (putAll l y n).2.length) (addR R n (putAll l y n).2) α' ω' B w0 w ∧ Agree D α α' ∧ (putAll l y n).1.map (SW.den α') = vs ∧ ∀ v ∈ (putAll l y n).1, v.good (DN D n (putAll l y n).2.length) (addR R n (putAll l y n).2)
  | [], y, vs, i, n, D, R, α, ω, H, h, _, _ => by
    cases vs with
    | nil =>
      refine ⟨α, ω, ?_, Agree.refl _ _, rfl, fun v hv => by cases hv⟩
      show HRel (DN D n 0) (addR R n []) α ω B w0 w
      have : addR R n [] = R := by funext i; unfold addR; rw [if_neg (fun e => by have h1 := e.1; have h2 := e.2; simp only [List.length_nil, Nat.add_zero] at h2; omega)]
      rw [DN_zero, this]; exact H
    | cons _ _ => exact h.elim
  | s :: r, y, vs, i, n, D, R, α, ω, H, h, hω, hn => by
    cases vs with
    | nil => exact h.elim
    | cons v vs =>
      obtain ⟨h1, h2⟩ := h
      -- a result that brings nothing with it
      have plain : (s.put n y.1).2 = [] → (∀ α : Al, (s.put n y.1).1.den α = v) → (∀ D R, (s.put n y.1).1.good D R) → ∃ α' ω', HRel (DN D n (putAll (s :: r) y n).2.length) (addR R n (putAll (s :: r) y n).2) α' ω' B w0 w ∧ Agree D α α' ∧ (putAll (s :: r) y n).1.map (SW.den α') = v :: vs ∧ ∀ v ∈ (putAll (s :: r) y n).1, v.good (DN D n (putAll (s :: r) y n).2.length) (addR R n (putAll (s :: r) y n).2) := fun e1 e2 e3 => by
        have el : (putAll (s :: r) y n) = ((s.put n y.1).1 :: (putAll r y.2 n).1, (putAll r y.2 n).2) := by
          show ((s.put n y.1).1 :: (putAll r y.2 (n + (s.put n y.1).2.length)).1, (s.put n y.1).2 ++ (putAll r y.2 (n + (s.put n y.1).2.length)).2) = _
          rw [e1]; rfl
        rw [el] at hn ⊢
        obtain ⟨α', ω', q1, q2, q3, q4⟩ := put_ok hB (n := n) H h2 (fun b k a b' c => hω b k a b' (by omega)) hn
        refine ⟨α', ω', q1, q2, ?_, fun u hu => ?_⟩
        · rw [List.map_cons, e2, q3]
        · rcases List.mem_cons.1 hu with rfl | hu
          · exact e3 _ _
          · exact q4 u hu
      -- a result that brings one thing with it
      have one : ∀ (x : Res), (s.put n y.1) = (.c (.sl n), [x]) → (∃ α1 ω1, HRel (DN D n 1) (addR R n [x]) α1 ω1 B w0 w ∧ Agree D α α1 ∧ α1.sv n = v ∧ ∀ b k, ω1 b = some k → ω b = some k ∨ (own b = some i ∧ n0 ≤ b)) → ∃ α' ω', HRel (DN D n (putAll (s :: r) y n).2.length) (addR R n (putAll (s :: r) y n).2) α' ω' B w0 w ∧ Agree D α α' ∧ (putAll (s :: r) y n).1.map (SW.den α') = v :: vs ∧ ∀ v ∈ (putAll (s :: r) y n).1, v.good (DN D n (putAll (s :: r) y n).2.length) (addR R n (putAll (s :: r) y n).2) := fun x e1 hx => by
        have el : (putAll (s :: r) y n) = (.c (.sl n) :: (putAll r y.2 (n + 1)).1, x :: (putAll r y.2 (n + 1)).2) := by
          show ((s.put n y.1).1 :: (putAll r y.2 (n + (s.put n y.1).2.length)).1, (s.put n y.1).2 ++ (putAll r y.2 (n + (s.put n y.1).2.length)).2) = _
          rw [e1]; rfl
        rw [el] at hn ⊢
        obtain ⟨α1, ω1, a1, a2, a3, a4⟩ := hx
        have hn' : ∀ k, n + 1 ≤ k → k < n + 1 + (putAll r y.2 (n + 1)).2.length → ¬ DN D n 1 k := fun k k1 k2 h => by
          rcases h with h | h
          · exact hn k (by omega) (by simp only [List.length_cons]; omega) h
          · omega
        obtain ⟨α', ω', q1, q2, q3, q4⟩ := put_ok hB (n := n + 1) (i := i + 1) a1 h2 (fun b k p1 p2 p3 => by
          cases e : ω1 b with
          | none => rfl
          | some m =>
            rcases a4 b m e with h | ⟨h, _⟩
            · rw [hω b k p1 p2 (by omega)] at h; cases h
            · rw [h] at p2; cases p2; omega) hn'
        have eD : DN (DN D n 1) (n + 1) (putAll r y.2 (n + 1)).2.length = DN D n ((putAll r y.2 (n + 1)).2.length + 1) := by rw [DN_one, DN_cons]
        have eR : addR (addR R n [x]) (n + 1) (putAll r y.2 (n + 1)).2 = addR R n (x :: (putAll r y.2 (n + 1)).2) := by rw [addR_one, addR_cons]
        rw [eD, eR] at q1 q4
        refine ⟨α', ω', q1, a2.trans q2 (fun i h => .inl h), ?_, fun u hu => ?_⟩
        · rw [List.map_cons, q3]
          congr 1
          show α'.sv n = v
          rw [← (q2 n (.inr ⟨Nat.le_refl _, Nat.lt_succ_self _⟩)).2.1, a3]
        · rcases List.mem_cons.1 hu with rfl | hu
          · exact .inr ⟨Nat.le_refl _, by simp only [List.length_cons]; omega⟩
          · exact q4 u hu
      cases s with
      | int k => obtain ⟨e1, e2, e3⟩ := h1; exact plain rfl (fun _ => e1.symm) fun _ _ => ⟨e2, e3⟩
      | bool => exact plain rfl (fun _ => Eq.symm h1) fun _ _ x hx => by cases hx
      | agg f =>
        obtain ⟨e1, e2⟩ := h1
        refine plain rfl (fun α => ?_) fun _ _ => sw_good e2
        rw [e1]
        exact congrArg (fun l => Value.agg (List.toArray l)) (sw_den (α := α) f y.1)
      | lit k z => obtain ⟨e1, e2, e3⟩ := h1; exact plain rfl (fun _ => e1.symm) fun _ _ => ⟨Int.le_refl _, Int.le_refl _⟩
      | map f => exact h1.elim
      | list f =>
        refine one _ rfl ?_
        have hnn : ¬ D n := hn n (Nat.le_refl _) (by
          show n < n + (putAll (.list f :: r) y n).2.length
          simp only [putAll, Sh.put, List.length_append, List.length_cons, List.length_nil]; omega)
        obtain ⟨α1, ω1, a1, a2, a3, a4, _⟩ := list_new H hnn H.bel (Nat.le_refl _) (fun _ _ _ => rfl) (fun b => own b = some i ∧ n0 ≤ b) (h1.frame fun b _ hm => ⟨⟨hm, hω b i hm.2 hm.1 (Nat.le_refl _), Nat.le_trans hB hm.2⟩, rfl⟩)
        exact ⟨α1, ω1, a1, a2, a3, a4⟩
      | lists f =>
        refine one _ rfl ?_
        have hnn : ¬ D n := hn n (Nat.le_refl _) (by
          show n < n + (putAll (.lists f :: r) y n).2.length
          simp only [putAll, Sh.put, List.length_append, List.length_cons, List.length_nil]; omega)
        obtain ⟨rv, h1⟩ := h1
        obtain ⟨α1, ω1, a1, a2, a3, a4, _⟩ := lists_new H hnn H.bel (Nat.le_refl _) (fun _ _ _ => rfl) (fun b => own b = some i ∧ n0 ≤ b) (h1.frame fun b _ hm => ⟨⟨hm, hω b i hm.2 hm.1 (Nat.le_refl _), Nat.le_trans hB hm.2⟩, rfl⟩)
        exact ⟨α1, ω1, a1, a2, a3, a4⟩
theorem oneOrTup_den (α : Al) (vs : List SW) : (oneOrTup vs).den α = oneV (vs.map (SW.den α)) := by
  match vs with
  | [] => rfl
  | [v] => rfl
  | v :: u :: r => rfl
theorem oneOrTup_good {D : Nat → Prop} {R : Nat → Option Res} {vs : List SW} (h : ∀ v ∈ vs, v.good D R) : (oneOrTup vs).good D R ∧ oneOrTup vs ≠ .any := by
  match vs, h with
  | [], h => exact ⟨h, fun e => by cases e⟩
  | [v], h => exact ⟨h v (List.mem_cons_self ..), fun e => by cases e⟩
  | v :: u :: r, h => exact ⟨h, fun e => by cases e⟩

end Go.Fx
end
section
namespace Go.Fx
open Go RowKit

/-! ### Elements one behind the other -/
section
variable {β : Type} {g : β → List Value} {n : Nat}
theorem flat_len (hg : ∀ x, (g x).length = n) : ∀ l : List β, (l.flatMap g).length = l.length * n
  | [] => by simp
  | x :: r => by rw [List.flatMap_cons, List.length_append, hg, flat_len hg r, List.length_cons, Nat.succ_mul, Nat.add_comm]
theorem flat_get (hg : ∀ x, (g x).length = n) {k : Nat} (hk : k < n) : ∀ {l : List β} {i : Nat} {x : β}, l[i]? = some x → (l.flatMap g)[i * n + k]? = (g x)[k]?
  | y :: r, 0, x, h => by
    cases h
    rw [List.flatMap_cons, Nat.zero_mul, Nat.zero_add, List.getElem?_append_left (by rw [hg]; exact hk)]
  | y :: r, i + 1, x, h => by
    have := flat_get hg hk (l := r) (i := i) (x := x) (by simpa using h)
    rw [List.flatMap_cons, List.getElem?_append_right (by rw [hg, Nat.succ_mul]; omega), hg, Nat.succ_mul, show i * n + n + k - n = i * n + k by omega]
    exact this
  | [], _, _, h => by cases h
theorem flat_inv (hg : ∀ x, (g x).length = n) {u : Value} : ∀ {l : List β} {p : Nat}, (l.flatMap g)[p]? = some u → ∃ i x k, l[i]? = some x ∧ p = i * n + k ∧ k < n ∧ (g x)[k]? = some u
  | y :: r, p, h => by
    rw [List.flatMap_cons] at h
    by_cases hp : p < n
    · rw [List.getElem?_append_left (by rw [hg]; exact hp)] at h
      exact ⟨0, y, p, rfl, by omega, hp, h⟩
    · rw [List.getElem?_append_right (by rw [hg]; omega), hg] at h
      obtain ⟨i, x, k, h1, h2, h3, h4⟩ := flat_inv hg h
      exact ⟨i + 1, x, k, by simpa using h1, by rw [Nat.succ_mul]; omega, h3, h4⟩
  | [], p, h => by cases h
end
theorem vals_one (f : Fl) (x : f.ty) : ∀ u ∈ f.vals x, u.oneCell' = true := by
  cases f <;> (intro u hu; simp [Fl.vals, Fl.sw, Fl.enc, Fl.ks, cksc, CK.sc, SC.lit, ckI, ckU, ckS] at hu; first | (subst hu; rfl) | (rcases hu with rfl | rfl | rfl | rfl | rfl | rfl | rfl | rfl | rfl | rfl | rfl | rfl <;> rfl) | (rcases hu with rfl | rfl | rfl | rfl | rfl | rfl | rfl | rfl | rfl <;> rfl) | (rcases hu with rfl | rfl | rfl | rfl | rfl | rfl <;> rfl) | (rcases hu with rfl | rfl | rfl | rfl <;> rfl) | (rcases hu with rfl | rfl | rfl <;> rfl))
theorem ks_pos (f : Fl) : 0 < f.ks.length := by cases f <;> decide
theorem bytes_pos (f : Fl) : 0 < f.bytes := by cases f <;> decide
theorem flat_one {f : Fl} {l : List f.ty} : ∀ u ∈ l.flatMap f.vals, u.oneCell' = true := fun u hu => by
  obtain ⟨x, _, h⟩ := List.mem_flatMap.1 hu
  exact vals_one f x u h
/-- A list's cells. -/
theorem cells_flat {f : Fl} {l : List f.ty} {cs : Array Value} {off : Nat} (h : ∀ i x, l[i]? = some x → CellsAt cs (off + i * f.ks.length) (f.vals x)) : ∀ p u, (l.flatMap f.vals)[p]? = some u → cs[off + p]? = some u := fun p u hp => by
  obtain ⟨i, x, k, h1, h2, h3, h4⟩ := flat_inv (vals_len f) hp
  have := h i x h1 k u h4
  rwa [h2, ← Nat.add_assoc]
theorem flat_cells {f : Fl} {l : List f.ty} {cs : Array Value} {off : Nat} (h : ∀ p u, (l.flatMap f.vals)[p]? = some u → cs[off + p]? = some u) : ∀ i x, l[i]? = some x → CellsAt cs (off + i * f.ks.length) (f.vals x) := fun i x hx k u hk => by
  have hlt : k < f.ks.length := by
    have := (List.getElem?_eq_some_iff.1 hk).1
    rwa [vals_len] at this
  have := h (i * f.ks.length + k) u (by rw [flat_get (vals_len f) hlt hx]; exact hk)
  rwa [← Nat.add_assoc] at this
section
variable {w : World} {f : Fl} {l : List f.ty} {v : Value} {m : Nat → Prop} {own : Bool}
/-- What can be read where the slice lies. -/
theorem LRep.src (h : LRep w f l v m own) : ∃ xa xc, v = .slice xa l.length xc ∧ l.length ≤ xc ∧ (l.length = 0 ∨ ∃ ad : Addr, xa = some ad ∧ ∀ (j : Nat) (u : Value), (l.flatMap f.vals)[j]? = some u → w.cell? (ad.add j) = some u) := by
  obtain ⟨_, _, h3⟩ := h
  rcases h3 with ⟨a, cap, e1, e2, _⟩ | ⟨blk, off, cap, cs, ty, fz, e1, e2, e3, e4, e5, _⟩
  · exact ⟨a, cap, by rw [e1, e2]; rfl, by rw [e2]; exact Nat.zero_le _, .inl (by rw [e2]; rfl)⟩
  · exact ⟨_, cap, e1, e2, .inr ⟨_, rfl, fun j u hu => by rw [Addr.add_mid, cell_of e3]; exact cells_flat e5 j u hu⟩⟩
/-- A list of the call's own: where it lies. -/
theorem LRep.dst (h : LRep w f l v m true) : ∃ base sCap, v = .slice base l.length sCap ∧ ((l.length = 0 ∧ sCap = 0) ∨ ∃ g cs ty, base = some ⟨g, 0, none⟩ ∧ m g ∧ w.heap[g]? = some (.cells cs ty (0, 0)) ∧ cs.size = sCap * f.ks.length ∧ l.length ≤ sCap ∧ ∀ (k : Nat) (u : Value), (l.flatMap f.vals)[k]? = some u → cs[k]? = some u) := by
  obtain ⟨_, _, h3⟩ := h
  rcases h3 with ⟨a, cap, e1, e2, e3⟩ | ⟨blk, off, cap, cs, ty, fz, e1, e2, e3, e4, e5, e6⟩
  · exact ⟨a, cap, by rw [e1, e2]; rfl, .inl ⟨by rw [e2]; rfl, e3 rfl⟩⟩
  · obtain ⟨rfl, rfl, k3⟩ := e6 rfl
    exact ⟨_, cap, e1, .inr ⟨blk, cs, ty, rfl, e4, e3, k3, e2, fun k u hk => by have := cells_flat e5 k u hk; rwa [Nat.zero_add] at this⟩⟩
theorem LRep.of (h1 : ∀ x ∈ l, f.okv x) (h2 : l.length * f.bytes ≤ room) {g cap : Nat} {cs : Array Value} {ty : TypeId} (hg : w.heap[g]? = some (.cells cs ty (0, 0))) (hm : m g) (hc : l.length ≤ cap) (hs : cs.size = cap * f.ks.length)
    (hcs : ∀ (k : Nat) (u : Value), (l.flatMap f.vals)[k]? = some u → cs[k]? = some u) : LRep w f l (.slice (some ⟨g, 0, none⟩) l.length cap) m true :=
  ⟨h1, h2, .inr ⟨g, 0, cap, cs, ty, (0, 0), rfl, hc, hg, hm, flat_cells fun p u hp => by rw [Nat.zero_add]; exact hcs p u hp, fun _ => ⟨rfl, rfl, hs⟩⟩⟩
end

/-! ### append -/
section
variable {P : Program} (w : World)
theorem run_append_zero (t ty e : TypeId) (i : TypeInfo) (ht : P.underlying t = some (.slice e)) (hi : P.info? e = some i) (base : Option Addr) (sLen sCap : Nat) (hc : sLen ≤ sCap) (xa : Option Addr) (xc : Nat) :
    (Builtin.append_ #[t, t] ty #[.slice base sLen sCap, .slice xa 0 xc]).run P w = .ok (.slice base sLen sCap) w := by
  have hf : (Builtin.firstCells i.size 0 (.slice xa 0 xc)).run P w = .ok #[] w := by
    cases xa with
    | none => exact run_firstCells_none w i.size 0 0 xc
    | some ad => exact run_firstCells_some w i.size 0 ad 0 xc [] (by simp) (fun j u hu => by cases hu)
  cases base with
  | none => simp [Builtin.append_, run_underlying ht, sizeOf, typeInfo, hi, Builtin.lenOf, hc, hf]
  | some b => simp [Builtin.append_, run_underlying ht, sizeOf, typeInfo, hi, Builtin.lenOf, hc, hf, storeCells]
theorem run_append_room' (t ty e : TypeId) (i : TypeInfo) (ht : P.underlying t = some (.slice e)) (hi : P.info? e = some i)
    (g sLen sCap : Nat) (cur : Array Value) (te : TypeId) (hg : w.heap[g]? = some (.cells cur te (0, 0)))
    (a : Addr) (m c : Nat) (news : List Value) (hl : news.length = m * i.size) (hnews : ∀ (j : Nat) (u : Value), news[j]? = some u → w.cell? (a.add j) = some u) (h1 : ∀ u ∈ news, u.oneCell' = true)
    (hroom : sLen + m ≤ sCap) (hfit : sLen * i.size + news.length ≤ cur.size) :
    (Builtin.append_ #[t, t] ty #[.slice (some ⟨g, 0, none⟩) sLen sCap, .slice (some a) m c]).run P w =
      .ok (.slice (some ⟨g, 0, none⟩) (sLen + m) sCap) (w.setRow g (cur.toList.take (sLen * i.size) ++ news ++ cur.toList.drop (sLen * i.size + news.length)).toArray) := by
  have hf := run_firstCells_some (P := P) w i.size m a m c news hl hnews
  have hst := run_storeCells_at P g (sLen * i.size) te news 0 cur w hg (by simpa using hfit) h1
  simp only [Nat.add_zero] at hst
  simp [Builtin.append_, run_underlying ht, sizeOf, typeInfo, hi, Builtin.lenOf, hroom, hf, Addr.add_lit, hst]
theorem splice_get {cs vs : List Value} {o p : Nat} (h : o + vs.length ≤ cs.length) : (cs.take o ++ vs ++ cs.drop (o + vs.length))[p]? = if p < o then cs[p]? else if p < o + vs.length then vs[p - o]? else cs[p]? := by
  by_cases h1 : p < o
  · rw [if_pos h1, List.append_assoc, List.getElem?_append_left (by rw [List.length_take]; omega), List.getElem?_take, if_pos h1]
  · rw [if_neg h1]
    by_cases h2 : p < o + vs.length
    · rw [if_pos h2, List.append_assoc, List.getElem?_append_right (by rw [List.length_take]; omega), List.length_take, Nat.min_eq_left (by omega), List.getElem?_append_left (by omega)]
    · rw [if_neg h2, List.getElem?_append_right (by rw [List.length_append, List.length_take]; omega), List.length_append, List.length_take, Nat.min_eq_left (by omega), List.getElem?_drop]
      congr 1; omega
/-- append, whatever comes. -/
theorem raw_append2 (t ty e : TypeId) (i : TypeInfo) (z : Value) (ht : P.underlying t = some (.slice e)) (hi : P.info? e = some i) (hz : i.zero = some z) (hzs : z.cells.size = i.size) (hb0 : 0 < i.bytes)
    (base : Option Addr) (sLen sCap : Nat) (olds : List Value) (hol : olds.length = sLen * i.size)
    (hdst : (sLen = 0 ∧ sCap = 0) ∨ ∃ g cs te, base = some ⟨g, 0, none⟩ ∧ w.heap[g]? = some (.cells cs te (0, 0)) ∧ cs.size = sCap * i.size ∧ sLen ≤ sCap ∧ ∀ (k : Nat) (u : Value), olds[k]? = some u → cs[k]? = some u)
    (xa : Option Addr) (m xc : Nat) (news : List Value) (hnl : news.length = m * i.size) (hsrc : m = 0 ∨ ∃ ad : Addr, xa = some ad ∧ ∀ (j : Nat) (u : Value), news[j]? = some u → w.cell? (ad.add j) = some u) (h1 : ∀ u ∈ news, u.oneCell' = true)
    (hfit : (sLen + m) * i.bytes ≤ room) :
    ∃ v' w', (Builtin.append_ #[t, t] ty #[.slice base sLen sCap, .slice xa m xc]).run P w = .ok v' w' ∧ w'.os = w.os ∧ w'.tape = w.tape ∧ OutD w w' ∧ w.heap.size ≤ w'.heap.size ∧
      ((sLen = 0 ∧ m = 0 ∧ v' = .slice base 0 0 ∧ w' = w) ∨
       ∃ g cap cs te, v' = .slice (some ⟨g, 0, none⟩) (sLen + m) cap ∧ sLen + m ≤ cap ∧ w'.heap[g]? = some (.cells cs te (0, 0)) ∧ cs.size = cap * i.size ∧ (∀ (k : Nat) (u : Value), (olds ++ news)[k]? = some u → cs[k]? = some u) ∧
         (∀ b, b < w.heap.size → b ≠ g → w'.heap[b]? = w.heap[b]?) ∧ ((base = some ⟨g, 0, none⟩ ∧ g < w.heap.size ∧ ¬ (sLen = 0 ∧ sCap = 0)) ∨ g = w.heap.size) ∧ (g < w.heap.size → cap = sCap)) := by
  have hle : sLen + m ≤ (sLen + m) * i.bytes := Nat.le_mul_of_pos_right _ hb0
  have h63 : ((sLen + m : Nat) : Int) ≤ 9223372036854775807 := by unfold room at hfit; omega
  have h48 : sCap < sLen + m → Builtin.nextslicecap (sLen + m) sCap * i.bytes ≤ 281474976710656 := fun h => by
    have h2 := nextslicecap_le h
    have : Builtin.nextslicecap (sLen + m) sCap * i.bytes ≤ 2 * (sLen + m) * i.bytes := Nat.mul_le_mul_right _ h2
    rw [Nat.mul_assoc] at this
    unfold room at hfit; omega
  -- what the growing arm leaves
  have grown : ∀ v' : Value, v' = .slice (some ⟨w.heap.size, 0, none⟩) (sLen + m) (grownCap w (sLen + m) sCap e) → sCap < sLen + m → ∀ w' : World, w' = w.drew.alloc (.cells (olds.toArray ++ news.toArray ++ Builtin.zeroCells z.cells (grownCap w (sLen + m) sCap e - (sLen + m))) e) →
      w'.os = w.os ∧ w'.tape = w.tape ∧ OutD w w' ∧ w.heap.size ≤ w'.heap.size ∧
      ((sLen = 0 ∧ m = 0 ∧ v' = .slice base 0 0 ∧ w' = w) ∨
       ∃ g cap cs te, v' = .slice (some ⟨g, 0, none⟩) (sLen + m) cap ∧ sLen + m ≤ cap ∧ w'.heap[g]? = some (.cells cs te (0, 0)) ∧ cs.size = cap * i.size ∧ (∀ (k : Nat) (u : Value), (olds ++ news)[k]? = some u → cs[k]? = some u) ∧
         (∀ b, b < w.heap.size → b ≠ g → w'.heap[b]? = w.heap[b]?) ∧ ((base = some ⟨g, 0, none⟩ ∧ g < w.heap.size ∧ ¬ (sLen = 0 ∧ sCap = 0)) ∨ g = w.heap.size) ∧ (g < w.heap.size → cap = sCap)) := by
    intro v' hv' hlt w' hw'
    subst hv' hw'
    have hge := grownCap_ge w (sLen + m) sCap e
    refine ⟨rfl, rfl, ⟨rfl, Nat.le_succ _⟩, ?_, .inr ⟨w.heap.size, _, _, e, rfl, hge, heap_alloc_new w.drew _, ?_, fun k u hk => ?_, fun b hb _ => Below.heap_alloc w.drew _ b hb, .inr rfl, fun h => absurd h (Nat.lt_irrefl _)⟩⟩
    · show w.heap.size ≤ (w.drew.heap.push _).size
      simp
    · simp only [Array.size_append, List.size_toArray, size_zeroCells, hzs, hol, hnl, ← Nat.add_mul]
      congr 1
      omega
    · have hlt := (List.getElem?_eq_some_iff.1 hk).1
      rw [← Array.getElem?_toList, Array.toList_append, Array.toList_append, List.getElem?_append_left (by simpa using hlt)]
      exact hk
  by_cases hm : m = 0
  · subst hm
    rcases hdst with ⟨rfl, rfl⟩ | ⟨g, cs, te, rfl, hg, hs, hc, hcs⟩
    · exact ⟨_, w, run_append_zero w t ty e i ht hi base 0 0 (Nat.le_refl _) xa xc, rfl, rfl, OutD.refl _, Nat.le_refl _, .inl ⟨rfl, rfl, rfl, rfl⟩⟩
    · have hn : news = [] := List.eq_nil_of_length_eq_zero (by simpa using hnl)
      subst hn
      by_cases h00 : sLen = 0 ∧ sCap = 0
      · obtain ⟨rfl, rfl⟩ := h00
        exact ⟨_, w, run_append_zero w t ty e i ht hi _ 0 0 hc xa xc, rfl, rfl, OutD.refl _, Nat.le_refl _, .inl ⟨rfl, rfl, rfl, rfl⟩⟩
      · exact ⟨_, w, run_append_zero w t ty e i ht hi _ sLen sCap hc xa xc, rfl, rfl, OutD.refl _, Nat.le_refl _, .inr ⟨g, sCap, cs, te, rfl, by omega, hg, hs, fun k u hk => hcs k u (by simpa using hk), fun _ _ _ => rfl, .inl ⟨rfl, (Array.getElem?_eq_some_iff.1 hg).1, h00⟩, fun _ => rfl⟩⟩
  · obtain ⟨ad, rfl, hnews⟩ := hsrc.resolve_left hm
    rcases hdst with ⟨rfl, rfl⟩ | ⟨g, cs, te, rfl, hg, hs, hc, hcs⟩
    · have ho : olds = [] := List.eq_nil_of_length_eq_zero (by simpa using hol)
      subst ho
      cases base with
      | none =>
        have hr := run_append_nil (P := P) w t ty e i z ht hi hz ad m xc news hnl hnews (by omega) (by omega) (by rw [Nat.zero_add] at hfit; unfold room at hfit; omega)
        exact ⟨_, _, hr, grown _ (by rw [Nat.zero_add]) (by omega) _ (by rw [Nat.zero_add]; simp)⟩
      | some b =>
        have hr := run_append_grow (P := P) w t ty e i z ht hi hz b 0 0 [] (by simp) (fun j u hu => by cases hu) ad m xc news hnl hnews (by omega) h63 (h48 (by omega))
        exact ⟨_, _, hr, grown _ rfl (by omega) _ rfl⟩
    · by_cases hroom : sLen + m ≤ sCap
      · have hfit' : sLen * i.size + news.length ≤ cs.size := by rw [hnl, hs, ← Nat.add_mul]; exact Nat.mul_le_mul_right _ hroom
        have hr := run_append_room' (P := P) w t ty e i ht hi g sLen sCap cs te hg ad m xc news hnl hnews h1 hroom hfit'
        refine ⟨_, _, hr, rfl, rfl, ⟨rfl, Nat.le_refl _⟩, by simp, .inr ⟨g, sCap, _, te, rfl, hroom, setRow_heap w g cs _ te (0, 0) hg, ?_, fun k u hk => ?_, fun b _ hb => setRow_other w g b _ hb, .inl ⟨rfl, (Array.getElem?_eq_some_iff.1 hg).1, fun e => by omega⟩, fun _ => rfl⟩⟩
        · simp; omega
        · rw [List.getElem?_toArray, splice_get (by simpa using hfit')]
          by_cases hk1 : k < sLen * i.size
          · rw [if_pos hk1]
            rw [List.getElem?_append_left (by omega)] at hk
            have := hcs k u hk
            simpa using this
          · rw [if_neg hk1]
            have hk2 := (List.getElem?_eq_some_iff.1 hk).1
            rw [List.length_append] at hk2
            rw [if_pos (by omega)]
            rw [List.getElem?_append_right (by omega), hol] at hk
            exact hk
      · have hr := run_append_grow (P := P) w t ty e i z ht hi hz ⟨g, 0, none⟩ sLen sCap olds hol (fun j u hu => by rw [Addr.add_mid, Nat.zero_add, cell_of hg]; exact hcs j u hu) ad m xc news hnl hnews (by omega) h63 (h48 (by omega))
        exact ⟨_, _, hr, grown _ rfl (by omega) _ rfl⟩
/-- append, whatever comes. -/
theorem raw_append (t ty e : TypeId) (i : TypeInfo) (z : Value) (ht : P.underlying t = some (.slice e)) (hi : P.info? e = some i) (hz : i.zero = some z) (hzs : z.cells.size = i.size) (hb0 : 0 < i.bytes)
    (base : Option Addr) (sLen sCap : Nat) (olds : List Value) (hol : olds.length = sLen * i.size)
    (hdst : (sLen = 0 ∧ sCap = 0) ∨ ∃ g cs te, base = some ⟨g, 0, none⟩ ∧ w.heap[g]? = some (.cells cs te (0, 0)) ∧ cs.size = sCap * i.size ∧ sLen ≤ sCap ∧ ∀ (k : Nat) (u : Value), olds[k]? = some u → cs[k]? = some u)
    (xa : Option Addr) (m xc : Nat) (news : List Value) (hnl : news.length = m * i.size) (hsrc : m = 0 ∨ ∃ ad : Addr, xa = some ad ∧ ∀ (j : Nat) (u : Value), news[j]? = some u → w.cell? (ad.add j) = some u) (h1 : ∀ u ∈ news, u.oneCell' = true)
    (hfit : (sLen + m) * i.bytes ≤ room) :
    ∃ v' w', (Builtin.append_ #[t, t] ty #[.slice base sLen sCap, .slice xa m xc]).run P w = .ok v' w' ∧ w'.os = w.os ∧ w'.tape = w.tape ∧ OutD w w' ∧ w.heap.size ≤ w'.heap.size ∧
      ((sLen = 0 ∧ m = 0 ∧ v' = .slice base 0 0 ∧ w' = w) ∨
       ∃ g cap cs te, v' = .slice (some ⟨g, 0, none⟩) (sLen + m) cap ∧ sLen + m ≤ cap ∧ w'.heap[g]? = some (.cells cs te (0, 0)) ∧ cs.size = cap * i.size ∧ (∀ (k : Nat) (u : Value), (olds ++ news)[k]? = some u → cs[k]? = some u) ∧
         (∀ b, b < w.heap.size → b ≠ g → w'.heap[b]? = w.heap[b]?) ∧ ((base = some ⟨g, 0, none⟩ ∧ g < w.heap.size ∧ ¬ (sLen = 0 ∧ sCap = 0)) ∨ g = w.heap.size)) := by
  obtain ⟨v', w', q1, q2, q3, q4, q5, q6⟩ := raw_append2 (P := P) w t ty e i z ht hi hz hzs hb0 base sLen sCap olds hol hdst xa m xc news hnl hsrc h1 hfit
  refine ⟨v', w', q1, q2, q3, q4, q5, ?_⟩
  rcases q6 with h | ⟨g, cap, cs, te, a1, a2, a3, a4, a5, a6, a7, _⟩
  · exact .inl h
  · exact .inr ⟨g, cap, cs, te, a1, a2, a3, a4, a5, a6, a7⟩
end

end Go.Fx
end
section
namespace Go.Fx
open Go RowKit

theorem Keep.updL {D : Nat → Prop} {R : Nat → Option Res} {j : Nat} {L L' : LB} (h : R j = some (.list L)) (h1 : L.f = L'.f) (h2 : L.l.length = L'.l.length) : Keep D R (fun i => if j = i then some (.list L') else R i) := ⟨fun i M hi hr => by
  by_cases e : j = i
  · subst e
    simp only [if_true] at hr; cases hr
    exact ⟨L, h, h1, h2⟩
  · simp only [if_neg e] at hr; exact ⟨M, hr, rfl, rfl⟩, fun i M hi hr => by
  by_cases e : j = i
  · simp only [if_pos e] at hr; cases hr
  · simp only [if_neg e] at hr; exact ⟨M, hr, rfl, rfl, fun _ => ⟨rfl, fun _ => rfl⟩⟩⟩
theorem Keep.updLL {D : Nat → Prop} {R : Nat → Option Res} {j : Nat} {L L' : LLB} (h : R j = some (.lists L)) (h1 : L.f = L'.f) (h2 : L.ll.length = L'.ll.length) (h3 : D L'.ver → L.ver = L'.ver ∧ ∀ i, (nthD L.ll i []).length = (nthD L'.ll i []).length) : Keep D R (fun i => if j = i then some (.lists L') else R i) := ⟨fun i M hi hr => by
  by_cases e : j = i
  · simp only [if_pos e] at hr; cases hr
  · simp only [if_neg e] at hr; exact ⟨M, hr, rfl, rfl⟩, fun i M hi hr => by
  by_cases e : j = i
  · subst e
    simp only [if_true] at hr; cases hr
    exact ⟨L, h, h1, h2, h3⟩
  · simp only [if_neg e] at hr; exact ⟨M, hr, rfl, rfl, fun _ => ⟨rfl, fun _ => rfl⟩⟩⟩

/-! ### One row -/
section
variable {w w' : World} {f : Fl} {l : List f.ty} {v : Value} {m : Nat → Prop}
theorem LRep.rowBlk (h : LRep w f l v m true) {b : Nat} (hb : Go.Fx.rowBlk v = some b) : m b ∧ b < w.heap.size := by
  obtain ⟨_, _, h3⟩ := h
  rcases h3 with ⟨a, cap, rfl, _, e3⟩ | ⟨blk, off, cap, cs, ty, fz, rfl, e2, e3, e4, _⟩
  · rw [e3 rfl] at hb
    cases a <;> simp [Go.Fx.rowBlk] at hb
  · unfold Go.Fx.rowBlk at hb
    dsimp only at hb
    split at hb
    · cases hb
    · cases hb; exact ⟨e4, (Array.getElem?_eq_some_iff.1 e3).1⟩
/-- Only its own block counts. -/
theorem LRep.frame1 {m' : Nat → Prop} (h : LRep w f l v m true) (hb : ∀ b, Go.Fx.rowBlk v = some b → w'.heap[b]? = w.heap[b]? ∧ m' b) : LRep w' f l v m' true := by
  obtain ⟨h1, h2, h3⟩ := h
  refine ⟨h1, h2, ?_⟩
  rcases h3 with h3 | ⟨blk, off, cap, cs, ty, fz, rfl, e2, e3, e4, e5, e6⟩
  · exact .inl h3
  · by_cases hc : cap = 0
    · exact .inl ⟨_, cap, by rw [show l.length = 0 by omega], List.eq_nil_of_length_eq_zero (by omega), fun _ => hc⟩
    · obtain ⟨q1, q2⟩ := hb blk (by unfold Go.Fx.rowBlk; dsimp only; rw [if_neg hc])
      exact .inr ⟨blk, off, cap, cs, ty, fz, rfl, e2, by rw [q1]; exact e3, q2, e5, e6⟩
end

/-! ### A store into a list -/
section
variable {w : World} {f : Fl} {l : List f.ty}
theorem lset_len {β : Type} (l : List β) (i : Int) (x : β) : (lset l i x).length = l.length := by unfold lset; simp
/-- Part of an element is written. -/
theorem flat_set {cs vs : List Value} {i : Int} {x : f.ty} {c : Nat} (h0 : 0 ≤ i) (h1 : i < (l.length : Int)) (hc : c + vs.length ≤ f.ks.length) (hle : i.toNat * f.ks.length + c + vs.length ≤ cs.length)
    (hv : f.vals x = (f.vals (nthD l i f.dflt)).take c ++ vs ++ (f.vals (nthD l i f.dflt)).drop (c + vs.length)) (hcs : ∀ (k : Nat) (u : Value), (l.flatMap f.vals)[k]? = some u → cs[k]? = some u) :
    ∀ (k : Nat) (u : Value), ((lset l i x).flatMap f.vals)[k]? = some u → (cs.take (i.toNat * f.ks.length + c) ++ vs ++ cs.drop (i.toNat * f.ks.length + c + vs.length))[k]? = some u := fun k u hk => by
  obtain ⟨j, y, q, k1, k2, k3, k4⟩ := flat_inv (vals_len f) hk
  have hold : l[i.toNat]? = some (nthD l i f.dflt) := nth_get h0 h1 _
  rw [splice_get hle]
  unfold lset at k1
  rw [List.getElem?_set] at k1
  by_cases e : i.toNat = j
  · rw [if_pos e] at k1
    split at k1
    · cases k1
      subst e
      have hget : ∀ u, (f.vals (nthD l i f.dflt))[q]? = some u → cs[k]? = some u := fun u hu => hcs k u (by rw [k2, flat_get (vals_len f) k3 hold]; exact hu)
      rw [hv, splice_get (by rw [vals_len]; exact hc)] at k4
      by_cases a1 : q < c
      · rw [if_pos a1] at k4
        rw [if_pos (by omega)]; exact hget u k4
      · rw [if_neg a1] at k4
        by_cases a2 : q < c + vs.length
        · rw [if_pos a2] at k4
          rw [if_neg (by omega), if_pos (by omega), show k - (i.toNat * f.ks.length + c) = q - c by omega]
          exact k4
        · rw [if_neg a2] at k4
          rw [if_neg (by omega), if_neg (by omega)]; exact hget u k4
    · cases k1
  · rw [if_neg e] at k1
    have hu : cs[k]? = some u := hcs k u (by rw [k2, flat_get (vals_len f) k3 k1]; exact k4)
    have hout : k < i.toNat * f.ks.length ∨ (i.toNat + 1) * f.ks.length ≤ k := by
      rcases Nat.lt_or_gt_of_ne e with h | h
      · have : (i.toNat + 1) * f.ks.length ≤ j * f.ks.length := Nat.mul_le_mul_right _ h
        right; omega
      · have : (j + 1) * f.ks.length ≤ i.toNat * f.ks.length := Nat.mul_le_mul_right _ h
        rw [Nat.succ_mul] at this
        left; omega
    rw [Nat.succ_mul] at hout
    rcases hout with h | h
    · rw [if_pos (by omega)]; exact hu
    · rw [if_neg (by omega), if_neg (by omega)]; exact hu
theorem lset_okv {i : Int} {x : f.ty} (hl : ∀ y ∈ l, f.okv y) (hx : f.okv x) : ∀ y ∈ lset l i x, f.okv y := fun y hy => by
  unfold lset at hy
  rcases List.mem_or_eq_of_mem_set hy with h | h
  · exact hl y h
  · rw [h]; exact hx
end
theorem set_rel {S : St} {α : Al} {ω : Nat → Option Nat} {B : Nat} {w0 w w' : World} {a : Act} (r : Rel S α ω B w0 a w) {j : Nat} {x : Res} (H : HRel (· < S.nx) (fun i => if j = i then some x else S.res i) α ω B w0 w') (hk : Keep (· < S.nx) S.res (fun i => if j = i then some x else S.res i)) :
    Evo S (S.set j (some x)) α α ∧ Rel (S.set j (some x)) α ω B w0 a w' := by
  refine ⟨⟨Nat.le_refl _, Agree.refl _ _, by rw [res_set]; exact hk, rfl, Ext.set _ _ _⟩, ⟨?_, ?_, r.d⟩⟩
  · rw [res_set]; exact H
  · rw [res_set]; exact r.t.mono (fun _ h => h) hk (Agree.refl _ _)
section
variable {E : Env} {S : St} {α : Al} {ω : Nat → Option Nat} {B : Nat} {w0 w : World} {a : Act}
theorem storable_cells {D : Nat → Prop} {R : Nat → Option Res} {f : Fl} {cs : List SC} {x : f.ty} (h : f.ofSC cs = some x) (hg : ∀ c ∈ cs, c.good D R) (α : Al) : ∀ u ∈ cs.map (SC.den α), u.oneCell' = true := by
  rw [← (ofSC_ok (α := α) h hg).1]
  exact vals_one f x
/-- Cells of a block of the call's own are written. -/
theorem write_cells {P : Program} {blk : Nat} {cs : Array Value} {te : TypeId} (hg : w.heap[blk]? = some (.cells cs te (0, 0))) {o : Nat} {vs : List Value} (hle : o + vs.length ≤ cs.size) (h1 : ∀ u ∈ vs, u.oneCell' = true) :
    ∃ w', (storeCells ⟨blk, o, none⟩ vs 0).run P w = .ok () w' ∧ w'.heap[blk]? = some (.cells (cs.toList.take o ++ vs ++ cs.toList.drop (o + vs.length)).toArray te (0, 0)) ∧ w'.heap.size = w.heap.size ∧ (∀ k, k ≠ blk → w'.heap[k]? = w.heap[k]?) ∧ w'.os = w.os ∧ w'.tape = w.tape ∧ OutD w w' := by
  have hst := run_storeCells_at P blk o te vs 0 cs w hg (by simpa using hle) h1
  simp only [Nat.add_zero] at hst
  exact ⟨_, hst, setRow_heap w blk cs _ te (0, 0) hg, by simp, fun k hk => setRow_other w blk k _ hk, rfl, rfl, ⟨rfl, Nat.le_refl _⟩⟩
theorem storeL_okH {D : Nat → Prop} (H : HRel D S.res α ω B w0 w) (T : TRel D S.res α S.nt S.get a.tmps) {o : Oper} {t : TypeId} {x y : Operand} (ho : o.op = .store t x y) {j : Nat} {L' : LB} (h : storeL E t S (S.ev x) (S.ev y) = some (j, .list L')) :
    ∃ w', (execOp a.eval o).run E.P w = .ok .skip w' ∧ HRel D (fun i => if j = i then some (.list L') else S.res i) α ω B w0 w' ∧ Keep D S.res (fun i => if j = i then some (.list L') else S.res i) ∧ D j := by
  unfold storeL at h
  split at h
  · rename_i j' n i c v ex ey
    split at h
    · rename_i L sz hj e1
      split at h
      · rename_i hc
        split at h
        · rename_i x' hx'
          cases h
          rw [Bool.and_eq_true, Bool.and_eq_true] at hc
          obtain ⟨⟨c1, c2⟩, c3⟩ := hc
          have c2 := Nat.eq_of_beq_eq_true c2
          have c3 : c + sz ≤ L.f.ks.length := by simpa using c3
          obtain ⟨p1, p2⟩ := ev_c T ex
          obtain ⟨p3, p4⟩ := ev_w T ey
          obtain ⟨pd, pL⟩ := p2
          obtain ⟨g1, g2, g3⟩ := pL L hj
          have hrel : LRep w L.f L.l (α.sv j) (mineOf ω B j L.own) L.own := H.rel j _ hj
          rw [c1] at hrel
          obtain ⟨base, sCap, e2, hd⟩ := hrel.dst
          obtain ⟨g, cs, te, rfl, hm, hg, hsz, hcap, hcs⟩ := hd.resolve_left fun e => by have := e.1; omega
          have hok := list_okv H hj g2 g3
          have hgc : ∀ u ∈ (L.f.sw (nthD L.l i L.f.dflt)).take c ++ v.cells ++ (L.f.sw (nthD L.l i L.f.dflt)).drop (c + sz), u.good D S.res := fun u hu => by
            rcases List.mem_append.1 hu with hu | hu
            · rcases List.mem_append.1 hu with hu | hu
              · exact sw_good hok u (List.mem_of_mem_take hu)
              · exact cells_good p4 u hu
            · exact sw_good hok u (List.mem_of_mem_drop hu)
          obtain ⟨k1, k2⟩ := ofSC_ok (α := α) hx' hgc
          have hvl : (v.cells.map (SC.den α)).length = sz := by simp [c2]
          have hone : ∀ u ∈ v.cells.map (SC.den α), u.oneCell' = true := fun u hu => storable_cells hx' hgc α u (by
            rw [List.map_append, List.map_append]
            exact List.mem_append_left _ (List.mem_append_right _ hu))
          have hle : i.toNat * L.f.ks.length + c + sz ≤ cs.size := by
            have : (i.toNat + 1) * L.f.ks.length ≤ sCap * L.f.ks.length := Nat.mul_le_mul_right _ (by omega)
            rw [Nat.succ_mul] at this
            omega
          obtain ⟨w', q1, q2, q3, q4, q5, q6, q7⟩ := write_cells (P := E.P) hg (o := i.toNat * L.f.ks.length + c) (vs := v.cells.map (SC.den α)) (by rw [hvl]; exact hle) hone
          have hmine : ω g = some j := by
            have : (if True then ω g = some j else g < B) := by
              have := hm; unfold mineOf at this; simpa using this
            simpa using this
          have hB := (H.own _ _ hmine).1
          have hfs := flat_set (f := L.f) (l := L.l) (cs := cs.toList) (vs := v.cells.map (SC.den α)) (x := x') g2 g3 (by rw [hvl]; exact c3) (by rw [hvl]; simpa using hle) (by
            rw [k1, List.map_append, List.map_append, List.map_take, List.map_drop, sw_den, hvl]) (fun k u hk => by have := hcs k u hk; simpa using this)
          have hrep : LRep w' L.f (lset L.l i x') (α.sv j) (mineOf ω B j true) true := by
            have := LRep.of (w := w') (m := mineOf ω B j true) (f := L.f) (l := lset L.l i x') (lset_okv hrel.1 k2) (by rw [lset_len]; exact hrel.2.1) q2 hm (by rw [lset_len]; exact hcap) (by simp; rw [c2]; omega) (fun k u hk => by
              have := hfs k u hk
              simpa using this)
            rw [lset_len] at this
            rw [e2]; exact this
          have hk : Keep D S.res (fun i' => if j = i' then some (.list ⟨L.f, lset L.l i x', true⟩) else S.res i') := Keep.updL hj rfl (by rw [lset_len])
          have HS := H.setOwn (r' := .list ⟨L.f, lset L.l i x', true⟩) pd (H.bel.trans ⟨⟨q5, q6, q7.out, by omega, fun k hk' => q4 k (by omega)⟩, q7.drawn⟩) (by omega) (fun b i' hb' hne => q4 b fun e => hne (by rw [e, hmine] at hb'; cases hb'; rfl)) hrep hk (fun b e => by cases e) (fun L e => by cases e)
          refine ⟨w', ?_, HS, hk, pd⟩
          simp only [execOp, ho, p1, p3, SC.den, e2, Instr.storeAt, Instr.sureAddr, Sem.run_bind, Sem.run_pure, Result.andThen_ok, storeVar, size_run e1, cells_den H.one]
          rw [if_neg (by simp [c2])]
          simp only [Result.andThen_ok, g1, Nat.zero_add, q1]
        · cases h
      · cases h
    · cases h
  · split at h
    · split at h
      · split at h
        · cases h
        · cases h
      · cases h
    · cases h
  · cases h
theorem storeL_ok (r : Rel S α ω B w0 a w) {o : Oper} {t : TypeId} {x y : Operand} (ho : o.op = .store t x y) {j : Nat} {res : Res} (h : storeL E t S (S.ev x) (S.ev y) = some (j, res)) :
    ∃ w', (execOp a.eval o).run E.P w = .ok .skip w' ∧ Evo S (S.set j (some res)) α α ∧ Rel (S.set j (some res)) α ω B w0 a w' := by
  unfold storeL at h
  split at h
  · rename_i j' n i c v ex ey
    split at h
    · rename_i L sz hj e1
      split at h
      · rename_i hc
        split at h
        · rename_i x' hx'
          cases h
          rw [Bool.and_eq_true, Bool.and_eq_true] at hc
          obtain ⟨⟨c1, c2⟩, c3⟩ := hc
          have c2 := Nat.eq_of_beq_eq_true c2
          have c3 : c + sz ≤ L.f.ks.length := by simpa using c3
          obtain ⟨p1, p2⟩ := ev_c r.t ex
          obtain ⟨p3, p4⟩ := ev_w r.t ey
          obtain ⟨pd, pL⟩ := p2
          obtain ⟨g1, g2, g3⟩ := pL L hj
          have hrel : LRep w L.f L.l (α.sv j) (mineOf ω B j L.own) L.own := r.h.rel j _ hj
          rw [c1] at hrel
          obtain ⟨base, sCap, e2, hd⟩ := hrel.dst
          obtain ⟨g, cs, te, rfl, hm, hg, hsz, hcap, hcs⟩ := hd.resolve_left fun e => by have := e.1; omega
          have hok := list_okv r.h hj g2 g3
          have hgc : ∀ u ∈ (L.f.sw (nthD L.l i L.f.dflt)).take c ++ v.cells ++ (L.f.sw (nthD L.l i L.f.dflt)).drop (c + sz), u.good (· < S.nx) S.res := fun u hu => by
            rcases List.mem_append.1 hu with hu | hu
            · rcases List.mem_append.1 hu with hu | hu
              · exact sw_good hok u (List.mem_of_mem_take hu)
              · exact cells_good p4 u hu
            · exact sw_good hok u (List.mem_of_mem_drop hu)
          obtain ⟨k1, k2⟩ := ofSC_ok (α := α) hx' hgc
          have hvl : (v.cells.map (SC.den α)).length = sz := by simp [c2]
          have hone : ∀ u ∈ v.cells.map (SC.den α), u.oneCell' = true := fun u hu => storable_cells hx' hgc α u (by
            rw [List.map_append, List.map_append]
            exact List.mem_append_left _ (List.mem_append_right _ hu))
          have hle : i.toNat * L.f.ks.length + c + sz ≤ cs.size := by
            have : (i.toNat + 1) * L.f.ks.length ≤ sCap * L.f.ks.length := Nat.mul_le_mul_right _ (by omega)
            rw [Nat.succ_mul] at this
            omega
          obtain ⟨w', q1, q2, q3, q4, q5, q6, q7⟩ := write_cells (P := E.P) hg (o := i.toNat * L.f.ks.length + c) (vs := v.cells.map (SC.den α)) (by rw [hvl]; exact hle) hone
          have hmine : ω g = some j := by
            have : (if True then ω g = some j else g < B) := by
              have := hm; unfold mineOf at this; simpa using this
            simpa using this
          have hB := (r.h.own _ _ hmine).1
          have hfs := flat_set (f := L.f) (l := L.l) (cs := cs.toList) (vs := v.cells.map (SC.den α)) (x := x') g2 g3 (by rw [hvl]; exact c3) (by rw [hvl]; simpa using hle) (by
            rw [k1, List.map_append, List.map_append, List.map_take, List.map_drop, sw_den, hvl]) (fun k u hk => by have := hcs k u hk; simpa using this)
          have hrep : LRep w' L.f (lset L.l i x') (α.sv j) (mineOf ω B j true) true := by
            have := LRep.of (w := w') (m := mineOf ω B j true) (f := L.f) (l := lset L.l i x') (lset_okv hrel.1 k2) (by rw [lset_len]; exact hrel.2.1) q2 hm (by rw [lset_len]; exact hcap) (by simp; rw [c2]; omega) (fun k u hk => by
              have := hfs k u hk
              simpa using this)
            rw [lset_len] at this
            rw [e2]; exact this
          have hk : Keep (· < S.nx) S.res (fun i' => if j = i' then some (.list ⟨L.f, lset L.l i x', true⟩) else S.res i') := Keep.updL hj rfl (by rw [lset_len])
          have HS := r.h.setOwn (r' := .list ⟨L.f, lset L.l i x', true⟩) pd (r.h.bel.trans ⟨⟨q5, q6, q7.out, by omega, fun k hk' => q4 k (by omega)⟩, q7.drawn⟩) (by omega) (fun b i' hb' hne => q4 b fun e => hne (by rw [e, hmine] at hb'; cases hb'; rfl)) hrep hk (fun b e => by cases e) (fun L e => by cases e)
          obtain ⟨z1, z2⟩ := set_rel r HS hk
          refine ⟨w', ?_, z1, z2⟩
          simp only [execOp, ho, p1, p3, SC.den, e2, Instr.storeAt, Instr.sureAddr, Sem.run_bind, Sem.run_pure, Result.andThen_ok, storeVar, size_run e1, cells_den r.h.one]
          rw [if_neg (by simp [c2])]
          simp only [Result.andThen_ok, g1, Nat.zero_add, q1]
        · cases h
      · cases h
    · cases h
  · rename_i v' j' n i k v ex ey
    split at h
    · rename_i L sz hj e1
      split at h
      · rename_i hc
        split at h
        · rename_i y' hy'
          cases h
          rw [Bool.and_eq_true, Bool.and_eq_true, Bool.and_eq_true] at hc
          obtain ⟨⟨⟨c1, c2⟩, c3⟩, c4⟩ := hc
          have c2 := Nat.eq_of_beq_eq_true c2
          have c3 := Nat.eq_of_beq_eq_true c3
          have c4 := Nat.eq_of_beq_eq_true c4
          obtain ⟨p1, p2⟩ := ev_c r.t ex
          obtain ⟨p3, p4⟩ := ev_w r.t ey
          obtain ⟨pd1, pd2, pL⟩ := p2
          obtain ⟨g1, g2, g3, g4, g5⟩ := pL L hj c4
          have hrel : LLRep w L.f L.ll (α.sv j) (α.rv L.ver) (mineOf ω B j L.own) L.own := r.h.rel j _ hj
          rw [c1] at hrel
          have hrow : LRep w L.f (nthD L.ll i []) (α.rv L.ver i.toNat) (mineOf ω B j true) true := hrel.1 _ _ (nth_get g2 g3 [])
          obtain ⟨base, sCap, e2, hd⟩ := hrow.dst
          obtain ⟨g, cs, te, rfl, hm, hg, hsz, hcap, hcs⟩ := hd.resolve_left fun e => by have := e.1; omega
          obtain ⟨k1, k2⟩ := ofSC_ok (α := α) hy' (cells_good p4)
          have hvl : (v.cells.map (SC.den α)).length = sz := by simp [c2]
          have hone := storable_cells hy' (cells_good p4) α
          have hle : k.toNat * L.f.ks.length + 0 + sz ≤ cs.size := by
            have : (k.toNat + 1) * L.f.ks.length ≤ sCap * L.f.ks.length := Nat.mul_le_mul_right _ (by omega)
            rw [Nat.succ_mul] at this
            omega
          obtain ⟨w', q1, q2, q3, q4, q5, q6, q7⟩ := write_cells (P := E.P) hg (o := k.toNat * L.f.ks.length + 0) (vs := v.cells.map (SC.den α)) (by rw [hvl]; exact hle) hone
          have hmine : ω g = some j := by
            have := hm; unfold mineOf at this; simpa using this
          have hB := (r.h.own _ _ hmine).1
          have hcap0 : ¬ sCap = 0 := by omega
          have hrb : rowBlk (α.rv L.ver i.toNat) = some g := by rw [e2]; unfold rowBlk; dsimp only; rw [if_neg hcap0]
          have hfs := flat_set (f := L.f) (l := nthD L.ll i []) (cs := cs.toList) (vs := v.cells.map (SC.den α)) (x := y') (c := 0) g4 g5 (by rw [hvl]; omega) (by rw [hvl]; simpa using hle) (by
            rw [k1, hvl, List.take_zero, List.nil_append, List.drop_of_length_le (by rw [vals_len]; omega), List.append_nil]) (fun k u hk => by have := hcs k u hk; simpa using this)
          have hrow' : LRep w' L.f (lset (nthD L.ll i []) k y') (α.rv L.ver i.toNat) (mineOf ω B j true) true := by
            have := LRep.of (w := w') (m := mineOf ω B j true) (f := L.f) (l := lset (nthD L.ll i []) k y') (lset_okv hrow.1 k2) (by rw [lset_len]; exact hrow.2.1) q2 hm (by rw [lset_len]; exact hcap) (by simp; rw [c2]; omega) (fun k u hk => by
              have := hfs k u hk
              simpa using this)
            rw [lset_len] at this
            rw [e2]; exact this
          obtain ⟨h1, h2, h3⟩ := hrel
          have hlen : (lset L.ll i (lset (nthD L.ll i []) k y')).length = L.ll.length := lset_len _ _ _
          have hrep : LLRep w' L.f (lset L.ll i (lset (nthD L.ll i []) k y')) (α.sv j) (α.rv L.ver) (mineOf ω B j true) true := by
            rcases h3 with ⟨_, _, _, e, _⟩ | ⟨blk, off, cap, ocs, oty, fz, d1, d2, d3, d4, d5, d6⟩
            · rw [e] at g3; simp at g3; omega
            · obtain ⟨rfl, rfl, d7, d8⟩ := d6 rfl
              have hne : g ≠ blk := (d8 i.toNat g (by omega) hrb).1
              refine ⟨fun i' l' hl' => ?_, by rw [hlen]; exact h2, .inr ⟨blk, 0, cap, ocs, oty, (0, 0), by rw [hlen]; exact d1, by rw [hlen]; exact d2, by rw [q4 blk (fun e => hne e.symm)]; exact d3, d4, fun i' hi' => d5 i' (by rw [hlen] at hi'; exact hi'), fun _ => ⟨rfl, rfl, d7, by rw [hlen]; exact d8⟩⟩⟩
              unfold lset at hl'
              rw [List.getElem?_set] at hl'
              by_cases e : i.toNat = i'
              · rw [if_pos e] at hl'
                split at hl'
                · cases hl'; rw [← e]; exact hrow'
                · cases hl'
              · rw [if_neg e] at hl'
                have hi' : i' < L.ll.length := (List.getElem?_eq_some_iff.1 hl').1
                refine (h1 i' l' hl').frame1 fun b hb => ?_
                obtain ⟨b1, b2⟩ := (h1 i' l' hl').rowBlk hb
                refine ⟨q4 b fun e' => e ?_, b1⟩
                subst e'
                exact ((d8 i.toNat b (by omega) hrb).2 i' hi' hb)
          have hk : Keep (· < S.nx) S.res (fun i' => if j = i' then some (.lists ⟨L.f, lset L.ll i (lset (nthD L.ll i []) k y'), L.ver, true⟩) else S.res i') := Keep.updLL hj rfl hlen.symm fun _ => ⟨rfl, fun i' => by
            unfold nthD lset
            simp only [List.getD_eq_getElem?_getD, List.getElem?_set]
            by_cases e : i.toNat = i'.toNat
            · rw [if_pos e]
              have : i'.toNat < L.ll.length := by omega
              rw [← e, if_pos (by omega)]
              simp [nthD]
            · rw [if_neg e]⟩
          have HS := r.h.setOwn (r' := .lists ⟨L.f, lset L.ll i (lset (nthD L.ll i []) k y'), L.ver, true⟩) pd2 (r.h.bel.trans ⟨⟨q5, q6, q7.out, by omega, fun k hk' => q4 k (by omega)⟩, q7.drawn⟩) (by omega) (fun b i' hb' hne => q4 b fun e => hne (by rw [e, hmine] at hb'; cases hb'; rfl)) hrep hk (fun b e => by cases e) (fun L' e => by cases e; exact r.h.ver j L hj)
          obtain ⟨z1, z2⟩ := set_rel r HS hk
          refine ⟨w', ?_, z1, z2⟩
          rw [c4] at e2
          simp only [execOp, ho, p1, p3, SC.den, e2, Instr.storeAt, Instr.sureAddr, Sem.run_bind, Sem.run_pure, Result.andThen_ok, storeVar, size_run e1, cells_den r.h.one]
          rw [if_neg (by simp [c2])]
          simp only [Nat.add_zero] at q1
          simp only [Result.andThen_ok, g1, Nat.zero_add, q1]
        · cases h
      · cases h
    · cases h
  · cases h
end

end Go.Fx
end
section
namespace Go.Fx
open Go RowKit

/-! ### Used up -/
section
variable {D : Nat → Prop} {R : Nat → Option Res} {α : Al} {ω : Nat → Option Nat} {B : Nat} {w0 w : World}
theorem gone_ok (H : HRel D R α ω B w0 w) {j : Nat} (ω' : Nat → Option Nat) : ∀ r', goneOf (R j) = some r' → ∃ n, r' = .gone n ∧ RRel α ω' B w j (.gone n) := fun r' h => by
  cases e : R j with
  | none => rw [e] at h; cases h
  | some r =>
    rw [e] at h
    cases r with
    | list L =>
      cases h
      obtain ⟨a, cap, e1, _, e2⟩ := (show LRep w L.f L.l (α.sv j) _ L.own from H.rel j _ e).len
      exact ⟨_, rfl, a, _, cap, e1, rfl, e2⟩
    | lists L =>
      cases h
      obtain ⟨a, cap, e1, _, e2⟩ := (show LLRep w L.f L.ll (α.sv j) _ _ L.own from H.rel j _ e).len
      exact ⟨_, rfl, a, _, cap, e1, rfl, e2⟩
    | _ => cases h
/-- All blocks that belong to nobody go to one that is there. -/
theorem HRel.reown (H : HRel D R α ω B w0 w) {j : Nat} (hj : D j) : HRel D R α (ownN ω B j w.heap.size fun _ => True) B w0 w := by
  refine ⟨H.bel, H.base, fun b i hb => ?_, H.dec, H.ver, fun i r hr => H.frameAt hr (Agree.refl D α) (fun b hb => ⟨ownN_old hb, rfl⟩) (fun _ _ => rfl), H.good, H.one, H.xr⟩
  rcases ownN_inv hb with ⟨rfl, _, _, h1, h2⟩ | h
  · exact ⟨h1, h2, hj⟩
  · exact H.own b i h
end
section
variable {E : Env} {S : St} {α : Al} {ω : Nat → Option Nat} {B : Nat} {w0 w : World} {a : Act}
theorem drop_nx (S : St) (oj : Option Nat) : (S.drop oj).nx = S.nx := by cases oj <;> rfl
theorem Rel.dropped (r : Rel S α ω B w0 a w) (oj : Option Nat) (hj : ∀ j, oj = some j → j < S.nx) :
    ∃ ω', Rel (S.drop oj) α ω' B w0 a w ∧ Evo S (S.drop oj) α α ∧ (∀ b i, ω' b = some i → ω b = some i ∧ oj ≠ some i) ∧ (∀ b j, oj = some j → ω b = some j → ω' b = none) ∧ (∀ b, ω b = none → ω' b = none) ∧ ∀ b i, ω b = some i → oj ≠ some i → ω' b = some i := by
  cases oj with
  | none => exact ⟨ω, r, Evo.refl _ _, fun b i h => ⟨h, (fun e => by cases e)⟩, (fun b j e => by cases e), fun b h => h, fun b i h _ => h⟩
  | some j =>
    have hk : Keep (· < S.nx) S.res (fun i => if j = i then goneOf (S.res j) else S.res i) := Keep.updN (fun L e => by obtain ⟨n, e', _⟩ := gone_ok r.h ω _ e; cases e') (fun L e => by obtain ⟨n, e', _⟩ := gone_ok r.h ω _ e; cases e')
    refine ⟨ownD ω j, ⟨?_, ?_, r.d⟩, ⟨Nat.le_refl _, Agree.refl _ _, ?_, rfl, Ext.set _ _ _⟩, fun b i h => ?_, fun b k e h => ?_, fun b h => ?_, fun b i h hne => ownD_old h fun e => hne (by rw [e])⟩
    · show HRel _ (S.set j (goneOf (S.res j))).res _ _ _ _ _
      rw [res_set]; exact r.h.release (hj j rfl) _ (gone_ok r.h _)
    · show TRel _ (S.set j (goneOf (S.res j))).res _ _ _ _
      rw [res_set]; exact r.t.mono (fun _ h => h) hk (Agree.refl _ _)
    · show Keep _ _ (S.set j (goneOf (S.res j))).res
      rw [res_set]; exact hk
    · obtain ⟨h1, h2⟩ := ownD_inv h
      exact ⟨h1, fun e => h2 (by cases e; rfl)⟩
    · cases e; exact ownD_none h
    · unfold ownD; rw [h]; simp

/-! ### append -/
theorem appDst_ok (H : HRel (· < S.nx) S.res α ω B w0 w) {f : Fl} {dst : SV} {oj : Option Nat} {l : List f.ty} (h : appDst S f dst = some (oj, l)) (hg : dst.good (· < S.nx) S.res) :
    LRep w f l (dst.den α) (fun b => ∃ j, oj = some j ∧ ω b = some j) true ∧ dst ≠ .any ∧ (∀ j, oj = some j → j < S.nx) ∧ ∀ j, oj = some j → ∃ r, S.res j = some r ∧ ∀ L, r ≠ .lists L := by
  unfold appDst at h
  split at h
  · cases h
    exact ⟨⟨(fun x hx => by cases hx), by simp, .inl ⟨none, 0, rfl, rfl, fun _ => rfl⟩⟩, (fun e => by cases e), (fun j e => by cases e), fun j e => by cases e⟩
  · rename_i j
    split at h
    · rename_i L hj
      split at h
      · rename_i hf ho
        cases h
        have h1 : LRep w L.f L.l (α.sv j) (mineOf ω B j L.own) L.own := H.rel j _ hj
        refine ⟨?_, (fun e => by cases e), (fun j' e => by cases e; exact hg), fun j' e => by cases e; exact ⟨_, hj, fun L e => by cases e⟩⟩
        have e := feq_eq hf
        obtain ⟨f', l', own⟩ := L
        simp only at e ho h1 ⊢
        subst e ho
        exact h1.frame fun b _ hm => ⟨⟨j, rfl, by unfold mineOf at hm; simpa using hm⟩, rfl⟩
      · cases h
    · cases h
  · rename_i b len cap
    split at h
    · rename_i bx l' hb hl
      split at h
      · rename_i hs
        cases h
        have hs := Nat.eq_of_beq_eq_true hs
        have h1 := listOf_ok H hl hg
        obtain ⟨h2, h3⟩ : RRel α ω B w b (.box bx) := H.rel b _ hb
        refine ⟨?_, (fun e => by cases e), (fun j' e => by cases e; exact hg), fun j' e => by cases e; exact ⟨_, hb, fun L e => by cases e⟩⟩
        obtain ⟨k1, k2, k3⟩ := h1
        refine ⟨k1, k2, ?_⟩
        rcases k3 with ⟨a', cap', e1, e2, _⟩ | ⟨blk, off, cap', cs, ty, fz, e1, e2, e3, _, e5, _⟩
        · have e1 : Value.slice (some ⟨α.blk b, 0, none⟩) len cap = .slice a' 0 cap' := e1
          cases e1
          exact .inr ⟨α.blk b, 0, cap, _, _, _, by rw [e2]; rfl, by rw [e2]; exact Nat.zero_le _, h3, ⟨b, rfl, h2⟩, (fun i x hx => by rw [e2] at hx; cases hx), fun _ => ⟨rfl, rfl, by simpa using hs⟩⟩
        · have e1 : Value.slice (some ⟨α.blk b, 0, none⟩) len cap = .slice (some ⟨blk, off, none⟩) l.length cap' := e1
          cases e1
          rw [h3] at e3; cases e3
          exact .inr ⟨α.blk b, 0, cap, _, _, _, rfl, e2, h3, ⟨b, rfl, h2⟩, e5, fun _ => ⟨rfl, rfl, by simpa using hs⟩⟩
      · cases h
    · cases h
  · cases h
theorem appDsts_ok (H : HRel (· < S.nx) S.res α ω B w0 w) {f : Fl} {dst : SV} {oj : Option Nat} {ll : List (List f.ty)} (h : appDsts S f dst = some (oj, ll)) (hg : dst.good (· < S.nx) S.res) :
    ∃ rv, LLRep w f ll (dst.den α) rv (fun b => ∃ j, oj = some j ∧ ω b = some j) true ∧ dst ≠ .any ∧ (∀ j, oj = some j → j < S.nx) ∧ ∀ j, oj = some j → ∃ L, S.res j = some (.lists L) := by
  unfold appDsts at h
  split at h
  · cases h
    exact ⟨fun _ => undef, ⟨(fun i l hl => by cases hl), by simp, .inl ⟨none, 0, rfl, rfl, fun _ => rfl⟩⟩, (fun e => by cases e), (fun j e => by cases e), fun j e => by cases e⟩
  · rename_i j
    split at h
    · rename_i L hj
      split at h
      · rename_i hf ho
        cases h
        have h1 : LLRep w L.f L.ll (α.sv j) (α.rv L.ver) (mineOf ω B j L.own) L.own := H.rel j _ hj
        refine ⟨α.rv L.ver, ?_, (fun e => by cases e), (fun j' e => by cases e; exact hg), fun j' e => by cases e; exact ⟨_, hj⟩⟩
        have e := feq_eq hf
        obtain ⟨f', l', ver, own⟩ := L
        simp only at e ho h1 ⊢
        subst e ho
        exact h1.frame fun b _ hm => ⟨⟨j, rfl, by unfold mineOf at hm; simpa using hm⟩, rfl⟩
      · cases h
    · cases h
  · cases h
theorem rowSrc_ok (H : HRel (· < S.nx) S.res α ω B w0 w) {f : Fl} {src : SV} {j' : Nat} {m : List f.ty} (h : rowSrc S f src = some (j', m)) (hg : src.good (· < S.nx) S.res) :
    LRep w f m (α.sv j') (fun b => ω b = some j') true ∧ src ≠ .any ∧ j' < S.nx ∧ (∃ L, S.res j' = some (.list L)) ∧ ∃ ad xc, src.den α = .slice (some ad) 1 xc ∧ w.cell? ad = some (α.sv j') := by
  unfold rowSrc at h
  split at h
  · rename_i b cap
    split at h
    · rename_i j ty hb
      split at h
      · rename_i L hj
        split at h
        · rename_i hf ho
          cases h
          have h1 : LRep w L.f L.l (α.sv j') (mineOf ω B j' L.own) L.own := H.rel j' _ hj
          obtain ⟨h2, h3⟩ : RRel α ω B w b (.box ⟨[.sl j'], ty⟩) := H.rel b _ hb
          refine ⟨?_, (fun e => by cases e), H.dec j' _ hj, ⟨_, hj⟩, ⟨α.blk b, 0, none⟩, cap, rfl, ?_⟩
          · have e := feq_eq hf
            obtain ⟨f', l', own⟩ := L
            simp only at e ho h1 ⊢
            subst e ho
            exact h1.frame fun b _ hm => ⟨by unfold mineOf at hm; simpa using hm, rfl⟩
          · rw [cell_of h3]; rfl
        · cases h
      · cases h
    · cases h
  · cases h
theorem append_run {o : Oper} {args : Array Operand} {ts : Array TypeId} (ho : o.op = .call { callee := .builtin .append, args := args, argTypes := ts }) {x y : Operand} {t t' : TypeId} (has : args.toList = [x, y]) (hts : ts.toList = [t, t'])
    {P : Program} {v : Value} {w' : World} (h : (Builtin.append_ #[t, t'] o.type #[a.eval x, a.eval y]).run P w = .ok v w') : (execOp a.eval o).run P w = .ok (.value v) w' := by
  have e1 : args = #[x, y] := by rw [← Array.toArray_toList (xs := args), has]
  have e2 : ts = #[t, t'] := by rw [← Array.toArray_toList (xs := ts), hts]
  subst e1 e2
  simp only [execOp, ho, resolve, invoke, builtin, Sem.run_bind, Sem.run_pure, Result.andThen_ok, List.map_toArray, List.map_cons, List.map_nil, h]
/-- Where an appended list lies. -/
theorem below_of {B : Nat} {w0 w w' : World} (H : Below B w0 w) (hB : B ≤ w.heap.size) (h1 : w'.os = w.os) (h2 : w'.tape = w.tape) (h3 : OutD w w') (h4 : w.heap.size ≤ w'.heap.size) {g : Nat} (hg : B ≤ g) (h : ∀ b, b < w.heap.size → b ≠ g → w'.heap[b]? = w.heap[b]?) : Below B w0 w' :=
  H.trans ⟨⟨h1, h2, h3.out, h4, fun k hk => h k (by omega) (by omega)⟩, h3.drawn⟩
theorem grown_flat (hE : ElsOk E) (r : Rel S α ω B w0 a w) {t e : TypeId} {f : Fl} (hu : E.P.underlying t = some (.slice e)) (he : look E.els e = some f) {dst src : SV} {oj : Option Nat} {l m : List f.ty} (hd : appDst S f dst = some (oj, l)) (hm : S.listOf f src = some m)
    (gd : dst.good (· < S.nx) S.res) (gs : src.good (· < S.nx) S.res) (hs : lfit f.bytes (lapp l m)) (ty : TypeId) (d : Option Tmp) :
    ∃ v w' α' ω', (Builtin.append_ #[t, t] ty #[dst.den α, src.den α]).run E.P w = .ok v w' ∧ Evo S ((((S.drop oj).drop none).add [.list ⟨f, lapp l m, true⟩]).put d (.w (.c (.sl S.nx)))) α α' ∧
      Rel ((((S.drop oj).drop none).add [.list ⟨f, lapp l m, true⟩]).put d (.w (.c (.sl S.nx)))) α' ω' B w0 (a.put d v) w' := by
  obtain ⟨d1, _, d3, _⟩ := appDst_ok r.h hd gd
  have s1 := listOf_ok r.h hm gs
  obtain ⟨i, z, hi, i1, i2, hz, i3⟩ := (hE (e, f) (look_mem he)).ok
  dsimp only at hi i1 i2 i3
  obtain ⟨base, sCap, e1, hdst⟩ := d1.dst
  obtain ⟨xa, xc, e2, _, hsrc⟩ := s1.src
  have hfit : (l.length + m.length) * f.bytes ≤ room := by
    have : (lapp l m).length * f.bytes ≤ 140737488355328 := hs
    rw [lapp, List.length_append] at this; exact this
  have hzs : z.cells.size = i.size := by rw [i1, ← Array.length_toList, i3, vals_len]
  obtain ⟨v', w', hrun, q1, q2, q3, q4, q5⟩ := raw_append (P := E.P) w t ty e i z hu hi hz hzs (by rw [i2]; exact bytes_pos f) base l.length sCap (l.flatMap f.vals) (by rw [i1]; exact flat_len (vals_len f) l)
    (by rcases hdst with h | ⟨g, cs, te, h1, _, h3, h4, h5, h6⟩
        · exact .inl h
        · exact .inr ⟨g, cs, te, h1, h3, by rw [i1]; exact h4, h5, h6⟩)
    xa m.length xc (m.flatMap f.vals) (by rw [i1]; exact flat_len (vals_len f) m) (by rcases hsrc with h | ⟨ad, h1, h2⟩; exact .inl h; exact .inr ⟨ad, h1, h2⟩) flat_one (by rw [i2]; exact hfit)
  obtain ⟨ω1, r1, ev1, o1, o2, o3, o4⟩ := r.dropped oj d3
  have hokv : ∀ x ∈ lapp l m, f.okv x := fun x hx => by
    rcases List.mem_append.1 hx with hx | hx
    · exact d1.1 x hx
    · exact s1.1 x hx
  -- the new list
  have key : ∃ α' ω', HRel (DN (· < S.nx) S.nx 1) (addR (S.drop oj).res S.nx [.list ⟨f, lapp l m, true⟩]) α' ω' B w0 w' ∧ Agree (· < S.nx) α α' ∧ α'.sv S.nx = v' := by
    have H1 := r1.h
    rw [drop_nx] at H1
    rcases q5 with ⟨a1, a2, a3, a4⟩ | ⟨g, cap, cs, te, a1, a2, a3, a4, a5, a6, a7⟩
    · subst a4
      have hnil : lapp l m = [] := by
        rw [lapp, List.eq_nil_of_length_eq_zero a1, List.eq_nil_of_length_eq_zero a2]; rfl
      obtain ⟨α', ω', k1, k2, k3, _⟩ := list_new (n := S.nx) H1 (Nat.lt_irrefl _) (f := f) (l := lapp l m) (v := v') H1.bel (Nat.le_refl _) (fun _ _ _ => rfl) (fun _ => True) ⟨hokv, hs, .inl ⟨_, 0, a3, hnil, fun _ => rfl⟩⟩
      exact ⟨α', ω', k1, k2, k3⟩
    · have hgB : B ≤ g ∧ ω1 g = none := by
        rcases a7 with ⟨b1, b2, b3⟩ | b1
        · rcases hdst with h1 | ⟨g', cs', te', h1, ⟨jj, h2, h2'⟩, _⟩
          · exact absurd h1 b3
          · rw [b1] at h1; cases h1
            exact ⟨(r.h.own _ _ h2').1, o2 _ _ h2 h2'⟩
        · rw [b1]; exact ⟨r.h.base, o3 _ (below_none r.h)⟩
      obtain ⟨α', ω', k1, k2, k3, _⟩ := list_new (n := S.nx) H1 (Nat.lt_irrefl _) (f := f) (l := lapp l m) (v := v') (below_of H1.bel H1.base q1 q2 q3 q4 hgB.1 a6) q4 (fun b i hb => a6 b (H1.own b i hb).2.1 fun e => by rw [e, hgB.2] at hb; cases hb) (fun _ => True) (by
        have := LRep.of (w := w') (f := f) (l := lapp l m) (m := fun b => True ∧ ω1 b = none ∧ B ≤ b) hokv hs a3 ⟨trivial, hgB.2, hgB.1⟩ (by rw [lapp, List.length_append]; exact a2) (by rw [a4, i1]) (fun k u hk => a5 k u (by rw [lapp, List.flatMap_append] at hk; exact hk))
        rw [a1]
        rw [lapp, List.length_append] at this
        exact this)
      exact ⟨α', ω', k1, k2, k3⟩
  obtain ⟨α', ω', k1, k2, k3⟩ := key
  have hnx : ((S.drop oj).drop none).nx = S.nx := drop_nx S oj
  obtain ⟨z1, z2⟩ := Rel.added (S := (S.drop oj).drop none) r1 (rs := [.list ⟨f, lapp l m, true⟩]) (by rw [hnx]; exact k1) (by rw [hnx]; exact k2) (v := .w (.c (.sl S.nx))) (.inr (by rw [hnx]; exact ⟨Nat.le_refl _, Nat.lt_succ_self _⟩)) d (x := v') (fun _ => k3.symm)
  exact ⟨v', w', α', ω', by rw [e1, e2]; exact hrun, ev1.trans z1, z2⟩
/-- An append to a list of the call's own, wherever the state stands. -/
theorem grown_at (hE : ElsOk E) {D : Nat → Prop} (H : HRel D S.res α ω B w0 w) {t e : TypeId} {f : Fl} (hu : E.P.underlying t = some (.slice e)) (he : look E.els e = some f) {src : SV} {j : Nat} {L : LB} {m : List f.ty} (hj : S.res j = some (.list L)) (hf : feq L.f f = true) (ho : L.own = true) (hm : S.listOf f src = some m)
    (gj : D j) (gs : src.good D S.res) (hn : ¬ D S.nx) (hs : lfit f.bytes (lapp ((feq_eq hf) ▸ L.l) m)) (ty : TypeId) :
    ∃ v w' α' ω', (Builtin.append_ #[t, t] ty #[α.sv j, src.den α]).run E.P w = .ok v w' ∧
      HRel (DN D S.nx 1) (addR (fun i => if j = i then some (.gone (lenI L.l)) else S.res i) S.nx [.list ⟨f, lapp ((feq_eq hf) ▸ L.l) m, true⟩]) α' ω' B w0 w' ∧ Agree D α α' ∧ α'.sv S.nx = v := by
  have e0 := feq_eq hf
  obtain ⟨f', l, own'⟩ := L
  simp only at e0 ho hs hj ⊢
  subst e0 ho
  have h1 : LRep w f' l (α.sv j) (mineOf ω B j true) true := H.rel j _ hj
  have d1 : LRep w f' l (α.sv j) (fun b => ω b = some j) true := h1.frame fun b _ hm => ⟨by unfold mineOf at hm; simpa using hm, rfl⟩
  have s1 := listOf_ok H hm gs
  obtain ⟨i, z, hi, i1, i2, hz, i3⟩ := (hE (e, f') (look_mem he)).ok
  dsimp only at hi i1 i2 i3
  obtain ⟨base, sCap, e1, hdst⟩ := d1.dst
  obtain ⟨xa, xc, e2, _, hsrc⟩ := s1.src
  have hfit : (l.length + m.length) * f'.bytes ≤ room := by
    have : (lapp l m).length * f'.bytes ≤ 140737488355328 := hs
    rw [lapp, List.length_append] at this; exact this
  have hzs : z.cells.size = i.size := by rw [i1, ← Array.length_toList, i3, vals_len]
  obtain ⟨v', w', hrun, q1, q2, q3, q4, q5⟩ := raw_append (P := E.P) w t ty e i z hu hi hz hzs (by rw [i2]; exact bytes_pos f') base l.length sCap (l.flatMap f'.vals) (by rw [i1]; exact flat_len (vals_len f') l)
    (by rcases hdst with h | ⟨g, cs, te, h1, _, h3, h4, h5, h6⟩
        · exact .inl h
        · exact .inr ⟨g, cs, te, h1, h3, by rw [i1]; exact h4, h5, h6⟩)
    xa m.length xc (m.flatMap f'.vals) (by rw [i1]; exact flat_len (vals_len f') m) (by rcases hsrc with h | ⟨ad, h1, h2⟩; exact .inl h; exact .inr ⟨ad, h1, h2⟩) flat_one (by rw [i2]; exact hfit)
  have hg : goneOf (S.res j) = some (.gone (lenI l)) := by rw [hj]; rfl
  have H1 : HRel D (fun i => if j = i then some (.gone (lenI l)) else S.res i) α (ownD ω j) B w0 w := H.release gj (some (.gone (lenI l))) (by rw [← hg]; exact gone_ok H _)
  have hokv : ∀ x ∈ lapp l m, f'.okv x := fun x hx => by
    rcases List.mem_append.1 hx with hx | hx
    · exact d1.1 x hx
    · exact s1.1 x hx
  rcases q5 with ⟨a1, a2, a3, a4⟩ | ⟨g, cap, cs, te, a1, a2, a3, a4, a5, a6, a7⟩
  · subst a4
    have hnil : lapp l m = [] := by
      rw [lapp, List.eq_nil_of_length_eq_zero a1, List.eq_nil_of_length_eq_zero a2]; rfl
    obtain ⟨α', ω', k1, k2, k3, _⟩ := list_new (n := S.nx) H1 hn (f := f') (l := lapp l m) (v := v') H1.bel (Nat.le_refl _) (fun _ _ _ => rfl) (fun _ => True) ⟨hokv, hs, .inl ⟨_, 0, a3, hnil, fun _ => rfl⟩⟩
    exact ⟨v', _, α', ω', by rw [e1, e2]; exact hrun, k1, k2, k3⟩
  · have hgB : B ≤ g ∧ ownD ω j g = none := by
      rcases a7 with ⟨b1, b2, b3⟩ | b1
      · rcases hdst with h1 | ⟨g', cs', te', h1, h2', _⟩
        · exact absurd h1 b3
        · rw [b1] at h1; cases h1
          exact ⟨(H.own _ _ h2').1, ownD_none h2'⟩
      · rw [b1]
        refine ⟨H.base, ?_⟩
        unfold ownD
        rw [below_none H]
        simp
    obtain ⟨α', ω', k1, k2, k3, _⟩ := list_new (n := S.nx) H1 hn (f := f') (l := lapp l m) (v := v') (below_of H1.bel H1.base q1 q2 q3 q4 hgB.1 a6) q4 (fun b i hb => a6 b (H1.own b i hb).2.1 fun e => by rw [e, hgB.2] at hb; cases hb) (fun _ => True) (by
      have := LRep.of (w := w') (f := f') (l := lapp l m) (m := fun b => True ∧ ownD ω j b = none ∧ B ≤ b) hokv hs a3 ⟨trivial, hgB.2, hgB.1⟩ (by rw [lapp, List.length_append]; exact a2) (by rw [a4, i1]) (fun k u hk => a5 k u (by rw [lapp, List.flatMap_append] at hk; exact hk))
      rw [a1]
      rw [lapp, List.length_append] at this
      exact this)
    exact ⟨v', w', α', ω', by rw [e1, e2]; exact hrun, k1, k2, k3⟩
end

end Go.Fx
end
section
namespace Go.Fx
open Go RowKit

section
variable {w : World} {f : Fl} {ll : List (List f.ty)} {v : Value} {rv : Nat → Value} {m : Nat → Prop}
/-- A list of lists of the call's own: where it lies. -/
theorem LLRep.dst (h : LLRep w f ll v rv m true) : ∃ base sCap, v = .slice base ll.length sCap ∧ ((ll.length = 0 ∧ sCap = 0) ∨ ∃ g cs ty, base = some ⟨g, 0, none⟩ ∧ m g ∧ w.heap[g]? = some (.cells cs ty (0, 0)) ∧ cs.size = sCap ∧ ll.length ≤ sCap ∧ (∀ i, i < ll.length → cs[i]? = some (rv i)) ∧
    ∀ i b, i < ll.length → rowBlk (rv i) = some b → b ≠ g ∧ ∀ k, k < ll.length → rowBlk (rv k) = some b → i = k) := by
  obtain ⟨_, _, h3⟩ := h
  rcases h3 with ⟨a, cap, e1, e2, e3⟩ | ⟨blk, off, cap, cs, ty, fz, e1, e2, e3, e4, e5, e6⟩
  · exact ⟨a, cap, by rw [e1, e2]; rfl, .inl ⟨by rw [e2]; rfl, e3 rfl⟩⟩
  · obtain ⟨rfl, rfl, k3, k4⟩ := e6 rfl
    exact ⟨_, cap, e1, .inr ⟨blk, cs, ty, rfl, e4, e3, k3, e2, fun i hi => by have := e5 i hi; rwa [Nat.zero_add] at this, k4⟩⟩
theorem LRep.oneV {l : List f.ty} {own : Bool} (h : LRep w f l v m own) : v.oneCell' = true := by
  obtain ⟨_, _, h3⟩ := h
  rcases h3 with ⟨a, cap, rfl, _⟩ | ⟨blk, off, cap, cs, ty, fz, rfl, _⟩ <;> rfl
end
section
variable {E : Env} {S : St} {α : Al} {ω : Nat → Option Nat} {B : Nat} {w0 w : World} {a : Act}
theorem range_map_get {β : Type} {g : Nat → β} {n k : Nat} {u : β} (h : ((List.range n).map g)[k]? = some u) : k < n ∧ u = g k := by
  obtain ⟨h1, h2⟩ := List.getElem?_eq_some_iff.1 h
  simp at h1 h2
  exact ⟨h1, h2.symm⟩
theorem grown_rows (r : Rel S α ω B w0 a w) {t e : TypeId} {f : Fl} (hu : E.P.underlying t = some (.slice e)) (hr : rowT E e = true) {dst src : SV} {oj : Option Nat} {j' : Nat} {ll : List (List f.ty)} {m : List f.ty} (hd : appDsts S f dst = some (oj, ll)) (hm : rowSrc S f src = some (j', m))
    (gd : dst.good (· < S.nx) S.res) (gs : src.good (· < S.nx) S.res) (hs : lfit 24 (lapp ll [m])) (ty : TypeId) (d : Option Tmp) :
    ∃ v w' α' ω', (Builtin.append_ #[t, t] ty #[dst.den α, src.den α]).run E.P w = .ok v w' ∧ Evo S ((((S.drop oj).drop (some j')).add [.lists ⟨f, lapp ll [m], S.nx, true⟩]).put d (.w (.c (.sl S.nx)))) α α' ∧
      Rel ((((S.drop oj).drop (some j')).add [.lists ⟨f, lapp ll [m], S.nx, true⟩]).put d (.w (.c (.sl S.nx)))) α' ω' B w0 (a.put d v) w' := by
  obtain ⟨rv, d1, _, d3, d4⟩ := appDsts_ok r.h hd gd
  obtain ⟨s1, _, s3, ⟨Lr, s4⟩, ad, xc, s5, s6⟩ := rowSrc_ok r.h hm gs
  obtain ⟨i, hi, i1, i2, hz⟩ := rowT_ok hr
  obtain ⟨base, sCap, e1, hdst⟩ := d1.dst
  have hne : oj ≠ some j' := fun e => by
    obtain ⟨L, hL⟩ := d4 j' e
    rw [s4] at hL; cases hL
  have hfit : (ll.length + 1) * 24 ≤ room := by
    have : (lapp ll [m]).length * 24 ≤ 140737488355328 := hs
    rw [lapp, List.length_append] at this; exact this
  obtain ⟨v', w', hrun, q1, q2, q3, q4, q5⟩ := raw_append (P := E.P) w t ty e i _ hu hi hz (by rw [i1]; rfl) (by rw [i2]; decide) base ll.length sCap ((List.range ll.length).map rv) (by simp [i1])
    (by rcases hdst with h | ⟨g, cs, te, h1, _, h3, h4, h5, h6, _⟩
        · exact .inl h
        · exact .inr ⟨g, cs, te, h1, h3, by rw [i1, h4, Nat.mul_one], h5, fun k u hk => by obtain ⟨k1, rfl⟩ := range_map_get hk; exact h6 k k1⟩)
    (some ad) 1 xc [α.sv j'] (by simp [i1]) (.inr ⟨ad, rfl, fun j u hu => by
      cases j with
      | zero => cases hu; rw [show ad.add 0 = ad by unfold Addr.add; simp]; exact s6
      | succ j => cases hu⟩) (fun u hu => by rw [List.mem_singleton.1 hu]; exact r.h.one j') (by rw [i2]; exact hfit)
  obtain ⟨ω1, r1, ev1, o1, o2, o3, o4⟩ := r.dropped oj d3
  obtain ⟨ω2, r2, ev2, p1, p2, p3, _⟩ := r1.dropped (some j') (fun x e => by cases e; rw [drop_nx]; exact s3)
  have hnx : ((S.drop oj).drop (some j')).nx = S.nx := by rw [drop_nx, drop_nx]
  have free : ∀ b, (∃ j, oj = some j ∧ ω b = some j) ∨ ω b = some j' → ω2 b = none ∧ B ≤ b := fun b h => by
    rcases h with ⟨j, h1, h2⟩ | h
    · exact ⟨p3 _ (o2 b j h1 h2), (r.h.own _ _ h2).1⟩
    · exact ⟨p2 b j' rfl (o4 b j' h hne), (r.h.own _ _ h).1⟩
  rcases q5 with ⟨_, a2, _⟩ | ⟨g, cap, cs, te, a1, a2, a3, a4, a5, a6, a7⟩
  · omega
  · have hgB : B ≤ g ∧ ω2 g = none ∧ (∀ i b, i < ll.length → rowBlk (rv i) = some b → b ≠ g ∧ ∀ k, k < ll.length → rowBlk (rv k) = some b → i = k) ∧ ω g ≠ some j' := by
      rcases a7 with ⟨b1, b2, b3⟩ | b1
      · rcases hdst with h1 | ⟨g', cs', te', h1, ⟨jj, h2, h2'⟩, _, _, _, _, h7⟩
        · exact absurd h1 b3
        · rw [b1] at h1; cases h1
          obtain ⟨f1, f2⟩ := free g (.inl ⟨jj, h2, h2'⟩)
          exact ⟨f2, f1, h7, fun e => by rw [h2'] at e; cases e; exact hne h2⟩
      · have hn := below_none r.h
        refine ⟨by rw [b1]; exact r.h.base, by rw [b1]; exact p3 _ (o3 _ hn), fun i b hi hb => ?_, by rw [b1, hn]; exact fun e => by cases e⟩
        rcases hdst with h1 | ⟨g', cs', te', h1, h2, h3, _, _, _, h7⟩
        · omega
        · have hlt := ((d1.1 i _ (List.getElem?_eq_getElem hi)).rowBlk hb).2
          exact ⟨by omega, fun k hk hb' => (h7 i b hi hb).2 k hk hb'⟩
    obtain ⟨g1, g2, g3, g4⟩ := hgB
    let rv' : Nat → Value := fun i => if i < ll.length then rv i else α.sv j'
    have rvlt : ∀ i, i < ll.length → rv' i = rv i := fun i hi => if_pos hi
    have rvge : rv' ll.length = α.sv j' := if_neg (Nat.lt_irrefl _)
    have hcell : ∀ i, i < ll.length + 1 → cs[i]? = some (rv' i) := fun i hi => by
      refine a5 i _ ?_
      by_cases h : i < ll.length
      · rw [List.getElem?_append_left (by simpa using h), rvlt i h]; simp [h]
      · have : i = ll.length := by omega
        subst this
        rw [List.getElem?_append_right (by simp), rvge]; simp
    have rowNew : LRep w' f m (α.sv j') (fun b => True ∧ ω2 b = none ∧ B ≤ b) true := s1.frame1 fun b hb => by
      obtain ⟨b1, b2⟩ := s1.rowBlk hb
      have := free b (.inr b1)
      exact ⟨a6 b b2 fun e => g4 (by rw [← e]; exact b1), trivial, this.1, this.2⟩
    have hrep : LLRep w' f (lapp ll [m]) v' rv' (fun b => True ∧ ω2 b = none ∧ B ≤ b) true := by
      have hlen : (lapp ll [m]).length = ll.length + 1 := by rw [lapp, List.length_append]; rfl
      refine ⟨fun i l hl => ?_, hs, .inr ⟨g, 0, cap, cs, te, (0, 0), by rw [hlen]; exact a1, by rw [hlen]; exact a2, a3, ⟨trivial, g2, g1⟩, fun i hi => by rw [Nat.zero_add]; exact hcell i (by rw [hlen] at hi; exact hi), fun _ => ⟨rfl, rfl, by rw [a4, i1, Nat.mul_one], fun i b hi hb => ?_⟩⟩⟩
      · rw [lapp] at hl
        by_cases h : i < ll.length
        · rw [List.getElem?_append_left h] at hl
          rw [rvlt i h]
          refine (d1.1 i l hl).frame1 fun b hb => ?_
          obtain ⟨b1, b2⟩ := (d1.1 i l hl).rowBlk hb
          have := free b (.inl b1)
          exact ⟨a6 b b2 (g3 i b h hb).1, trivial, this.1, this.2⟩
        · rw [List.getElem?_append_right (by omega)] at hl
          have hlt := (List.getElem?_eq_some_iff.1 hl).1
          have : i = ll.length := by simp at hlt; omega
          subst this
          simp at hl
          subst hl
          rw [rvge]; exact rowNew
      · rw [hlen] at hi
        have newRow : ∀ b, rowBlk (rv' ll.length) = some b → ω b = some j' ∧ b ≠ g := fun b hb => by
          rw [rvge] at hb
          obtain ⟨b1, _⟩ := s1.rowBlk hb
          exact ⟨b1, fun e => g4 (by rw [← e]; exact b1)⟩
        have oldRow : ∀ i b, i < ll.length → rowBlk (rv' i) = some b → (∃ j, oj = some j ∧ ω b = some j) ∧ b ≠ g := fun i b hi hb => by
          rw [rvlt i hi] at hb
          exact ⟨((d1.1 i _ (List.getElem?_eq_getElem hi)).rowBlk hb).1, (g3 i b hi hb).1⟩
        have nOld : ∀ i b, i < ll.length → rowBlk (rv' i) = some b → rowBlk (rv' ll.length) = some b → False := fun i b hi h1 h2 => by
          obtain ⟨⟨j, h3, h4⟩, _⟩ := oldRow i b hi h1
          rw [(newRow b h2).1] at h4; cases h4
          exact hne h3
        by_cases h : i < ll.length
        · refine ⟨(oldRow i b h hb).2, fun k hk hb' => ?_⟩
          by_cases h' : k < ll.length
          · rw [rvlt i h] at hb
            rw [rvlt k h'] at hb'
            exact (g3 i b h hb).2 k h' hb'
          · have : k = ll.length := by rw [hlen] at hk; omega
            subst this
            exact (nOld i b h hb hb').elim
        · have : i = ll.length := by omega
          subst this
          refine ⟨(newRow b hb).2, fun k hk hb' => ?_⟩
          by_cases h' : k < ll.length
          · exact (nOld k b h' hb' hb).elim
          · rw [hlen] at hk; omega
    have H2 := r2.h
    rw [hnx] at H2
    obtain ⟨α', ω', k1, k2, k3, _⟩ := lists_new (n := S.nx) H2 (Nat.lt_irrefl _) (f := f) (ll := lapp ll [m]) (v := v') (rv := rv') (below_of H2.bel H2.base q1 q2 q3 q4 g1 a6) q4 (fun b i hb => a6 b (H2.own b i hb).2.1 fun e => by rw [e, g2] at hb; cases hb) (fun _ => True) hrep
    obtain ⟨z1, z2⟩ := Rel.added (S := (S.drop oj).drop (some j')) r2 (rs := [.lists ⟨f, lapp ll [m], S.nx, true⟩]) (by rw [hnx]; exact k1) (by rw [hnx]; exact k2) (v := .w (.c (.sl S.nx))) (.inr (by rw [hnx]; exact ⟨Nat.le_refl _, Nat.lt_succ_self _⟩)) d (x := v') (fun _ => k3.symm)
    exact ⟨v', w', α', ω', by rw [e1, s5]; exact hrun, (ev1.trans ev2).trans z1, z2⟩

/-! ### A range written over -/
theorem flat_take {β : Type} {g : β → List Value} {n : Nat} (hg : ∀ x, (g x).length = n) : ∀ (l : List β) (i : Nat), (l.take i).flatMap g = (l.flatMap g).take (i * n)
  | [], i => by simp
  | x :: r, 0 => by simp
  | x :: r, i + 1 => by
    rw [List.take_succ_cons, List.flatMap_cons, List.flatMap_cons, flat_take hg r i, Nat.succ_mul, List.take_append, List.take_of_length_le (l := g x) (by rw [hg]; omega), hg, show i * n + n - n = i * n by omega]
theorem flat_drop {β : Type} {g : β → List Value} {n : Nat} (hg : ∀ x, (g x).length = n) : ∀ (l : List β) (i : Nat), (l.drop i).flatMap g = (l.flatMap g).drop (i * n)
  | [], i => by simp
  | x :: r, 0 => by simp
  | x :: r, i + 1 => by
    rw [List.drop_succ_cons, List.flatMap_cons, flat_drop hg r i, Nat.succ_mul, List.drop_append, List.drop_of_length_le (l := g x) (by rw [hg]; omega), hg, show i * n + n - n = i * n by omega, List.nil_append]
theorem lput_len {β : Type} {l m : List β} {i : Int} (h0 : 0 ≤ i) (h : i + (m.length : Int) ≤ (l.length : Int)) : (lput l i m).length = l.length := by
  unfold lput; simp only [List.length_append, List.length_take, List.length_drop]; omega
theorem lput_nil {β : Type} (l : List β) (i : Int) : lput l i [] = l := by unfold lput; simp
/-- What stands in a list of the call's own is written over. -/
theorem write_range (r : Rel S α ω B w0 a w) {j : Nat} {L : LB} (hj : S.res j = some (.list L)) (ho : L.own = true) {lo : Int} {m : List L.f.ty} (h0 : 0 ≤ lo) (hle : lo + (m.length : Int) ≤ (L.l.length : Int)) (hm : ∀ x ∈ m, L.f.okv x) :
    ∃ base sCap, α.sv j = .slice base L.l.length sCap ∧ L.l.length ≤ sCap ∧
      ((m = [] ∧ Evo S (S.set j (some (.list ⟨L.f, lput L.l lo m, true⟩))) α α ∧ Rel (S.set j (some (.list ⟨L.f, lput L.l lo m, true⟩))) α ω B w0 a w) ∨
       ∃ g w', base = some ⟨g, 0, none⟩ ∧ (storeCells ⟨g, lo.toNat * L.f.ks.length, none⟩ (m.flatMap L.f.vals) 0).run E.P w = .ok () w' ∧
         Evo S (S.set j (some (.list ⟨L.f, lput L.l lo m, true⟩))) α α ∧ Rel (S.set j (some (.list ⟨L.f, lput L.l lo m, true⟩))) α ω B w0 a w') := by
  have hrel : LRep w L.f L.l (α.sv j) (mineOf ω B j L.own) L.own := r.h.rel j _ hj
  rw [ho] at hrel
  have hlen := lput_len h0 hle
  have hk : Keep (· < S.nx) S.res (fun i => if j = i then some (.list ⟨L.f, lput L.l lo m, true⟩) else S.res i) := Keep.updL hj rfl hlen.symm
  have hd : j < S.nx := r.h.dec j _ hj
  obtain ⟨base, sCap, e1, hdst⟩ := hrel.dst
  by_cases hnil : m = []
  · subst hnil
    refine ⟨base, sCap, e1, ?_, .inl ⟨rfl, ?_⟩⟩
    · rcases hdst with ⟨h1, h2⟩ | ⟨g, cs, te, h1, h2, h3, h4, h5, h6⟩ <;> omega
    · have hr : RRel α ω B w j (.list ⟨L.f, lput L.l lo [], true⟩) := by
        show LRep w L.f (lput L.l lo []) (α.sv j) (mineOf ω B j true) true
        rw [lput_nil]; exact hrel
      exact set_rel r (r.h.setOwn (r' := .list ⟨L.f, lput L.l lo [], true⟩) hd r.h.bel (Nat.le_refl _) (fun _ _ _ _ => rfl) hr hk (fun b e => by cases e) (fun L e => by cases e)) hk
  · have hpos : 0 < m.length := List.length_pos_iff.2 hnil
    obtain ⟨g, cs, te, rfl, hmi, hg, hsz, hcap, hcs⟩ := hdst.resolve_left fun e => by have := e.1; omega
    have hfl := flat_len (vals_len L.f) m
    have hoff : lo.toNat * L.f.ks.length + m.length * L.f.ks.length ≤ cs.size := by
      rw [← Nat.add_mul, hsz]; exact Nat.mul_le_mul_right _ (by omega)
    obtain ⟨w', q1, q2, q3, q4, q5, q6, q7⟩ := write_cells (P := E.P) hg (o := lo.toNat * L.f.ks.length) (vs := m.flatMap L.f.vals) (by rw [hfl]; exact hoff) flat_one
    have hmine : ω g = some j := by
      have := hmi; unfold mineOf at this; simpa using this
    have hB := (r.h.own _ _ hmine).1
    have hflat : (lput L.l lo m).flatMap L.f.vals = (L.l.flatMap L.f.vals).take (lo.toNat * L.f.ks.length) ++ m.flatMap L.f.vals ++ (L.l.flatMap L.f.vals).drop (lo.toNat * L.f.ks.length + (m.flatMap L.f.vals).length) := by
      unfold lput
      rw [List.flatMap_append, List.flatMap_append, flat_take (vals_len L.f), flat_drop (vals_len L.f), Nat.add_mul, hfl]
    have hl2 : lo.toNat * L.f.ks.length + (m.flatMap L.f.vals).length ≤ (L.l.flatMap L.f.vals).length := by
      rw [hfl, flat_len (vals_len L.f), ← Nat.add_mul]; exact Nat.mul_le_mul_right _ (by omega)
    have hcsl : cs.toList.length = cs.size := Array.length_toList
    have hsize' : (cs.toList.take (lo.toNat * L.f.ks.length) ++ m.flatMap L.f.vals ++ cs.toList.drop (lo.toNat * L.f.ks.length + (m.flatMap L.f.vals).length)).toArray.size = sCap * L.f.ks.length := by
      rw [List.size_toArray]
      simp only [List.length_append, List.length_take, List.length_drop, hfl, hcsl]; omega
    have hrep : LRep w' L.f (lput L.l lo m) (α.sv j) (mineOf ω B j true) true := by
      have := LRep.of (w := w') (m := mineOf ω B j true) (f := L.f) (l := lput L.l lo m) (fun x hx => by
        unfold lput at hx
        rcases List.mem_append.1 hx with hx | hx
        · rcases List.mem_append.1 hx with hx | hx
          · exact hrel.1 x (List.mem_of_mem_take hx)
          · exact hm x hx
        · exact hrel.1 x (List.mem_of_mem_drop hx)) (by rw [hlen]; exact hrel.2.1) q2 hmi (by rw [hlen]; exact hcap) hsize' (fun k u hk => by
        rw [hflat, splice_get hl2] at hk
        rw [List.getElem?_toArray, splice_get (by simpa [hfl] using hoff)]
        split
        · rename_i h1; rw [if_pos h1] at hk; have := hcs k u hk; simpa using this
        · rename_i h1
          rw [if_neg h1] at hk
          split
          · rename_i h2; rw [if_pos h2] at hk; exact hk
          · rename_i h2; rw [if_neg h2] at hk; have := hcs k u hk; simpa using this)
      rw [hlen] at this
      rw [e1]; exact this
    have HS := r.h.setOwn (r' := .list ⟨L.f, lput L.l lo m, true⟩) hd (r.h.bel.trans ⟨⟨q5, q6, q7.out, by omega, fun k hk' => q4 k (by omega)⟩, q7.drawn⟩) (by omega) (fun b i' hb' hne => q4 b fun e => hne (by rw [e, hmine] at hb'; cases hb'; rfl)) hrep hk (fun b e => by cases e) (fun L e => by cases e)
    obtain ⟨z1, z2⟩ := set_rel r HS hk
    exact ⟨_, sCap, e1, hcap, .inr ⟨g, w', rfl, q1, z1, z2⟩⟩
theorem addZ_ok {x y : SI} (hx : x.ok) : addZ x y = x.v + y.v := by
  unfold addZ
  split
  · rename_i hz
    rw [Bool.and_eq_true, ieq_iff, ieq_iff] at hz
    have := hx.1; have := hx.2; omega
  · rfl
/-- An append into a list's own room. -/
theorem put_view (hE : ElsOk E) (r : Rel S α ω B w0 a w) {t e : TypeId} (hu : E.P.underlying t = some (.slice e)) {j n : Nat} {lo len : SI} {L : LB} (hj : S.res j = some (.list L)) (ho : L.own = true) (hn : n = L.f.ks.length) (he : look E.els e = some L.f) {src : SV} {m : List L.f.ty} (hm : S.listOf L.f src = some m)
    (gd : (SC.vw j n lo len).good (· < S.nx) S.res) (gs : src.good (· < S.nx) S.res) (hs : leP (iadd (addZ lo len) (lenI m)) (lenI L.l)) (ty : TypeId) (d : Option Tmp) :
    ∃ v w', (Builtin.append_ #[t, t] ty #[(SC.vw j n lo len).den α, src.den α]).run E.P w = .ok v w' ∧
      Evo S ((S.set j (some (.list ⟨L.f, lput L.l (addZ lo len) m, true⟩))).put d (.w (.c (.vw j n lo ⟨iadd len.v (lenI m), len.lo, len.hi + 140737488355328⟩)))) α α ∧
      Rel ((S.set j (some (.list ⟨L.f, lput L.l (addZ lo len) m, true⟩))).put d (.w (.c (.vw j n lo ⟨iadd len.v (lenI m), len.lo, len.hi + 140737488355328⟩)))) α ω B w0 (a.put d v) w' := by
  obtain ⟨gd1, glo, glen, gL⟩ := gd
  obtain ⟨g1, g2, g3, g4⟩ := gL L hj
  have hadd : addZ lo len = lo.v + len.v := addZ_ok glo
  have hs' : lo.v + len.v + (m.length : Int) ≤ (L.l.length : Int) := by
    have : addZ lo len + (m.length : Int) ≤ (L.l.length : Int) := hs
    rw [hadd] at this; exact this
  have s1 := listOf_ok r.h hm gs
  obtain ⟨xa, xc, e2, hxc, hsrc⟩ := s1.src
  have hroom : m.length ≤ room := by obtain ⟨_, _, _, _, h⟩ := s1.len; exact h
  obtain ⟨i, z, hi, i1, i2, hz, i3⟩ := (hE (e, L.f) (look_mem he)).ok
  dsimp only at hi i1 i2 i3
  obtain ⟨base, sCap, b1, b2, b3⟩ := write_range (E := E) r hj ho (lo := addZ lo len) (m := m) (by rw [hadd]; omega) (by rw [hadd]; exact hs') s1.1
  -- the new header
  have good : ∀ S' : St, S'.nx = S.nx → S'.res = (fun i => if j = i then some (.list ⟨L.f, lput L.l (addZ lo len) m, true⟩) else S.res i) → (SV.w (.c (.vw j n lo ⟨iadd len.v (lenI m), len.lo, len.hi + 140737488355328⟩))).good (· < S'.nx) S'.res := fun S' h1 h2 => by
    rw [h1, h2]
    refine ⟨gd1, glo, ⟨?_, ?_⟩, fun L' hL' => ?_⟩
    · show len.lo ≤ len.v + (m.length : Int); have := glen.1; omega
    · show len.v + (m.length : Int) ≤ len.hi + 140737488355328; have := glen.2; unfold room at hroom; omega
    · simp only [if_true] at hL'; cases hL'
      refine ⟨hn, g2, ?_, ?_⟩
      · show 0 ≤ len.v + (m.length : Int); omega
      · show lo.v + (len.v + (m.length : Int)) ≤ ((lput L.l (addZ lo len) m).length : Int)
        rw [lput_len (by rw [hadd]; omega) (by rw [hadd]; exact hs')]; omega
  have den : (SV.w (.c (.vw j n lo ⟨iadd len.v (lenI m), len.lo, len.hi + 140737488355328⟩))).den α = .slice (if sCap = lo.v.toNat then base else base.map (·.add (lo.v.toNat * n))) (len.v.toNat + m.length) (sCap - lo.v.toNat) := by
    have : (iadd len.v (lenI m)).toNat = len.v.toNat + m.length := by show (len.v + (m.length : Int)).toNat = _; omega
    simp only [SV.den, SW.den, SC.den, b1, this]
  have dend : (SC.vw j n lo len).den α = .slice (if sCap = lo.v.toNat then base else base.map (·.add (lo.v.toNat * n))) len.v.toNat (sCap - lo.v.toNat) := by
    simp only [SC.den, b1]
  have hneed : len.v.toNat + m.length ≤ sCap - lo.v.toNat := by omega
  rcases b3 with ⟨c1, c2, c3⟩ | ⟨g, w', c1, c2, c3, c4⟩
  · subst c1
    refine ⟨_, w, ?_, c2.trans (Evo.put _ d _ _), c3.put (good _ rfl (res_set _ _ _)) d (fun _ => den.symm)⟩
    rw [dend, e2]
    exact run_append_zero w t ty e i hu hi _ _ _ (by simpa using hneed) xa xc
  · subst c1
    by_cases hm0 : m.length = 0
    · have : m = [] := List.eq_nil_of_length_eq_zero hm0
      subst this
      have hw : w' = w := by
        have : (storeCells ⟨g, (addZ lo len).toNat * L.f.ks.length, none⟩ (([] : List L.f.ty).flatMap L.f.vals) 0).run E.P w = .ok () w := rfl
        rw [this] at c2; cases c2; rfl
      subst hw
      refine ⟨_, w', ?_, c3.trans (Evo.put _ d _ _), c4.put (good _ rfl (res_set _ _ _)) d (fun _ => den.symm)⟩
      rw [dend, e2]
      exact run_append_zero w' t ty e i hu hi _ _ _ (by simpa using hneed) xa xc
    · obtain ⟨ad, rfl, hnews⟩ := hsrc.resolve_left hm0
      have hne : ¬ sCap = lo.v.toNat := by omega
      refine ⟨_, w', ?_, c3.trans (Evo.put _ d _ _), c4.put (good _ rfl (res_set _ _ _)) d (fun _ => den.symm)⟩
      rw [dend, e2, if_neg hne, Option.map_some, Addr.add_mid]
      have hf := run_firstCells_some (P := E.P) w i.size m.length ad m.length xc (m.flatMap L.f.vals) (by rw [i1]; exact flat_len (vals_len L.f) m) hnews
      have ha : (⟨g, 0 + lo.v.toNat * n, none⟩ : Addr).add (len.v.toNat * i.size) = ⟨g, (addZ lo len).toNat * L.f.ks.length, none⟩ := by
        rw [Addr.add_mid, hadd, i1, hn, show (lo.v + len.v).toNat = lo.v.toNat + len.v.toNat by omega, Nat.add_mul, Nat.zero_add]
      generalize (⟨g, 0 + lo.v.toNat * n, none⟩ : Addr) = A at ha ⊢
      rw [← ha] at c2
      simp [Builtin.append_, run_underlying hu, sizeOf, typeInfo, hi, Builtin.lenOf, hneed, hf]
      rw [c2]; rfl
theorem putDst_ok (r : Rel S α ω B w0 a w) {dst : SV} {j : Nat} {L : LB} {lo len : SI} (h : putDst S dst = some (j, L, lo, len)) (hg : dst.good (· < S.nx) S.res) :
    dst ≠ .any ∧ S.res j = some (.list L) ∧ L.own = true ∧ 0 ≤ lo.v ∧ 0 ≤ len.v ∧ lo.v + len.v ≤ (L.l.length : Int) ∧
      ∀ base sCap, α.sv j = .slice base L.l.length sCap → L.l.length ≤ sCap → ∃ x c, dst.den α = .slice x len.v.toNat c ∧ (0 < len.v.toNat → x = base.map (·.add (lo.v.toNat * L.f.ks.length))) ∧ (base = none → x = none) := by
  unfold putDst at h
  split at h
  · rename_i j'
    split at h
    · rename_i L' hj
      split at h
      · rename_i ho
        cases h
        refine ⟨(fun e => by cases e), hj, ho, Int.le_refl _, Int.natCast_nonneg _, by show 0 + ((L.l.length : Nat) : Int) ≤ _; omega, fun base sCap e1 e2 => ⟨base, sCap, ?_, fun _ => ?_, fun h => h⟩⟩
        · show α.sv j = _
          rw [e1]; rfl
        · cases base with
          | none => rfl
          | some b => show some b = some (b.add (0 * L.f.ks.length)); rw [Nat.zero_mul, show b.add 0 = b by unfold Addr.add; simp]
      · cases h
    · cases h
  · rename_i j' n l0 ln
    split at h
    · rename_i L' hj
      split at h
      · rename_i ho
        cases h
        rw [Bool.and_eq_true] at ho
        have hn := Nat.eq_of_beq_eq_true ho.2
        obtain ⟨_, _, _, gL⟩ := hg
        obtain ⟨g1, g2, g3, g4⟩ := gL _ hj
        refine ⟨(fun e => by cases e), hj, ho.1, g2, g3, g4, fun base sCap e1 e2 => ⟨_, _, by simp only [SV.den, SW.den, SC.den, e1]; rfl, fun hp => ?_, fun h => ?_⟩⟩
        · rw [if_neg (by omega), hn]
        · rw [h]; split <;> rfl
      · cases h
    · cases h
  · cases h
theorem copy_ok (r : Rel S α ω B w0 a w) {t e : TypeId} (hu : E.P.underlying t = some (.slice e)) {dst src : SV} {j : Nat} {L : LB} {lo len : SI} (hd : putDst S dst = some (j, L, lo, len)) {sz : Nat} (he : E.size e = some sz) (hsz : sz = L.f.ks.length) {m : List L.f.ty} (hm : S.listOf L.f src = some m)
    (gd : dst.good (· < S.nx) S.res) (gs : src.good (· < S.nx) S.res) (ts : Array TypeId) (ty : TypeId) (d : Option Tmp) (hts : ts[0]? = some t) :
    ∃ v w', (Builtin.copy_ ts ty #[dst.den α, src.den α]).run E.P w = .ok v w' ∧
      Evo S ((S.set j (some (.list ⟨L.f, lput L.l lo.v (lsub m 0 (zmin (lenI m) len.v)), true⟩))).put d (.w (.c (.int .i64 ⟨zmin (lenI m) len.v, 0, 140737488355328⟩)))) α α ∧
      Rel ((S.set j (some (.list ⟨L.f, lput L.l lo.v (lsub m 0 (zmin (lenI m) len.v)), true⟩))).put d (.w (.c (.int .i64 ⟨zmin (lenI m) len.v, 0, 140737488355328⟩)))) α ω B w0 (a.put d v) w' := by
  obtain ⟨d0, d1, d2, d3, d4, d5, d6⟩ := putDst_ok r hd gd
  have s1 := listOf_ok r.h hm gs
  obtain ⟨xa, xc, e2, hxc, hsrc⟩ := s1.src
  have hroom : m.length ≤ room := by obtain ⟨_, _, _, _, h⟩ := s1.len; exact h
  have hmin : zmin (lenI m) len.v = ((Nat.min m.length len.v.toNat : Nat) : Int) := by
    unfold zmin lenI
    show (if len.v < (m.length : Int) then len.v else (m.length : Int)) = ((min m.length len.v.toNat : Nat) : Int)
    rw [Nat.min_def]
    split <;> split <;> omega
  have hk : (lsub m 0 (zmin (lenI m) len.v)) = m.take (Nat.min m.length len.v.toNat) := by
    unfold lsub; rw [hmin]; simp
  have hkl : (m.take (Nat.min m.length len.v.toNat)).length = Nat.min m.length len.v.toNat := by
    rw [List.length_take]; exact Nat.min_eq_left (Nat.min_le_left _ _)
  have hmn : Nat.min m.length len.v.toNat ≤ len.v.toNat := Nat.min_le_right _ _
  have hmn' : Nat.min m.length len.v.toNat ≤ m.length := Nat.min_le_left _ _
  obtain ⟨base, sCap, b1, b2, b3⟩ := write_range (E := E) r d1 d2 (lo := lo.v) (m := m.take (Nat.min m.length len.v.toNat)) d3 (by rw [hkl]; omega) (fun x hx => s1.1 x (List.mem_of_mem_take hx))
  obtain ⟨x, c, f1, f2, f3⟩ := d6 base sCap b1 b2
  have gv : ∀ D R, (SV.w (.c (.int .i64 ⟨zmin (lenI m) len.v, 0, 140737488355328⟩))).good D R := fun D R => by
    rw [hmin]
    exact ⟨Int.natCast_nonneg _, by show ((Nat.min m.length len.v.toNat : Nat) : Int) ≤ 140737488355328; unfold room at hroom; omega⟩
  have hfc : ∀ w : World, w.heap = w.heap → ((m.length = 0 ∨ ∃ ad : Addr, xa = some ad ∧ ∀ (j : Nat) (u : Value), (m.flatMap L.f.vals)[j]? = some u → w.cell? (ad.add j) = some u)) → (Builtin.firstCells L.f.ks.length (Nat.min m.length len.v.toNat) (.slice xa m.length xc)).run E.P w = .ok ((m.take (Nat.min m.length len.v.toNat)).flatMap L.f.vals).toArray w := fun w _ hsrc => by
    by_cases h0 : Nat.min m.length len.v.toNat = 0
    · rw [h0]
      cases xa with
      | none => exact run_firstCells_none w _ _ _ _
      | some ad => exact run_firstCells_some w _ 0 ad _ _ [] (by simp) (fun j u hu => by cases hu)
    · obtain ⟨ad, rfl, hn⟩ := hsrc.resolve_left (by omega)
      refine run_firstCells_some w _ _ ad _ _ _ (by rw [flat_len (vals_len L.f), hkl]) fun j u hu => hn j u ?_
      rw [flat_take (vals_len L.f), List.getElem?_take] at hu
      split at hu
      · exact hu
      · cases hu
  rw [hk]
  have hcopy : ∀ w', (match x with | some a => storeCells a ((m.take (Nat.min m.length len.v.toNat)).flatMap L.f.vals) 0 | none => pure () : Sem Unit).run E.P w = .ok () w' → (Builtin.copy_ ts ty #[dst.den α, src.den α]).run E.P w = .ok (.int .i64 (zmin (lenI m) len.v)) w' := fun w' h => by
    rw [f1, e2, hmin]
    have hf := hfc w rfl hsrc
    cases x with
    | none =>
      have h : Result.ok () w = Result.ok () w' := h
      cases h
      simp [Builtin.copy_, hts, run_underlying hu, Builtin.lenOf, size_run he, hsz, hf, goInt]
    | some ad =>
      simp only at h
      simp [Builtin.copy_, hts, run_underlying hu, Builtin.lenOf, size_run he, hsz, hf, goInt, h]
  rcases b3 with ⟨c1, c2, c3⟩ | ⟨g, w', c1, c2, c3, c4⟩
  · refine ⟨_, w, hcopy w ?_, c2.trans (Evo.put _ d _ _), c3.put (gv _ _) d (fun _ => rfl)⟩
    rw [c1]
    cases x <;> rfl
  · subst c1
    by_cases h0 : len.v.toNat = 0
    · have hnil : m.take (Nat.min m.length len.v.toNat) = [] := by
        have : Nat.min m.length len.v.toNat = 0 := by omega
        rw [this, List.take_zero]
      have hw : w' = w := by
        rw [hnil] at c2
        have : (storeCells ⟨g, lo.v.toNat * L.f.ks.length, none⟩ (([] : List L.f.ty).flatMap L.f.vals) 0).run E.P w = .ok () w := rfl
        rw [this] at c2; cases c2; rfl
      subst hw
      refine ⟨_, w', hcopy w' ?_, c3.trans (Evo.put _ d _ _), c4.put (gv _ _) d (fun _ => rfl)⟩
      rw [hnil]
      cases x <;> rfl
    · have hx := f2 (by omega)
      rw [Option.map_some, Addr.add_mid, Nat.zero_add] at hx
      refine ⟨_, w', hcopy w' ?_, c3.trans (Evo.put _ d _ _), c4.put (gv _ _) d (fun _ => rfl)⟩
      rw [hx]; exact c2
theorem clear_ok (hE : ElsOk E) (r : Rel S α ω B w0 a w) {t e : TypeId} (hu : E.P.underlying t = some (.slice e)) {dst : SV} {j : Nat} {L : LB} {lo len : SI} (hd : putDst S dst = some (j, L, lo, len)) (he : look E.els e = some L.f)
    (gd : dst.good (· < S.nx) S.res) (ty : TypeId) (d : Option Tmp) :
    ∃ v w', (Builtin.clear_ #[t] ty #[dst.den α]).run E.P w = .ok v w' ∧
      Evo S ((S.set j (some (.list ⟨L.f, lput L.l lo.v (lrep len.v L.f.dflt), true⟩))).put d (.tup [])) α α ∧
      Rel ((S.set j (some (.list ⟨L.f, lput L.l lo.v (lrep len.v L.f.dflt), true⟩))).put d (.tup [])) α ω B w0 (a.put d v) w' := by
  obtain ⟨d0, d1, d2, d3, d4, d5, d6⟩ := putDst_ok r hd gd
  obtain ⟨i, z, hi, i1, i2, hz, i3⟩ := (hE (e, L.f) (look_mem he)).ok
  dsimp only at hi i1 i2 i3
  have hlr : (lrep len.v L.f.dflt).length = len.v.toNat := by rw [lrep, List.length_replicate]
  obtain ⟨base, sCap, b1, b2, b3⟩ := write_range (E := E) r d1 d2 (lo := lo.v) (m := lrep len.v L.f.dflt) d3 (by rw [hlr]; omega) (fun x hx => by rw [lrep] at hx; rw [List.eq_of_mem_replicate hx]; exact dflt_okv L.f)
  obtain ⟨x, c, f1, f2, f3⟩ := d6 base sCap b1 b2
  have gv : ∀ D R, (SV.tup []).good D R := fun D R v hv => by cases hv
  have hzs : z.cells.size = L.f.ks.length := by rw [← Array.length_toList, i3, vals_len]
  have hzc : (Builtin.zeroCells z.cells len.v.toNat).toList = (lrep len.v L.f.dflt).flatMap L.f.vals := by
    have hmd : Builtin.zeroCells z.cells len.v.toNat = madeCells z.cells (len.v.toNat * z.cells.size) := rfl
    apply List.ext_getElem?
    intro p
    by_cases hp : p < len.v.toNat * z.cells.size
    · have h0 : 0 < z.cells.size := by rw [hzs]; exact ks_pos _
      have hq : p / z.cells.size < len.v.toNat := Nat.div_lt_of_lt_mul (by rw [Nat.mul_comm]; exact hp)
      have hr : p % z.cells.size < z.cells.size := Nat.mod_lt _ h0
      have hpe : p = p / z.cells.size * z.cells.size + p % z.cells.size := (Nat.div_add_mod' p _).symm
      rw [hpe, hmd, Array.getElem?_toList, made_get z.cells _ _ _ hr hq]
      have hg := flat_get (vals_len L.f) (k := p % z.cells.size) (by rw [← hzs]; exact hr) (l := lrep len.v L.f.dflt) (i := p / z.cells.size) (x := L.f.dflt) (by rw [lrep, List.getElem?_replicate, if_pos hq])
      rw [← hzs] at hg
      rw [hg, ← i3, Array.getElem?_toList, Array.getElem?_eq_getElem hr]
    · rw [List.getElem?_eq_none (by rw [Array.length_toList, hmd, size_madeCells]; omega), List.getElem?_eq_none (by rw [flat_len (vals_len L.f), hlr, ← hzs]; omega)]
  rcases b3 with ⟨c1, c2, c3⟩ | ⟨g, w', c1, c2, c3, c4⟩
  · have h0 : len.v.toNat = 0 := by rw [← hlr, c1]; rfl
    refine ⟨.tuple #[], w, ?_, c2.trans (Evo.put _ d _ _), c3.put (gv _ _) d (fun _ => rfl)⟩
    rw [f1, h0]
    cases x <;> simp [Builtin.clear_, run_underlying hu]
  · subst c1
    by_cases h0 : len.v.toNat = 0
    · have hnil : lrep len.v L.f.dflt = [] := by rw [lrep, h0]; rfl
      have hw : w' = w := by
        rw [hnil] at c2
        have : (storeCells ⟨g, lo.v.toNat * L.f.ks.length, none⟩ (([] : List L.f.ty).flatMap L.f.vals) 0).run E.P w = .ok () w := rfl
        rw [this] at c2; cases c2; rfl
      subst hw
      refine ⟨.tuple #[], w', ?_, c3.trans (Evo.put _ d _ _), c4.put (gv _ _) d (fun _ => rfl)⟩
      rw [f1, h0]
      cases x <;> simp [Builtin.clear_, run_underlying hu]
    · have hx := f2 (by omega)
      rw [Option.map_some, Addr.add_mid, Nat.zero_add] at hx
      refine ⟨.tuple #[], w', ?_, c3.trans (Evo.put _ d _ _), c4.put (gv _ _) d (fun _ => rfl)⟩
      rw [f1, hx]
      obtain ⟨n, hn⟩ : ∃ n, len.v.toNat = n + 1 := ⟨len.v.toNat - 1, by omega⟩
      rw [hn] at hzc ⊢
      simp [Builtin.clear_, run_underlying hu, zeroValue, typeInfo, hi, hz, hzc, c2]
end

end Go.Fx
end
section
namespace Go.Fx
open Go RowKit

section
variable {E : Env} {S : St} {α : Al} {ω : Nat → Option Nat} {B : Nat} {w0 w : World} {a : Act}
theorem slsOf_eq : ∀ {cs : List SC} {js : List Nat}, slsOf cs = some js → cs = js.map SC.sl
  | [], js, h => by cases h; rfl
  | c :: r, js, h => by
    cases c with
    | sl j =>
      simp only [slsOf] at h
      split at h
      · rename_i l hl
        cases h
        rw [slsOf_eq hl]; rfl
      · cases h
    | _ => cases h
theorem HRep.dst {v : Value} {n : Nat} {hv : Nat → Value} {m : Nat → Prop} (h : HRep w v n hv m) : ∃ base sCap, v = .slice base n sCap ∧ ((n = 0 ∧ sCap = 0) ∨ ∃ g cs ty, base = some ⟨g, 0, none⟩ ∧ m g ∧ w.heap[g]? = some (.cells cs ty (0, 0)) ∧ cs.size = sCap ∧ n ≤ sCap ∧ ∀ i, i < n → cs[i]? = some (hv i)) := by
  rcases h with ⟨a, e1, e2⟩ | ⟨blk, cap, cs, ty, e1, e2, e3, e4, e5, e6⟩
  · exact ⟨a, 0, by rw [e2]; exact e1, .inl ⟨e2, rfl⟩⟩
  · exact ⟨_, cap, e1, .inr ⟨blk, cs, ty, rfl, e4, e3, e5, e2, e6⟩⟩
/-- What is appended to, where it holds headers. -/
def hdrDst (S : St) : SV → Option (Option Nat × List Nat)
  | .w (.c .nilsl) => some (none, [])
  | .w (.c (.sl j)) => match S.res j with
    | some (.hdrs js) => some (some j, js)
    | _ => none
  | _ => none
theorem hdrDst_ok (H : HRel (· < S.nx) S.res α ω B w0 w) {dst : SV} {oj : Option Nat} {js : List Nat} (h : hdrDst S dst = some (oj, js)) (hg : dst.good (· < S.nx) S.res) :
    HRep w (dst.den α) js.length (fun k => α.sv (js.getD k 0)) (fun b => ∃ j, oj = some j ∧ ω b = some j) ∧ dst ≠ .any ∧ (∀ j, oj = some j → j < S.nx) ∧ ∀ j ∈ js, j < S.nx := by
  unfold hdrDst at h
  split at h
  · cases h
    exact ⟨.inl ⟨none, rfl, rfl⟩, (fun e => by cases e), (fun j e => by cases e), fun j hj => by cases hj⟩
  · rename_i j
    split at h
    · rename_i js' hj
      cases h
      refine ⟨?_, (fun e => by cases e), (fun j' e => by cases e; exact hg), fun v hv => H.xr j _ hj v hv⟩
      exact HRep.frame (show HRep w (α.sv j) js.length (fun k => α.sv (js.getD k 0)) _ from H.rel j _ hj) fun b _ hm => ⟨⟨j, rfl, by unfold mineOf at hm; simpa using hm⟩, rfl⟩
    · cases h
  · cases h
theorem hdrOf_eq {e : TypeId} {dst src : SV} {oj : Option Nat} {js : List Nat} (h : hdrOf E S e dst src = some (oj, js)) :
    ∃ js0 js' b cap ty, rowT E e = true ∧ hdrDst S dst = some (oj, js0) ∧ src = .w (.c (.csl b 0 js'.length cap)) ∧ S.res b = some (.box ⟨js'.map SC.sl, ty⟩) ∧ js = js0 ++ js' ∧ 2 ≤ js'.length ∧ js.length ≤ 1000 := by
  unfold hdrOf at h
  split at h
  · rename_i b n cap hr
    split at h
    · rename_i bx hb h2
      obtain ⟨cells, ty⟩ := bx
      have h2 : 2 ≤ n := by simpa using h2
      split at h
      · rename_i js' hs hn
        have hs := slsOf_eq hs
        have hn := Nat.eq_of_beq_eq_true hn
        dsimp only at hs hn
        subst hs
        rw [List.length_map] at hn
        subst hn
        split at h
        · rename_i hl
          cases h
          exact ⟨[], _, b, cap, ty, hr, rfl, rfl, hb, rfl, h2, by simpa using hl⟩
        · cases h
      · rename_i js' j hs hn
        have hs := slsOf_eq hs
        have hn := Nat.eq_of_beq_eq_true hn
        dsimp only at hs hn
        subst hs
        rw [List.length_map] at hn
        subst hn
        split at h
        · rename_i js0 hj
          split at h
          · rename_i hl
            cases h
            exact ⟨js0, _, b, cap, ty, hr, by simp only [hdrDst, hj], rfl, hb, rfl, h2, by rw [List.length_append]; simpa using hl⟩
          · cases h
        · cases h
      · cases h
    · cases h
  · cases h
/-- A new thing that is a list of headers. -/
theorem hdrs_new {D : Nat → Prop} {R : Nat → Option Res} (H : HRel D R α ω B w0 w) {n : Nat} (hn : ¬ D n) {js : List Nat} (hjs : ∀ j ∈ js, D j) {v : Value} {w' : World} (hb : Below B w0 w') (hs : w.heap.size ≤ w'.heap.size) (hw : ∀ b i, ω b = some i → w'.heap[b]? = w.heap[b]?)
    (P : Nat → Prop) (hrep : HRep w' v js.length (fun k => α.sv (js.getD k 0)) (fun b => P b ∧ ω b = none ∧ B ≤ b)) :
    ∃ α' ω', HRel (DN D n 1) (addR R n [.hdrs js]) α' ω' B w0 w' ∧ Agree D α α' ∧ α'.sv n = v ∧ (∀ b i, ω' b = some i → ω b = some i ∨ P b) ∧ ∀ b i, ω b = some i → ω' b = some i := by
  have hone : v.oneCell' = true := by
    rcases hrep with ⟨a, rfl, _⟩ | ⟨blk, cap, cs, ty, rfl, _⟩ <;> rfl
  have H1 := H.frameU hb hs hw
  have ha := agree_setS (D := D) α n v (fun _ => undef) hn
  have hget : ∀ k, k < js.length → js.getD k 0 ∈ js := fun k hk => by
    have : js.getD k 0 = js[k] := by simp [List.getD, hk]
    rw [this]; exact List.getElem_mem hk
  rw [DN_one, addR_one]
  refine ⟨α.setS n v fun _ => undef, _, H1.addRes hn ha (setS_one H.one hone) P ?_ (fun b e => by cases e) (fun L e => by cases e) (fun r hr v hv => by cases hr; exact .inl (hjs v hv)), ha, setS_sv _ _ _ _, fun b i h => ?_, fun b i h => ownN_old h⟩
  · show HRep w' ((α.setS n v fun _ => undef).sv n) _ _ _
    rw [setS_sv]
    refine (hrep.frame fun b hb' hm => ⟨?_, rfl⟩).congr fun k hk => (ha _ (hjs _ (hget k hk))).2.1
    show mineOf _ B n true b
    unfold mineOf
    rw [if_pos rfl]
    exact ownN_new hm.1 hm.2.1 hm.2.2 hb'
  · rcases ownN_inv h with ⟨_, h, _⟩ | h
    · exact .inr h
    · exact .inl h
theorem grown_hdrs (r : Rel S α ω B w0 a w) {t e : TypeId} (hu : E.P.underlying t = some (.slice e)) {dst src : SV} {oj : Option Nat} {js : List Nat} (h : hdrOf E S e dst src = some (oj, js))
    (gd : dst.good (· < S.nx) S.res) (gs : src.good (· < S.nx) S.res) (ty : TypeId) (d : Option Tmp) :
    dst ≠ .any ∧ src ≠ .any ∧ ∃ v w' α' ω', (Builtin.append_ #[t, t] ty #[dst.den α, src.den α]).run E.P w = .ok v w' ∧ Evo S ((((S.drop oj).drop none).add [.hdrs js]).put d (.w (.c (.sl S.nx)))) α α' ∧
      Rel ((((S.drop oj).drop none).add [.hdrs js]).put d (.w (.c (.sl S.nx)))) α' ω' B w0 (a.put d v) w' := by
  obtain ⟨js0, js', b, cap0, ty0, hr, hd, rfl, hb, rfl, h2, hmax⟩ := hdrOf_eq h
  obtain ⟨d1, dn, d3, d4⟩ := hdrDst_ok r.h hd gd
  refine ⟨dn, (fun e => by cases e), ?_⟩
  obtain ⟨i, hi, i1, i2, hz⟩ := rowT_ok hr
  obtain ⟨base, sCap, e1, hdst⟩ := d1.dst
  obtain ⟨s1, s2⟩ : RRel α ω B w b (.box ⟨js'.map SC.sl, ty0⟩) := r.h.rel b _ hb
  have hjs' : ∀ j ∈ js', j < S.nx := fun j hj => r.h.good b _ hb (.sl j) (List.mem_map.2 ⟨j, hj, rfl⟩)
  rw [List.length_append] at hmax
  obtain ⟨v', w', hrun, q1, q2, q3, q4, q5⟩ := raw_append (P := E.P) w t ty e i _ hu hi hz (by rw [i1]; rfl) (by rw [i2]; decide) base js0.length sCap ((List.range js0.length).map fun k => α.sv (js0.getD k 0)) (by simp [i1])
    (by rcases hdst with h | ⟨g, cs, te, h1, _, h3, h4, h5, h6⟩
        · exact .inl h
        · exact .inr ⟨g, cs, te, h1, h3, by rw [i1, h4, Nat.mul_one], h5, fun k u hk => by obtain ⟨k1, rfl⟩ := range_map_get hk; exact h6 k k1⟩)
    (some ⟨α.blk b, 0, none⟩) js'.length cap0 (js'.map α.sv) (by simp [i1]) (.inr ⟨_, rfl, fun j u hu => by
      rw [Addr.add_mid, Nat.zero_add, cell_of s2]
      rw [List.getElem?_map] at hu
      simp only [List.map_map, List.getElem?_toArray, List.getElem?_map]
      exact hu⟩) (fun u hu => by obtain ⟨j, _, rfl⟩ := List.mem_map.1 hu; exact r.h.one j) (by rw [i2]; unfold room; omega)
  obtain ⟨ω1, r1, ev1, o1, o2, o3, o4⟩ := r.dropped oj d3
  have hnx : ((S.drop oj).drop none).nx = S.nx := drop_nx S oj
  rcases q5 with ⟨_, a2, _⟩ | ⟨g, cap, cs, te, a1, a2, a3, a4, a5, a6, a7⟩
  · omega
  · have hgB : B ≤ g ∧ ω1 g = none := by
      rcases a7 with ⟨b1, b2, b3⟩ | b1
      · rcases hdst with h1 | ⟨g', cs', te', h1, ⟨jj, h2, h2'⟩, _⟩
        · exact absurd h1 b3
        · rw [b1] at h1; cases h1
          exact ⟨(r.h.own _ _ h2').1, o2 _ _ h2 h2'⟩
      · rw [b1]; exact ⟨r.h.base, o3 _ (below_none r.h)⟩
    have H1 := r1.h
    rw [drop_nx] at H1
    obtain ⟨α', ω', k1, k2, k3, _⟩ := hdrs_new (n := S.nx) H1 (Nat.lt_irrefl _) (js := js0 ++ js') (fun j hj => by
      rcases List.mem_append.1 hj with hj | hj
      · exact d4 j hj
      · exact hjs' j hj) (v := v') (below_of H1.bel H1.base q1 q2 q3 q4 hgB.1 a6) q4 (fun b i hb => a6 b (H1.own b i hb).2.1 fun e => by rw [e, hgB.2] at hb; cases hb) (fun _ => True) (by
        refine .inr ⟨g, cap, cs, te, by rw [List.length_append]; exact a1, by rw [List.length_append]; exact a2, a3, ⟨trivial, hgB.2, hgB.1⟩, by rw [a4, i1, Nat.mul_one], fun k hk => ?_⟩
        rw [List.length_append] at hk
        refine a5 k _ ?_
        by_cases h : k < js0.length
        · rw [List.getElem?_append_left (by simpa using h)]
          simp [h, List.getD_eq_getElem?_getD, List.getElem?_append_left h]
        · rw [List.getElem?_append_right (by simp; omega)]
          have h' : k - js0.length < js'.length := by omega
          simp [List.getD_eq_getElem?_getD, List.getElem?_append_right (Nat.le_of_not_lt h), h'])
    obtain ⟨z1, z2⟩ := Rel.added (S := (S.drop oj).drop none) r1 (rs := [.hdrs (js0 ++ js')]) (by rw [hnx]; exact k1) (by rw [hnx]; exact k2) (v := .w (.c (.sl S.nx))) (.inr (by rw [hnx]; exact ⟨Nat.le_refl _, Nat.lt_succ_self _⟩)) d (x := v') (fun _ => k3.symm)
    exact ⟨v', w', α', ω', by rw [e1]; exact hrun, ev1.trans z1, z2⟩
theorem rowsSrc_ok (H : HRel (· < S.nx) S.res α ω B w0 w) {f : Fl} {oj : Option Nat} {src : SV} {j' : Nat} {m : List (List f.ty)} (h : rowsSrc S f oj src = some (j', m)) :
    (∃ rv, LLRep w f m (src.den α) rv (fun b => ω b = some j') true) ∧ src ≠ .any ∧ j' < S.nx ∧ oj ≠ some j' := by
  unfold rowsSrc at h
  split at h
  · rename_i j
    split at h
    · rename_i L hj
      split at h
      · rename_i hf hc
        cases h
        rw [Bool.and_eq_true] at hc
        obtain ⟨ho, hc⟩ := hc
        have h1 : LLRep w L.f L.ll (α.sv j') (α.rv L.ver) (mineOf ω B j' L.own) L.own := H.rel j' _ hj
        refine ⟨⟨α.rv L.ver, ?_⟩, (fun e => by cases e), H.dec j' _ hj, fun e => ?_⟩
        · have e := feq_eq hf
          obtain ⟨f', l', ver, own⟩ := L
          simp only at e ho h1 ⊢
          subst e ho
          exact h1.frame fun b _ hm => ⟨by unfold mineOf at hm; simpa using hm, rfl⟩
        · rw [e] at hc
          simp at hc
      · cases h
    · cases h
  · cases h
theorem grown_rowss (r : Rel S α ω B w0 a w) {t e : TypeId} {f : Fl} (hu : E.P.underlying t = some (.slice e)) (hr : rowT E e = true) {dst src : SV} {oj : Option Nat} {j' : Nat} {ll m : List (List f.ty)} (hd : appDsts S f dst = some (oj, ll)) (hm : rowsSrc S f oj src = some (j', m))
    (gd : dst.good (· < S.nx) S.res) (hs : lfit 24 (lapp ll m)) (ty : TypeId) (d : Option Tmp) :
    src ≠ .any ∧ ∃ v w' α' ω', (Builtin.append_ #[t, t] ty #[dst.den α, src.den α]).run E.P w = .ok v w' ∧ Evo S ((((S.drop oj).drop (some j')).add [.lists ⟨f, lapp ll m, S.nx, true⟩]).put d (.w (.c (.sl S.nx)))) α α' ∧
      Rel ((((S.drop oj).drop (some j')).add [.lists ⟨f, lapp ll m, S.nx, true⟩]).put d (.w (.c (.sl S.nx)))) α' ω' B w0 (a.put d v) w' := by
  obtain ⟨rv, d1, _, d3, d4⟩ := appDsts_ok r.h hd gd
  obtain ⟨⟨rv2, s1⟩, sn, s3, hne⟩ := rowsSrc_ok r.h hm
  refine ⟨sn, ?_⟩
  obtain ⟨i, hi, i1, i2, hz⟩ := rowT_ok hr
  obtain ⟨base, sCap, e1, hdst⟩ := d1.dst
  obtain ⟨base2, xc, e2, hsrc⟩ := s1.dst
  have hfit : (ll.length + m.length) * 24 ≤ room := by
    have : (lapp ll m).length * 24 ≤ 140737488355328 := hs
    rw [lapp, List.length_append] at this; exact this
  have rowOne : ∀ k, k < m.length → (rv2 k).oneCell' = true := fun k hk => (s1.1 k _ (List.getElem?_eq_getElem hk)).oneV
  obtain ⟨v', w', hrun, q1, q2, q3, q4, q5⟩ := raw_append (P := E.P) w t ty e i _ hu hi hz (by rw [i1]; rfl) (by rw [i2]; decide) base ll.length sCap ((List.range ll.length).map rv) (by simp [i1])
    (by rcases hdst with h | ⟨g, cs, te, h1, _, h3, h4, h5, h6, _⟩
        · exact .inl h
        · exact .inr ⟨g, cs, te, h1, h3, by rw [i1, h4, Nat.mul_one], h5, fun k u hk => by obtain ⟨k1, rfl⟩ := range_map_get hk; exact h6 k k1⟩)
    base2 m.length xc ((List.range m.length).map rv2) (by simp [i1]) (by
      rcases hsrc with h | ⟨g, cs, te, h1, _, h3, h4, h5, h6, _⟩
      · exact .inl h.1
      · refine .inr ⟨_, h1, fun j u hu => ?_⟩
        obtain ⟨k1, rfl⟩ := range_map_get hu
        rw [Addr.add_mid, Nat.zero_add, cell_of h3]
        exact h6 j k1) (fun u hu => by
      obtain ⟨k, hk⟩ := List.getElem?_of_mem hu
      obtain ⟨k1, rfl⟩ := range_map_get hk
      exact rowOne k k1) (by rw [i2]; exact hfit)
  obtain ⟨ω1, r1, ev1, o1, o2, o3, o4⟩ := r.dropped oj d3
  obtain ⟨ω2, r2, ev2, p1, p2, p3, _⟩ := r1.dropped (some j') (fun x e => by cases e; rw [drop_nx]; exact s3)
  have hnx : ((S.drop oj).drop (some j')).nx = S.nx := by rw [drop_nx, drop_nx]
  have H2 := r2.h
  rw [hnx] at H2
  have free : ∀ b, (∃ j, oj = some j ∧ ω b = some j) ∨ ω b = some j' → ω2 b = none ∧ B ≤ b := fun b h => by
    rcases h with ⟨j, h1, h2⟩ | h
    · exact ⟨p3 _ (o2 b j h1 h2), (r.h.own _ _ h2).1⟩
    · exact ⟨p2 b j' rfl (o4 b j' h hne), (r.h.own _ _ h).1⟩
  have hlen : (lapp ll m).length = ll.length + m.length := by rw [lapp, List.length_append]
  rcases q5 with ⟨z1, z2, z3, z4⟩ | ⟨g, cap, cs, te, a1, a2, a3, a4, a5, a6, a7⟩
  · subst z4
    have hnil : lapp ll m = [] := List.eq_nil_of_length_eq_zero (by rw [hlen]; omega)
    obtain ⟨α', ω', k1, k2, k3, _⟩ := lists_new (n := S.nx) H2 (Nat.lt_irrefl _) (f := f) (ll := lapp ll m) (v := v') (rv := rv) H2.bel (Nat.le_refl _) (fun _ _ _ => rfl) (fun _ => True) ⟨(fun i l hl => by rw [hnil] at hl; cases hl), hs, .inl ⟨_, 0, z3, hnil, fun _ => rfl⟩⟩
    obtain ⟨y1, y2⟩ := Rel.added (S := (S.drop oj).drop (some j')) r2 (rs := [.lists ⟨f, lapp ll m, S.nx, true⟩]) (by rw [hnx]; exact k1) (by rw [hnx]; exact k2) (v := .w (.c (.sl S.nx))) (.inr (by rw [hnx]; exact ⟨Nat.le_refl _, Nat.lt_succ_self _⟩)) d (x := v') (fun _ => k3.symm)
    exact ⟨v', _, α', ω', by rw [e1, e2]; exact hrun, (ev1.trans ev2).trans y1, y2⟩
  · have hgB : B ≤ g ∧ ω2 g = none ∧ (∀ i b, i < ll.length → rowBlk (rv i) = some b → b ≠ g ∧ ∀ k, k < ll.length → rowBlk (rv k) = some b → i = k) ∧ ω g ≠ some j' := by
      rcases a7 with ⟨b1, b2, b3⟩ | b1
      · rcases hdst with h1 | ⟨g', cs', te', h1, ⟨jj, h2, h2'⟩, _, _, _, _, h7⟩
        · exact absurd h1 b3
        · rw [b1] at h1; cases h1
          obtain ⟨f1, f2⟩ := free g (.inl ⟨jj, h2, h2'⟩)
          exact ⟨f2, f1, h7, fun e => by rw [h2'] at e; cases e; exact hne h2⟩
      · have hn := below_none r.h
        refine ⟨by rw [b1]; exact r.h.base, by rw [b1]; exact p3 _ (o3 _ hn), fun i b hi hb => ?_, by rw [b1, hn]; exact fun e => by cases e⟩
        rcases hdst with h1 | ⟨g', cs', te', h1, h2, h3, _, _, _, h7⟩
        · omega
        · have hlt := ((d1.1 i _ (List.getElem?_eq_getElem hi)).rowBlk hb).2
          exact ⟨by omega, fun k hk hb' => (h7 i b hi hb).2 k hk hb'⟩
    obtain ⟨g1, g2, g3, g4⟩ := hgB
    have hsd : ∀ i b, i < m.length → rowBlk (rv2 i) = some b → ∀ k, k < m.length → rowBlk (rv2 k) = some b → i = k := fun i b hi hb => by
      rcases hsrc with h | ⟨_, _, _, _, _, _, _, _, _, h7⟩
      · omega
      · exact (h7 i b hi hb).2
    let rv' : Nat → Value := fun i => if i < ll.length then rv i else rv2 (i - ll.length)
    have rvlt : ∀ i, i < ll.length → rv' i = rv i := fun i hi => if_pos hi
    have rvge : ∀ i, ¬ i < ll.length → rv' i = rv2 (i - ll.length) := fun i hi => if_neg hi
    have hcell : ∀ i, i < ll.length + m.length → cs[i]? = some (rv' i) := fun i hi => by
      refine a5 i _ ?_
      by_cases h : i < ll.length
      · rw [List.getElem?_append_left (by simpa using h), rvlt i h]; simp [h]
      · have h2 : i - ll.length < m.length := by omega
        rw [List.getElem?_append_right (by simp; omega), rvge i h]; simp [h2]
    have srcB : ∀ k b, k < m.length → rowBlk (rv2 k) = some b → ω b = some j' ∧ b < w.heap.size ∧ b ≠ g := fun k b hk hb => by
      obtain ⟨b1, b2⟩ := (s1.1 k _ (List.getElem?_eq_getElem hk)).rowBlk hb
      exact ⟨b1, b2, fun e => g4 (by rw [← e]; exact b1)⟩
    have hrep : LLRep w' f (lapp ll m) v' rv' (fun b => True ∧ ω2 b = none ∧ B ≤ b) true := by
      refine ⟨fun i l hl => ?_, hs, .inr ⟨g, 0, cap, cs, te, (0, 0), by rw [hlen]; exact a1, by rw [hlen]; exact a2, a3, ⟨trivial, g2, g1⟩, fun i hi => by rw [Nat.zero_add]; exact hcell i (by rw [hlen] at hi; exact hi), fun _ => ⟨rfl, rfl, by rw [a4, i1, Nat.mul_one], fun i b hi hb => ?_⟩⟩⟩
      · rw [lapp] at hl
        by_cases h : i < ll.length
        · rw [List.getElem?_append_left h] at hl
          rw [rvlt i h]
          refine (d1.1 i l hl).frame1 fun b hb => ?_
          obtain ⟨b1, b2⟩ := (d1.1 i l hl).rowBlk hb
          have := free b (.inl b1)
          exact ⟨a6 b b2 (g3 i b h hb).1, trivial, this.1, this.2⟩
        · rw [List.getElem?_append_right (by omega)] at hl
          have hlt := (List.getElem?_eq_some_iff.1 hl).1
          rw [rvge i h]
          refine (s1.1 _ l hl).frame1 fun b hb => ?_
          obtain ⟨b1, b2, b3⟩ := srcB _ b hlt hb
          have := free b (.inr b1)
          exact ⟨a6 b b2 b3, trivial, this.1, this.2⟩
      · rw [hlen] at hi
        have oldRow : ∀ i b, i < ll.length → rowBlk (rv' i) = some b → (∃ j, oj = some j ∧ ω b = some j) ∧ b ≠ g := fun i b hi hb => by
          rw [rvlt i hi] at hb
          exact ⟨((d1.1 i _ (List.getElem?_eq_getElem hi)).rowBlk hb).1, (g3 i b hi hb).1⟩
        have newRow : ∀ i b, ¬ i < ll.length → i < ll.length + m.length → rowBlk (rv' i) = some b → ω b = some j' ∧ b ≠ g := fun i b hi hi2 hb => by
          rw [rvge i hi] at hb
          obtain ⟨b1, _, b3⟩ := srcB _ b (by omega) hb
          exact ⟨b1, b3⟩
        have nOld : ∀ i k b, i < ll.length → ¬ k < ll.length → k < ll.length + m.length → rowBlk (rv' i) = some b → rowBlk (rv' k) = some b → False := fun i k b hi hk hk2 h1 h2 => by
          obtain ⟨⟨j, h3, h4⟩, _⟩ := oldRow i b hi h1
          rw [(newRow k b hk hk2 h2).1] at h4; cases h4
          exact hne h3
        by_cases h : i < ll.length
        · refine ⟨(oldRow i b h hb).2, fun k hk hb' => ?_⟩
          rw [hlen] at hk
          by_cases h' : k < ll.length
          · rw [rvlt i h] at hb
            rw [rvlt k h'] at hb'
            exact (g3 i b h hb).2 k h' hb'
          · exact (nOld i k b h h' hk hb hb').elim
        · refine ⟨(newRow i b h hi hb).2, fun k hk hb' => ?_⟩
          rw [hlen] at hk
          by_cases h' : k < ll.length
          · exact (nOld k i b h' h hi hb' hb).elim
          · rw [rvge i h] at hb
            rw [rvge k h'] at hb'
            have := hsd _ b (by omega) hb _ (by omega) hb'
            omega
    obtain ⟨α', ω', k1, k2, k3, _⟩ := lists_new (n := S.nx) H2 (Nat.lt_irrefl _) (f := f) (ll := lapp ll m) (v := v') (rv := rv') (below_of H2.bel H2.base q1 q2 q3 q4 g1 a6) q4 (fun b i hb => a6 b (H2.own b i hb).2.1 fun e => by rw [e, g2] at hb; cases hb) (fun _ => True) hrep
    obtain ⟨z1, z2⟩ := Rel.added (S := (S.drop oj).drop (some j')) r2 (rs := [.lists ⟨f, lapp ll m, S.nx, true⟩]) (by rw [hnx]; exact k1) (by rw [hnx]; exact k2) (v := .w (.c (.sl S.nx))) (.inr (by rw [hnx]; exact ⟨Nat.le_refl _, Nat.lt_succ_self _⟩)) d (x := v') (fun _ => k3.symm)
    exact ⟨v', w', α', ω', by rw [e1, e2]; exact hrun, (ev1.trans ev2).trans z1, z2⟩
end

end Go.Fx
end
section
namespace Go.Fx
open Go RowKit

/-- What one of them holds is another thing, in the same place; a number more. -/
theorem HRel.setOwnV {D : Nat → Prop} {R : Nat → Option Res} {α α' : Al} {ω : Nat → Option Nat} {B : Nat} {w0 w w' : World} (H : HRel D R α ω B w0 w) {n : Nat} (ha : Agree D α α') (h1 : ∀ j, (α'.sv j).oneCell' = true) {j : Nat} {r' : Res} (hj : D j) (hb : Below B w0 w') (hs : w.heap.size ≤ w'.heap.size)
    (hw : ∀ b i, ω b = some i → i ≠ j → w'.heap[b]? = w.heap[b]?) (hr : RRel α' ω B w' j r') (hk : Keep D R (fun i => if j = i then some r' else R i)) (hg : ∀ b, r' ≠ .box b) (hv : ∀ L, r' = .lists L → D L.ver ∨ L.ver = n) (hx : (∀ r, some r' = some r → ∀ v ∈ r.xrefs, D v ∨ v = n) := by exact xr_nil rfl) :
    HRel (fun i => D i ∨ i = n) (fun i => if j = i then some r' else R i) α' ω B w0 w' := by
  refine ⟨hb, Nat.le_trans H.base hs, fun b i hb' => by obtain ⟨q1, q2, q3⟩ := H.own b i hb'; exact ⟨q1, by omega, .inl q3⟩, fun i r hr => ?_, fun i L hL => ?_, fun i r hr => ?_, fun i b hb' => ?_, h1, xr_upd H.xr (fun _ h => .inl h) hx⟩
  · by_cases e : j = i
    · subst e; exact .inl hj
    · simp only [if_neg e] at hr; exact .inl (H.dec i r hr)
  · by_cases e : j = i
    · simp only [if_pos e] at hL; cases hL; exact hv L rfl
    · simp only [if_neg e] at hL; exact .inl (H.ver i L hL)
  · by_cases e : j = i
    · subst e
      simp only [if_true] at hr; cases hr
      assumption
    · simp only [if_neg e] at hr
      exact H.frameAt hr ha (fun b hb' => ⟨hb', hw b i hb' (fun e' => e e'.symm)⟩) (fun b hb' => by rw [hb.block b hb', H.bel.block b hb'])
  · by_cases e : j = i
    · simp only [if_pos e] at hb'; cases hb'; exact absurd rfl (hg b)
    · simp only [if_neg e] at hb'
      exact fun c hc => SC.good_mono (H.good i b hb' c hc) (fun _ h => .inl h) hk
section
variable {E : Env} {S : St} {α : Al} {ω : Nat → Option Nat} {B : Nat} {w0 w : World} {a : Act}
theorem storeR_ok (r : Rel S α ω B w0 a w) {o : Oper} {t : TypeId} {x y : Operand} (ho : o.op = .store t x y) {S' : St} (h : storeR E t S (S.ev x) (S.ev y) = some S') :
    ∃ w' α' ω', (execOp a.eval o).run E.P w = .ok .skip w' ∧ Evo S S' α α' ∧ Rel S' α' ω' B w0 a w' := by
  unfold storeR at h
  split at h
  · rename_i j i j' ex ey
    split at h
    · rename_i L L' sz hj hj' e1
      split at h
      · rename_i hf hc
        rw [Bool.and_eq_true, Bool.and_eq_true] at hc
        obtain ⟨⟨c1, c2⟩, c3⟩ := hc
        have c3 := Nat.eq_of_beq_eq_true c3
        obtain ⟨p1, p2⟩ := ev_c r.t ex
        obtain ⟨p3, p4⟩ := ev_c r.t ey
        obtain ⟨pd, pL⟩ := p2
        obtain ⟨g2, g3⟩ := pL L hj
        have hjj : j ≠ j' := fun e => by rw [e, hj'] at hj; cases hj
        have ef := feq_eq hf
        generalize hcast : (feq_eq hf ▸ L'.l : List L.f.ty) = l' at h
        have hrow' : LRep w L.f l' (α.sv j') (mineOf ω B j' true) true := by
          have : LRep w L'.f L'.l (α.sv j') (mineOf ω B j' L'.own) L'.own := r.h.rel j' _ hj'
          obtain ⟨f', ll', own'⟩ := L'
          obtain ⟨f, ll, ver, own⟩ := L
          simp only at ef c2 this hcast ⊢
          subst ef c2 hcast
          exact this
        have hrel : LLRep w L.f L.ll (α.sv j) (α.rv L.ver) (mineOf ω B j L.own) L.own := r.h.rel j _ hj
        rw [c1] at hrel
        have m1 : ∀ b k, mineOf ω B k true b → ω b = some k := fun b k hm => by unfold mineOf at hm; simpa using hm
        obtain ⟨base, sCap, e2, hd⟩ := hrel.dst
        obtain ⟨g, cs, te, rfl, hm, hg, hsz, hcap, hcs, hap⟩ := hd.resolve_left fun e => by have := e.1; omega
        have hmg := m1 _ _ hm
        have hB := (r.h.own _ _ hmg).1
        obtain ⟨ω1, r1, ev1, o1, o2, o3, o4⟩ := r.dropped (some j') (fun x e => by cases e; exact r.h.dec j' _ hj')
        have hdrop : S.drop (some j') = S.set j' (some (.gone (lenI L'.l))) := by
          show S.set j' (goneOf (S.res j')) = _
          rw [hj']; rfl
        rw [hdrop] at r1 ev1
        have H1 : HRel (· < S.nx) (S.set j' (some (.gone (lenI L'.l)))).res α (ownN ω1 B j w.heap.size fun _ => True) B w0 w := r1.h.reown pd
        have hn : ¬ S.nx < S.nx := Nat.lt_irrefl _
        have hlen : (lset L.ll i l').length = L.ll.length := lset_len _ _ _
        let rv' : Nat → Value := fun k => if k = i.toNat then α.sv j' else α.rv L.ver k
        have ha := agree_setS (D := (· < S.nx)) α S.nx (.slice none 0 0) rv' hn
        obtain ⟨w', q1, q2, q3, q4, q5, q6, q7⟩ := write_cells (P := E.P) hg (o := i.toNat) (vs := [α.sv j']) (by simp; omega) (fun u hu => by rw [List.mem_singleton.1 hu]; exact r.h.one j')
        have own2 : ∀ b, ω b = some j → ownN ω1 B j w.heap.size (fun _ => True) b = some j := fun b hb => ownN_old (o4 b j hb fun e => hjj (by cases e; rfl))
        have own3 : ∀ b, ω b = some j' → ownN ω1 B j w.heap.size (fun _ => True) b = some j := fun b hb => ownN_new trivial (o2 b j' rfl hb) (r.h.own _ _ hb).1 (r.h.own _ _ hb).2.1
        have mk : ∀ b, ownN ω1 B j w.heap.size (fun _ => True) b = some j → mineOf (ownN ω1 B j w.heap.size fun _ => True) B j true b := fun b hb => by unfold mineOf; simpa using hb
        have ne1 : ∀ b, ω b = some j' → b ≠ g := fun b hb e => by rw [e, hmg] at hb; cases hb; exact hjj rfl
        have rvi : rv' i.toNat = α.sv j' := if_pos rfl
        have rvk : ∀ k, k ≠ i.toNat → rv' k = α.rv L.ver k := fun k hk => if_neg hk
        have newB : ∀ b, rowBlk (rv' i.toNat) = some b → ω b = some j' := fun b hb => by rw [rvi] at hb; exact m1 _ _ (hrow'.rowBlk hb).1
        have oldB : ∀ k b, k < L.ll.length → k ≠ i.toNat → rowBlk (rv' k) = some b → ω b = some j ∧ b ≠ g ∧ ∀ k', k' < L.ll.length → k' ≠ i.toNat → rowBlk (rv' k') = some b → k = k' := fun k b hk hki hb => by
          rw [rvk k hki] at hb
          refine ⟨m1 _ _ ((hrel.1 k _ (List.getElem?_eq_getElem hk)).rowBlk hb).1, (hap k b hk hb).1, fun k' hk' hki' hb' => ?_⟩
          rw [rvk k' hki'] at hb'
          exact (hap k b hk hb).2 k' hk' hb'
        have hcell : ∀ k, k < L.ll.length → (cs.toList.take i.toNat ++ [α.sv j'] ++ cs.toList.drop (i.toNat + [α.sv j'].length)).toArray[k]? = some (rv' k) := fun k hk => by
          rw [List.getElem?_toArray, splice_get (by simp; omega)]
          by_cases h1 : k < i.toNat
          · rw [if_pos h1, rvk k (by omega)]; have := hcs k hk; simpa using this
          · rw [if_neg h1]
            by_cases h2 : k = i.toNat
            · subst h2; rw [if_pos (by simp), rvi]; simp
            · rw [if_neg (by simp; omega), rvk k h2]; have := hcs k hk; simpa using this
        have hcsl : cs.toList.length = cs.size := Array.length_toList
        have hrep : LLRep w' L.f (lset L.ll i l') (α.sv j) rv' (mineOf (ownN ω1 B j w.heap.size fun _ => True) B j true) true := by
          refine ⟨fun k l hl => ?_, by rw [hlen]; exact hrel.2.1, .inr ⟨g, 0, sCap, _, te, (0, 0), by rw [hlen]; exact e2, by rw [hlen]; exact hcap, q2, mk _ (own2 _ hmg), fun k hk => by rw [Nat.zero_add]; exact hcell k (by rw [hlen] at hk; exact hk), fun _ => ⟨rfl, rfl, ?_, fun k b hk hb => ?_⟩⟩⟩
          · unfold lset at hl
            rw [List.getElem?_set] at hl
            by_cases e : i.toNat = k
            · rw [if_pos e] at hl
              split at hl
              · cases hl
                rw [← e, rvi]
                refine hrow'.frame1 fun b hb => ?_
                have := m1 _ _ (hrow'.rowBlk hb).1
                exact ⟨q4 b (ne1 b this), mk _ (own3 b this)⟩
              · cases hl
            · rw [if_neg e] at hl
              have hk := (List.getElem?_eq_some_iff.1 hl).1
              rw [rvk k (fun e' => e e'.symm)]
              refine (hrel.1 k l hl).frame1 fun b hb => ?_
              have := m1 _ _ ((hrel.1 k l hl).rowBlk hb).1
              exact ⟨q4 b (hap k b hk hb).1, mk _ (own2 b this)⟩
          · rw [List.size_toArray]; simp only [List.length_append, List.length_take, List.length_drop, List.length_cons, List.length_nil, hcsl]; omega
          · rw [hlen] at hk
            by_cases e : k = i.toNat
            · subst e
              have hb1 := newB b hb
              refine ⟨ne1 b hb1, fun k' hk' hb' => ?_⟩
              by_cases e' : k' = i.toNat
              · exact e'.symm
              · rw [hlen] at hk'
                have := (oldB k' b hk' e' hb').1
                rw [hb1] at this; cases this; exact absurd rfl hjj
            · obtain ⟨z1, z2, z3⟩ := oldB k b hk e hb
              refine ⟨z2, fun k' hk' hb' => ?_⟩
              by_cases e' : k' = i.toNat
              · subst e'
                have := newB b hb'
                rw [z1] at this; cases this; exact absurd rfl hjj
              · rw [hlen] at hk'; exact z3 k' hk' e' hb'
        have svj : (α.setS S.nx (.slice none 0 0) rv').sv j = α.sv j := ((ha j pd).2.1).symm
        have hres1 : ∀ i', (S.set j' (some (.gone (lenI L'.l)))).res i' = if j' = i' then some (.gone (lenI L'.l)) else S.res i' := fun i' => by rw [res_set]
        have hjres : (S.set j' (some (.gone (lenI L'.l)))).res j = some (.lists L) := by rw [hres1, if_neg (fun e => hjj e.symm)]; exact hj
        have hk1 : ∀ D : Nat → Prop, ¬ D S.nx → Keep D (S.set j' (some (.gone (lenI L'.l)))).res (fun i' => if j = i' then some (.lists ⟨L.f, lset L.ll i l', S.nx, true⟩) else (S.set j' (some (.gone (lenI L'.l)))).res i') := fun D hD =>
          Keep.updLL hjres rfl hlen.symm fun h => absurd h hD
        have hk := hk1 (· < S.nx) hn
        have HS := H1.setOwnV (n := S.nx) ha (setS_one r.h.one rfl) pd (r' := .lists ⟨L.f, lset L.ll i l', S.nx, true⟩) (r.h.bel.trans ⟨⟨q5, q6, q7.out, by omega, fun k hk' => q4 k (by omega)⟩, q7.drawn⟩) (by omega) (fun b i' hb' hne => q4 b fun e => hne (by rw [e, own2 _ hmg] at hb'; cases hb'; rfl))
          (by
            show LLRep w' L.f (lset L.ll i l') ((α.setS S.nx (.slice none 0 0) rv').sv j) ((α.setS S.nx (.slice none 0 0) rv').rv S.nx) _ true
            rw [svj, setS_rv]; exact hrep) hk (fun b e => by cases e) (fun L e => by cases e; exact .inr rfl)
        cases h
        have hD : (fun i' => i' < S.nx ∨ i' = S.nx) = (· < S.nx + 1) := by funext i'; apply propext; omega
        rw [hD] at HS
        let S1 : St := { (S.set j' (some (.gone (lenI L'.l)))).set j (some (.lists ⟨L.f, lset L.ll i l', S.nx, true⟩)) with nx := S.nx + 1 }
        have hres : S1.res = fun i' => if j = i' then some (.lists ⟨L.f, lset L.ll i l', S.nx, true⟩) else (S.set j' (some (.gone (lenI L'.l)))).res i' := res_set (S.set j' (some (.gone (lenI L'.l)))) j _
        have T0 : TRel (· < S.nx) (S.set j' (some (.gone (lenI L'.l)))).res α S.nt S.get a.tmps := r1.t
        have r2 : Rel S1 (α.setS S.nx (.slice none 0 0) rv') (ownN ω1 B j w.heap.size fun _ => True) B w0 a w' := by
          refine ⟨?_, ?_, r.d⟩
          · rw [hres]; exact HS
          · rw [hres]; exact T0.mono (fun i h => Nat.lt_succ_of_lt h) hk ha
        have ev2 : Evo (S.set j' (some (.gone (lenI L'.l)))) S1 α (α.setS S.nx (.slice none 0 0) rv') := ⟨Nat.le_succ _, ha, by rw [hres]; exact hk, rfl, ⟨rfl, rfl, ⟨[], rfl⟩, ⟨[(j, _)], rfl⟩⟩⟩
        refine ⟨w', _, _, ?_, ev1.trans ev2, r2⟩
        simp only [execOp, ho, p1, p3, SC.den, e2, Instr.storeAt, Instr.sureAddr, Sem.run_bind, Sem.run_pure, Result.andThen_ok, storeVar, size_run e1]
        have hcells : (α.sv j').cells = #[α.sv j'] := by
          have h1 := r.h.one j'
          cases e : α.sv j' <;> first | rfl | (rw [e] at h1; cases h1)
        rw [hcells, if_neg (by simp [c3])]
        simp only [Result.andThen_ok, Nat.zero_add, q1]
      · cases h
    · cases h
  · cases h
theorem app_ok (hE : ElsOk E) (r : Rel S α ω B w0 a w) {o : Oper} {args : Array Operand} {ts : Array TypeId} (ho : o.op = .call { callee := .builtin .append, args := args, argTypes := ts }) {x y : Operand} {t t' : TypeId} (has : args.toList = [x, y]) (hts : ts.toList = [t, t'])
    {k : St → Prop} (h : exApp S o.dst k (appV E S t t' (S.ev x) (S.ev y))) :
    ∃ v w' S' α' ω', (execOp a.eval o).run E.P w = .ok (.value v) w' ∧ Evo S S' α α' ∧ Rel S' α' ω' B w0 (a.put o.dst v) w' ∧ k S' := by
  unfold appV at h
  split at h
  · rename_i e htt hu
    have htt := Nat.eq_of_beq_eq_true htt
    subst htt
    split at h
    · rename_i f he
      split at h
      · rename_i m hm
        have hy : S.ev y ≠ .any := fun e' => by rw [e'] at hm; cases hm
        split at h
        · rename_i oj l hd
          obtain ⟨_, d2, _⟩ := appDst_ok r.h hd (ev_good r.t x)
          obtain ⟨v, w', α', ω', q1, q2, q3⟩ := grown_flat hE r hu he hd hm (ev_good r.t x) (ev_good r.t y) h.1 o.type o.dst
          rw [← ev_den r.t d2, ← ev_den r.t hy] at q1
          exact ⟨v, w', _, α', ω', append_run ho has hts q1, q2, q3, h.2⟩
        · split at h
          · rename_i j n lo len hx
            split at h
            · rename_i L hj
              split at h
              · rename_i hf hc
                rw [Bool.and_eq_true] at hc
                have hn := Nat.eq_of_beq_eq_true hc.2
                have gx := ev_good r.t x
                rw [hx] at gx
                have ef := feq_eq hf
                obtain ⟨f', l', own'⟩ := L
                simp only at ef hc hn h
                subst ef
                obtain ⟨v, w', q1, q2, q3⟩ := put_view hE r hu hj hc.1 hn he hm gx (ev_good r.t y) h.1 o.type o.dst
                have e1 : a.eval x = (SC.vw j n lo len).den α := by have := ev_den r.t (x := x) (by rw [hx]; exact fun e => by cases e); rw [hx] at this; exact this
                rw [← e1, ← ev_den r.t hy] at q1
                exact ⟨v, w', _, α, ω, append_run ho has hts q1, q2, q3, h.2⟩
              · cases h
            · cases h
          · cases h
      · cases h
    · rename_i he
      split at h
      · rename_i oj js hh
        obtain ⟨d2, s2, v, w', α', ω', q1, q2, q3⟩ := grown_hdrs r hu hh (ev_good r.t x) (ev_good r.t y) o.type o.dst
        rw [← ev_den r.t d2, ← ev_den r.t s2] at q1
        exact ⟨v, w', _, α', ω', append_run ho has hts q1, q2, q3, h.2⟩
      · split at h
        · rename_i e2 hu2
          split at h
          · rename_i f hf
            have hr : rowT E e = true := by
              cases hr : rowT E e with
              | true => rfl
              | false => rw [hr] at hf; cases hf
            split at h
            · rename_i oj l j' m hd hm
              obtain ⟨_, _, d2, _⟩ := appDsts_ok r.h hd (ev_good r.t x)
              obtain ⟨_, s2, _⟩ := rowSrc_ok r.h hm (ev_good r.t y)
              obtain ⟨v, w', α', ω', q1, q2, q3⟩ := grown_rows r hu hr hd hm (ev_good r.t x) (ev_good r.t y) h.1 o.type o.dst
              rw [← ev_den r.t d2, ← ev_den r.t s2] at q1
              exact ⟨v, w', _, α', ω', append_run ho has hts q1, q2, q3, h.2⟩
            · rename_i oj l hd _
              split at h
              · rename_i j' m hm
                obtain ⟨_, _, d2, _⟩ := appDsts_ok r.h hd (ev_good r.t x)
                obtain ⟨s2, v, w', α', ω', q1, q2, q3⟩ := grown_rowss r hu hr hd hm (ev_good r.t x) h.1 o.type o.dst
                rw [← ev_den r.t d2, ← ev_den r.t s2] at q1
                exact ⟨v, w', _, α', ω', append_run ho has hts q1, q2, q3, h.2⟩
              · cases h
            · cases h
          · cases h
        · cases h
  · cases h
theorem copy_op (r : Rel S α ω B w0 a w) {o : Oper} {args : Array Operand} {ts : Array TypeId} (ho : o.op = .call { callee := .builtin .copy, args := args, argTypes := ts }) {x y : Operand} {t : TypeId} {tr : List TypeId} (has : args.toList = [x, y]) (hts : ts.toList = t :: tr)
    {k : St → Prop} (h : exApp S o.dst k (copyV E S t (S.ev x) (S.ev y))) :
    ∃ v w' S' α' ω', (execOp a.eval o).run E.P w = .ok (.value v) w' ∧ Evo S S' α α' ∧ Rel S' α' ω' B w0 (a.put o.dst v) w' ∧ k S' := by
  unfold copyV at h
  split at h
  · rename_i e hu
    split at h
    · rename_i j L lo len hd
      split at h
      · rename_i sz m he hm
        split at h
        · rename_i hsz
          have hsz := Nat.eq_of_beq_eq_true hsz
          have hy : S.ev y ≠ .any := fun e' => by rw [e'] at hm; cases hm
          obtain ⟨d0, _⟩ := putDst_ok r hd (ev_good r.t x)
          have e1 : args = #[x, y] := by rw [← Array.toArray_toList (xs := args), has]
          have e2 : ts[0]? = some t := by rw [← Array.getElem?_toList, hts]; rfl
          obtain ⟨v, w', q1, q2, q3⟩ := copy_ok r hu hd he hsz hm (ev_good r.t x) (ev_good r.t y) ts o.type o.dst e2
          rw [← ev_den r.t d0, ← ev_den r.t hy] at q1
          refine ⟨v, w', _, α, ω, ?_, q2, q3, h.2⟩
          subst e1
          simp only [execOp, ho, resolve, invoke, builtin, Sem.run_bind, Sem.run_pure, Result.andThen_ok, List.map_toArray, List.map_cons, List.map_nil, q1]
        · cases h
      · cases h
    · cases h
  · cases h
theorem clear_op (hE : ElsOk E) (r : Rel S α ω B w0 a w) {o : Oper} {args : Array Operand} {ts : Array TypeId} (ho : o.op = .call { callee := .builtin .clear, args := args, argTypes := ts }) {x : Operand} {t : TypeId} (has : args.toList = [x]) (hts : ts.toList = [t])
    {k : St → Prop} (h : exApp S o.dst k (clearV E S t (S.ev x))) :
    ∃ v w' S' α' ω', (execOp a.eval o).run E.P w = .ok (.value v) w' ∧ Evo S S' α α' ∧ Rel S' α' ω' B w0 (a.put o.dst v) w' ∧ k S' := by
  unfold clearV at h
  split at h
  · rename_i e hu
    split at h
    · rename_i j L lo len f hd he
      split at h
      · rename_i hf
        have ef := feq_eq hf
        subst ef
        obtain ⟨d0, _⟩ := putDst_ok r hd (ev_good r.t x)
        have e1 : args = #[x] := by rw [← Array.toArray_toList (xs := args), has]
        have e2 : ts = #[t] := by rw [← Array.toArray_toList (xs := ts), hts]
        obtain ⟨v, w', q1, q2, q3⟩ := clear_ok hE r hu hd he (ev_good r.t x) o.type o.dst
        rw [← ev_den r.t d0] at q1
        refine ⟨v, w', _, α, ω, ?_, q2, q3, h.2⟩
        subst e1 e2
        simp only [execOp, ho, resolve, invoke, builtin, Sem.run_bind, Sem.run_pure, Result.andThen_ok, List.map_toArray, List.map_cons, List.map_nil, q1]
      · cases h
    · cases h
  · cases h
end
/-! ### append to a list of which an old header is kept -/
theorem aliV_eq {E : Env} {S : St} {v : SV} {q : AliQ} (h : aliV E S v = some q) : v = .w (.c (.sl q.j)) ∧ S.ev (.tmp q.to) = .w (.c (.vw q.j q.n q.lo q.len)) ∧ isZ q.lo = true := by
  unfold aliV at h
  split at h
  · split at h
    · split at h
      · rename_i hto
        split at h
        · rename_i hc
          rw [Bool.and_eq_true] at hc
          have := Nat.eq_of_beq_eq_true hc.1
          subst this
          cases h
          exact ⟨rfl, hto, hc.2⟩
        · cases h
      · cases h
    · cases h
  · cases h
section
variable {E : Env} {S : St} {α : Al} {ω : Nat → Option Nat} {B : Nat} {w0 w : World} {a : Act}
theorem ev_slot {S : St} {t : Nat} {v : SV} (h : S.ev (.tmp t) = v) (hv : v ≠ .any) : t < S.nt ∧ S.get t = v := by
  have h' : (match Nat.blt t S.nt with | true => S.get t | false => SV.any) = v := h
  split at h'
  · rename_i hlt
    exact ⟨by simpa [Nat.blt_eq] using hlt, h'⟩
  · exact absurd h'.symm hv
theorem grown_two (hE : ElsOk E) (r : Rel S α ω B w0 a w) {t e : TypeId} {f : Fl} (hu : E.P.underlying t = some (.slice e)) (he : look E.els e = some f) {src : SV} {j : Nat} {l m : List f.ty} (hj : S.res j = some (.list ⟨f, l, true⟩)) (hm : S.listOf f src = some m)
    (gs : src.good (· < S.nx) S.res) (hs : lfit f.bytes (lapp l m)) {to n : Nat} {lo len : SI} (hto : S.ev (.tmp to) = .w (.c (.vw j n lo len))) (ty : TypeId) (d : Option Tmp) :
    ∃ v w' α' ω', (Builtin.append_ #[t, t] ty #[α.sv j, src.den α]).run E.P w = .ok v w' ∧
      ((Evo S ((((S.drop (some j)).add [.list ⟨f, lapp l m, true⟩]).put (some to) (.w (.c (.vw S.nx n lo len)))).put d (.w (.c (.sl S.nx)))) α α' ∧
        Rel ((((S.drop (some j)).add [.list ⟨f, lapp l m, true⟩]).put (some to) (.w (.c (.vw S.nx n lo len)))).put d (.w (.c (.sl S.nx)))) α' ω' B w0 (a.put d v) w') ∨
       (Evo S ((S.add [.list ⟨f, lapp l m, true⟩]).put d (.w (.c (.sl S.nx)))) α α' ∧ Rel ((S.add [.list ⟨f, lapp l m, true⟩]).put d (.w (.c (.sl S.nx)))) α' ω' B w0 (a.put d v) w')) := by
  have d1 : LRep w f l (α.sv j) (mineOf ω B j true) true := r.h.rel j _ hj
  have gj : j < S.nx := r.h.dec j _ hj
  have s1 := listOf_ok r.h hm gs
  obtain ⟨i, z, hi, i1, i2, hz, i3⟩ := (hE (e, f) (look_mem he)).ok
  dsimp only at hi i1 i2 i3
  obtain ⟨base, sCap, e1, hdst⟩ := d1.dst
  obtain ⟨xa, xc, e2, _, hsrc⟩ := s1.src
  have hfit : (l.length + m.length) * f.bytes ≤ room := by
    have : (lapp l m).length * f.bytes ≤ 140737488355328 := hs
    rw [lapp, List.length_append] at this; exact this
  have hzs : z.cells.size = i.size := by rw [i1, ← Array.length_toList, i3, vals_len]
  obtain ⟨v', w', hrun, q1, q2, q3, q4, q5⟩ := raw_append2 (P := E.P) w t ty e i z hu hi hz hzs (by rw [i2]; exact bytes_pos f) base l.length sCap (l.flatMap f.vals) (by rw [i1]; exact flat_len (vals_len f) l)
    (by rcases hdst with h | ⟨g, cs, te, h1, _, h3, h4, h5, h6⟩
        · exact .inl h
        · exact .inr ⟨g, cs, te, h1, h3, by rw [i1]; exact h4, h5, h6⟩)
    xa m.length xc (m.flatMap f.vals) (by rw [i1]; exact flat_len (vals_len f) m) (by rcases hsrc with h | ⟨ad, h1, h2⟩; exact .inl h; exact .inr ⟨ad, h1, h2⟩) flat_one (by rw [i2]; exact hfit)
  have hokv : ∀ x ∈ lapp l m, f.okv x := fun x hx => by
    rcases List.mem_append.1 hx with hx | hx
    · exact d1.1 x hx
    · exact s1.1 x hx
  have hn : ¬ S.nx < S.nx := Nat.lt_irrefl _
  have fin : (∃ α' ω', HRel (DN (· < S.nx) S.nx 1) (addR S.res S.nx [.list ⟨f, lapp l m, true⟩]) α' ω' B w0 w' ∧ Agree (· < S.nx) α α' ∧ α'.sv S.nx = v') → ∃ α' ω', Evo S ((S.add [.list ⟨f, lapp l m, true⟩]).put d (.w (.c (.sl S.nx)))) α α' ∧ Rel ((S.add [.list ⟨f, lapp l m, true⟩]).put d (.w (.c (.sl S.nx)))) α' ω' B w0 (a.put d v') w' := fun ⟨α', ω', k1, k2, k3⟩ => by
    obtain ⟨z1, z2⟩ := Rel.added (S := S) r (rs := [.list ⟨f, lapp l m, true⟩]) k1 k2 (v := .w (.c (.sl S.nx))) (.inr ⟨Nat.le_refl _, Nat.lt_succ_self _⟩) d (x := v') (fun _ => k3.symm)
    exact ⟨α', ω', z1, z2⟩
  rcases q5 with ⟨a1, a2, a3, a4⟩ | ⟨g, cap, cs, te, a1, a2, a3, a4, a5, a6, a7, a8⟩
  · subst a4
    have hnil : lapp l m = [] := by
      rw [lapp, List.eq_nil_of_length_eq_zero a1, List.eq_nil_of_length_eq_zero a2]; rfl
    obtain ⟨α', ω', k1, k2, k3, _⟩ := list_new (n := S.nx) r.h hn (f := f) (l := lapp l m) (v := v') r.h.bel (Nat.le_refl _) (fun _ _ _ => rfl) (fun _ => True) ⟨hokv, hs, .inl ⟨_, 0, a3, hnil, fun _ => rfl⟩⟩
    obtain ⟨α2, ω2, z1, z2⟩ := fin ⟨α', ω', k1, k2, k3⟩
    exact ⟨v', _, α2, ω2, by rw [e1, e2]; exact hrun, .inr ⟨z1, z2⟩⟩
  · rcases a7 with ⟨b1, b2, b3⟩ | b1
    · -- in its place
      have hcap := a8 b2
      obtain ⟨ω1, r1, ev1, o1, o2, o3, o4⟩ := r.dropped (some j) (fun x e => by cases e; exact gj)
      have H1 := r1.h
      rw [drop_nx] at H1
      have hgB : B ≤ g ∧ ω1 g = none := by
        rcases hdst with h1 | ⟨g', cs', te', h1, h2, _⟩
        · exact absurd h1 b3
        · rw [b1] at h1; cases h1
          have h2' : ω g = some j := by unfold mineOf at h2; simpa using h2
          exact ⟨(r.h.own _ _ h2').1, o2 _ _ rfl h2'⟩
      obtain ⟨α', ω', k1, k2, k3, _⟩ := list_new (n := S.nx) H1 hn (f := f) (l := lapp l m) (v := v') (below_of H1.bel H1.base q1 q2 q3 q4 hgB.1 a6) q4 (fun b i hb => a6 b (H1.own b i hb).2.1 fun e => by rw [e, hgB.2] at hb; cases hb) (fun _ => True) (by
        have := LRep.of (w := w') (f := f) (l := lapp l m) (m := fun b => True ∧ ω1 b = none ∧ B ≤ b) hokv hs a3 ⟨trivial, hgB.2, hgB.1⟩ (by rw [lapp, List.length_append]; exact a2) (by rw [a4, i1]) (fun k u hk => a5 k u (by rw [lapp, List.flatMap_append] at hk; exact hk))
        rw [a1]
        rw [lapp, List.length_append] at this
        exact this)
      have hnx : (S.drop (some j)).nx = S.nx := drop_nx S (some j)
      obtain ⟨z1, z2⟩ := Rel.added (S := S.drop (some j)) r1 (rs := [.list ⟨f, lapp l m, true⟩]) (by rw [hnx]; exact k1) (by rw [hnx]; exact k2) (v := .w (.c (.sl S.nx))) (.inr (by rw [hnx]; exact ⟨Nat.le_refl _, Nat.lt_succ_self _⟩)) none (x := v') (fun _ => k3.symm)
      obtain ⟨t1, t2⟩ := ev_slot hto (fun e => by cases e)
      have gto := r.t.good to t1
      rw [t2] at gto
      obtain ⟨_, glo, glen, gL⟩ : j < S.nx ∧ lo.ok ∧ len.ok ∧ _ := gto
      obtain ⟨x1, x2, x3, x4⟩ := gL _ hj
      have hden := r.t.den to t1 (by rw [t2]; exact fun e => by cases e)
      rw [t2] at hden
      let X : St := (S.drop (some j)).add [.list ⟨f, lapp l m, true⟩]
      have hX : X.res S.nx = some (.list ⟨f, lapp l m, true⟩) := by
        show ((S.drop (some j)).add [.list ⟨f, lapp l m, true⟩]).res S.nx = _
        rw [add_res, hnx]
        unfold addR
        rw [if_pos ⟨Nat.le_refl _, by simp⟩]; simp
      have hXnx : X.nx = S.nx + 1 := by show (S.drop (some j)).nx + 1 = _; rw [hnx]
      have z2 : Rel X α' ω' B w0 a w' := z2
      have hgood : (SV.w (.c (.vw S.nx n lo len))).good (· < X.nx) X.res := by
        refine ⟨by rw [hXnx]; exact Nat.lt_succ_self _, glo, glen, fun L' hL' => ?_⟩
        rw [hX] at hL'; cases hL'
        refine ⟨x1, x2, x3, ?_⟩
        show lo.v + len.v ≤ (((lapp l m).length : Nat) : Int)
        have x4 : lo.v + len.v ≤ ((l.length : Nat) : Int) := x4
        unfold lapp; rw [List.length_append]; omega
      have hdeq : (SV.w (.c (.vw j n lo len))).den α = (SV.w (.c (.vw S.nx n lo len))).den α' := by
        show SC.den α (.vw j n lo len) = SC.den α' (.vw S.nx n lo len)
        simp only [SC.den]
        rw [e1, k3, a1, b1, hcap]
      have r2 : Rel (X.put (some to) (.w (.c (.vw S.nx n lo len)))) α' ω' B w0 a w' := by
        refine ⟨z2.h, ⟨z2.t.size, fun t' ht' => ?_, fun t' ht' hne => ?_⟩, z2.d⟩
        · rw [get_put]
          show SV.good _ _ (if to = t' then _ else _)
          split
          · exact hgood
          · exact z2.t.good t' ht'
        · rw [get_put] at hne ⊢
          by_cases e0 : to = t'
          · subst e0
            simp only [if_true]
            rw [← hdeq]; exact hden
          · simp only [if_neg e0] at hne ⊢
            exact z2.t.den t' ht' hne
      have r3 := r2.put (v := .w (.c (.sl S.nx))) (by show S.nx < X.nx; rw [hXnx]; exact Nat.lt_succ_self _) d (x := v') (fun _ => k3.symm)
      have z1 : Evo (S.drop (some j)) X α α' := z1
      exact ⟨v', w', α', ω', by rw [e1, e2]; exact hrun, .inl ⟨((ev1.trans z1).trans (Evo.put X (some to) _ α')).trans (Evo.put _ d _ α'), r3⟩⟩
    · -- a new one
      obtain ⟨α', ω', k1, k2, k3, _⟩ := list_new (n := S.nx) r.h hn (f := f) (l := lapp l m) (v := v') (below_of r.h.bel r.h.base q1 q2 q3 q4 (by rw [b1]; exact r.h.base) a6) q4 (fun b i hb => a6 b (r.h.own b i hb).2.1 fun e => by have := (r.h.own b i hb).2.1; omega) (fun _ => True) (by
        have := LRep.of (w := w') (f := f) (l := lapp l m) (m := fun b => True ∧ ω b = none ∧ B ≤ b) hokv hs a3 ⟨trivial, by rw [b1]; exact below_none r.h, by rw [b1]; exact r.h.base⟩ (by rw [lapp, List.length_append]; exact a2) (by rw [a4, i1]) (fun k u hk => a5 k u (by rw [lapp, List.flatMap_append] at hk; exact hk))
        rw [a1]
        rw [lapp, List.length_append] at this
        exact this)
      obtain ⟨α2, ω2, z1, z2⟩ := fin ⟨α', ω', k1, k2, k3⟩
      exact ⟨v', w', α2, ω2, by rw [e1, e2]; exact hrun, .inr ⟨z1, z2⟩⟩
theorem app2_ok (hE : ElsOk E) (r : Rel S α ω B w0 a w) {o : Oper} {args : Array Operand} {ts : Array TypeId} (ho : o.op = .call { callee := .builtin .append, args := args, argTypes := ts }) {x y : Operand} {t t' : TypeId} (has : args.toList = [x, y]) (hts : ts.toList = [t, t'])
    {q : AliQ} (hq : aliV E S (S.ev x) = some q) {k : St → Prop} (h : exApp2 S o.dst q k (appV E S t t' (S.ev x) (S.ev y))) :
    ∃ v w' S' α' ω', (execOp a.eval o).run E.P w = .ok (.value v) w' ∧ Evo S S' α α' ∧ Rel S' α' ω' B w0 (a.put o.dst v) w' ∧ k S' := by
  obtain ⟨hx, hto, hlo⟩ := aliV_eq hq
  rw [hx] at h
  unfold appV at h
  split at h
  · rename_i e htt hu
    have htt := Nat.eq_of_beq_eq_true htt
    subst htt
    split at h
    · rename_i f he
      split at h
      · rename_i m hm
        have hy : S.ev y ≠ .any := fun e' => by rw [e'] at hm; cases hm
        split at h
        · rename_i oj l hd
          unfold appDst at hd
          dsimp only at hd
          split at hd
          · rename_i L0 hj
            split at hd
            · rename_i hf ho'
              cases hd
              unfold exApp2 at h
              dsimp only at h
              split at h
              · have e0 := feq_eq hf
                obtain ⟨f', l0, own'⟩ := L0
                simp only at e0 ho' hj h
                subst e0 ho'
                obtain ⟨hside, hin, hgr⟩ := h
                obtain ⟨v, w', α', ω', q1, q2⟩ := grown_two hE r hu he hj hm (ev_good r.t y) hside hto o.type o.dst
                have ex : a.eval x = α.sv q.j := (ev_c r.t hx).1
                have hrun := append_run (P := E.P) ho has hts (v := v) (w := w) (w' := w') (by rw [ex, ev_den r.t hy]; exact q1)
                rcases q2 with ⟨z1, z2⟩ | ⟨z1, z2⟩
                · exact ⟨v, w', _, α', ω', hrun, z1, z2, hin⟩
                · exact ⟨v, w', _, α', ω', hrun, z1, z2, hgr⟩
              · cases h
            · cases hd
          · cases hd
        · dsimp only at h; cases h
      · cases h
    · split at h
      · rename_i oj js _
        cases oj <;> cases h
      · split at h
        · split at h
          · split at h
            · rename_i oj l j' m hd hm
              cases oj <;> cases h
            · rename_i oj l _ _
              split at h
              · cases oj <;> cases h
              · cases h
            · cases h
          · cases h
        · cases h
  · cases h
end
def mutArgs : Option FuncId → List Value
  | none => []
  | some g => [.func (.func g) #[] #[]]
/-- A call that turns a list in its place does what is said. -/
def MutSound (P : Program) (f : FuncId) (M : MutC) : Prop :=
  ∀ (w : World) (l : List M.f.ty) (v : Value), M.pre l → LRep w M.f l v (fun _ => True) true →
    Calls P f (v :: mutArgs M.fn).toArray w fun e w' => e = .returned (.tuple #[]) ∧ w'.os = w.os ∧ w'.tape = w.tape ∧ OutD w w' ∧ w.heap.size ≤ w'.heap.size ∧
      (∀ b, b < w.heap.size → rowBlk v ≠ some b → w'.heap[b]? = w.heap[b]?) ∧ (M.G l).length = l.length ∧ LRep w' M.f (M.G l) v (fun _ => True) true
theorem mut_ok {S S' : St} {α : Al} {ω : Nat → Option Nat} {B : Nat} {w0 w : World} {a : Act} (r : Rel S α ω B w0 a w) {P : Program} {f : FuncId} {M : MutC} (hM : MutSound P f M) {args : List SV} {pr : Prop} (h : mutV S M args = some (pr, S')) (hpr : pr) :
    (∀ v ∈ args, v ≠ .any) ∧ Calls P f (args.map (SV.den α)).toArray w fun e w' => e = .returned (.tuple #[]) ∧ Evo S S' α α ∧ Rel S' α ω B w0 a w' := by
  unfold mutV at h
  split at h
  · rename_i j rest
    split at h
    · rename_i L hj hm
      split at h
      · rename_i hf ho
        cases h
        have ef := feq_eq hf
        obtain ⟨f', l', own'⟩ := L
        simp only at ef ho hf ⊢
        subst ho
        obtain ⟨Mf, Mfn, MG, Mp⟩ := M
        simp only at ef hf hm hM hpr ⊢
        subst ef
        have hrel : LRep w Mf l' (α.sv j) (mineOf ω B j true) true := r.h.rel j _ hj
        have hargs : (∀ v ∈ (SV.w (.c (.sl j)) :: rest), v ≠ .any) ∧ (SV.w (.c (.sl j)) :: rest).map (SV.den α) = α.sv j :: mutArgs Mfn := by
          split at hm
          · exact ⟨fun v hv => by rw [List.mem_singleton.1 hv]; exact (fun e => by cases e), rfl⟩
          · rename_i g g'
            have := Nat.eq_of_beq_eq_true hm
            subst this
            refine ⟨fun v hv => ?_, rfl⟩
            rcases List.mem_cons.1 hv with rfl | hv
            · exact fun e => by cases e
            · rw [List.mem_singleton.1 hv]; exact fun e => by cases e
          · cases hm
        refine ⟨hargs.1, ?_⟩
        rw [hargs.2]
        refine (hM w l' (α.sv j) hpr (hrel.frame fun b _ _ => ⟨trivial, rfl⟩)).mono fun e w' he => ?_
        obtain ⟨e1, e2, e3, e4, e5, e6, e7, e8⟩ := he
        have hk : Keep (· < S.nx) S.res (fun i => if j = i then some (.list ⟨Mf, MG l', true⟩) else S.res i) := Keep.updL hj rfl e7.symm
        have hmine : ∀ b, rowBlk (α.sv j) = some b → ω b = some j := fun b hb => by
          have := (hrel.rowBlk hb).1
          unfold mineOf at this; simpa using this
        have HS := r.h.setOwn (r' := .list ⟨Mf, MG l', true⟩) (r.h.dec j _ hj) (r.h.bel.trans ⟨⟨e2, e3, e4.out, e5, fun k hk' => e6 k (by have := r.h.base; omega) fun e => by have := (r.h.own _ _ (hmine k e)).1; omega⟩, e4.drawn⟩) e5 (fun b i' hb' hne => e6 b (r.h.own _ _ hb').2.1 fun e => hne (by rw [hmine b e] at hb'; cases hb'; rfl))
          (e8.frame1 fun b hb => ⟨rfl, by unfold mineOf; simpa using hmine b hb⟩) hk (fun b e => by cases e) (fun L e => by cases e)
        obtain ⟨z1, z2⟩ := set_rel r HS hk
        exact ⟨e1, z1, z2⟩
      · cases h
    · cases h
  · cases h

end Go.Fx
end
