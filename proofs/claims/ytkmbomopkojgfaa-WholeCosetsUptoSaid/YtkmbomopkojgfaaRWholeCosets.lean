/-
  WholeCosets: whatever the input, the law returns true, and its input reads behind the call as it did. Conditions: what it reads is of bulk at most 1048576.
-/
import Derived.Test.YtkmbomopkojgfaaEu
import Derived.Test.YtkmbomopkojgfaaK16
import Derived.Test.YtkmbomopkojgfaaRows
import Derived.Deep.CondSized
namespace Go.Proofs.Ytkmbomopkojgfaa
open Go.ChangeShapes Go.WideShapes Go.ChangeAt Go.RowKit Go.Fx
set_option maxRecDepth 100000
theorem own : ownKnob Try.prog.godebug = none := by kernel_rfl
theorem laidOut : laidOutB Try.prog = true := by kernel_rfl

theorem bulk_one {H : Type} (d : DataW H) : 1 ≤ Rows.uptoBulk d := by
  cases d with
  | lit l => cases l <;> simp [Rows.uptoBulk]
  | nil => simp [Rows.uptoBulk]
  | ptr d => simp [Rows.uptoBulk]
  | slice elems spare => simp [Rows.uptoBulk]
  | agg parts => simp [Rows.uptoBulk]
  | iface t d => simp [Rows.uptoBulk]
  | map entries => simp [Rows.uptoBulk]
  | held h => simp [Rows.uptoBulk]
theorem bulk_part {H : Type} {d : DataW H} {l : List (DataW H)} (h : d ∈ l) : Rows.uptoBulk d ≤ Rows.uptoBulkAll l := by
  induction l with
  | nil => cases h
  | cons x r ih =>
    simp only [Rows.uptoBulkAll]
    rcases List.mem_cons.1 h with e | e
    · subst e; omega
    · have := ih e; omega
theorem bulk_len {H : Type} (l : List (DataW H)) : l.length ≤ Rows.uptoBulkAll l := by
  induction l with
  | nil => simp [Rows.uptoBulkAll]
  | cons x r ih => have := bulk_one x; simp only [Rows.uptoBulkAll, List.length_cons]; omega
theorem bulk_app {H : Type} (l r : List (DataW H)) : Rows.uptoBulkAll (l ++ r) = Rows.uptoBulkAll l + Rows.uptoBulkAll r := by
  induction l with
  | nil => simp [Rows.uptoBulkAll]
  | cons x l ih => simp only [List.cons_append, Rows.uptoBulkAll, ih]; omega
theorem bulk_slice {H : Type} {ds gs : List (DataW H)} (hk : Rows.uptoSmall H (ds ++ gs) = true) : ∀ d ∈ ds, ∀ elems spare, d = DataW.slice elems spare → elems.length ≤ 1048576 := fun d hd elems spare e => by
  have h : Rows.uptoBulkAll (ds ++ gs) ≤ 1048576 := of_decide_eq_true hk
  have h1 := bulk_part hd
  have h2 := bulk_len elems
  rw [bulk_app] at h
  rw [e] at h1
  simp only [Rows.uptoBulk] at h1
  omega
theorem wholeCosets_lifted (os : Os) (started : os.Started) (H : Type) (enc : TypeId × Value → H) (F : Stop.Interp) :
    ReturnsInHanded {} Try.checked os 7 .any ((Rows.OpenSpec.upto Rows.wholeCosetsSpec).pre6 enc Try.prog Try.f7 Rows.wholeCosetsUptoRow.domain false) (((Rows.OpenSpec.upto Rows.wholeCosetsSpec).at F).post enc Try.prog Try.f7 false true false false) := by
  refine returnsInHanded_of_cond_sized (C := Try.checked) (s := Rows.OpenSpec.upto Rows.wholeCosetsSpec) (k := Rows.uptoSmall) rfl own started (by kernel_rfl) Try.func7
    (OpenSpec.witness (enc := enc) (C := Try.checked) (s := Rows.OpenSpec.upto Rows.wholeCosetsSpec) (k := Rows.uptoSmall) rfl false ⟨#[], #[(.slice none 0 0), (.slice none 0 0)], []⟩ 8 (by kernel_rfl) (by kernel_rfl) (by kernel_rfl)
      (x := ([.nil, .nil], [], [])) (by kernel_rfl) rfl (by kernel_rfl)) ?_
  intro W base args ds gs before hval0 hW hcnd hk hz _
  exact law_callsU s_WholeCosets (K := 1048576) (fun x _ h => by have h1 : x.1.length ≤ 1048576 := h.1; have h2 : x.2.1.length ≤ 1048576 := h.2.1; show (x.1.length + x.2.1.length) * 6 ≤ 140737488355328; omega) (fun x vs W' own n0 h => res_true rfl h) laidOut (by
    rw [Try.params7]
    exact fun t ht => by
      simp only [List.mem_cons, List.not_mem_nil, or_false] at ht
      rcases ht with rfl | rfl <;> exact ⟨by kernel_rfl, of_decide_eq_true (by kernel_rfl)⟩) rfl (by kernel_rfl : Try.prog.underlying (Try.f7.resultTypes[0]!) = some .bool)
    (by rw [Try.params7]; exact ⟨⟨59, by kernel_rfl, by kernel_rfl, by kernel_rfl, by kernel_rfl⟩, ⟨59, by kernel_rfl, by kernel_rfl, by kernel_rfl, by kernel_rfl⟩, trivial⟩) rfl
    (fun ds hds => by
      rw [Try.params7] at hds
      match ds, hds with
      | [d1, d2], _ => exact ⟨rfl, rfl, rfl⟩) hval0 hW hz (bulk_slice hk)
theorem wholeCosets_holds : Rows.WholeCosetsUptoSaid :=
  OpenClaim.holds_of_cond 7 Try.f7 rfl rfl rfl rfl rfl rfl rfl ⟨rfl, rfl, rfl, rfl, rfl⟩ rfl rfl rfl rfl rfl (by kernel_rfl) Try.func7 (by kernel_rfl)
    (of_decide_eq_true (by kernel_rfl)) (by unfold Func.isWrapper; first | (rw [if_pos (by decide +kernel)]; kernel_rfl) | (rw [if_neg (by decide +kernel)]; exact ⟨rfl, rfl⟩))
    (fun os started H enc _ F => wholeCosets_lifted os started H enc F)
end Go.Proofs.Ytkmbomopkojgfaa
