/-
  Contracts: UnitPoints.
-/
import Derived.Test.YtolbgdfbdlddaaaK24
import Derived.Test.YtolbgdfbdlddaaaUm
namespace Go.Fx
open Go Go.Proofs
set_option maxRecDepth 100000
set_option linter.unusedVariables false
set_option linter.unusedSimpArgs false
set_option linter.unusedSectionVars false
noncomputable def C_UnitPoints : Contract := { args := [.list .op, .agg .vec, .int .i64], res := [.bool], pre := fun _ => True, F := fun x => ((true : Bool), ()) }
def T_UnitPoints (g : List Op3) (n : V3) (k : Int) : Prop :=
  (True ∧
∀ z3 : Bool,
(z3 = true →
(((!z3) = true →
 (false, ()) = (true, ())) ∧
((!z3) = false →
(True ∧
∀ z6 : List V3,
(z6 = fiL g n →
∀ z8 : List Int,
(z8 = ciL g n →
∀ z10 : Int,
(z10 = fuE g n →
(((!(decide (z10 = 0))) = true →
 (true, ()) = (true, ())) ∧
((!(decide (z10 = 0))) = false →
(((decide ((z6.length : Int) = 0)) = true →
 (true, ()) = (true, ())) ∧
((decide ((z6.length : Int) = 0)) = false →
((n.x ≠ 0) ∧
(((!(decide ((Int.tmod 192 n.x) = 0))) = true →
 (true, ()) = (true, ())) ∧
((!(decide ((Int.tmod 192 n.x) = 0))) = false →
((n.y ≠ 0) ∧
(((!(decide ((Int.tmod 192 n.y) = 0))) = true →
 (true, ()) = (true, ())) ∧
((!(decide ((Int.tmod 192 n.y) = 0))) = false →
((n.z ≠ 0) ∧
(((!(decide ((Int.tmod 192 n.z) = 0))) = true →
 (true, ()) = (true, ())) ∧
((!(decide ((Int.tmod 192 n.z) = 0))) = false →
(True ∧
∀ z17 : Bool,
(z17 = fewB n →
(((!z17) = true →
 (true, ()) = (true, ())) ∧
((!z17) = false →
(inM2 (z6.length : Int) ∧
∀ z20 : Int,
(z20 = emo k (z6.length : Int) →
(inB z6 z20 ∧
((n.x ≠ 0) ∧
(inB z6 z20 ∧
((n.y ≠ 0) ∧
(inB z6 z20 ∧
((n.z ≠ 0) ∧
(True ∧
∀ z22 : List Pt,
(z22 = ofL g ((Pt.mk 192 ((V3.mk ((w64 ((((z6.getD (z20).toNat (V3.mk 0 0 0))).x * (Int.tdiv 192 n.x))))) ((w64 ((((z6.getD (z20).toNat (V3.mk 0 0 0))).y * (Int.tdiv 192 n.y))))) ((w64 ((((z6.getD (z20).toNat (V3.mk 0 0 0))).z * (Int.tdiv 192 n.z))))))))) →
∀ z24 : Int,
(z24 = ocE g ([(Pt.mk 192 ((V3.mk ((w64 ((((z6.getD (z20).toNat (V3.mk 0 0 0))).x * (Int.tdiv 192 n.x))))) ((w64 ((((z6.getD (z20).toNat (V3.mk 0 0 0))).y * (Int.tdiv 192 n.y))))) ((w64 ((((z6.getD (z20).toNat (V3.mk 0 0 0))).z * (Int.tdiv 192 n.z))))))))]) →
(((!(decide (z24 = 0))) = true →
 (false, ()) = (true, ())) ∧
((!(decide (z24 = 0))) = false →
(inB z8 z20 ∧
(((!(decide ((z22.length : Int) = (z8.getD (z20).toNat 0)))) = true →
 (false, ()) = (true, ())) ∧
((!(decide ((z22.length : Int) = (z8.getD (z20).toNat 0)))) = false →
(rgP (g.length : Int) 0 ∧
∀ z28 : Int,
((decide ((-9223372036854775808) ≤ z28)) = true →
((decide (z28 ≤ 9223372036854775807)) = true →
(rgP (g.length : Int) z28 →
(((decide (z28 < (g.length : Int))) = true →
 (inB g z28 ∧
 (inB z6 z20 ∧
 (True ∧
 (True ∧
 ∀ z33 : Pt,
 (z33 = appP (((g.getD (z28).toNat zerO))) ((Pt.mk 192 ((V3.mk ((w64 ((((z6.getD (z20).toNat (V3.mk 0 0 0))).x * (Int.tdiv 192 n.x))))) ((w64 ((((z6.getD (z20).toNat (V3.mk 0 0 0))).y * (Int.tdiv 192 n.y))))) ((w64 ((((z6.getD (z20).toNat (V3.mk 0 0 0))).z * (Int.tdiv 192 n.z))))))))) →
 ∀ z35 : Int,
 (z35 = appE (((g.getD (z28).toNat zerO))) ((Pt.mk 192 ((V3.mk ((w64 ((((z6.getD (z20).toNat (V3.mk 0 0 0))).x * (Int.tdiv 192 n.x))))) ((w64 ((((z6.getD (z20).toNat (V3.mk 0 0 0))).y * (Int.tdiv 192 n.y))))) ((w64 ((((z6.getD (z20).toNat (V3.mk 0 0 0))).z * (Int.tdiv 192 n.z))))))))) →
 (((!(decide (muE (((g.getD (z28).toNat zerO))) n ((z6.getD (z20).toNat (V3.mk 0 0 0))) = 0))) = true →
  (false, ()) = (true, ())) ∧
 ((!(decide (muE (((g.getD (z28).toNat zerO))) n ((z6.getD (z20).toNat (V3.mk 0 0 0))) = 0))) = false →
 (((!(decide (z35 = 0))) = true →
  (false, ()) = (true, ())) ∧
 ((!(decide (z35 = 0))) = false →
 ((n.x ≠ 0) ∧
 (((!(decide (z33.X.x = (w64 (((muV (((g.getD (z28).toNat zerO))) n ((z6.getD (z20).toNat (V3.mk 0 0 0)))).x * (Int.tdiv 192 n.x))))))) = true →
  (false, ()) = (true, ())) ∧
 ((!(decide (z33.X.x = (w64 (((muV (((g.getD (z28).toNat zerO))) n ((z6.getD (z20).toNat (V3.mk 0 0 0)))).x * (Int.tdiv 192 n.x))))))) = false →
 ((n.y ≠ 0) ∧
 (((!(decide (z33.X.y = (w64 (((muV (((g.getD (z28).toNat zerO))) n ((z6.getD (z20).toNat (V3.mk 0 0 0)))).y * (Int.tdiv 192 n.y))))))) = true →
  (false, ()) = (true, ())) ∧
 ((!(decide (z33.X.y = (w64 (((muV (((g.getD (z28).toNat zerO))) n ((z6.getD (z20).toNat (V3.mk 0 0 0)))).y * (Int.tdiv 192 n.y))))))) = false →
 ((n.z ≠ 0) ∧
 (((!(decide (z33.X.z = (w64 (((muV (((g.getD (z28).toNat zerO))) n ((z6.getD (z20).toNat (V3.mk 0 0 0)))).z * (Int.tdiv 192 n.z))))))) = true →
  (false, ()) = (true, ())) ∧
 ((!(decide (z33.X.z = (w64 (((muV (((g.getD (z28).toNat zerO))) n ((z6.getD (z20).toNat (V3.mk 0 0 0)))).z * (Int.tdiv 192 n.z))))))) = false →
 (rgP (g.length : Int) ((w64 (z28 + 1))) ∧
 ((decide (0 ≤ opMu g ((w64 (z28 + 1))))) = true ∧
 (decide (opMu g ((w64 (z28 + 1))) < opMu g z28)) = true)))))))))))))))))))))) ∧
((decide (z28 < (g.length : Int))) = false →
(true, ()) = (true, ()))))))))))))))))))))))))))))))))))))))))))))))))
theorem r_UnitPoints (x : HL C_UnitPoints.args) : runs (env0 [(13, C_awake10.hid), (18, C_few10.hid), (19, C_uFirsts.hid), (34, C_r3Mod.hid), (35, C_oOf.hid), (16, C_uMove.hid), (36, C_opApply.hid)] [(11, 17, { fix := [], vars := [(.tmp 102, .int .i64)], inv := fun y v => rgP (lenI x.1) v.1, mu := fun y v => opMu x.1 v.1 })] []) 3000 11 C_UnitPoints x = T_UnitPoints x.1 x.2.1 x.2.2.1 := by kernel_rfl
theorem p_UnitPoints (g : List Op3) (n : V3) (k : Int) (h0 : (Sh.list .op).okA g) (h1 : (Sh.agg .vec).okA n) (h2 : (Sh.int .i64).okA k) : T_UnitPoints g n k := by
  have hb : g.length * 96 ≤ room := h0.2
  unfold T_UnitPoints
  refine ⟨trivial, fun z hz => ⟨fun h => absurd (hz ▸ h) (by decide), fun _ => ⟨trivial, fun f hf c hc e he => ⟨fun _ => by trivial, fun q => ⟨fun _ => by trivial, fun q2 => ?_⟩⟩⟩⟩⟩
  have h0z : fuE g n = 0 := by rw [← he]; simpa using q
  obtain ⟨hck, hn, hs, hfB, hfF⟩ := fu_zero h0z
  have hpl := pl_pos hs
  have hFm := (chk_grp hck).1
  obtain ⟨a1, a2, _, _⟩ := ans_ok h0z
  rw [a1] at hf
  rw [a2] at hc
  obtain ⟨l1, l2, l3⟩ := fs_lenP (g := g) (n := n)
  have hP2 : plN n ≤ 262144 := by unfold plN; omega
  subst hf hc
  have nx : n.x ≠ 0 := by have := hs.x0; omega
  have ny : n.y ≠ 0 := by have := hs.y0; omega
  have nz : n.z ≠ 0 := by have := hs.z0; omega
  have q2 := of_decide_eq_false q2
  refine ⟨nx, fun _ => by trivial, fun d1 => ⟨ny, fun _ => by trivial, fun d2 => ⟨nz, fun _ => by trivial, fun d3 => ⟨trivial, fun w hw => ⟨fun _ => by trivial, fun _ => ⟨⟨by omega, by omega⟩, fun i hi => ?_⟩⟩⟩⟩⟩⟩
  have dv : ∀ m : Int, (!(decide (Int.tmod 192 m = 0))) = false → m ∣ 192 := fun m h => Int.dvd_of_tmod_eq_zero (by simpa using h)
  have hd : dvU n := ⟨dv _ d1, dv _ d2, dv _ d3⟩
  have hin : inB (fsA g n) i := by rw [hi]; unfold emo; exact ⟨Int.emod_nonneg _ (by omega), Int.emod_lt_of_pos _ (by omega)⟩
  obtain ⟨j, hj, hlo, e1, e2, e3⟩ := fs_at hin
  have hat : inG n (atV n (j : Nat)) = true := at_in hs (by omega) (by unfold plN at hj; omega)
  rw [e1, ptU_w hs hd hat]
  obtain ⟨o1, o2⟩ := of_ct h0z hd hj hlo
  refine ⟨hin, nx, hin, ny, hin, nz, trivial, fun l hl e5 he5 => ⟨fun h => absurd h (by rw [he5, o1]; decide), fun _ => ⟨e3, fun h => absurd h (by rw [hl, e2, o2]; simp), fun _ => ⟨⟨Int.le_refl _, by omega⟩, fun x _ _ hJ => ⟨fun hx => ?_, fun _ => by trivial⟩⟩⟩⟩⟩
  have hx := of_decide_eq_true hx
  have hgo := getD_mem hJ.1 hx zerO
  obtain ⟨m1, m2⟩ := mu_of (n := n) (a := atV n (j : Nat)) ⟨hFm _ hgo, hn, hfB _ hgo, hat⟩
  obtain ⟨p1, p2⟩ := appP_frm (hFm _ hgo) (pt_frm hs hd hat)
  rw [m1, m2, p1, p2, pt_mov hs hd (hfF _ hgo)]
  have pw := ptU_w hs hd (mov_in (g.getD x.toNat zerO) hs (atV n (j : Nat)))
  obtain ⟨u1, u2, u3⟩ := opMu_next hb hJ.1 hx
  rw [u1] at u2 u3 ⊢
  exact ⟨⟨hJ.1, hx⟩, hin, trivial, trivial, fun r hr s hs5 => ⟨fun h => absurd h (by decide), fun _ => ⟨fun h => absurd h (by rw [hs5]; decide), fun _ => ⟨nx, fun h => absurd h (by rw [hr, ← pw]; simp), fun _ => ⟨ny, fun h => absurd h (by rw [hr, ← pw]; simp), fun _ => ⟨nz, fun h => absurd h (by rw [hr, ← pw]; simp), fun _ => ⟨⟨by have := hJ.1; omega, by omega⟩, u2, u3⟩⟩⟩⟩⟩⟩⟩
theorem s_UnitPoints : Sound Try.prog 11 C_UnitPoints :=
  sound_of_eqs (fun x => env0 [(13, C_awake10.hid), (18, C_few10.hid), (19, C_uFirsts.hid), (34, C_r3Mod.hid), (35, C_oOf.hid), (16, C_uMove.hid), (36, C_opApply.hid)] [(11, 17, { fix := [], vars := [(.tmp 102, .int .i64)], inv := fun y v => rgP (lenI x.1) v.1, mu := fun y v => opMu x.1 v.1 })] []) (fun _ => rfl) (fun _ => env0_ok (.cons s_awake10.hid (.cons s_few10.hid (.cons s_uFirsts.hid (.cons s_r3Mod.hid (.cons s_oOf.hid (.cons s_uMove.hid (.cons s_opApply.hid (.nil))))))))) (fun x => T_UnitPoints x.1 x.2.1 x.2.2.1) r_UnitPoints fun x ok hp => p_UnitPoints x.1 x.2.1 x.2.2.1 ok.1 ok.2.1 ok.2.2.1
end Go.Fx
