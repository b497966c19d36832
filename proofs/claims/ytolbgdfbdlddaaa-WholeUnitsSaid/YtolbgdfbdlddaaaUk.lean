/-
  Layer 10 in Lean: grids, orbits of places, the loops over them, the statements.
-/
import Derived.Test.YtolbgdfbdlddaaaGm
import Derived.Test.YtolbgdfbdlddaaaSc
import Derived.Test.YtolbgdfbdlddaaaGk
set_option linter.unusedSimpArgs false
set_option linter.unusedVariables false
set_option linter.unusedSectionVars false
section
set_option linter.unusedSimpArgs false
set_option linter.unusedVariables false
set_option linter.unusedSectionVars false
namespace Go.Fx
open Go
def sidB (n : V3) : Bool := decide (1 ≤ n.x) && decide (n.x ≤ 192) && (decide (1 ≤ n.y) && decide (n.y ≤ 192)) && (decide (1 ≤ n.z) && decide (n.z ≤ 192))
def sidE (n : V3) : Int := if sidB n = true then (if 262144 < n.x * n.y * n.z then 2 else 0) else 1
/-- Of two errors the least that is one. -/
def lsE (e f : Int) : Int := if e = 0 ∨ (f ≠ 0 ∧ f < e) then f else e
def fitX (r ni nj : Int) : Bool := decide (Int.tmod (w64 (r * ni)) nj = 0)
def fitB (o : Op3) (n : V3) : Bool :=
  (fitX o.R.xx n.x n.x && (fitX o.R.xy n.x n.y && (fitX o.R.xz n.x n.z && fitX o.T.x n.x 24))) &&
  ((fitX o.R.yx n.y n.x && (fitX o.R.yy n.y n.y && (fitX o.R.yz n.y n.z && fitX o.T.y n.y 24))) &&
  (fitX o.R.zx n.z n.x && (fitX o.R.zy n.z n.y && (fitX o.R.zz n.z n.z && fitX o.T.z n.z 24))))
def fuE (g : List Op3) (n : V3) : Int := if lsE (chkE g) (sidE n) = 0 then (if g.all (fun o => fitB o n) = true then 0 else 6) else lsE (chkE g) (sidE n)
/-- The sum that tells where a map sends a place, in n-ths. -/
def movS (o : Op3) (n a : V3) : V3 :=
  V3.mk (o.T.x * n.x / 24 + o.R.xx * n.x / n.x * a.x + o.R.xy * n.x / n.y * a.y + o.R.xz * n.x / n.z * a.z)
    (o.T.y * n.y / 24 + o.R.yx * n.y / n.x * a.x + o.R.yy * n.y / n.y * a.y + o.R.yz * n.y / n.z * a.z)
    (o.T.z * n.z / 24 + o.R.zx * n.z / n.x * a.x + o.R.zy * n.z / n.y * a.y + o.R.zz * n.z / n.z * a.z)
def movV (o : Op3) (n a : V3) : V3 := V3.mk ((movS o n a).x % n.x) ((movS o n a).y % n.y) ((movS o n a).z % n.z)
def inG (n a : V3) : Bool := (decide (0 ≤ a.x) && decide (a.x < n.x)) && ((decide (0 ≤ a.y) && decide (a.y < n.y)) && (decide (0 ≤ a.z) && decide (a.z < n.z)))
/-- All is told in parts of the grid's common cut. -/
def allG (n : V3) : Int := n.x * n.y * n.z * 24
def upN (n a : V3) : V3 := V3.mk (a.x * (n.y * n.z * 24)) (a.y * (n.x * n.z * 24)) (a.z * (n.x * n.y * 24))
structure Fit (o : Op3) (n : V3) : Prop where
  xx : n.x ∣ o.R.xx * n.x
  xy : n.y ∣ o.R.xy * n.x
  xz : n.z ∣ o.R.xz * n.x
  yx : n.x ∣ o.R.yx * n.y
  yy : n.y ∣ o.R.yy * n.y
  yz : n.z ∣ o.R.yz * n.y
  zx : n.x ∣ o.R.zx * n.z
  zy : n.y ∣ o.R.zy * n.z
  zz : n.z ∣ o.R.zz * n.z
  tx : (24 : Int) ∣ o.T.x * n.x
  ty : (24 : Int) ∣ o.T.y * n.y
  tz : (24 : Int) ∣ o.T.z * n.z
structure Sid (n : V3) : Prop where
  x0 : 1 ≤ n.x
  x1 : n.x ≤ 192
  y0 : 1 ≤ n.y
  y1 : n.y ≤ 192
  z0 : 1 ≤ n.z
  z1 : n.z ≤ 192
  p : n.x * n.y * n.z ≤ 262144
theorem sid_ok {n : V3} (h : sidE n = 0) : Sid n := by
  unfold sidE at h
  split at h
  · rename_i hb
    split at h
    · cases h
    · rename_i hp
      simp only [sidB, Bool.and_eq_true, decide_eq_true_eq] at hb
      obtain ⟨⟨⟨a1, a2⟩, a3, a4⟩, a5, a6⟩ := hb
      exact ⟨a1, a2, a3, a4, a5, a6, by omega⟩
  · cases h
theorem fitX_iff {r ni nj : Int} (hr : -1000 ≤ r ∧ r ≤ 1000) (hn : 1 ≤ ni ∧ ni ≤ 192) : fitX r ni nj = true ↔ nj ∣ r * ni := by
  have hm : -576000 ≤ r * ni ∧ r * ni ≤ 576000 := by
    have := dotB (a := r) (b := 0) (c := 0) (x := ni) (y := 0) (z := 0) 1000 192 hr ⟨by omega, by omega⟩ ⟨by omega, by omega⟩ ⟨by omega, by omega⟩ ⟨by omega, by omega⟩ ⟨by omega, by omega⟩
    simp only [Int.zero_mul, Int.add_zero, Int.mul_zero] at this
    omega
  unfold fitX
  rw [w64_id (by omega) (by omega), decide_eq_true_iff]
  exact ⟨Int.dvd_of_tmod_eq_zero, Int.tmod_eq_zero_of_dvd⟩
theorem fit_iff {o : Op3} {n : V3} (ho : Frm o) (hn : Sid n) : fitB o n = true ↔ Fit o n := by
  have ht := inT_B ho.T
  have bx : 1 ≤ n.x ∧ n.x ≤ 192 := ⟨hn.x0, hn.x1⟩
  have bY : 1 ≤ n.y ∧ n.y ≤ 192 := ⟨hn.y0, hn.y1⟩
  have bz : 1 ≤ n.z ∧ n.z ≤ 192 := ⟨hn.z0, hn.z1⟩
  have t1 : -1000 ≤ o.T.x ∧ o.T.x ≤ 1000 := by omega
  have t2 : -1000 ≤ o.T.y ∧ o.T.y ≤ 1000 := by omega
  have t3 : -1000 ≤ o.T.z ∧ o.T.z ≤ 1000 := by omega
  unfold fitB
  simp only [Bool.and_eq_true, fitX_iff ho.B.xx bx, fitX_iff ho.B.xy bx, fitX_iff ho.B.xz bx, fitX_iff t1 bx, fitX_iff ho.B.yx bY, fitX_iff ho.B.yy bY, fitX_iff ho.B.yz bY, fitX_iff t2 bY, fitX_iff ho.B.zx bz, fitX_iff ho.B.zy bz, fitX_iff ho.B.zz bz, fitX_iff t3 bz]
  constructor
  · rintro ⟨⟨a1, a2, a3, a4⟩, ⟨b1, b2, b3, b4⟩, c1, c2, c3, c4⟩
    exact ⟨a1, a2, a3, b1, b2, b3, c1, c2, c3, a4, b4, c4⟩
  · rintro ⟨a1, a2, a3, b1, b2, b3, c1, c2, c3, a4, b4, c4⟩
    exact ⟨⟨a1, a2, a3, a4⟩, ⟨b1, b2, b3, b4⟩, c1, c2, c3, c4⟩
/-- A whole share: r p = (r p / q) q, by which r (p k) a = ((r p / q) a) (q k). -/
theorem share {r p q k a M N : Int} (h : q ∣ r * p) (hM : M = q * k) (hN : N = p * k) : r * p / q * a * M = r * (a * N) := by
  have e := Int.ediv_mul_cancel h
  subst hM hN
  calc r * p / q * a * (q * k) = r * p / q * q * (a * k) := by
        rw [Int.mul_assoc (r * p / q), Int.mul_assoc (r * p / q), Int.mul_left_comm a q k]
    _ = r * p * (a * k) := by rw [e]
    _ = r * (a * (p * k)) := by rw [Int.mul_assoc, Int.mul_left_comm p a k]
theorem share1 {r p a M : Int} (h : p ≠ 0) : r * p / p * a * M = r * (a * M) := by
  rw [Int.mul_ediv_cancel r h, Int.mul_assoc]
theorem shareT {t p k M N : Int} (h : (24 : Int) ∣ t * p) (hM : M = k * 24) (hN : N = p * k) : t * p / 24 * M = N * t := by
  have e := Int.ediv_mul_cancel h
  subst hM hN
  rw [Int.mul_comm k 24, ← Int.mul_assoc, e, Int.mul_comm t p, Int.mul_assoc, Int.mul_comm t k, ← Int.mul_assoc]
theorem up_mov {o : Op3} {n : V3} (hs : Sid n) (h : Fit o n) (a : V3) : upN n (movS o n a) = addV (appZ o.R (upN n a)) (scaV (n.x * n.y * n.z) o.T) := by
  obtain ⟨x0, x1, y0, y1, z0, z1, _⟩ := hs
  obtain ⟨a1, a2, a3, b1, b2, b3, c1, c2, c3, a4, b4, c4⟩ := h
  obtain ⟨p, q, r⟩ := n
  simp only at *
  have k1 : ∀ u v w : Int, u * v * w = v * (u * w) := fun u v w => by rw [Int.mul_comm u v, Int.mul_assoc]
  have k2 : ∀ u v w : Int, u * v * w = u * (v * w) := fun u v w => Int.mul_assoc u v w
  refine V3.ext3 ?_ ?_ ?_
  · show (o.T.x * p / 24 + o.R.xx * p / p * a.x + o.R.xy * p / q * a.y + o.R.xz * p / r * a.z) * (q * r * 24) = o.R.xx * (a.x * (q * r * 24)) + o.R.xy * (a.y * (p * r * 24)) + o.R.xz * (a.z * (p * q * 24)) + p * q * r * o.T.x
    rw [Int.add_mul, Int.add_mul, Int.add_mul, shareT (k := q * r) (N := p * q * r) a4 rfl (k2 p q r), share1 (by omega), share (k := r * 24) (N := p * r * 24) a2 (k2 q r 24) (k2 p r 24), share (k := q * 24) (N := p * q * 24) a3 (k1 q r 24) (k2 p q 24)]
    omega
  · show (o.T.y * q / 24 + o.R.yx * q / p * a.x + o.R.yy * q / q * a.y + o.R.yz * q / r * a.z) * (p * r * 24) = o.R.yx * (a.x * (q * r * 24)) + o.R.yy * (a.y * (p * r * 24)) + o.R.yz * (a.z * (p * q * 24)) + p * q * r * o.T.y
    rw [Int.add_mul, Int.add_mul, Int.add_mul, shareT (k := p * r) (N := p * q * r) b4 rfl (by rw [k1 p q r]), share (k := r * 24) (N := q * r * 24) b1 (k2 p r 24) (k2 q r 24), share1 (by omega), share (k := p * 24) (N := p * q * 24) b3 (k1 p r 24) (k1 p q 24)]
    omega
  · show (o.T.z * r / 24 + o.R.zx * r / p * a.x + o.R.zy * r / q * a.y + o.R.zz * r / r * a.z) * (p * q * 24) = o.R.zx * (a.x * (q * r * 24)) + o.R.zy * (a.y * (p * r * 24)) + o.R.zz * (a.z * (p * q * 24)) + p * q * r * o.T.z
    rw [Int.add_mul, Int.add_mul, Int.add_mul, shareT (k := p * q) (N := p * q * r) c4 rfl (Int.mul_comm (p * q) r), share (k := q * 24) (N := q * r * 24) c1 (k2 p q 24) (k1 q r 24), share (k := p * 24) (N := p * r * 24) c2 (k1 p q 24) (k1 p r 24), share1 (by omega)]
    omega
theorem mod_up {a m k : Int} : a % m * k % (m * k) = a * k % (m * k) := by
  have e : a * k = a % m * k + m * k * (a / m) := by
    calc a * k = (a % m + m * (a / m)) * k := by rw [Int.emod_add_mul_ediv]
      _ = _ := by rw [Int.add_mul, Int.mul_right_comm]
  rw [e, Int.add_mul_emod_self_left]
/-- In parts of the common cut a map sends a place where it sends points. -/
theorem mov_eqV {o : Op3} {n : V3} (hs : Sid n) (h : Fit o n) (a : V3) : eqV (allG n) (upN n (movV o n a)) (addV (appZ o.R (upN n a)) (scaV (n.x * n.y * n.z) o.T)) := by
  rw [← up_mov hs h a, eqV_iff]
  have e1 : allG n = n.x * (n.y * n.z * 24) := by unfold allG; rw [Int.mul_assoc n.x, Int.mul_assoc n.x]
  have e2 : allG n = n.y * (n.x * n.z * 24) := by unfold allG; rw [Int.mul_comm n.x n.y, Int.mul_assoc n.y, Int.mul_assoc n.y]
  have e3 : allG n = n.z * (n.x * n.y * 24) := by unfold allG; rw [Int.mul_comm (n.x * n.y) n.z, Int.mul_assoc n.z]
  refine ⟨?_, ?_, ?_⟩
  · rw [e1]; exact mod_up
  · rw [e2]; exact mod_up
  · rw [e3]; exact mod_up
theorem inG_iff {n a : V3} : inG n a = true ↔ (0 ≤ a.x ∧ a.x < n.x) ∧ (0 ≤ a.y ∧ a.y < n.y) ∧ (0 ≤ a.z ∧ a.z < n.z) := by
  simp only [inG, Bool.and_eq_true, decide_eq_true_eq]
theorem mov_in (o : Op3) {n : V3} (hs : Sid n) (a : V3) : inG n (movV o n a) = true := by
  obtain ⟨x0, x1, y0, y1, z0, z1, _⟩ := hs
  exact inG_iff.2 ⟨⟨Int.emod_nonneg _ (by omega), Int.emod_lt_of_pos _ (by omega)⟩, ⟨Int.emod_nonneg _ (by omega), Int.emod_lt_of_pos _ (by omega)⟩, Int.emod_nonneg _ (by omega), Int.emod_lt_of_pos _ (by omega)⟩
theorem mul_inj {m x y k : Int} (hk : 0 < k) (hx : 0 ≤ x ∧ x < m) (hy : 0 ≤ y ∧ y < m) (h : x * k % (m * k) = y * k % (m * k)) : x = y := by
  have b : ∀ z : Int, 0 ≤ z ∧ z < m → z * k % (m * k) = z * k := fun z hz => Int.emod_eq_of_lt (Int.mul_nonneg hz.1 (by omega)) (Int.mul_lt_mul_of_pos_right hz.2 hk)
  rw [b x hx, b y hy] at h
  exact Int.eq_of_mul_eq_mul_right (by omega) h
/-- Places of the grid that are one in parts of the common cut are one. -/
theorem up_inj {n a b : V3} (hs : Sid n) (ha : inG n a = true) (hb : inG n b = true) (h : eqV (allG n) (upN n a) (upN n b)) : a = b := by
  obtain ⟨x0, x1, y0, y1, z0, z1, _⟩ := hs
  obtain ⟨a1, a2, a3⟩ := inG_iff.1 ha
  obtain ⟨b1, b2, b3⟩ := inG_iff.1 hb
  have e1 : allG n = n.x * (n.y * n.z * 24) := by unfold allG; rw [Int.mul_assoc n.x, Int.mul_assoc n.x]
  have e2 : allG n = n.y * (n.x * n.z * 24) := by unfold allG; rw [Int.mul_comm n.x n.y, Int.mul_assoc n.y, Int.mul_assoc n.y]
  have e3 : allG n = n.z * (n.x * n.y * 24) := by unfold allG; rw [Int.mul_comm (n.x * n.y) n.z, Int.mul_assoc n.z]
  have pos : ∀ u v : Int, 1 ≤ u → 1 ≤ v → 0 < u * v * 24 := fun u v hu hv => Int.mul_pos (Int.mul_pos (by omega) (by omega)) (by omega)
  obtain ⟨h1, h2, h3⟩ := eqV_iff.1 h
  rw [e1] at h1
  rw [e2] at h2
  rw [e3] at h3
  exact V3.ext3 (mul_inj (pos _ _ y0 z0) a1 b1 h1) (mul_inj (pos _ _ x0 z0) a2 b2 h2) (mul_inj (pos _ _ x0 y0) a3 b3 h3)
/-- 24ths in parts of the common cut. -/
theorem sca_all {n : V3} {s t : V3} (h : eqV 24 s t) : eqV (allG n) (scaV (n.x * n.y * n.z) s) (scaV (n.x * n.y * n.z) t) := by
  rw [eqV_iff] at *
  have key : ∀ a b : Int, a % 24 = b % 24 → (n.x * n.y * n.z * a) % (n.x * n.y * n.z * 24) = (n.x * n.y * n.z * b) % (n.x * n.y * n.z * 24) := fun a b e => by
    generalize n.x * n.y * n.z = P
    rw [Int.mul_comm P a, Int.mul_comm P b, Int.mul_comm P 24, ← mod_up (a := a), e, mod_up]
  exact ⟨key _ _ h.1, key _ _ h.2.1, key _ _ h.2.2⟩
theorem dvd_sum {a b c m : Int} (h1 : m ∣ a) (h2 : m ∣ b) (h3 : m ∣ c) : m ∣ a + b + c := Int.dvd_add (Int.dvd_add h1 h2) h3
/-- Whole shares behind whole shares. -/
theorem dvd_two {r s p q w : Int} (hq : q ≠ 0) (h1 : q ∣ r * p) (h2 : w ∣ s * q) : w ∣ r * s * p := by
  obtain ⟨u, hu⟩ := h1
  obtain ⟨v, hv⟩ := h2
  refine ⟨u * v, Int.eq_of_mul_eq_mul_left hq ?_⟩
  calc q * (r * s * p) = (r * p) * (s * q) := by
        rw [Int.mul_right_comm r s p, Int.mul_comm q, Int.mul_assoc]
    _ = (q * u) * (w * v) := by rw [hu, hv]
    _ = q * (w * (u * v)) := by rw [Int.mul_assoc, Int.mul_left_comm u w v]
theorem fit_mul {a b : Op3} {n : V3} (hs : Sid n) (ha : Fit a n) (hb : Fit b n) : Fit (mulO a b) n := by
  obtain ⟨x0, x1, y0, y1, z0, z1, _⟩ := hs
  have nx : n.x ≠ 0 := by omega
  have ny : n.y ≠ 0 := by omega
  have nz : n.z ≠ 0 := by omega
  have sum : ∀ (u v w p m : Int), m ∣ u * p → m ∣ v * p → m ∣ w * p → m ∣ (u + v + w) * p := fun u v w p m h1 h2 h3 => by
    rw [Int.add_mul, Int.add_mul]; exact dvd_sum h1 h2 h3
  have tr : ∀ (r t p q : Int), q ≠ 0 → q ∣ r * p → (24 : Int) ∣ t * q → (24 : Int) ∣ r * t * p := fun r t p q hq h1 h2 => dvd_two hq h1 h2
  have md : ∀ t p : Int, (24 : Int) ∣ t * p → (24 : Int) ∣ t % 24 * p := fun t p h => by
    obtain ⟨u, hu⟩ := h
    have e : t % 24 * p = t * p - 24 * (t / 24 * p) := by
      rw [Int.emod_def, Int.sub_mul, Int.mul_assoc]
    exact ⟨u - t / 24 * p, by rw [e, hu, Int.mul_sub]⟩
  have s4 : ∀ (u v w t p : Int), (24 : Int) ∣ u * p → (24 : Int) ∣ v * p → (24 : Int) ∣ w * p → (24 : Int) ∣ t * p → (24 : Int) ∣ (u + v + w + t) % 24 * p := fun u v w t p h1 h2 h3 h4 => md _ _ (by
    rw [Int.add_mul]; exact Int.dvd_add (sum u v w p 24 h1 h2 h3) h4)
  exact ⟨sum _ _ _ _ _ (dvd_two nx ha.xx hb.xx) (dvd_two ny ha.xy hb.yx) (dvd_two nz ha.xz hb.zx),
    sum _ _ _ _ _ (dvd_two nx ha.xx hb.xy) (dvd_two ny ha.xy hb.yy) (dvd_two nz ha.xz hb.zy),
    sum _ _ _ _ _ (dvd_two nx ha.xx hb.xz) (dvd_two ny ha.xy hb.yz) (dvd_two nz ha.xz hb.zz),
    sum _ _ _ _ _ (dvd_two nx ha.yx hb.xx) (dvd_two ny ha.yy hb.yx) (dvd_two nz ha.yz hb.zx),
    sum _ _ _ _ _ (dvd_two nx ha.yx hb.xy) (dvd_two ny ha.yy hb.yy) (dvd_two nz ha.yz hb.zy),
    sum _ _ _ _ _ (dvd_two nx ha.yx hb.xz) (dvd_two ny ha.yy hb.yz) (dvd_two nz ha.yz hb.zz),
    sum _ _ _ _ _ (dvd_two nx ha.zx hb.xx) (dvd_two ny ha.zy hb.yx) (dvd_two nz ha.zz hb.zx),
    sum _ _ _ _ _ (dvd_two nx ha.zx hb.xy) (dvd_two ny ha.zy hb.yy) (dvd_two nz ha.zz hb.zy),
    sum _ _ _ _ _ (dvd_two nx ha.zx hb.xz) (dvd_two ny ha.zy hb.yz) (dvd_two nz ha.zz hb.zz),
    s4 _ _ _ _ _ (tr _ _ _ _ nx ha.xx hb.tx) (tr _ _ _ _ ny ha.xy hb.ty) (tr _ _ _ _ nz ha.xz hb.tz) ha.tx,
    s4 _ _ _ _ _ (tr _ _ _ _ nx ha.yx hb.tx) (tr _ _ _ _ ny ha.yy hb.ty) (tr _ _ _ _ nz ha.yz hb.tz) ha.ty,
    s4 _ _ _ _ _ (tr _ _ _ _ nx ha.zx hb.tx) (tr _ _ _ _ ny ha.zy hb.ty) (tr _ _ _ _ nz ha.zz hb.tz) ha.tz⟩
end Go.Fx
end
section
set_option linter.unusedSimpArgs false
set_option linter.unusedVariables false
set_option linter.unusedSectionVars false
namespace Go.Fx
open Go
theorem mov_mul {a b : Op3} {n : V3} (hs : Sid n) (ha : Fit a n) (hb : Fit b n) (x : V3) : movV (mulO a b) n x = movV a n (movV b n x) := by
  refine up_inj hs (mov_in _ hs _) (mov_in _ hs _) ?_
  refine (mov_eqV hs (fit_mul hs ha hb) x).trans ?_
  refine eqV.trans ?_ (mov_eqV hs ha (movV b n x)).symm
  show eqV (allG n) (addV (appZ (mulZ a.R b.R) (upN n x)) (scaV (n.x * n.y * n.z) (modV 24 (addV (appZ a.R b.T) a.T)))) (addV (appZ a.R (upN n (movV b n x))) (scaV (n.x * n.y * n.z) a.T))
  refine (eqV_add (eqV.refl _ _) (sca_all (eqV_mod _ _))).trans ?_
  refine eqV.trans ?_ (eqV_add (eqV_app a.R (mov_eqV hs hb x)) (eqV.refl _ _)).symm
  rw [app_mul, app_add, app_sca, sca_add, addV_assoc]
  exact eqV.refl _ _
theorem fit_one {n : V3} : Fit oneO n := by
  have z : ∀ m p : Int, m ∣ 0 * p := fun m p => by rw [Int.zero_mul]; exact Int.dvd_zero m
  have o : ∀ p : Int, p ∣ 1 * p := fun p => by rw [Int.one_mul]; exact Int.dvd_refl p
  exact ⟨o _, z _ _, z _ _, z _ _, o _, z _ _, z _ _, z _ _, o _, z _ _, z _ _, z _ _⟩
theorem mov_one {n x : V3} (hs : Sid n) (hx : inG n x = true) : movV oneO n x = x := by
  refine up_inj hs (mov_in _ hs _) hx ?_
  refine (mov_eqV hs fit_one x).trans ?_
  show eqV (allG n) (addV (appZ (oneZ 1) (upN n x)) (scaV (n.x * n.y * n.z) (V3.mk 0 0 0))) (upN n x)
  have e : scaV (n.x * n.y * n.z) (V3.mk 0 0 0) = V3.mk 0 0 0 := by simp [scaV]
  rw [e, app_one, addV_zero]
  exact eqV.refl _ _
theorem fit_inv {b : Op3} {n : V3} (hs : Sid n) (h : Fit b n) : Fit (invO b) n := by
  obtain ⟨x0, x1, y0, y1, z0, z1, _⟩ := hs
  have nx : n.x ≠ 0 := by omega
  have ny : n.y ≠ 0 := by omega
  have nz : n.z ≠ 0 := by omega
  have cm : ∀ {w r s p : Int}, w ∣ r * s * p → w ∣ s * r * p := fun {w r s p} h => by rwa [Int.mul_comm s r]
  have o1 : ∀ {w r p : Int} (s : Int), w ∣ r * p → w ∣ s * r * p := fun {w r p} s h => by rw [Int.mul_assoc]; exact Int.dvd_mul_of_dvd_right h
  have o2 : ∀ {w r p : Int} (s : Int), w ∣ r * p → w ∣ r * s * p := fun {w r p} s h => cm (o1 s h)
  have sub : ∀ {w u v p : Int} (d : Int), w ∣ u * p → w ∣ v * p → w ∣ (u - v) * d * p := fun {w u v p} d h1 h2 => o2 d (by rw [Int.sub_mul]; exact Int.dvd_sub h1 h2)
  have dg : ∀ (u p : Int), p ∣ u * p := fun u p => Int.dvd_mul_left ..
  have f1 : n.x ∣ (invO b).R.xx * n.x := dg _ _
  have f2 : n.y ∣ (invO b).R.xy * n.x := sub (detZ b.R) (cm (dvd_two nz h.xz h.zy)) (o1 _ h.xy)
  have f3 : n.z ∣ (invO b).R.xz * n.x := sub (detZ b.R) (dvd_two ny h.xy h.yz) (o2 _ h.xz)
  have f4 : n.x ∣ (invO b).R.yx * n.y := sub (detZ b.R) (dvd_two nz h.yz h.zx) (o2 _ h.yx)
  have f5 : n.y ∣ (invO b).R.yy * n.y := dg _ _
  have f6 : n.z ∣ (invO b).R.yz * n.y := sub (detZ b.R) (cm (dvd_two nx h.yx h.xz)) (o1 _ h.yz)
  have f7 : n.x ∣ (invO b).R.zx * n.z := sub (detZ b.R) (cm (dvd_two ny h.zy h.yx)) (o1 _ h.zx)
  have f8 : n.y ∣ (invO b).R.zy * n.z := sub (detZ b.R) (dvd_two nx h.zx h.xy) (o2 _ h.zy)
  have f9 : n.z ∣ (invO b).R.zz * n.z := dg _ _
  have md : ∀ t p : Int, (24 : Int) ∣ t * p → (24 : Int) ∣ t % 24 * p := fun t p h => by
    obtain ⟨u, hu⟩ := h
    have e : t % 24 * p = t * p - 24 * (t / 24 * p) := by
      rw [Int.emod_def, Int.sub_mul, Int.mul_assoc]
    exact ⟨u - t / 24 * p, by rw [e, hu, Int.mul_sub]⟩
  have t3 : ∀ {r1 r2 r3 p : Int}, n.x ∣ r1 * p → n.y ∣ r2 * p → n.z ∣ r3 * p → (24 : Int) ∣ (-(r1 * b.T.x + r2 * b.T.y + r3 * b.T.z)) % 24 * p := fun {r1 r2 r3 p} h1 h2 h3 => md _ _ (by
    rw [Int.neg_mul, Int.add_mul, Int.add_mul]
    exact Int.dvd_neg.2 (dvd_sum (dvd_two nx h1 h.tx) (dvd_two ny h2 h.ty) (dvd_two nz h3 h.tz)))
  exact ⟨f1, f2, f3, f4, f5, f6, f7, f8, f9, t3 f1 f2 f3, t3 f4 f5 f6, t3 f7 f8 f9⟩
/-- What undoes a map sends places back. -/
theorem mov_back {b : Op3} {n x : V3} (hs : Sid n) (hF : Frm b) (hb : Fit b n) (hx : inG n x = true) : movV (invO b) n (movV b n x) = x := by
  rw [← mov_mul hs (fit_inv hs hb) hb, (inv_mul hF).2, mov_one hs hx]
end Go.Fx
end
section
set_option linter.unusedSimpArgs false
set_option linter.unusedVariables false
set_option linter.unusedSectionVars false
namespace Go.Fx
open Go
def sidP (n : V3) : Prop := sidE n = 0
def movP (o : Op3) (n a : V3) : Prop := Frm o ∧ sidE n = 0 ∧ fitB o n = true ∧ inG n a = true
def muE (o : Op3) (n a : V3) : Int := if inG n a = true then (if lsE (errO o) (sidE n) = 0 then (if fitB o n = true then 0 else 6) else lsE (errO o) (sidE n)) else 1
def muV (o : Op3) (n a : V3) : V3 := if muE o n a = 0 then movV o n a else V3.mk 0 0 0
def flI (g : List Op3) (n : V3) (i : Int) : Prop := 0 ≤ i ∧ i ≤ (g.length : Int) ∧ ∀ k : Nat, k < i.toNat → fitB (g.getD k zerO) n = true
def lstE (l : List Int) : Int := l.foldl lsE 0
def lstI (l : List Int) (i e : Int) : Prop := 0 ≤ i ∧ i ≤ (l.length : Int) ∧ e = lstE (l.take i.toNat)
def inM2 (m : Int) : Prop := 1 ≤ m ∧ m ≤ 100000000000
theorem fmod_eq2 {n m : Int} (hm : inM2 m) : w64 (Int.tmod n m + m) = Int.tmod n m + m ∧ Int.tmod (Int.tmod n m + m) m = n % m ∧ m ≠ 0 := by
  obtain ⟨h1, h2⟩ := hm
  have hr : (n.tmod m).natAbs < m.natAbs := by rw [Int.natAbs_tmod]; exact Nat.mod_lt _ (by omega)
  refine ⟨w64_id (by omega) (by omega), ?_, by omega⟩
  rw [Int.tmod_eq_emod_of_nonneg (by omega)]
  have := resP_mod m n
  unfold resP at this
  rwa [Int.emod_emod_of_dvd _ (Int.dvd_refl m)] at this
theorem lsE_zero {e f : Int} (h : lsE e f = 0) : e = 0 ∧ f = 0 := by
  unfold lsE at h
  split at h
  · rename_i c
    rcases c with c | c
    · exact ⟨c, h⟩
    · exact absurd h c.1
  · rename_i c
    exact absurd (.inl h) c
theorem lsE_comm {e f : Int} (he : 0 ≤ e) (hf : 0 ≤ f) : lsE e f = lsE f e := by
  unfold lsE
  split <;> split <;> omega
theorem lstE_two (a b : Int) : lstE [a, b] = lsE a b := by
  show lsE (lsE 0 a) b = _
  unfold lsE
  simp
theorem lst_next {l : List Int} {i e : Int} (h : lstI l i e) (hi : i < (l.length : Int)) : lstI l (i + 1) (lsE e (l.getD i.toNat 0)) := by
  obtain ⟨h1, h2, h3⟩ := h
  refine ⟨by omega, by omega, ?_⟩
  rw [take_succ h1 hi (0 : Int)]
  unfold lstE
  rw [List.foldl_append, h3]; rfl
theorem fl_next {g : List Op3} {n : V3} {i : Int} (h : flI g n i) (hi : i < (g.length : Int)) (hf : fitB (g.getD i.toNat zerO) n = true) : flI g n (i + 1) := by
  obtain ⟨h1, h2, h3⟩ := h
  refine ⟨by omega, by omega, fun k hk => ?_⟩
  rcases Nat.lt_or_ge k i.toNat with c | c
  · exact h3 k c
  · have : k = i.toNat := by omega
    rw [this]; exact hf
theorem fl_end {g : List Op3} {n : V3} {i : Int} (h : flI g n i) (hi : ¬ i < (g.length : Int)) : g.all (fun o => fitB o n) = true := by
  rw [List.all_eq_true]
  intro o ho
  obtain ⟨k, hk, e⟩ := List.mem_iff_getElem.1 ho
  have := h.2.2 k (by omega)
  rwa [show g.getD k zerO = o by simp [List.getD, hk, e]] at this
theorem fl_bad {g : List Op3} {n : V3} {i : Int} (h0 : 0 ≤ i) (hi : i < (g.length : Int)) (hf : ¬ fitB (g.getD i.toNat zerO) n = true) : ¬ g.all (fun o => fitB o n) = true := fun c => hf ((List.all_eq_true.1 c) _ (getD_mem h0 hi zerO))
/-- A map's shares in the code. -/
theorem mv_t {t p : Int} (h0 : 0 ≤ t) (h1 : t ≤ 24) (p0 : 1 ≤ p) (p1 : p ≤ 192) : w64 (t * p) = t * p ∧ Int.tdiv (t * p) 24 = t * p / 24 ∧ 0 ≤ t * p / 24 ∧ t * p / 24 ≤ 192 := by
  have b0 : 0 ≤ t * p := Int.mul_nonneg h0 (by omega)
  have b1 : t * p ≤ 24 * 192 := Int.le_trans (Int.mul_le_mul_of_nonneg_right h1 (by omega)) (Int.mul_le_mul_of_nonneg_left p1 (by omega))
  exact ⟨w64_id (by omega) (by omega), Int.tdiv_eq_ediv_of_nonneg b0, by omega, by omega⟩
theorem mv_r {r p q a : Int} (r0 : -1000 ≤ r ∧ r ≤ 1000) (p0 : 1 ≤ p) (p1 : p ≤ 192) (q0 : 1 ≤ q) (hq : q ∣ r * p) (a0 : 0 ≤ a) (a1 : a ≤ 192) :
    w64 (r * p) = r * p ∧ w64 (Int.tdiv (r * p) q) = r * p / q ∧ w64 (r * p / q * a) = r * p / q * a ∧ -110592000 ≤ r * p / q * a ∧ r * p / q * a ≤ 110592000 := by
  have hm : -576000 ≤ r * p ∧ r * p ≤ 576000 := by
    have := dotB (a := r) (b := 0) (c := 0) (x := p) (y := 0) (z := 0) 1000 192 r0 ⟨by omega, by omega⟩ ⟨by omega, by omega⟩ ⟨by omega, by omega⟩ ⟨by omega, by omega⟩ ⟨by omega, by omega⟩
    simp only [Int.zero_mul, Int.add_zero, Int.mul_zero] at this
    omega
  obtain ⟨u, hu⟩ := hq
  have e1 : r * p / q = u := by rw [hu, Int.mul_ediv_cancel_left u (by omega)]
  have e2 : Int.tdiv (r * p) q = u := by rw [hu, Int.mul_tdiv_cancel_left u (by omega)]
  have bu : -576000 ≤ u ∧ u ≤ 576000 := by
    rw [hu] at hm
    constructor
    · refine Classical.byContradiction fun c => ?_
      have : q * u ≤ 1 * u := Int.mul_le_mul_of_nonpos_right q0 (by omega)
      omega
    · refine Classical.byContradiction fun c => ?_
      have : 1 * u ≤ q * u := Int.mul_le_mul_of_nonneg_right q0 (by omega)
      omega
  have ba : -110592000 ≤ u * a ∧ u * a ≤ 110592000 := by
    constructor
    · have h1 : -576000 * a ≤ u * a := Int.mul_le_mul_of_nonneg_right bu.1 a0
      omega
    · have h1 : u * a ≤ 576000 * a := Int.mul_le_mul_of_nonneg_right bu.2 a0
      omega
  rw [e1, e2]
  exact ⟨w64_id (by omega) (by omega), w64_id (by omega) (by omega), w64_id (by omega) (by omega), ba.1, ba.2⟩
theorem umv {t r1 r2 r3 p n1 n2 n3 a1 a2 a3 : Int} (t0 : 0 ≤ t) (t1 : t ≤ 24) (p0 : 1 ≤ p) (p1 : p ≤ 192) (b1 : -1000 ≤ r1 ∧ r1 ≤ 1000) (b2 : -1000 ≤ r2 ∧ r2 ≤ 1000) (b3 : -1000 ≤ r3 ∧ r3 ≤ 1000) (m1 : 1 ≤ n1) (m2 : 1 ≤ n2) (m3 : 1 ≤ n3)
    (d1 : n1 ∣ r1 * p) (d2 : n2 ∣ r2 * p) (d3 : n3 ∣ r3 * p) (c1 : 0 ≤ a1 ∧ a1 ≤ 192) (c2 : 0 ≤ a2 ∧ a2 ≤ 192) (c3 : 0 ≤ a3 ∧ a3 ≤ 192) :
    Int.tmod (w64 (Int.tmod (w64 (w64 (w64 (Int.tdiv (w64 (t * p)) 24 + w64 (w64 (Int.tdiv (w64 (r1 * p)) n1) * a1)) + w64 (w64 (Int.tdiv (w64 (r2 * p)) n2) * a2)) + w64 (w64 (Int.tdiv (w64 (r3 * p)) n3) * a3))) p + p)) p = (t * p / 24 + r1 * p / n1 * a1 + r2 * p / n2 * a2 + r3 * p / n3 * a3) % p := by
  obtain ⟨e1, e2, e3, e4⟩ := mv_t t0 t1 p0 p1
  obtain ⟨f1, f2, f3, f4, f5⟩ := mv_r b1 p0 p1 m1 d1 c1.1 c1.2
  obtain ⟨g1, g2, g3, g4, g5⟩ := mv_r b2 p0 p1 m2 d2 c2.1 c2.2
  obtain ⟨h1, h2, h3, h4, h5⟩ := mv_r b3 p0 p1 m3 d3 c3.1 c3.2
  rw [e1, e2, f1, f2, f3, g1, g2, g3, h1, h2, h3]
  generalize t * p / 24 = u at *
  generalize r1 * p / n1 * a1 = v at *
  generalize r2 * p / n2 * a2 = w at *
  generalize r3 * p / n3 * a3 = x at *
  rw [w64_id (x := u + v) (by omega) (by omega), w64_id (x := u + v + w) (by omega) (by omega), w64_id (x := u + v + w + x) (by omega) (by omega)]
  obtain ⟨q1, q2, _⟩ := fmod_eq2 (n := u + v + w + x) (m := p) ⟨p0, by omega⟩
  rw [q1, q2]
def inC (n a : V3) (i : Int) : Bool := (decide (0 ≤ a.x) && decide (a.x < n.x)) && ((decide (i < 1) || (decide (0 ≤ a.y) && decide (a.y < n.y))) && (decide (i < 2) || (decide (0 ≤ a.z) && decide (a.z < n.z))))
/-- The error behind part i of a place. -/
def dmG (E : Int) (n a : V3) (i e : Int) : Prop := e = if inC n a i = true then E else 1
def dmI (n a : V3) (i e : Int) : Prop := dmG (sidE n) n a i e
def dmJ (o : Op3) (n a : V3) (i e : Int) : Prop := dmG (lsE (mulE o oneO) (sidE n)) n a i e
theorem inC_2 (n a : V3) : inC n a 2 = inG n a := rfl
theorem sid_prod {n : V3} (h : sidB n = true) : w64 (n.x * n.y) = n.x * n.y ∧ w64 (n.x * n.y * n.z) = n.x * n.y * n.z := by
  simp only [sidB, Bool.and_eq_true, decide_eq_true_eq] at h
  obtain ⟨⟨⟨a1, a2⟩, a3, a4⟩, a5, a6⟩ := h
  have b0 : 0 ≤ n.x * n.y := Int.mul_nonneg (by omega) (by omega)
  have b1 : n.x * n.y ≤ 192 * 192 := Int.le_trans (Int.mul_le_mul_of_nonneg_right a2 (by omega)) (Int.mul_le_mul_of_nonneg_left a4 (by omega))
  have c0 : 0 ≤ n.x * n.y * n.z := Int.mul_nonneg b0 (by omega)
  have c1 : n.x * n.y * n.z ≤ 192 * 192 * 192 := Int.le_trans (Int.mul_le_mul_of_nonneg_right b1 (by omega)) (Int.mul_le_mul_of_nonneg_left a6 (by omega))
  exact ⟨w64_id (by omega) (by omega), w64_id (by omega) (by omega)⟩
theorem sid_nn (n : V3) : 0 ≤ sidE n := by
  unfold sidE
  split
  · split <;> omega
  · omega
theorem chk_nn (g : List Op3) : 0 ≤ chkE g := by
  have hL := errL_vals g
  unfold chkE gE
  by_cases h1 : 192 < (g.length : Int)
  · simp [h1]
  · rw [if_neg h1]
    by_cases h2 : errL g = 0
    · rw [if_pos h2]
      split <;> omega
    · rw [if_neg h2]; omega
theorem dm_0 (E : Int) (n a : V3) : ((decide (a.x < 0)) = true → dmG E n a 0 1) ∧ ((decide (a.x < 0)) = false → (((decide (n.x ≤ a.x)) = true → dmG E n a 0 1) ∧ ((decide (n.x ≤ a.x)) = false → dmG E n a 0 E))) := by
  unfold dmG inC
  refine ⟨fun h => ?_, fun h => ⟨fun h2 => ?_, fun h2 => ?_⟩⟩
  · have h := of_decide_eq_true h
    rw [decide_eq_false (show ¬ 0 ≤ a.x by omega)]; simp
  · have h2 := of_decide_eq_true h2
    rw [decide_eq_false (show ¬ a.x < n.x by omega)]; simp
  · have h := of_decide_eq_false h
    have h2 := of_decide_eq_false h2
    rw [decide_eq_true (show 0 ≤ a.x by omega), decide_eq_true (show a.x < n.x by omega)]; simp
theorem dm_1 {E : Int} {n a : V3} {e : Int} (hd : dmG E n a 0 e) : ((decide (a.y < 0)) = true → dmG E n a 1 1) ∧ ((decide (a.y < 0)) = false → (((decide (n.y ≤ a.y)) = true → dmG E n a 1 1) ∧ ((decide (n.y ≤ a.y)) = false → dmG E n a 1 e))) := by
  unfold dmG inC at *
  refine ⟨fun h => ?_, fun h => ⟨fun h2 => ?_, fun h2 => ?_⟩⟩
  · have h := of_decide_eq_true h
    rw [decide_eq_false (show ¬ 0 ≤ a.y by omega)]; simp
  · have h2 := of_decide_eq_true h2
    rw [decide_eq_false (show ¬ a.y < n.y by omega)]; simp
  · have h := of_decide_eq_false h
    have h2 := of_decide_eq_false h2
    rw [decide_eq_true (show 0 ≤ a.y by omega), decide_eq_true (show a.y < n.y by omega), hd]; simp
theorem dm_2 {E : Int} {n a : V3} {e : Int} (hd : dmG E n a 1 e) : ((decide (a.z < 0)) = true → dmG E n a 2 1) ∧ ((decide (a.z < 0)) = false → (((decide (n.z ≤ a.z)) = true → dmG E n a 2 1) ∧ ((decide (n.z ≤ a.z)) = false → dmG E n a 2 e))) := by
  unfold dmG inC at *
  refine ⟨fun h => ?_, fun h => ⟨fun h2 => ?_, fun h2 => ?_⟩⟩
  · have h := of_decide_eq_true h
    rw [decide_eq_false (show ¬ 0 ≤ a.z by omega)]; simp
  · have h2 := of_decide_eq_true h2
    rw [decide_eq_false (show ¬ a.z < n.z by omega)]; simp
  · have h := of_decide_eq_false h
    have h2 := of_decide_eq_false h2
    rw [decide_eq_true (show 0 ≤ a.z by omega), decide_eq_true (show a.z < n.z by omega), hd]; simp
theorem mu_zero {o : Op3} {n a : V3} (h : muE o n a = 0) : movP o n a := by
  unfold muE at h
  split at h
  · rename_i hg
    split at h
    · rename_i hl
      split at h
      · rename_i hf
        obtain ⟨h1, h2⟩ := lsE_zero hl
        exact ⟨errO_ok.1 h1, h2, hf, hg⟩
      · cases h
    · rename_i hl; exact absurd h hl
  · cases h
theorem mu_eq {o : Op3} {n a : V3} {z : Int} (h : z = if inG n a = true then lsE (errO o) (sidE n) else 1) : (z = 0 → sidP n ∧ (fitB o n = false → muE o n a = 6) ∧ (fitB o n = true → muE o n a = z)) ∧ (z ≠ 0 → muE o n a = z) := by
  unfold muE
  by_cases hg : inG n a = true
  · rw [if_pos hg] at h ⊢
    refine ⟨fun hz => ?_, fun hz => ?_⟩
    · rw [h] at hz
      obtain ⟨_, h2⟩ := lsE_zero hz
      rw [if_pos hz]
      exact ⟨h2, fun hf => by rw [hf]; rfl, fun hf => by rw [if_pos hf, h, hz]⟩
    · rw [if_neg (by rw [← h]; exact hz), h]
  · rw [if_neg hg] at h ⊢
    exact ⟨fun hz => by omega, fun _ => h.symm⟩
theorem errO_vals3 (o : Op3) : errO o = 0 ∨ errO o = 3 ∨ errO o = 4 := by
  unfold errO uniE
  split
  · rcases errM_cases o.R with h | h
    · rw [h]; simp only [if_true]; split
      · exact .inl rfl
      · exact .inr (.inl rfl)
    · rw [h]; exact .inr (.inr rfl)
  · exact .inr (.inl rfl)
theorem errO_nn (o : Op3) : 0 ≤ errO o := by
  rcases errO_vals3 o with h | h | h <;> omega
theorem lsE_one (o : Op3) : lsE 1 (errO o) = 1 := by
  rcases errO_vals3 o with h | h | h <;> rw [h] <;> rfl
theorem mulE_oneR (o : Op3) : mulE o oneO = errO o := by
  have h1 : errO oneO = 0 := by decide
  have e2 := errL_two o oneO
  rw [h1] at e2
  rcases errO_034 o with h | h | h
  · have hF := errO_ok.1 h
    have e : errL [o, oneO] = 0 := by rw [e2, h]; decide
    unfold mulE
    rw [if_pos e, h]
    show errM (mulZ o.R (oneZ 1)) = 0
    rw [(mulZ_one _).2]
    exact errM_B (by decide) hF.B
  · have e : errL [o, oneO] = 3 := by rw [e2, h]; decide
    unfold mulE; rw [if_neg (by rw [e]; decide), e, h]
  · have e : errL [o, oneO] = 4 := by rw [e2, h]; decide
    unfold mulE; rw [if_neg (by rw [e]; decide), e, h]
end Go.Fx
end
section
set_option linter.unusedSimpArgs false
set_option linter.unusedVariables false
set_option linter.unusedSectionVars false
namespace Go.Fx
open Go
/-- A part of all, cut by what a side is of it. -/
theorem cut_up {s m k : Int} (hk : 0 < k) : (s * k) % (m * k) / k = s % m := by
  rw [← mod_up (a := s) (m := m) (k := k)]
  by_cases hm : m = 0
  · subst hm; simp [Int.mul_ediv_cancel _ (show k ≠ 0 by omega)]
  · have h1 : s % m * k % (m * k) = s % m * k := by
      rw [Int.mul_comm (s % m) k, Int.mul_comm m k, Int.mul_emod_mul_of_pos _ _ hk, Int.emod_emod_of_dvd _ (Int.dvd_refl m)]
    rw [h1, Int.mul_ediv_cancel _ (show k ≠ 0 by omega)]
theorem all_parts {n : V3} (h : sidE n = 0) : w64 (w64 (w64 (n.x * n.y) * n.z) * 24) = allG n ∧ Int.tdiv (allG n) 24 = n.x * n.y * n.z ∧ Int.tdiv (allG n) n.x = n.y * n.z * 24 ∧ Int.tdiv (allG n) n.y = n.x * n.z * 24 ∧ Int.tdiv (allG n) n.z = n.x * n.y * 24 := by
  have hs := sid_ok h
  have hb : sidB n = true := by
    unfold sidE at h
    split at h
    · assumption
    · cases h
  obtain ⟨w1, w2⟩ := sid_prod hb
  obtain ⟨x0, x1, y0, y1, z0, z1, hp⟩ := hs
  have c0 : 0 ≤ n.x * n.y * n.z := Int.mul_nonneg (Int.mul_nonneg (by omega) (by omega)) (by omega)
  have e1 : allG n = n.x * (n.y * n.z * 24) := by unfold allG; rw [Int.mul_assoc n.x, Int.mul_assoc n.x]
  have e2 : allG n = n.y * (n.x * n.z * 24) := by unfold allG; rw [Int.mul_comm n.x n.y, Int.mul_assoc n.y, Int.mul_assoc n.y]
  have e3 : allG n = n.z * (n.x * n.y * 24) := by unfold allG; rw [Int.mul_comm (n.x * n.y) n.z, Int.mul_assoc n.z]
  refine ⟨by rw [w1, w2]; exact w64_id (by omega) (by omega), ?_, ?_, ?_, ?_⟩
  · unfold allG; exact Int.mul_tdiv_cancel _ (by omega)
  · rw [e1]; exact Int.mul_tdiv_cancel_left _ (by omega)
  · rw [e2]; exact Int.mul_tdiv_cancel_left _ (by omega)
  · rw [e3]; exact Int.mul_tdiv_cancel_left _ (by omega)
/-- A share of the document's sum, without wrapping. -/
theorem doc_r {r a k : Int} (hr : -1000 ≤ r ∧ r ≤ 1000) (a0 : 0 ≤ a) (a1 : a ≤ 192) (k0 : 0 ≤ k) (k1 : k ≤ 6291456) : w64 (w64 (r * a) * k) = r * (a * k) ∧ -1207959552000 ≤ r * (a * k) ∧ r * (a * k) ≤ 1207959552000 := by
  have hm : -576000 ≤ r * a ∧ r * a ≤ 576000 := by
    have := dotB (a := r) (b := 0) (c := 0) (x := a) (y := 0) (z := 0) 1000 192 hr ⟨by omega, by omega⟩ ⟨by omega, by omega⟩ ⟨by omega, by omega⟩ ⟨by omega, by omega⟩ ⟨by omega, by omega⟩
    simp only [Int.zero_mul, Int.add_zero, Int.mul_zero] at this
    omega
  have e : r * (a * k) = r * a * k := (Int.mul_assoc r a k).symm
  have b1 : -576000 * k ≤ r * a * k := Int.mul_le_mul_of_nonneg_right hm.1 k0
  have b2 : r * a * k ≤ 576000 * k := Int.mul_le_mul_of_nonneg_right hm.2 k0
  have c : -3623878656000 ≤ r * a * k ∧ r * a * k ≤ 3623878656000 := by omega
  have d : -192000 ≤ r * a ∧ r * a ≤ 192000 := by
    have h1 : -1000 * a ≤ r * a := Int.mul_le_mul_of_nonneg_right hr.1 a0
    have h2 : r * a ≤ 1000 * a := Int.mul_le_mul_of_nonneg_right hr.2 a0
    omega
  have b3 : -192000 * k ≤ r * a * k := Int.mul_le_mul_of_nonneg_right d.1 k0
  have b4 : r * a * k ≤ 192000 * k := Int.mul_le_mul_of_nonneg_right d.2 k0
  rw [e, w64_id (x := r * a) (by omega) (by omega)]
  exact ⟨w64_id (by omega) (by omega), by omega, by omega⟩
theorem doc_v {t r1 r2 r3 a1 a2 a3 P k1 k2 k3 m k s A : Int} (t0 : 0 ≤ t) (t1 : t ≤ 24) (P0 : 0 ≤ P) (P1 : P ≤ 262144) (b1 : -1000 ≤ r1 ∧ r1 ≤ 1000) (b2 : -1000 ≤ r2 ∧ r2 ≤ 1000) (b3 : -1000 ≤ r3 ∧ r3 ≤ 1000)
    (c1 : 0 ≤ a1 ∧ a1 ≤ 192) (c2 : 0 ≤ a2 ∧ a2 ≤ 192) (c3 : 0 ≤ a3 ∧ a3 ≤ 192) (g1 : 0 ≤ k1 ∧ k1 ≤ 6291456) (g2 : 0 ≤ k2 ∧ k2 ≤ 6291456) (g3 : 0 ≤ k3 ∧ k3 ≤ 6291456) (hk : 0 < k) (m0 : 1 ≤ m) (m1 : m ≤ 192)
    (hA : A = m * k) (hs : s * k = r1 * (a1 * k1) + r2 * (a2 * k2) + r3 * (a3 * k3) + P * t) :
    w64 (Int.tdiv (w64 (w64 (w64 (w64 (t * P) + w64 (w64 (r1 * a1) * k1)) + w64 (w64 (r2 * a2) * k2)) + w64 (w64 (r3 * a3) * k3)) % A) k) = s % m := by
  obtain ⟨e1, f1, f2⟩ := doc_r b1 c1.1 c1.2 g1.1 g1.2
  obtain ⟨e2, f3, f4⟩ := doc_r b2 c2.1 c2.2 g2.1 g2.2
  obtain ⟨e3, f5, f6⟩ := doc_r b3 c3.1 c3.2 g3.1 g3.2
  have q0 : 0 ≤ t * P := Int.mul_nonneg t0 P0
  have q1 : t * P ≤ 24 * P := Int.mul_le_mul_of_nonneg_right t1 P0
  rw [e1, e2, e3]
  rw [Int.mul_comm P t] at hs
  generalize r1 * (a1 * k1) = u at *
  generalize r2 * (a2 * k2) = v at *
  generalize r3 * (a3 * k3) = w at *
  generalize t * P = x at *
  rw [w64_id (x := x) (by omega) (by omega), w64_id (x := x + u) (by omega) (by omega), w64_id (x := x + u + v) (by omega) (by omega), w64_id (x := x + u + v + w) (by omega) (by omega), show x + u + v + w = s * k by omega, hA]
  have hn : 0 ≤ s * k % (m * k) := Int.emod_nonneg _ (Int.ne_of_gt (Int.mul_pos (by omega) hk))
  rw [Int.tdiv_eq_ediv_of_nonneg hn, cut_up hk]
  have := Int.emod_nonneg s (b := m) (by omega)
  have := Int.emod_lt_of_pos s (b := m) (by omega)
  exact w64_id (by omega) (by omega)
end Go.Fx
end
section
set_option linter.unusedSimpArgs false
set_option linter.unusedVariables false
set_option linter.unusedSectionVars false
namespace Go.Fx
open Go
structure Act (g : List Op3) (P : Nat) (f : Op3 → Nat → Nat) : Prop where
  grp : chkE g = 0
  lt : ∀ o ∈ g, ∀ k, k < P → f o k < P
  one : ∀ k, k < P → f oneO k = k
  mul : ∀ a ∈ g, ∀ b ∈ g, ∀ k, k < P → f (mulO a b) k = f a (f b k)
section
variable (f : Op3 → Nat → Nat) (g : List Op3)
def imgN (k : Nat) : List Nat := g.map fun o => f o k
/-- The least of an orbit. -/
def loN (k : Nat) : Nat := (imgN f g k).foldl min k
def isF (k : Nat) : Bool := decide (loN f g k = k)
def fstN (k : Nat) : List Nat := (List.range k).filter (isF f g)
/-- How many first numbers stand ahead. -/
def rkN (k : Nat) : Nat := (fstN f g k).length
/-- How many numbers the orbit has whose least is k. -/
def ctN (P k : Nat) : Nat := ((List.range P).filter fun j => decide (loN f g j = k)).length
/-- How many numbers a map leaves. -/
def fxN (P : Nat) (o : Op3) : Nat := ((List.range P).filter fun k => decide (f o k = k)).length
/-- How many maps leave a number. -/
def stN (k : Nat) : Nat := (g.filter fun o => decide (f o k = k)).length
end
theorem foldl_min_le : ∀ (l : List Nat) (m : Nat), l.foldl min m ≤ m ∧ ∀ x ∈ l, l.foldl min m ≤ x
  | [], m => ⟨Nat.le_refl _, fun x h => by cases h⟩
  | y :: r, m => by
    obtain ⟨h1, h2⟩ := foldl_min_le r (min m y)
    refine ⟨Nat.le_trans h1 (Nat.min_le_left _ _), fun x hx => ?_⟩
    rcases List.mem_cons.1 hx with rfl | hx
    · exact Nat.le_trans h1 (Nat.min_le_right _ _)
    · exact h2 x hx
theorem foldl_min_mem : ∀ (l : List Nat) (m : Nat), l.foldl min m = m ∨ l.foldl min m ∈ l
  | [], m => .inl rfl
  | y :: r, m => by
    rw [List.foldl_cons]
    rcases foldl_min_mem r (min m y) with h | h
    · rcases Nat.le_total m y with c | c
      · rw [Nat.min_eq_left c] at h ⊢; exact .inl h
      · rw [Nat.min_eq_right c] at h ⊢; exact .inr (by rw [h]; exact List.mem_cons_self ..)
    · exact .inr (List.mem_cons_of_mem _ h)
/-- A sum, cut by what a function gives. -/
theorem sum_fibW {α β : Type} [DecidableEq β] (f : α → β) (w : α → Nat) : ∀ (ms : List β) (l : List α), ms.Nodup → (∀ o ∈ l, f o ∈ ms) → (l.map w).sum = (ms.map fun m => ((l.filter fun o => decide (f o = m)).map w).sum).sum
  | [], l, _, h => by
    have : l = [] := List.eq_nil_iff_forall_not_mem.2 fun o ho => by cases h o ho
    subst this; rfl
  | m :: ms, l, hn, h => by
    rw [List.nodup_cons] at hn
    have h1 := sum_fibW f w ms (l.filter fun o => !decide (f o = m)) hn.2 (fun o ho => by
      obtain ⟨h2, h3⟩ := List.mem_filter.1 ho
      rcases List.mem_cons.1 (h o h2) with e | e
      · rw [decide_eq_true e] at h3; cases h3
      · exact e)
    have h2 : ∀ l : List α, (l.map w).sum = ((l.filter fun o => decide (f o = m)).map w).sum + ((l.filter fun o => !decide (f o = m)).map w).sum := fun l => by
      induction l with
      | nil => rfl
      | cons x r ih =>
        by_cases e : f x = m
        · rw [List.filter_cons_of_pos (by simpa using e), List.filter_cons_of_neg (by simpa using e), List.map_cons, List.map_cons, List.sum_cons, List.sum_cons, ih]; omega
        · rw [List.filter_cons_of_neg (by simpa using e), List.filter_cons_of_pos (by simpa using e), List.map_cons, List.map_cons, List.sum_cons, List.sum_cons, ih]; omega
    rw [h2, h1, List.map_cons, List.sum_cons]
    congr 1
    congr 1
    apply List.map_congr_left
    intro m' hm'
    rw [List.filter_filter]
    congr 2
    apply List.filter_congr
    intro o _
    by_cases e : f o = m'
    · have : ¬ f o = m := fun e2 => hn.1 (by rw [← e2, e]; exact hm')
      simp [e, this]
      intro e3; exact this (e.trans e3)
    · simp [e]
theorem sum_const {α : Type} (w : α → Nat) (c : Nat) : ∀ l : List α, (∀ x ∈ l, w x = c) → (l.map w).sum = l.length * c
  | [], _ => by simp
  | x :: r, h => by
    rw [List.map_cons, List.sum_cons, sum_const w c r fun y hy => h y (List.mem_cons_of_mem _ hy), h x (List.mem_cons_self ..), List.length_cons, Nat.succ_mul]; omega
theorem sum_one {α : Type} (l : List α) : (l.map fun _ => 1).sum = l.length := by
  rw [sum_const (fun _ => 1) 1 l fun _ _ => rfl, Nat.mul_one]
theorem sum_swap {α β : Type} (p : α → β → Bool) (m : List β) : ∀ l : List α, (l.map fun a => (m.filter fun b => p a b).length).sum = (m.map fun b => (l.filter fun a => p a b).length).sum
  | [] => by
    have h : (m.map fun b => (([] : List α).filter fun a => p a b).length) = m.map fun _ => 0 := rfl
    rw [h, sum_const (fun _ => 0) 0 m fun _ _ => rfl]; simp
  | a :: r => by
    rw [List.map_cons, List.sum_cons, sum_swap p m r]
    clear sum_swap
    induction m with
    | nil => rfl
    | cons b m ih =>
      rw [List.map_cons, List.map_cons, List.sum_cons, List.sum_cons]
      have ih : (List.filter (p a) m).length + ((List.filter (fun a => p a b) r).length * 0 + (m.map fun b => (r.filter fun a => p a b).length).sum) = (m.map fun b => ((a :: r).filter fun a => p a b).length).sum := by rw [Nat.mul_zero, Nat.zero_add]; exact ih
      by_cases e : p a b = true
      · rw [List.filter_cons_of_pos (p := p a) e, List.filter_cons_of_pos (p := fun a => p a b) e, List.length_cons, List.length_cons]; omega
      · rw [List.filter_cons_of_neg (p := p a) e, List.filter_cons_of_neg (p := fun a => p a b) e]; omega
section
variable {g : List Op3} {P : Nat} {f : Op3 → Nat → Nat} (hA : Act g P f)
include hA
theorem ac_one : oneO ∈ g := (chk_grp hA.grp).2.2.1
theorem ac_self {k : Nat} (hk : k < P) : k ∈ imgN f g k := List.mem_map.2 ⟨oneO, ac_one hA, hA.one k hk⟩
theorem ac_move {k : Nat} (hk : k < P) {o : Op3} (ho : o ∈ g) (x : Nat) : x ∈ imgN f g (f o k) ↔ x ∈ imgN f g k := by
  obtain ⟨_, _, _, hcl⟩ := chk_grp hA.grp
  unfold imgN
  rw [List.mem_map, List.mem_map]
  constructor
  · rintro ⟨a, ha, rfl⟩
    exact ⟨mulO a o, hcl a ha o ho, hA.mul a ha o ho k hk⟩
  · rintro ⟨a, ha, rfl⟩
    obtain ⟨c, hc, e, _⟩ := grp_left hA.grp ho
    refine ⟨mulO a c, hcl a ha c hc, ?_⟩
    rw [hA.mul a ha c hc _ (hA.lt o ho k hk), ← hA.mul c hc o ho k hk, e, hA.one k hk]
theorem ac_lt {k : Nat} (hk : k < P) {x : Nat} (hx : x ∈ imgN f g k) : x < P := by
  obtain ⟨o, ho, rfl⟩ := List.mem_map.1 hx
  exact hA.lt o ho k hk
theorem ac_sym {k : Nat} (hk : k < P) {x : Nat} (hx : x ∈ imgN f g k) : k ∈ imgN f g x := by
  obtain ⟨o, ho, rfl⟩ := List.mem_map.1 hx
  exact (ac_move hA hk ho k).2 (ac_self hA hk)
theorem lo_mem {k : Nat} (hk : k < P) : loN f g k ∈ imgN f g k := by
  unfold loN
  rcases foldl_min_mem (imgN f g k) k with h | h
  · rw [h]; exact ac_self hA hk
  · exact h
theorem lo_le {k x : Nat} (hx : x ∈ imgN f g k) : loN f g k ≤ x := (foldl_min_le _ _).2 x hx
theorem lo_lek (k : Nat) : loN f g k ≤ k := (foldl_min_le _ _).1
theorem lo_eq {k x : Nat} (hk : k < P) (hx : x ∈ imgN f g k) : loN f g x = loN f g k := by
  have hxP := ac_lt hA hk hx
  have key : ∀ {k x : Nat}, k < P → x ∈ imgN f g k → loN f g k ≤ loN f g x := fun {k x} hk hx => by
    have hxP := ac_lt hA hk hx
    obtain ⟨o, ho, rfl⟩ := List.mem_map.1 hx
    exact lo_le hA ((ac_move hA hk ho _).1 (lo_mem hA hxP))
  have h1 := key hk hx
  have h2 := key hxP (ac_sym hA hk hx)
  omega
theorem lo_lt {k : Nat} (hk : k < P) : loN f g k < P := ac_lt hA hk (lo_mem hA hk)
theorem lo_lo {k : Nat} (hk : k < P) : loN f g (loN f g k) = loN f g k := lo_eq hA hk (lo_mem hA hk)
theorem lo_iff {k x : Nat} (hk : k < P) (hx : x < P) : loN f g x = loN f g k ↔ x ∈ imgN f g k := by
  refine ⟨fun e => ?_, lo_eq hA hk⟩
  have h1 := ac_sym hA hx (lo_mem hA hx)
  have h2 := lo_mem hA hk
  rw [e] at h1
  obtain ⟨o, ho, e2⟩ := List.mem_map.1 h2
  rw [← e2] at h1
  exact (ac_move hA hk ho x).1 h1
theorem lo_move {k : Nat} (hk : k < P) {o : Op3} (ho : o ∈ g) : loN f g (f o k) = loN f g k := lo_eq hA hk (List.mem_map.2 ⟨o, ho, rfl⟩)
theorem fst_mem {k x : Nat} : x ∈ fstN f g k ↔ x < k ∧ loN f g x = x := by
  unfold fstN isF
  rw [List.mem_filter, List.mem_range, decide_eq_true_iff]
theorem fst_nodup (k : Nat) : (fstN f g k).Nodup := List.nodup_range.filter _
theorem fst_lo {j : Nat} (hj : j < P) : loN f g j ∈ fstN f g P := (fst_mem hA).2 ⟨lo_lt hA hj, lo_lo hA hj⟩
/-- The counts make all. -/
theorem ct_sum : ((fstN f g P).map (ctN f g P)).sum = P := by
  have h := sum_fibW (loN f g) (fun _ => 1) (fstN f g P) (List.range P) (fst_nodup hA P) (fun j hj => fst_lo hA (List.mem_range.1 hj))
  rw [sum_one, List.length_range] at h
  refine Eq.trans ?_ h.symm
  congr 1
  apply List.map_congr_left
  intro m _
  rw [sum_one]; rfl
theorem fib_leN {k x : Nat} (hk : k < P) {a : Op3} (ha : a ∈ g) : (g.filter fun o => decide (f o k = x)).length ≤ (g.filter fun o => decide (f o k = f a x)).length := by
  obtain ⟨_, hnd, _, hcl⟩ := chk_grp hA.grp
  have hm : ∀ y ∈ g.filter (fun o => decide (f o k = x)), y ∈ g ∧ f y k = x := fun y hy => ⟨(List.mem_filter.1 hy).1, of_decide_eq_true (List.mem_filter.1 hy).2⟩
  have hn : ((g.filter fun o => decide (f o k = x)).map (mulO a)).Nodup := nodup_map (hnd.filter _) fun y hy z hz' e => mul_cancel hA.grp ha (hm y hy).1 (hm z hz').1 e
  have := nodup_le (m := g.filter fun o => decide (f o k = f a x)) hn fun y hy => by
    obtain ⟨z, hz', rfl⟩ := List.mem_map.1 hy
    obtain ⟨h1, h2⟩ := hm z hz'
    exact List.mem_filter.2 ⟨hcl a ha z h1, decide_eq_true (by rw [hA.mul a ha z h1 k hk, h2])⟩
  rwa [List.length_map] at this
theorem fib_eqN {k x : Nat} (hk : k < P) (hx : x ∈ imgN f g k) : (g.filter fun o => decide (f o k = x)).length = stN f g k := by
  obtain ⟨a, ha, rfl⟩ := List.mem_map.1 hx
  obtain ⟨c, hc, e, _⟩ := grp_left hA.grp ha
  have h1 := fib_leN hA (x := k) hk ha
  have h2 := fib_leN hA (x := f a k) hk hc
  rw [← hA.mul c hc a ha k hk, e, hA.one k hk] at h2
  unfold stN
  omega
/-- Orbit times stabiliser. -/
theorem orb_st {k : Nat} (hk : k < P) : g.length = ctN f g P (loN f g k) * stN f g k := by
  refine sum_fibG (fun o => f o k) _ _ g (List.nodup_range.filter _) (fun o ho => ?_) fun m hm => ?_
  · exact List.mem_filter.2 ⟨List.mem_range.2 (hA.lt o ho k hk), decide_eq_true (lo_move hA hk ho)⟩
  · obtain ⟨h1, h2⟩ := List.mem_filter.1 hm
    exact fib_eqN hA hk ((lo_iff hA hk (List.mem_range.1 h1)).1 (of_decide_eq_true h2))
theorem g_pos : 0 < g.length := List.length_pos_of_mem (ac_one hA)
theorem ct_pos {k : Nat} (hk : k < P) : 0 < ctN f g P (loN f g k) := List.length_pos_of_mem (a := k) (List.mem_filter.2 ⟨List.mem_range.2 hk, decide_eq_true rfl⟩)
theorem st_lo {k : Nat} (hk : k < P) : stN f g k = stN f g (loN f g k) := by
  have h1 := orb_st hA hk
  have h2 := orb_st hA (lo_lt hA hk)
  rw [lo_lo hA hk] at h2
  exact Nat.eq_of_mul_eq_mul_left (ct_pos hA hk) (h1.symm.trans h2)
/-- Orbits are the mean of what the maps leave. -/
theorem burnside : (g.map (fxN f P)).sum = (fstN f g P).length * g.length := by
  have h1 := sum_swap (fun o k => decide (f o k = k)) (List.range P) g
  unfold fxN
  rw [h1]
  have h2 := sum_fibW (loN f g) (stN f g) (fstN f g P) (List.range P) (fst_nodup hA P) (fun j hj => fst_lo hA (List.mem_range.1 hj))
  show ((List.range P).map (stN f g)).sum = _
  rw [h2]
  refine sum_const _ _ _ fun m hm => ?_
  obtain ⟨m1, m2⟩ := (fst_mem hA).1 hm
  rw [sum_const (stN f g) (stN f g m) _ fun x hx => by
    obtain ⟨x1, x2⟩ := List.mem_filter.1 hx
    rw [st_lo hA (List.mem_range.1 x1), of_decide_eq_true x2]]
  have := orb_st hA m1
  rw [m2] at this
  exact this.symm
theorem ct_dvd {k : Nat} (hk : k ∈ fstN f g P) : 1 ≤ ctN f g P k ∧ ctN f g P k ∣ g.length := by
  obtain ⟨h1, h2⟩ := (fst_mem hA).1 hk
  have h3 := ct_pos hA h1
  have h4 := orb_st hA h1
  rw [h2] at h3 h4
  exact ⟨h3, ⟨_, h4⟩⟩
theorem fst_succ (k : Nat) : fstN f g (k + 1) = if loN f g k = k then fstN f g k ++ [k] else fstN f g k := by
  unfold fstN
  rw [List.range_succ, List.filter_append]
  unfold isF
  split
  · rename_i h; rw [List.filter_cons_of_pos (by simpa using h)]; rfl
  · rename_i h; rw [List.filter_cons_of_neg (by simpa using h)]; simp
theorem fst_split {k n : Nat} (h : k ≤ n) : ∃ r, fstN f g n = fstN f g k ++ r := by
  induction n with
  | zero => have : k = 0 := by omega
            subst this; exact ⟨[], by simp⟩
  | succ n ih =>
    by_cases e : k = n + 1
    · subst e; exact ⟨[], by simp⟩
    · obtain ⟨r, hr⟩ := ih (by omega)
      rw [fst_succ hA, hr]
      split
      · exact ⟨r ++ [n], by simp⟩
      · exact ⟨r, rfl⟩
/-- The first numbers by their ranks. -/
theorem fst_rk {k n : Nat} (h : k < n) (hf : loN f g k = k) (d : Nat) : (fstN f g n).getD (rkN f g k) d = k ∧ rkN f g k < (fstN f g n).length := by
  obtain ⟨r, hr⟩ := fst_split hA (show k + 1 ≤ n by omega)
  rw [fst_succ hA, if_pos hf] at hr
  rw [hr]
  unfold rkN
  constructor
  · simp [List.getD]
  · simp
end
end Go.Fx
end
section
set_option linter.unusedSimpArgs false
set_option linter.unusedVariables false
set_option linter.unusedSectionVars false
namespace Go.Fx
open Go
def plcs (n : V3) : Int := n.x * n.y * n.z
def numV (n a : V3) : Int := (a.x * n.y + a.y) * n.z + a.z
def atV (n : V3) (k : Int) : V3 := V3.mk (k / (n.y * n.z)) (k / n.z % n.y) (k % n.z)
theorem num_in {n a : V3} (hs : Sid n) (h : inG n a = true) : 0 ≤ numV n a ∧ numV n a < plcs n := by
  obtain ⟨x0, x1, y0, y1, z0, z1, _⟩ := hs
  obtain ⟨⟨a0, a1⟩, ⟨b0, b1⟩, c0, c1⟩ := inG_iff.1 h
  unfold numV plcs
  have p1 : 0 ≤ a.x * n.y := Int.mul_nonneg a0 (by omega)
  have p2 : 0 ≤ (a.x * n.y + a.y) * n.z := Int.mul_nonneg (by omega) (by omega)
  have p3 : a.x * n.y + n.y ≤ n.x * n.y := by
    have : (a.x + 1) * n.y ≤ n.x * n.y := Int.mul_le_mul_of_nonneg_right (by omega) (by omega)
    rw [Int.add_mul, Int.one_mul] at this; exact this
  have p4 : (a.x * n.y + a.y + 1) * n.z ≤ n.x * n.y * n.z := Int.mul_le_mul_of_nonneg_right (by omega) (by omega)
  rw [Int.add_mul, Int.one_mul] at p4
  omega
theorem at_split {n : V3} (hs : Sid n) (k : Int) : k / (n.y * n.z) = k / n.z / n.y := by
  rw [Int.mul_comm, Int.ediv_ediv_of_nonneg (by have := hs.z0; omega)]
theorem at_in {n : V3} (hs : Sid n) {k : Int} (h0 : 0 ≤ k) (h1 : k < plcs n) : inG n (atV n k) = true := by
  have e := at_split hs k
  obtain ⟨x0, x1, y0, y1, z0, z1, _⟩ := hs
  refine inG_iff.2 ⟨⟨?_, ?_⟩, ⟨Int.emod_nonneg _ (by omega), Int.emod_lt_of_pos _ (by omega)⟩, Int.emod_nonneg _ (by omega), Int.emod_lt_of_pos _ (by omega)⟩
  · exact Int.ediv_nonneg h0 (Int.mul_nonneg (by omega) (by omega))
  · refine Int.ediv_lt_of_lt_mul (Int.mul_pos (by omega) (by omega)) ?_
    rw [← Int.mul_assoc]; exact h1
theorem num_at {n : V3} (hs : Sid n) (k : Int) : numV n (atV n k) = k := by
  unfold numV atV
  rw [at_split hs k]
  simp only
  rw [Int.mul_comm (k / n.z / n.y) n.y, Int.mul_ediv_add_emod, Int.mul_comm (k / n.z) n.z, Int.mul_ediv_add_emod]
theorem at_num {n a : V3} (hs : Sid n) (h : inG n a = true) : atV n (numV n a) = a := by
  have hs' := hs
  obtain ⟨x0, x1, y0, y1, z0, z1, _⟩ := hs
  obtain ⟨⟨a0, a1⟩, ⟨b0, b1⟩, c0, c1⟩ := inG_iff.1 h
  have e1 : numV n a / n.z = a.x * n.y + a.y := by
    unfold numV
    rw [Int.add_comm, Int.add_mul_ediv_right _ _ (by omega), Int.ediv_eq_zero_of_lt c0 c1]; omega
  have e2 : (a.x * n.y + a.y) / n.y = a.x := by
    rw [Int.add_comm, Int.add_mul_ediv_right _ _ (by omega), Int.ediv_eq_zero_of_lt b0 b1]; omega
  refine V3.ext3 ?_ ?_ ?_
  · show numV n a / (n.y * n.z) = a.x
    rw [at_split hs', e1, e2]
  · show numV n a / n.z % n.y = a.y
    rw [e1, Int.add_comm, Int.add_mul_emod_self_right, Int.emod_eq_of_lt b0 b1]
  · show numV n a % n.z = a.z
    unfold numV
    rw [Int.add_comm, Int.add_mul_emod_self_right, Int.emod_eq_of_lt c0 c1]
def mvN (n : V3) (o : Op3) (k : Nat) : Nat := (numV n (movV o n (atV n k))).toNat
abbrev plN (n : V3) : Nat := (plcs n).toNat
theorem pl_pos {n : V3} (hs : Sid n) : 0 < plcs n ∧ plcs n ≤ 262144 := by
  obtain ⟨x0, x1, y0, y1, z0, z1, h⟩ := hs
  exact ⟨Int.mul_pos (Int.mul_pos (by omega) (by omega)) (by omega), h⟩
theorem mv_num {n : V3} (hs : Sid n) (o : Op3) (k : Nat) : ((mvN n o k : Nat) : Int) = numV n (movV o n (atV n k)) := by
  have := num_in hs (mov_in o hs (atV n k))
  unfold mvN; omega
theorem mv_at {n : V3} (hs : Sid n) (o : Op3) (k : Nat) : atV n (mvN n o k : Nat) = movV o n (atV n k) := by
  rw [mv_num hs, at_num hs (mov_in o hs _)]
/-- A group that fits moves the places' numbers. -/
theorem act_mv {g : List Op3} {n : V3} (hc : chkE g = 0) (hs : Sid n) (hf : ∀ o ∈ g, Fit o n) : Act g (plN n) (mvN n) where
  grp := hc
  lt := fun o ho k hk => by
    have := num_in hs (mov_in o hs (atV n k))
    unfold mvN plN; omega
  one := fun k hk => by
    have hin : inG n (atV n k) = true := at_in hs (by omega) (by unfold plN at hk; omega)
    unfold mvN
    rw [mov_one hs hin, num_at hs]; omega
  mul := fun a ha b hb k hk => by
    unfold mvN
    rw [mov_mul hs (hf a ha) (hf b hb)]
    have e := mv_at hs b k
    unfold mvN at e
    rw [e]
theorem fu_zero {g : List Op3} {n : V3} (h : fuE g n = 0) : chkE g = 0 ∧ sidE n = 0 ∧ Sid n ∧ (∀ o ∈ g, fitB o n = true) ∧ ∀ o ∈ g, Fit o n := by
  unfold fuE at h
  split at h
  · rename_i hz
    split at h
    · rename_i hf
      obtain ⟨h1, h2⟩ := lsE_zero hz
      have hs := sid_ok h2
      have hf : ∀ o ∈ g, fitB o n = true := fun o ho => (List.all_eq_true.1 hf) o ho
      exact ⟨h1, h2, hs, hf, fun o ho => (fit_iff ((chk_grp h1).1 o ho) hs).1 (hf o ho)⟩
    · cases h
  · rename_i hz; exact absurd h hz
theorem fu_act {g : List Op3} {n : V3} (h : fuE g n = 0) : Act g (plN n) (mvN n) := by
  obtain ⟨h1, _, h2, _, h3⟩ := fu_zero h
  exact act_mv h1 h2 h3
/-! ### What the code and the document answer -/
abbrev loP (g : List Op3) (n : V3) (k : Nat) : Nat := loN (mvN n) g k
abbrev fsP (g : List Op3) (n : V3) (k : Nat) : List Nat := fstN (mvN n) g k
abbrev rkP (g : List Op3) (n : V3) (k : Nat) : Nat := rkN (mvN n) g k
def fsL (g : List Op3) (n : V3) (k : Nat) : List V3 := (fsP g n k).map fun i => atV n (i : Nat)
def csL (g : List Op3) (n : V3) (k : Nat) : List Int := (fsP g n k).map fun i => ((ctN (mvN n) g (plN n) i : Nat) : Int)
def oaL (g : List Op3) (n : V3) (k : Nat) : List Int := (List.range (plN n)).map fun j => if loP g n j < k then (rkP g n (loP g n j) : Int) + 1 else 0
def obL (g : List Op3) (n : V3) (k j : Nat) : List Int := (List.range (plN n)).map fun i => if loP g n i < k then (rkP g n (loP g n i) : Int) + 1 else if i ∈ imgN (mvN n) (g.take j) k then (rkP g n k : Int) + 1 else 0
def fiL (g : List Op3) (n : V3) : List V3 := if fuE g n = 0 then fsL g n (plN n) else []
def ciL (g : List Op3) (n : V3) : List Int := if fuE g n = 0 then csL g n (plN n) else []
def owL (g : List Op3) (n : V3) : List Int := if fuE g n = 0 then (List.range (plN n)).map fun j => (rkP g n (loP g n j) : Int) else []
def fxL (g : List Op3) (n : V3) : List Int := if fuE g n = 0 then g.map fun o => ((fxN (mvN n) (plN n) o : Nat) : Int) else []
end Go.Fx
end
section
set_option linter.unusedSimpArgs false
set_option linter.unusedVariables false
set_option linter.unusedSectionVars false
namespace Go.Fx
open Go
theorem getD_map_range {α : Type} (f : Nat → α) {P i : Nat} (h : i < P) (d : α) : ((List.range P).map f).getD i d = f i := by
  simp [List.getD, h]
theorem ext_range {α : Type} {P : Nat} {f : Nat → α} {l : List α} (d : α) (h1 : l.length = P) (h2 : ∀ i, i < P → l.getD i d = f i) : l = (List.range P).map f := by
  refine List.ext_getElem (by rw [List.length_map, List.length_range, h1]) fun i hi hj => ?_
  have := h2 i (by omega)
  rw [List.getElem_map, List.getElem_range, ← this]
  simp [List.getD, hi]
theorem set_range {α : Type} {P i : Nat} {f h : Nat → α} {x : α} (hi : i < P) (h1 : h i = x) (h2 : ∀ j, j < P → j ≠ i → h j = f j) : ((List.range P).map f).set i x = (List.range P).map h := by
  refine ext_range x (by simp) fun j hj => ?_
  rw [List.getD_eq_getElem?_getD, List.getElem?_set]
  by_cases e : i = j
  · subst e; rw [if_pos rfl, if_pos (by simpa using hj)]; simp [h1]
  · rw [if_neg e, h2 j hj fun c => e c.symm]
    simp [hj]
theorem map_congr_range {α : Type} {P : Nat} {f h : Nat → α} (e : ∀ i, i < P → f i = h i) : (List.range P).map f = (List.range P).map h :=
  List.map_congr_left fun i hi => e i (List.mem_range.1 hi)
/-- How many places the first j maps lead to from k. -/
def cnJ (g : List Op3) (n : V3) (k j : Nat) : Nat := ((List.range (plN n)).filter fun i => decide (i ∈ imgN (mvN n) (g.take j) k)).length
theorem img_take {f : Op3 → Nat → Nat} {g : List Op3} {k j : Nat} (hj : j < g.length) (x : Nat) : x ∈ imgN f (g.take (j + 1)) k ↔ x ∈ imgN f (g.take j) k ∨ x = f (g.getD j zerO) k := by
  unfold imgN
  have e : g.take (j + 1) = g.take j ++ [g.getD j zerO] := by
    rw [List.take_add_one]; simp [List.getD, hj]
  rw [e, List.map_append, List.mem_append, List.map_cons, List.map_nil, List.mem_singleton]
theorem filter_add {P i : Nat} (hi : i < P) {p q : Nat → Bool} (hp : p i = false) (hq : ∀ j, j < P → q j = (p j || decide (j = i))) : ((List.range P).filter q).length = ((List.range P).filter p).length + 1 := by
  have key : ∀ n, ((List.range n).filter q).length = ((List.range n).filter p).length + (if i < n then 1 else 0) ∨ P < n := fun n => by
    induction n with
    | zero => left; simp
    | succ n ih =>
      by_cases hn : P < n + 1
      · exact .inr hn
      · left
        rcases ih with ih | ih
        · rw [List.range_succ, List.filter_append, List.filter_append, List.length_append, List.length_append, ih]
          have hqn := hq n (by omega)
          by_cases e : n = i
          · subst e
            rw [hp] at hqn
            have hqn : q n = true := by simpa using hqn
            rw [List.filter_cons_of_pos hqn, List.filter_cons_of_neg (by rw [hp]; simp)]; simp
          · have hqn : q n = p n := by rw [hqn]; simp [e]
            have : (if i < n + 1 then 1 else 0) = (if i < n then 1 else 0) := by
              by_cases c : i < n
              · rw [if_pos c, if_pos (by omega)]
              · rw [if_neg c, if_neg (by omega)]
            rw [this]
            cases hpn : p n with
            | true => rw [List.filter_cons_of_pos (by rw [hqn, hpn]), List.filter_cons_of_pos (by rw [hpn])]; simp; omega
            | false => rw [List.filter_cons_of_neg (by rw [hqn, hpn]; simp), List.filter_cons_of_neg (by rw [hpn]; simp)]; simp
        · omega
  rcases key P with h | h
  · rw [h, if_pos hi]
  · omega
section
variable {g : List Op3} {n : V3} (hA : Act g (plN n) (mvN n))
include hA
theorem oa_zero : oaL g n 0 = lrep (plcs n) 0 := by
  unfold oaL lrep
  refine List.ext_getElem (by simp) fun i h1 h2 => ?_
  rw [List.getElem_replicate, List.getElem_map, if_neg (by omega)]
omit hA in
theorem oa_len (k : Nat) : (oaL g n k).length = plN n := by unfold oaL; simp
omit hA in
theorem ob_len (k j : Nat) : (obL g n k j).length = plN n := by unfold obL; simp
theorem oa_pos {k : Nat} (hk : k < plN n) : (oaL g n k).getD k 0 = if loP g n k = k then 0 else (rkP g n (loP g n k) : Int) + 1 := by
  unfold oaL
  rw [getD_map_range _ hk]
  have := lo_lek hA k
  by_cases e : loP g n k = k
  · rw [if_pos e, if_neg (by omega)]
  · have : loP g n k ≤ k := this
    rw [if_neg e, if_pos (by omega)]
/-- A place that has an owner already. -/
theorem oa_skip {k : Nat} (hk : k < plN n) (h : loP g n k ≠ k) : oaL g n (k + 1) = oaL g n k ∧ fsL g n (k + 1) = fsL g n k ∧ csL g n (k + 1) = csL g n k := by
  refine ⟨map_congr_range fun i hi => ?_, ?_, ?_⟩
  · have hne : loP g n i ≠ k := fun e => h (by
      have := lo_lo hA hi
      rw [show loN (mvN n) g i = k from e] at this
      exact this)
    by_cases c : loP g n i < k
    · rw [if_pos c, if_pos (by omega)]
    · rw [if_neg c, if_neg (by omega)]
  · unfold fsL fsP; rw [fst_succ hA, if_neg h]
  · unfold csL fsP; rw [fst_succ hA, if_neg h]
theorem ob_zero (k : Nat) : obL g n k 0 = oaL g n k := map_congr_range fun i hi => by
  have : ¬ i ∈ imgN (mvN n) (g.take 0) k := by unfold imgN; simp
  rw [if_neg this]
theorem ob_end {k : Nat} (hk : k < plN n) (h : loP g n k = k) : obL g n k g.length = oaL g n (k + 1) := map_congr_range fun i hi => by
  rw [List.take_of_length_le (Nat.le_refl _)]
  by_cases c : loP g n i < k
  · rw [if_pos c, if_pos (by omega)]
  · rw [if_neg c]
    have hi2 := lo_iff hA hk hi
    have h : loN (mvN n) g k = k := h
    rw [h] at hi2
    by_cases e : i ∈ imgN (mvN n) g k
    · have e2 : loN (mvN n) g i = k := hi2.2 e
      have e2 : loP g n i = k := e2
      rw [if_pos e, if_pos (by omega), e2]
    · have : loP g n i ≠ k := fun c => e (hi2.1 c)
      rw [if_neg e, if_neg (by omega)]
theorem cn_zero (k : Nat) : cnJ g n k 0 = 0 := by
  unfold cnJ imgN; simp
theorem cn_end {k : Nat} (hk : k < plN n) (h : loP g n k = k) : cnJ g n k g.length = ctN (mvN n) g (plN n) k := by
  unfold cnJ ctN
  congr 1
  apply List.filter_congr
  intro i hi
  rw [List.take_of_length_le (Nat.le_refl _)]
  have hi2 := lo_iff hA hk (List.mem_range.1 hi)
  have h : loN (mvN n) g k = k := h
  rw [h] at hi2
  exact decide_eq_decide.2 hi2.symm
theorem fs_end {k : Nat} (h : loP g n k = k) : fsL g n (k + 1) = fsL g n k ++ [atV n (k : Nat)] ∧ csL g n (k + 1) = csL g n k ++ [((ctN (mvN n) g (plN n) k : Nat) : Int)] := by
  unfold fsL csL fsP
  rw [fst_succ hA, if_pos h, List.map_append, List.map_append]
  exact ⟨rfl, rfl⟩
theorem fs_len (k : Nat) : (fsL g n k).length = rkP g n k := by unfold fsL; rw [List.length_map]; rfl
theorem ob_at {k j i : Nat} (hk : k < plN n) (h : loP g n k = k) (hj : j < g.length) (hi : i = mvN n (g.getD j zerO) k) :
    i < plN n ∧ ((obL g n k j).getD i 0 = 0 → lset (obL g n k j) (i : Nat) ((rkP g n k : Int) + 1) = obL g n k (j + 1) ∧ cnJ g n k (j + 1) = cnJ g n k j + 1) ∧ ((obL g n k j).getD i 0 ≠ 0 → obL g n k j = obL g n k (j + 1) ∧ cnJ g n k (j + 1) = cnJ g n k j) := by
  have hgo : g.getD j zerO ∈ g := by simp [List.getD, hj]
  have hlt : i < plN n := by rw [hi]; exact hA.lt _ hgo k hk
  have hlo : loP g n i = k := by rw [hi]; exact (lo_move hA hk hgo).trans h
  have hv : (obL g n k j).getD i 0 = if i ∈ imgN (mvN n) (g.take j) k then (rkP g n k : Int) + 1 else 0 := by
    unfold obL
    rw [getD_map_range _ hlt, if_neg (by omega)]
  refine ⟨hlt, fun e => ?_, fun e => ?_⟩
  · have hn : i ∉ imgN (mvN n) (g.take j) k := fun c => by rw [hv, if_pos c] at e; omega
    refine ⟨?_, filter_add hlt (decide_eq_false hn) fun x hx => ?_⟩
    · unfold lset obL
      rw [Int.toNat_natCast]
      refine set_range hlt ?_ fun x hx hne => ?_
      · rw [if_neg (by omega), if_pos ((img_take hj i).2 (.inr hi))]
      · have : x ∈ imgN (mvN n) (g.take (j + 1)) k ↔ x ∈ imgN (mvN n) (g.take j) k := (img_take hj x).trans ⟨fun c => c.elim id fun c => absurd (c.trans hi.symm) hne, .inl⟩
        simp only [this]
    · rw [Bool.eq_iff_iff, Bool.or_eq_true, decide_eq_true_iff, decide_eq_true_iff, decide_eq_true_iff, img_take hj, ← hi]
  · have hm : i ∈ imgN (mvN n) (g.take j) k := Classical.byContradiction fun c => e (by rw [hv, if_neg c])
    have key : ∀ x, x ∈ imgN (mvN n) (g.take (j + 1)) k ↔ x ∈ imgN (mvN n) (g.take j) k := fun x => (img_take hj x).trans ⟨fun c => c.elim id fun c => by rw [c, ← hi]; exact hm, .inl⟩
    refine ⟨map_congr_range fun x hx => ?_, ?_⟩
    · simp only [key]
    · unfold cnJ; simp only [key]
/-! ### Down by one -/
def ocL (g : List Op3) (n : V3) (i : Nat) : List Int := (List.range (plN n)).map fun j => if j < i then (rkP g n (loP g n j) : Int) else (rkP g n (loP g n j) : Int) + 1
theorem oc_start : oaL g n (plN n) = ocL g n 0 := map_congr_range fun i hi => by
  have h : loP g n i < plN n := lo_lt hA hi
  rw [if_pos h, if_neg (by omega)]
theorem oc_stop : ocL g n (plN n) = (List.range (plN n)).map fun j => (rkP g n (loP g n j) : Int) := map_congr_range fun i hi => by
  rw [if_pos hi]
omit hA in
theorem oc_step {i : Nat} (hi : i < plN n) : (ocL g n i).getD i 0 = (rkP g n (loP g n i) : Int) + 1 ∧ lset (ocL g n i) (i : Nat) (rkP g n (loP g n i) : Int) = ocL g n (i + 1) := by
  refine ⟨?_, ?_⟩
  · unfold ocL
    rw [getD_map_range _ hi, if_neg (by omega)]
  · unfold lset ocL
    rw [Int.toNat_natCast]
    refine set_range hi (by rw [if_pos (by omega)]) fun x hx hne => ?_
    by_cases c : x < i
    · rw [if_pos c, if_pos (by omega)]
    · rw [if_neg c, if_neg (by omega)]
end
end Go.Fx
end
section
set_option linter.unusedSimpArgs false
set_option linter.unusedVariables false
set_option linter.unusedSectionVars false
namespace Go.Fx
open Go
/-- The least of k and where the first j maps lead. -/
def mnN (g : List Op3) (n : V3) (k j : Nat) : Nat := (imgN (mvN n) (g.take j) k).foldl min k
theorem mn_zero (g : List Op3) (n : V3) (k : Nat) : mnN g n k 0 = k := by unfold mnN imgN; simp
theorem mn_succ {g : List Op3} {n : V3} {k j : Nat} (hj : j < g.length) : mnN g n k (j + 1) = min (mnN g n k j) (mvN n (g.getD j zerO) k) := by
  unfold mnN imgN
  have e : g.take (j + 1) = g.take j ++ [g.getD j zerO] := by
    rw [List.take_add_one]; simp [List.getD, hj]
  rw [e, List.map_append, List.foldl_append]; rfl
theorem mn_end (g : List Op3) (n : V3) (k : Nat) : mnN g n k g.length = loP g n k := by
  unfold mnN; rw [List.take_of_length_le (Nat.le_refl _)]; rfl
/-- The list of least places, gone through up to i; place i by the first j maps. -/
def olL (g : List Op3) (n : V3) (i : Nat) : List Int := (List.range (plN n)).map fun x => if x < i then ((loP g n x : Nat) : Int) else 0
def omL (g : List Op3) (n : V3) (i j : Nat) : List Int := (List.range (plN n)).map fun x => if x < i then ((loP g n x : Nat) : Int) else if x = i then ((mnN g n i j : Nat) : Int) else 0
theorem ol_zero (g : List Op3) (n : V3) : olL g n 0 = lrep (plcs n) 0 := by
  unfold olL lrep
  refine List.ext_getElem (by simp) fun i h1 h2 => ?_
  rw [List.getElem_replicate, List.getElem_map, if_neg (by omega)]
theorem ol_len (g : List Op3) (n : V3) (i : Nat) : (olL g n i).length = plN n := by unfold olL; simp
theorem om_len (g : List Op3) (n : V3) (i j : Nat) : (omL g n i j).length = plN n := by unfold omL; simp
theorem om_zero {g : List Op3} {n : V3} {i : Nat} (hi : i < plN n) : lset (olL g n i) (i : Nat) (i : Nat) = omL g n i 0 := by
  unfold lset olL omL
  rw [Int.toNat_natCast]
  refine set_range hi (by rw [if_neg (by omega), if_pos rfl, mn_zero]) fun x hx hne => ?_
  by_cases c : x < i
  · rw [if_pos c, if_pos c]
  · rw [if_neg c, if_neg c, if_neg hne]
theorem om_at {g : List Op3} {n : V3} {i : Nat} (hi : i < plN n) (j : Nat) : (omL g n i j).getD i 0 = ((mnN g n i j : Nat) : Int) := by
  unfold omL
  rw [getD_map_range _ hi, if_neg (by omega), if_pos rfl]
theorem om_succ {g : List Op3} {n : V3} {i j : Nat} (hi : i < plN n) (hj : j < g.length) : lset (omL g n i j) (i : Nat) ((min (mnN g n i j) (mvN n (g.getD j zerO) i) : Nat) : Int) = omL g n i (j + 1) := by
  unfold lset omL
  rw [Int.toNat_natCast]
  refine set_range hi (by rw [if_neg (by omega), if_pos rfl, mn_succ hj]) fun x hx hne => ?_
  by_cases c : x < i
  · rw [if_pos c, if_pos c]
  · rw [if_neg c, if_neg c, if_neg hne, if_neg hne]
theorem om_end (g : List Op3) (n : V3) (i : Nat) : omL g n i g.length = olL g n (i + 1) := map_congr_range fun x hx => by
  by_cases c : x < i
  · rw [if_pos c, if_pos (by omega)]
  · by_cases e : x = i
    · subst e
      rw [if_neg c, if_pos rfl, if_pos (by omega), mn_end]
    · rw [if_neg c, if_neg e, if_neg (by omega)]
def loL (g : List Op3) (n : V3) : List Int := (List.range (plN n)).map fun x => ((loP g n x : Nat) : Int)
theorem ol_end (g : List Op3) (n : V3) : olL g n (plN n) = loL g n := map_congr_range fun x hx => by rw [if_pos hx]
theorem lo_len (g : List Op3) (n : V3) : (loL g n).length = plN n := by unfold loL; simp
theorem lo_at {g : List Op3} {n : V3} {i : Nat} (hi : i < plN n) : (loL g n).getD i 0 = ((loP g n i : Nat) : Int) := by
  unfold loL; rw [getD_map_range _ hi]
/-- How many of the first j places have k as their least. -/
def cjN (g : List Op3) (n : V3) (k j : Nat) : Nat := ((List.range j).filter fun x => decide (loP g n x = k)).length
theorem cj_succ (g : List Op3) (n : V3) (k j : Nat) : cjN g n k (j + 1) = cjN g n k j + (if loP g n j = k then 1 else 0) := by
  unfold cjN
  rw [List.range_succ, List.filter_append, List.length_append]
  congr 1
  split
  · rename_i h; rw [List.filter_cons_of_pos (by simpa using h)]; rfl
  · rename_i h; rw [List.filter_cons_of_neg (by simpa using h)]; rfl
theorem cj_end (g : List Op3) (n : V3) (k : Nat) : cjN g n k (plN n) = ctN (mvN n) g (plN n) k := rfl
theorem cj_le (g : List Op3) (n : V3) (k j : Nat) : cjN g n k j ≤ j := by
  have := List.length_filter_le (fun x => decide (loP g n x = k)) (List.range j)
  rw [List.length_range] at this
  exact this
/-- The ranks. -/
def rnL (g : List Op3) (n : V3) (i : Nat) : List Int := (List.range (plN n)).map fun x => if x < i ∧ loP g n x = x then ((rkP g n x : Nat) : Int) else 0
theorem rn_zero (g : List Op3) (n : V3) : rnL g n 0 = lrep (plcs n) 0 := by
  unfold rnL lrep
  refine List.ext_getElem (by simp) fun i h1 h2 => ?_
  rw [List.getElem_replicate, List.getElem_map, if_neg (by omega)]
theorem rn_len (g : List Op3) (n : V3) (i : Nat) : (rnL g n i).length = plN n := by unfold rnL; simp
theorem rn_hit {g : List Op3} {n : V3} {i : Nat} (hi : i < plN n) (h : loP g n i = i) : lset (rnL g n i) (i : Nat) ((rkP g n i : Nat) : Int) = rnL g n (i + 1) := by
  unfold lset rnL
  rw [Int.toNat_natCast]
  refine set_range hi (by rw [if_pos ⟨by omega, h⟩]) fun x hx hne => ?_
  by_cases c : x < i ∧ loP g n x = x
  · rw [if_pos c, if_pos ⟨by omega, c.2⟩]
  · rw [if_neg c, if_neg fun d => c ⟨by omega, d.2⟩]
theorem rn_miss {g : List Op3} {n : V3} {i : Nat} (h : loP g n i ≠ i) : rnL g n i = rnL g n (i + 1) := map_congr_range fun x hx => by
  by_cases c : x < i ∧ loP g n x = x
  · rw [if_pos c, if_pos ⟨by omega, c.2⟩]
  · rw [if_neg c, if_neg fun d => c ⟨by
      have : x ≠ i := fun e => h (by rw [← e]; exact d.2)
      omega, d.2⟩]
def rjL (g : List Op3) (n : V3) (i : Nat) : List Int := (List.range (plN n)).map fun x => if x < i then ((rkP g n (loP g n x) : Nat) : Int) else 0
theorem rj_zero (g : List Op3) (n : V3) : rjL g n 0 = lrep (plcs n) 0 := by
  unfold rjL lrep
  refine List.ext_getElem (by simp) fun i h1 h2 => ?_
  rw [List.getElem_replicate, List.getElem_map, if_neg (by omega)]
theorem rj_len (g : List Op3) (n : V3) (i : Nat) : (rjL g n i).length = plN n := by unfold rjL; simp
theorem rj_end (g : List Op3) (n : V3) : rjL g n (plN n) = (List.range (plN n)).map fun j => (rkP g n (loP g n j) : Int) := map_congr_range fun x hx => by rw [if_pos hx]
theorem rj_succ {g : List Op3} {n : V3} {i : Nat} (hi : i < plN n) : lset (rjL g n i) (i : Nat) ((rkP g n (loP g n i) : Nat) : Int) = rjL g n (i + 1) := by
  unfold lset rjL
  rw [Int.toNat_natCast]
  refine set_range hi (by rw [if_pos (by omega)]) fun x hx hne => ?_
  by_cases c : x < i
  · rw [if_pos c, if_pos (by omega)]
  · rw [if_neg c, if_neg (by omega)]
theorem rn_at {g : List Op3} {n : V3} (hA : Act g (plN n) (mvN n)) {i : Nat} (hi : i < plN n) : (rnL g n (plN n)).getD (loP g n i) 0 = ((rkP g n (loP g n i) : Nat) : Int) := by
  have h1 : loP g n i < plN n := lo_lt hA hi
  unfold rnL
  rw [getD_map_range _ h1, if_pos ⟨h1, lo_lo hA hi⟩]
/-! ### Places that a map leaves -/
theorem fx_succ (f : Op3 → Nat → Nat) (o : Op3) (k : Nat) : fxN f (k + 1) o = fxN f k o + (if f o k = k then 1 else 0) := by
  unfold fxN
  rw [List.range_succ, List.filter_append, List.length_append]
  congr 1
  split
  · rename_i h; rw [List.filter_cons_of_pos (by simpa using h)]; rfl
  · rename_i h; rw [List.filter_cons_of_neg (by simpa using h)]; rfl
theorem fx_le (f : Op3 → Nat → Nat) (o : Op3) (k : Nat) : fxN f k o ≤ k := by
  have := List.length_filter_le (fun x => decide (f o x = x)) (List.range k)
  rw [List.length_range] at this
  exact this
theorem mv_fix {n : V3} (hs : Sid n) (o : Op3) {k : Nat} (hk : k < plN n) : mvN n o k = k ↔ movV o n (atV n k) = atV n k := by
  constructor
  · intro h; rw [← mv_at hs o k, h]
  · intro h
    unfold mvN; rw [h, num_at hs]; omega
/-- The code's counts: map i gone through up to place k. -/
def fcL (g : List Op3) (n : V3) (i k : Nat) : List Int := (List.range g.length).map fun j => if j < i then ((fxN (mvN n) (plN n) (g.getD j zerO) : Nat) : Int) else if j = i then ((fxN (mvN n) k (g.getD j zerO) : Nat) : Int) else 0
theorem fc_len (g : List Op3) (n : V3) (i k : Nat) : (fcL g n i k).length = g.length := by unfold fcL; simp
theorem fc_start (g : List Op3) (n : V3) : fcL g n 0 0 = lrep (g.length : Int) 0 := by
  unfold fcL lrep
  refine List.ext_getElem (by simp) fun i h1 h2 => ?_
  rw [List.getElem_replicate, List.getElem_map, if_neg (by omega)]
  split
  · unfold fxN; simp
  · rfl
theorem fc_turn (g : List Op3) (n : V3) (i : Nat) : fcL g n i (plN n) = fcL g n (i + 1) 0 := map_congr_range fun j hj => by
  by_cases c : j < i
  · rw [if_pos c, if_pos (by omega)]
  · by_cases e : j = i
    · rw [if_neg c, if_pos e, if_pos (by omega)]
    · rw [if_neg c, if_neg e, if_neg (by omega)]
      split
      · unfold fxN; simp
      · rfl
theorem fc_end (g : List Op3) (n : V3) : fcL g n g.length 0 = g.map fun o => ((fxN (mvN n) (plN n) o : Nat) : Int) := by
  unfold fcL
  refine List.ext_getElem (by simp) fun i h1 h2 => ?_
  rw [List.getElem_map, List.getElem_map]
  simp at h1
  simp [h1]
theorem fc_at {g : List Op3} {n : V3} {i k : Nat} (hi : i < g.length) : (fcL g n i k).getD i 0 = ((fxN (mvN n) k (g.getD i zerO) : Nat) : Int) := by
  unfold fcL
  rw [getD_map_range _ hi, if_neg (by omega), if_pos rfl]
theorem fc_hit {g : List Op3} {n : V3} {i k : Nat} (hi : i < g.length) (h : mvN n (g.getD i zerO) k = k) : lset (fcL g n i k) (i : Nat) (((fxN (mvN n) k (g.getD i zerO) : Nat) : Int) + 1) = fcL g n i (k + 1) := by
  unfold lset fcL
  rw [Int.toNat_natCast]
  refine set_range hi (by rw [if_neg (by omega), if_pos rfl, fx_succ, if_pos h]; omega) fun x hx hne => ?_
  by_cases c : x < i
  · rw [if_pos c, if_pos c]
  · rw [if_neg c, if_neg c, if_neg hne, if_neg hne]
theorem fc_miss {g : List Op3} {n : V3} {i k : Nat} (h : mvN n (g.getD i zerO) k ≠ k) : fcL g n i k = fcL g n i (k + 1) := map_congr_range fun x hx => by
  by_cases c : x < i
  · rw [if_pos c, if_pos c]
  · by_cases e : x = i
    · subst e
      rw [if_neg c, if_pos rfl, if_neg c, if_pos rfl, fx_succ, if_neg h]; simp
    · rw [if_neg c, if_neg e, if_neg c, if_neg e]
end Go.Fx
end
section
set_option linter.unusedSimpArgs false
set_option linter.unusedVariables false
set_option linter.unusedSectionVars false
namespace Go.Fx
open Go
def numP (n a : V3) : Prop := sidP n ∧ inG n a = true
def atP (n : V3) (k : Int) : Prop := sidP n ∧ 0 ≤ k ∧ k < plcs n
def orbP (g : List Op3) (n : V3) : Prop := fuE g n = 0
def orO (g : List Op3) (n : V3) : List Int := (List.range (plN n)).map fun j => (rkP g n (loP g n j) : Int)
def fsA (g : List Op3) (n : V3) : List V3 := fsL g n (plN n)
def csA (g : List Op3) (n : V3) : List Int := csL g n (plN n)
def orS (g : List Op3) (n : V3) (u : List Int) (f : List V3) (c : List Int) (k : Int) : Prop := u = oaL g n k.toNat ∧ f = fsL g n k.toNat ∧ c = csL g n k.toNat
def obX (g : List Op3) (n : V3) (u : List Int) (f : List V3) (c : List Int) (x : Int) : Prop := (0 ≤ x ∧ x ≤ n.x) ∧ orS g n u f c (numV n (V3.mk x 0 0))
def obY (g : List Op3) (n : V3) (x : Int) (u : List Int) (f : List V3) (c : List Int) (y : Int) : Prop := (0 ≤ y ∧ y ≤ n.y) ∧ orS g n u f c (numV n (V3.mk x y 0))
def obZ (g : List Op3) (n : V3) (x y : Int) (u : List Int) (f : List V3) (c : List Int) (z : Int) : Prop := (0 ≤ z ∧ z ≤ n.z) ∧ orS g n u f c (numV n (V3.mk x y z))
def obI (g : List Op3) (n p : V3) (u : List Int) (c j : Int) : Prop := (0 ≤ j ∧ j ≤ (g.length : Int)) ∧ u = obL g n (numV n p).toNat j.toNat ∧ c = ((cnJ g n (numV n p).toNat j.toNat : Nat) : Int)
def ocI (g : List Op3) (n : V3) (u : List Int) (i : Int) : Prop := (0 ≤ i ∧ i ≤ plcs n) ∧ u = ocL g n i.toNat
def mX (n : V3) (x : Int) : Int := n.x - x
def mY (n : V3) (x : Int) : Int := n.y - x
def mZ (n : V3) (x : Int) : Int := n.z - x
def mPl (n : V3) (x : Int) : Int := plcs n - x
theorem num_z (n : V3) (x y z : Int) : numV n (V3.mk x y (z + 1)) = numV n (V3.mk x y z) + 1 := by unfold numV; simp only; omega
theorem num_y (n : V3) (x y : Int) : numV n (V3.mk x (y + 1) 0) = numV n (V3.mk x y n.z) := by
  unfold numV; simp only
  rw [← Int.add_assoc, Int.add_mul (x * n.y + y) 1, Int.one_mul, Int.add_zero]
theorem num_x (n : V3) (x : Int) : numV n (V3.mk (x + 1) 0 0) = numV n (V3.mk x n.y 0) := by
  unfold numV; simp only [Int.add_mul x 1, Int.one_mul, Int.add_zero]
theorem num_0 (n : V3) : numV n (V3.mk 0 0 0) = 0 := by unfold numV; simp
theorem num_e (n : V3) : numV n (V3.mk n.x 0 0) = plcs n := by unfold numV plcs; simp
theorem lrep_w {n : V3} (h : sidE n = 0) : w64 (w64 (n.x * n.y) * n.z) = plcs n := by
  have hb : sidB n = true := by
    unfold sidE at h
    split at h
    · assumption
    · cases h
  obtain ⟨w1, w2⟩ := sid_prod hb
  rw [w1, w2]; rfl
/-- A side's counter goes on. -/
theorem up1 {i m : Int} (h0 : 0 ≤ i) (hi : i < m) (hm : m ≤ 9223372036854775807) : w64 (i + 1) = i + 1 := w64_id (by omega) (by omega)
section
variable {g : List Op3} {n : V3}
theorem ox_0 (hA : Act g (plN n) (mvN n)) (hs : Sid n) : obX g n (lrep (plcs n) 0) [] [] 0 := by
  refine ⟨⟨Int.le_refl _, by have := hs.x0; omega⟩, ?_⟩
  rw [num_0]
  refine ⟨(oa_zero hA).symm, ?_, ?_⟩
  · unfold fsL fsP fstN; simp
  · unfold csL fsP fstN; simp
theorem oy_0 {x : Int} {u : List Int} {f : List V3} {c : List Int} (hs : Sid n) (h : obX g n u f c x) : obY g n x u f c 0 := ⟨⟨Int.le_refl _, by have := hs.y0; omega⟩, h.2⟩
theorem oz_0 {x y : Int} {u : List Int} {f : List V3} {c : List Int} (hs : Sid n) (h : obY g n x u f c y) : obZ g n x y u f c 0 := ⟨⟨Int.le_refl _, by have := hs.z0; omega⟩, h.2⟩
theorem oy_next {x y z : Int} {u : List Int} {f : List V3} {c : List Int} (hs : Sid n) (h : obZ g n x y u f c z) (hz : ¬ z < n.z) (y0 : 0 ≤ y) (hy : y < n.y) :
    obY g n x u f c (w64 (y + 1)) ∧ (decide (0 ≤ mY n (w64 (y + 1))) = true ∧ decide (mY n (w64 (y + 1)) < mY n y) = true) := by
  have e : z = n.z := by have := h.1; omega
  rw [up1 y0 hy (by have := hs.y1; omega)]
  refine ⟨⟨⟨by omega, by omega⟩, ?_⟩, decide_eq_true (by unfold mY; omega), decide_eq_true (by unfold mY; omega)⟩
  rw [num_y, ← e]; exact h.2
theorem ox_next {x y : Int} {u : List Int} {f : List V3} {c : List Int} (hs : Sid n) (h : obY g n x u f c y) (hy : ¬ y < n.y) (x0 : 0 ≤ x) (hx : x < n.x) :
    obX g n u f c (w64 (x + 1)) ∧ (decide (0 ≤ mX n (w64 (x + 1))) = true ∧ decide (mX n (w64 (x + 1)) < mX n x) = true) := by
  have e : y = n.y := by have := h.1; omega
  rw [up1 x0 hx (by have := hs.x1; omega)]
  refine ⟨⟨⟨by omega, by omega⟩, ?_⟩, decide_eq_true (by unfold mX; omega), decide_eq_true (by unfold mX; omega)⟩
  rw [num_x, ← e]; exact h.2
theorem ox_end {x : Int} {u : List Int} {f : List V3} {c : List Int} (h : obX g n u f c x) (hx : ¬ x < n.x) : u = oaL g n (plN n) ∧ f = fsA g n ∧ c = csA g n := by
  have e : x = n.x := by have := h.1; omega
  have h2 := h.2
  rw [e, num_e] at h2
  exact h2
/-- One place on. -/
theorem oz_step {x y z : Int} {u' : List Int} {f' : List V3} {c' : List Int} (hs : Sid n) (h0 : 0 ≤ z) (hz : z < n.z) (hk : 0 ≤ numV n (V3.mk x y z)) (h : u' = oaL g n ((numV n (V3.mk x y z)).toNat + 1) ∧ f' = fsL g n ((numV n (V3.mk x y z)).toNat + 1) ∧ c' = csL g n ((numV n (V3.mk x y z)).toNat + 1)) :
    obZ g n x y u' f' c' (w64 (z + 1)) ∧ (decide (0 ≤ mZ n (w64 (z + 1))) = true ∧ decide (mZ n (w64 (z + 1)) < mZ n z) = true) := by
  rw [up1 h0 hz (by have := hs.z1; omega)]
  refine ⟨⟨⟨by omega, by omega⟩, ?_⟩, decide_eq_true (by unfold mZ; omega), decide_eq_true (by unfold mZ; omega)⟩
  rw [num_z]
  unfold orS
  rw [show (numV n (V3.mk x y z) + 1).toNat = (numV n (V3.mk x y z)).toNat + 1 by omega]
  exact h
theorem pt_in {x y z : Int} (x0 : 0 ≤ x) (x1 : x < n.x) (y0 : 0 ≤ y) (y1 : y < n.y) (z0 : 0 ≤ z) (z1 : z < n.z) : inG n (V3.mk x y z) = true := inG_iff.2 ⟨⟨x0, x1⟩, ⟨y0, y1⟩, z0, z1⟩
theorem oi_0 (hA : Act g (plN n) (mvN n)) {p : V3} {u : List Int} (h : u = oaL g n (numV n p).toNat) : obI g n p u 0 0 := by
  refine ⟨⟨Int.le_refl _, by omega⟩, ?_, ?_⟩
  · rw [h]; exact (ob_zero hA _).symm
  · show (0 : Int) = ((cnJ g n _ 0 : Nat) : Int)
    rw [cn_zero hA]; rfl
theorem lo_pos (hA : Act g (plN n) (mvN n)) {k : Nat} (hk : k < plN n) {u : List Int} (h : u = oaL g n k) : 0 < u.getD k 0 ↔ loP g n k ≠ k := by
  rw [h, oa_pos hA hk]
  split
  · rename_i e; exact ⟨fun c => by omega, fun c => absurd e c⟩
  · rename_i e; exact ⟨fun _ => e, fun _ => by omega⟩
/-- A map's image of a first place. -/
theorem oi_step (hA : Act g (plN n) (mvN n)) (hs : Sid n) (hb : g.length * 96 ≤ room) {p : V3} (hp : inG n p = true) (hlo : loP g n (numV n p).toNat = (numV n p).toNat) {u : List Int} {c j : Int} (h : obI g n p u c j) (hj : j < (g.length : Int)) {m : Int} (hm : m = (rkP g n (numV n p).toNat : Int) + 1) :
    inB u (numV n (movV (g.getD j.toNat zerO) n p)) ∧
    (u.getD (numV n (movV (g.getD j.toNat zerO) n p)).toNat 0 = 0 → obI g n p (lset u (numV n (movV (g.getD j.toNat zerO) n p)) m) (w64 (c + 1)) (w64 (j + 1)) ∧ (decide (0 ≤ opMu g (w64 (j + 1))) = true ∧ decide (opMu g (w64 (j + 1)) < opMu g j) = true)) ∧
    (u.getD (numV n (movV (g.getD j.toNat zerO) n p)).toNat 0 ≠ 0 → obI g n p u c (w64 (j + 1)) ∧ (decide (0 ≤ opMu g (w64 (j + 1))) = true ∧ decide (opMu g (w64 (j + 1)) < opMu g j) = true)) := by
  obtain ⟨⟨j0, j1⟩, hu, hc⟩ := h
  have hq := num_in hs (mov_in (g.getD j.toNat zerO) hs p)
  have hk := num_in hs hp
  have hkP : (numV n p).toNat < plN n := by unfold plN; omega
  have hat : atV n ((numV n p).toNat : Nat) = p := by rw [show (((numV n p).toNat : Nat) : Int) = numV n p by omega]; exact at_num hs hp
  have hi : (numV n (movV (g.getD j.toNat zerO) n p)).toNat = mvN n (g.getD j.toNat zerO) (numV n p).toNat := by
    unfold mvN; rw [hat]
  obtain ⟨e1, e2, e3⟩ := opMu_next hb j0 hj
  obtain ⟨q1, q2, q3⟩ := ob_at hA hkP hlo (j := j.toNat) (by omega) hi
  have ei : (((numV n (movV (g.getD j.toNat zerO) n p)).toNat : Nat) : Int) = numV n (movV (g.getD j.toNat zerO) n p) := by omega
  have hjs : (j + 1).toNat = j.toNat + 1 := by omega
  have hcb : cnJ g n (numV n p).toNat j.toNat ≤ plN n := by
    have := List.length_filter_le (fun i => decide (i ∈ imgN (mvN n) (g.take j.toNat) (numV n p).toNat)) (List.range (plN n))
    rw [List.length_range] at this
    exact this
  have hpl := pl_pos hs
  refine ⟨⟨hq.1, by rw [hu, ob_len]; unfold plN; omega⟩, fun h0 => ⟨?_, e2, e3⟩, fun h0 => ⟨?_, e2, e3⟩⟩
  · rw [hu] at h0
    obtain ⟨r1, r2⟩ := q2 h0
    rw [ei] at r1
    have hw : w64 (c + 1) = c + 1 := w64_id (by omega) (by unfold plN at hcb; omega)
    rw [e1, hw]
    refine ⟨⟨by omega, by omega⟩, ?_, ?_⟩
    · rw [hjs, ← r1, hu, hm]
    · rw [hjs, r2, hc]; omega
  · rw [hu] at h0
    obtain ⟨r1, r2⟩ := q3 h0
    rw [e1]
    exact ⟨⟨by omega, by omega⟩, by rw [hjs, ← r1, hu], by rw [hjs, r2, hc]⟩
/-- A first place. -/
theorem oi_end (hA : Act g (plN n) (mvN n)) (hs : Sid n) {p : V3} (hp : inG n p = true) (hlo : loP g n (numV n p).toNat = (numV n p).toNat) {u : List Int} {c j : Int} (h : obI g n p u c j) (hj : ¬ j < (g.length : Int)) :
    u = oaL g n ((numV n p).toNat + 1) ∧ fsL g n (numV n p).toNat ++ [p] = fsL g n ((numV n p).toNat + 1) ∧ csL g n (numV n p).toNat ++ [c] = csL g n ((numV n p).toNat + 1) := by
  obtain ⟨⟨j0, j1⟩, hu, hc⟩ := h
  have hk := num_in hs hp
  have hkP : (numV n p).toNat < plN n := by unfold plN; omega
  have hat : atV n ((numV n p).toNat : Nat) = p := by rw [show (((numV n p).toNat : Nat) : Int) = numV n p by omega]; exact at_num hs hp
  have ej : j.toNat = g.length := by omega
  obtain ⟨f1, f2⟩ := fs_end hA hlo
  rw [hat] at f1
  refine ⟨by rw [hu, ej]; exact ob_end hA hkP hlo, f1.symm, ?_⟩
  rw [f2, hc, ej, cn_end hA hkP hlo]
theorem fs_bnd (k : Nat) : (fsL g n k).length ≤ k ∧ (csL g n k).length ≤ k := by
  unfold fsL csL
  rw [List.length_map, List.length_map]
  have := List.length_filter_le (isF (mvN n) g) (List.range k)
  rw [List.length_range] at this
  exact ⟨this, this⟩
theorem oc_next10 (hA : Act g (plN n) (mvN n)) (hs : Sid n) {u : List Int} {i : Int} (h : ocI g n u i) (hi : i < plcs n) :
    inB u i ∧ (ocI g n (lset u i (w64 (u.getD i.toNat 0 - 1))) (w64 (i + 1)) ∧ (decide (0 ≤ mPl n (w64 (i + 1))) = true ∧ decide (mPl n (w64 (i + 1)) < mPl n i) = true)) := by
  obtain ⟨⟨i0, i1⟩, hu⟩ := h
  have hpl := pl_pos hs
  have hiP : i.toNat < plN n := by unfold plN; omega
  obtain ⟨s1, s2⟩ := oc_step (g := g) hiP
  have hr : rkP g n (loP g n i.toNat) ≤ loP g n i.toNat := by
    have := List.length_filter_le (isF (mvN n) g) (List.range (loP g n i.toNat))
    rw [List.length_range] at this
    exact this
  have hl : loP g n i.toNat < plN n := lo_lt hA hiP
  have hl2 : ((loP g n i.toNat : Nat) : Int) < plcs n := by unfold plN at hl; omega
  rw [up1 i0 hi (by omega), hu, s1, w64_id (x := (rkP g n (loP g n i.toNat) : Int) + 1 - 1) (by omega) (by omega)]
  refine ⟨⟨i0, by unfold ocL; rw [List.length_map, List.length_range]; unfold plN; omega⟩, ⟨⟨by omega, by omega⟩, ?_⟩, decide_eq_true (by unfold mPl; omega), decide_eq_true (by unfold mPl; omega)⟩
  rw [show (i + 1).toNat = i.toNat + 1 by omega, ← s2, show ((i.toNat : Nat) : Int) = i by omega, show (rkP g n (loP g n i.toNat) : Int) + 1 - 1 = rkP g n (loP g n i.toNat) by omega]
end
end Go.Fx
end
section
set_option linter.unusedSimpArgs false
set_option linter.unusedVariables false
set_option linter.unusedSectionVars false
namespace Go.Fx
open Go
def fxI (g : List Op3) (n : V3) (u : List Int) (i : Int) : Prop := (0 ≤ i ∧ i ≤ (g.length : Int)) ∧ u = fcL g n i.toNat 0
def fxX (g : List Op3) (n : V3) (i : Int) (u : List Int) (x : Int) : Prop := (0 ≤ x ∧ x ≤ n.x) ∧ u = fcL g n i.toNat (numV n (V3.mk x 0 0)).toNat
def fxY (g : List Op3) (n : V3) (i x : Int) (u : List Int) (y : Int) : Prop := (0 ≤ y ∧ y ≤ n.y) ∧ u = fcL g n i.toNat (numV n (V3.mk x y 0)).toNat
def fxZ (g : List Op3) (n : V3) (i x y : Int) (u : List Int) (z : Int) : Prop := (0 ≤ z ∧ z ≤ n.z) ∧ u = fcL g n i.toNat (numV n (V3.mk x y z)).toNat
def olI (g : List Op3) (n : V3) (u : List Int) (i : Int) : Prop := (0 ≤ i ∧ i ≤ plcs n) ∧ u = olL g n i.toNat
def omI (g : List Op3) (n : V3) (i : Int) (u : List Int) (j : Int) : Prop := (0 ≤ j ∧ j ≤ (g.length : Int)) ∧ u = omL g n i.toNat j.toNat
def dfI (g : List Op3) (n : V3) (f : List V3) (c : List Int) (i : Int) : Prop := (0 ≤ i ∧ i ≤ plcs n) ∧ f = fsL g n i.toNat ∧ c = csL g n i.toNat
def dcI (g : List Op3) (n : V3) (i c j : Int) : Prop := (0 ≤ j ∧ j ≤ plcs n) ∧ c = ((cjN g n i.toNat j.toNat : Nat) : Int)
def doI (g : List Op3) (n : V3) (u : List Int) (k i : Int) : Prop := (0 ≤ i ∧ i ≤ plcs n) ∧ u = rnL g n i.toNat ∧ k = ((rkP g n i.toNat : Nat) : Int)
def djI (g : List Op3) (n : V3) (u : List Int) (i : Int) : Prop := (0 ≤ i ∧ i ≤ plcs n) ∧ u = rjL g n i.toNat
def dxI (g : List Op3) (n : V3) (l : List Int) (i : Int) : Prop := (0 ≤ i ∧ i ≤ (g.length : Int)) ∧ l = (g.take i.toNat).map fun o => ((fxN (mvN n) (plN n) o : Nat) : Int)
def dkI (g : List Op3) (n : V3) (i c k : Int) : Prop := (0 ≤ k ∧ k ≤ plcs n) ∧ c = ((fxN (mvN n) k.toNat (g.getD i.toNat zerO) : Nat) : Int)
def smW (a b : List V3) : Bool := decide (a = b)
def smWi (a b : List V3) (i : Int) : Prop := smP a b i
def inW (l : List V3) (i : Int) : Int := (l.length : Int) - i
def trnO : Op3 := Op3.mk (M3.mk (-1) 0 0 0 (-1) 0 0 0 (-1)) (V3.mk 0 0 0)
def pairU : List Op3 := [trnO, oneO]
def fewB (n : V3) : Bool := !(decide (sidE n = 0)) || decide (plcs n ≤ 500)
theorem mu_up {i m : Int} (h0 : 0 ≤ i) (hi : i < m) (hm : m ≤ 9223372036854775807) : w64 (i + 1) = i + 1 ∧ (0 ≤ i + 1 ∧ i + 1 ≤ m) ∧ (i + 1).toNat = i.toNat + 1 := ⟨up1 h0 hi hm, ⟨by omega, by omega⟩, by omega⟩
theorem mpl_up {n : V3} (hs : Sid n) {i : Int} (h0 : 0 ≤ i) (hi : i < plcs n) : w64 (i + 1) = i + 1 ∧ (0 ≤ i + 1 ∧ i + 1 ≤ plcs n) ∧ (i + 1).toNat = i.toNat + 1 ∧ decide (0 ≤ mPl n (i + 1)) = true ∧ decide (mPl n (i + 1) < mPl n i) = true ∧ i.toNat < plN n ∧ ((i.toNat : Nat) : Int) = i := by
  have hpl := pl_pos hs
  obtain ⟨a, b, c⟩ := mu_up h0 hi (by omega)
  exact ⟨a, b, c, decide_eq_true (by unfold mPl; omega), decide_eq_true (by unfold mPl; omega), by unfold plN; omega, by omega⟩
section
variable {g : List Op3} {n : V3}
theorem fz_0 (i : Int) {u : List Int} (hs : Sid n) (h : u = fcL g n i.toNat 0) : fxX g n i u 0 := by
  refine ⟨⟨Int.le_refl _, by have := hs.x0; omega⟩, ?_⟩
  rw [num_0]; exact h
theorem fz_y {i x : Int} {u : List Int} (hs : Sid n) (h : fxX g n i u x) : fxY g n i x u 0 := ⟨⟨Int.le_refl _, by have := hs.y0; omega⟩, h.2⟩
theorem fz_z {i x y : Int} {u : List Int} (hs : Sid n) (h : fxY g n i x u y) : fxZ g n i x y u 0 := ⟨⟨Int.le_refl _, by have := hs.z0; omega⟩, h.2⟩
theorem fy_next {i x y z : Int} {u : List Int} (hs : Sid n) (h : fxZ g n i x y u z) (hz : ¬ z < n.z) (y0 : 0 ≤ y) (hy : y < n.y) :
    fxY g n i x u (w64 (y + 1)) ∧ (decide (0 ≤ mY n (w64 (y + 1))) = true ∧ decide (mY n (w64 (y + 1)) < mY n y) = true) := by
  have e : z = n.z := by have := h.1; omega
  rw [up1 y0 hy (by have := hs.y1; omega)]
  refine ⟨⟨⟨by omega, by omega⟩, ?_⟩, decide_eq_true (by unfold mY; omega), decide_eq_true (by unfold mY; omega)⟩
  rw [num_y, ← e]; exact h.2
theorem fx_next {i x y : Int} {u : List Int} (hs : Sid n) (h : fxY g n i x u y) (hy : ¬ y < n.y) (x0 : 0 ≤ x) (hx : x < n.x) :
    fxX g n i u (w64 (x + 1)) ∧ (decide (0 ≤ mX n (w64 (x + 1))) = true ∧ decide (mX n (w64 (x + 1)) < mX n x) = true) := by
  have e : y = n.y := by have := h.1; omega
  rw [up1 x0 hx (by have := hs.x1; omega)]
  refine ⟨⟨⟨by omega, by omega⟩, ?_⟩, decide_eq_true (by unfold mX; omega), decide_eq_true (by unfold mX; omega)⟩
  rw [num_x, ← e]; exact h.2
theorem fi_next {i x : Int} {u : List Int} (hb : g.length * 96 ≤ room) (h : fxX g n i u x) (hx : ¬ x < n.x) (i0 : 0 ≤ i) (hi : i < (g.length : Int)) :
    fxI g n u (w64 (i + 1)) ∧ (decide (0 ≤ opMu g (w64 (i + 1))) = true ∧ decide (opMu g (w64 (i + 1)) < opMu g i) = true) := by
  have e : x = n.x := by have := h.1; omega
  obtain ⟨e1, e2, e3⟩ := opMu_next hb i0 hi
  refine ⟨?_, e2, e3⟩
  rw [e1]
  refine ⟨⟨by omega, by omega⟩, ?_⟩
  have h2 := h.2
  rw [e, num_e] at h2
  rw [show (i + 1).toNat = i.toNat + 1 by omega, ← fc_turn]; exact h2
theorem fz_step {i x y z : Int} {u : List Int} (hs : Sid n) (h : fxZ g n i x y u z) (hi0 : 0 ≤ i) (hi : i < (g.length : Int)) (hp : inG n (V3.mk x y z) = true) :
    (movV (g.getD i.toNat zerO) n (V3.mk x y z) = V3.mk x y z → inB u i ∧ fxZ g n i x y (lset u i (w64 (u.getD i.toNat 0 + 1))) (w64 (z + 1)) ∧ (decide (0 ≤ mZ n (w64 (z + 1))) = true ∧ decide (mZ n (w64 (z + 1)) < mZ n z) = true)) ∧
    (movV (g.getD i.toNat zerO) n (V3.mk x y z) ≠ V3.mk x y z → fxZ g n i x y u (w64 (z + 1)) ∧ (decide (0 ≤ mZ n (w64 (z + 1))) = true ∧ decide (mZ n (w64 (z + 1)) < mZ n z) = true)) := by
  have hk := num_in hs hp
  obtain ⟨_, _, ⟨z0, z1⟩⟩ := inG_iff.1 hp
  have z0 : 0 ≤ z := z0
  have z1 : z < n.z := z1
  have hkP : (numV n (V3.mk x y z)).toNat < plN n := by unfold plN; omega
  have ek : (((numV n (V3.mk x y z)).toNat : Nat) : Int) = numV n (V3.mk x y z) := by omega
  have hf := mv_fix hs (g.getD i.toNat zerO) hkP
  rw [ek, at_num hs hp] at hf
  have hu := h.2
  have hpl := pl_pos hs
  have hle := fx_le (mvN n) (g.getD i.toNat zerO) (numV n (V3.mk x y z)).toNat
  have ei : ((i.toNat : Nat) : Int) = i := by omega
  have mm : ∀ u', u' = fcL g n i.toNat ((numV n (V3.mk x y z)).toNat + 1) → fxZ g n i x y u' (w64 (z + 1)) ∧ (decide (0 ≤ mZ n (w64 (z + 1))) = true ∧ decide (mZ n (w64 (z + 1)) < mZ n z) = true) := fun u' e => by
    rw [up1 z0 z1 (by have := hs.z1; omega)]
    refine ⟨⟨⟨by omega, by omega⟩, ?_⟩, decide_eq_true (by unfold mZ; omega), decide_eq_true (by unfold mZ; omega)⟩
    rw [num_z, show (numV n (V3.mk x y z) + 1).toNat = (numV n (V3.mk x y z)).toNat + 1 by omega]; exact e
  refine ⟨fun e => ⟨⟨hi0, by rw [hu, fc_len]; exact hi⟩, mm _ ?_⟩, fun e => mm _ ?_⟩
  · rw [← fc_hit (i := i.toNat) (by omega) (hf.2 e), hu, fc_at (by omega), w64_id (by omega) (by omega), ei]
  · rw [hu]; exact fc_miss fun c => e (hf.1 c)
/-! ### The document -/
theorem ol_0 (hs : Sid n) : olI g n (lrep (plcs n) 0) 0 := ⟨⟨Int.le_refl _, by have := (pl_pos hs).1; omega⟩, (ol_zero g n).symm⟩
theorem om_0 (hs : Sid n) {u : List Int} {i : Int} (h : olI g n u i) (hi : i < plcs n) : inB u i ∧ omI g n i (lset u i i) 0 := by
  obtain ⟨⟨i0, i1⟩, hu⟩ := h
  obtain ⟨_, _, _, _, _, hP, ei⟩ := mpl_up hs i0 hi
  refine ⟨⟨i0, by rw [hu, ol_len]; omega⟩, ⟨Int.le_refl _, by omega⟩, ?_⟩
  have := om_zero (g := g) hP
  rw [ei] at this
  rw [hu]; exact this
theorem om_next (hs : Sid n) (hb : g.length * 96 ≤ room) {u : List Int} {i j : Int} (i0 : 0 ≤ i) (hi : i < plcs n) (h : omI g n i u j) (hj : j < (g.length : Int)) :
    inB u i ∧ (omI g n i (lset u i (zmin (u.getD i.toNat 0) (numV n (movV (g.getD j.toNat zerO) n (atV n i))))) (w64 (j + 1)) ∧ (decide (0 ≤ opMu g (w64 (j + 1))) = true ∧ decide (opMu g (w64 (j + 1)) < opMu g j) = true)) := by
  obtain ⟨⟨j0, j1⟩, hu⟩ := h
  obtain ⟨_, _, _, _, _, hP, ei⟩ := mpl_up hs i0 hi
  obtain ⟨e1, e2, e3⟩ := opMu_next hb j0 hj
  refine ⟨⟨i0, by rw [hu, om_len]; omega⟩, ?_, e2, e3⟩
  rw [e1]
  refine ⟨⟨by omega, by omega⟩, ?_⟩
  have h1 := om_succ (g := g) hP (j := j.toNat) (by omega)
  rw [show (j + 1).toNat = j.toNat + 1 by omega, ← h1, hu, om_at hP, ei]
  have h2 := mv_num hs (g.getD j.toNat zerO) i.toNat
  rw [ei] at h2
  rw [← h2]
  congr 1
  unfold zmin
  split
  · omega
  · omega
theorem ol_next (hs : Sid n) {u : List Int} {i j : Int} (i0 : 0 ≤ i) (hi : i < plcs n) (h : omI g n i u j) (hj : ¬ j < (g.length : Int)) :
    olI g n u (w64 (i + 1)) ∧ (decide (0 ≤ mPl n (w64 (i + 1))) = true ∧ decide (mPl n (w64 (i + 1)) < mPl n i) = true) := by
  obtain ⟨e1, e2, e3, e4, e5, hP, ei⟩ := mpl_up hs i0 hi
  rw [e1]
  refine ⟨⟨e2, ?_⟩, e4, e5⟩
  rw [e3, ← om_end, h.2, show j.toNat = g.length by have := h.1; omega]
theorem ol_stop {u : List Int} {i : Int} (h : olI g n u i) (hi : ¬ i < plcs n) : u = loL g n := by
  rw [h.2, show i.toNat = plN n by unfold plN; have := h.1; omega, ol_end]
theorem df_0 (hs : Sid n) : dfI g n [] [] 0 := by
  refine ⟨⟨Int.le_refl _, by have := (pl_pos hs).1; omega⟩, ?_, ?_⟩
  · unfold fsL fsP fstN; simp
  · unfold csL fsP fstN; simp
theorem dc_0 (hs : Sid n) (i : Int) : dcI g n i 0 0 := ⟨⟨Int.le_refl _, by have := (pl_pos hs).1; omega⟩, by unfold cjN; simp⟩
theorem dc_next (hs : Sid n) {i c j : Int} (i0 : 0 ≤ i) (h : dcI g n i c j) (hj : j < plcs n) :
    inB (loL g n) j ∧ ((loL g n).getD j.toNat 0 = i → dcI g n i (w64 (c + 1)) (w64 (j + 1)) ∧ (decide (0 ≤ mPl n (w64 (j + 1))) = true ∧ decide (mPl n (w64 (j + 1)) < mPl n j) = true)) ∧
    ((loL g n).getD j.toNat 0 ≠ i → dcI g n i c (w64 (j + 1)) ∧ (decide (0 ≤ mPl n (w64 (j + 1))) = true ∧ decide (mPl n (w64 (j + 1)) < mPl n j) = true)) := by
  obtain ⟨⟨j0, j1⟩, hc⟩ := h
  have hpl := pl_pos hs
  obtain ⟨e1, e2, e3, e4, e5, hP, ej⟩ := mpl_up hs j0 hj
  have hle := cj_le g n i.toNat j.toNat
  rw [e1, lo_at hP]
  refine ⟨⟨j0, by rw [lo_len]; omega⟩, fun e => ⟨⟨e2, ?_⟩, e4, e5⟩, fun e => ⟨⟨e2, ?_⟩, e4, e5⟩⟩
  · rw [e3, cj_succ, if_pos (by omega), hc, w64_id (by omega) (by omega)]; omega
  · rw [e3, cj_succ, if_neg (by omega), hc]; rfl
theorem df_skip (hA : Act g (plN n) (mvN n)) (hs : Sid n) {f : List V3} {c : List Int} {i : Int} (h : dfI g n f c i) (hi : i < plcs n) (hne : (loL g n).getD i.toNat 0 ≠ i) :
    dfI g n f c (w64 (i + 1)) ∧ (decide (0 ≤ mPl n (w64 (i + 1))) = true ∧ decide (mPl n (w64 (i + 1)) < mPl n i) = true) := by
  obtain ⟨⟨i0, i1⟩, hf, hc⟩ := h
  obtain ⟨e1, e2, e3, e4, e5, hP, ei⟩ := mpl_up hs i0 hi
  rw [lo_at hP] at hne
  obtain ⟨_, k2, k3⟩ := oa_skip hA hP (by omega)
  rw [e1]
  exact ⟨⟨e2, by rw [e3, k2, hf], by rw [e3, k3, hc]⟩, e4, e5⟩
theorem df_next (hA : Act g (plN n) (mvN n)) (hs : Sid n) {f : List V3} {c : List Int} {i k j : Int} (h : dfI g n f c i) (hi : i < plcs n) (he : (loL g n).getD i.toNat 0 = i) (hk : dcI g n i k j) (hj : ¬ j < plcs n) :
    dfI g n (lapp f [atV n i]) (lapp c [k]) (w64 (i + 1)) ∧ (decide (0 ≤ mPl n (w64 (i + 1))) = true ∧ decide (mPl n (w64 (i + 1)) < mPl n i) = true) := by
  obtain ⟨⟨i0, i1⟩, hf, hc⟩ := h
  obtain ⟨e1, e2, e3, e4, e5, hP, ei⟩ := mpl_up hs i0 hi
  rw [lo_at hP] at he
  obtain ⟨k2, k3⟩ := fs_end hA (k := i.toNat) (by omega)
  rw [e1]
  refine ⟨⟨e2, ?_, ?_⟩, e4, e5⟩
  · rw [e3, k2, hf, ei]; rfl
  · rw [e3, k3, hc, hk.2, show j.toNat = plN n by unfold plN; have := hk.1; omega, cj_end]; rfl
theorem down_0 (hs : Sid n) : doI g n (lrep (plcs n) 0) 0 0 := by
  refine ⟨⟨Int.le_refl _, by have := (pl_pos hs).1; omega⟩, (rn_zero g n).symm, ?_⟩
  unfold rkP rkN fstN; simp
theorem rk_le (k : Nat) : rkP g n k ≤ k := by
  have := List.length_filter_le (isF (mvN n) g) (List.range k)
  rw [List.length_range] at this
  exact this
theorem down_next (hA : Act g (plN n) (mvN n)) (hs : Sid n) {u : List Int} {k i : Int} (h : doI g n u k i) (hi : i < plcs n) :
    inB u i ∧ ((loL g n).getD i.toNat 0 = i → doI g n (lset u i k) (w64 (k + 1)) (w64 (i + 1)) ∧ (decide (0 ≤ mPl n (w64 (i + 1))) = true ∧ decide (mPl n (w64 (i + 1)) < mPl n i) = true)) ∧
    ((loL g n).getD i.toNat 0 ≠ i → doI g n u k (w64 (i + 1)) ∧ (decide (0 ≤ mPl n (w64 (i + 1))) = true ∧ decide (mPl n (w64 (i + 1)) < mPl n i) = true)) := by
  obtain ⟨⟨i0, i1⟩, hu, hk⟩ := h
  have hpl := pl_pos hs
  obtain ⟨e1, e2, e3, e4, e5, hP, ei⟩ := mpl_up hs i0 hi
  have hr := rk_le (g := g) (n := n) i.toNat
  have hrs : rkP g n (i.toNat + 1) = if loP g n i.toNat = i.toNat then rkP g n i.toNat + 1 else rkP g n i.toNat := by
    unfold rkP rkN
    rw [fst_succ hA]
    split
    · rw [List.length_append]; rfl
    · rfl
  rw [e1, lo_at hP]
  refine ⟨⟨i0, by rw [hu, rn_len]; omega⟩, fun e => ⟨⟨e2, ?_, ?_⟩, e4, e5⟩, fun e => ⟨⟨e2, ?_, ?_⟩, e4, e5⟩⟩
  · have := rn_hit (g := g) hP (by omega)
    rw [e3, ← this, hu, hk, ei]
  · rw [e3, hrs, if_pos (by omega), hk, w64_id (by omega) (by omega)]; omega
  · rw [e3, hu, rn_miss (by omega)]
  · rw [e3, hrs, if_neg (by omega), hk]
theorem dj_0 (hs : Sid n) : djI g n (lrep (plcs n) 0) 0 := ⟨⟨Int.le_refl _, by have := (pl_pos hs).1; omega⟩, (rj_zero g n).symm⟩
theorem dj_next (hA : Act g (plN n) (mvN n)) (hs : Sid n) {r u : List Int} {i : Int} (hr : r = rnL g n (plN n)) (h : djI g n u i) (hi : i < plcs n) :
    inB (loL g n) i ∧ inB r ((loL g n).getD i.toNat 0) ∧ inB u i ∧ djI g n (lset u i (r.getD ((loL g n).getD i.toNat 0).toNat 0)) (w64 (i + 1)) ∧ (decide (0 ≤ mPl n (w64 (i + 1))) = true ∧ decide (mPl n (w64 (i + 1)) < mPl n i) = true) := by
  obtain ⟨⟨i0, i1⟩, hu⟩ := h
  obtain ⟨e1, e2, e3, e4, e5, hP, ei⟩ := mpl_up hs i0 hi
  have hl : loP g n i.toNat < plN n := lo_lt hA hP
  rw [e1, lo_at hP, Int.toNat_natCast, hr, rn_at hA hP]
  refine ⟨⟨i0, by rw [lo_len]; omega⟩, ⟨by omega, by rw [rn_len]; omega⟩, ⟨i0, by rw [hu, rj_len]; omega⟩, ⟨e2, ?_⟩, e4, e5⟩
  have := rj_succ (g := g) hP
  rw [ei] at this
  rw [e3, ← this, hu]
theorem dx_0 : dxI g n [] 0 := ⟨⟨Int.le_refl _, by omega⟩, by simp⟩
theorem dk_0 (hs : Sid n) (i : Int) : dkI g n i 0 0 := ⟨⟨Int.le_refl _, by have := (pl_pos hs).1; omega⟩, by unfold fxN; simp⟩
theorem dk_next (hs : Sid n) {i c k : Int} (h : dkI g n i c k) (hk : k < plcs n) :
    (movV (g.getD i.toNat zerO) n (atV n k) = atV n k → dkI g n i (w64 (c + 1)) (w64 (k + 1)) ∧ (decide (0 ≤ mPl n (w64 (k + 1))) = true ∧ decide (mPl n (w64 (k + 1)) < mPl n k) = true)) ∧
    (movV (g.getD i.toNat zerO) n (atV n k) ≠ atV n k → dkI g n i c (w64 (k + 1)) ∧ (decide (0 ≤ mPl n (w64 (k + 1))) = true ∧ decide (mPl n (w64 (k + 1)) < mPl n k) = true)) := by
  obtain ⟨⟨k0, k1⟩, hc⟩ := h
  have hpl := pl_pos hs
  obtain ⟨e1, e2, e3, e4, e5, hP, ek⟩ := mpl_up hs k0 hk
  have hle := fx_le (mvN n) (g.getD i.toNat zerO) k.toNat
  have hf := mv_fix hs (g.getD i.toNat zerO) hP
  rw [ek] at hf
  rw [e1]
  refine ⟨fun e => ⟨⟨e2, ?_⟩, e4, e5⟩, fun e => ⟨⟨e2, ?_⟩, e4, e5⟩⟩
  · rw [e3, fx_succ, if_pos (hf.2 e), hc, w64_id (by omega) (by omega)]; omega
  · rw [e3, fx_succ, if_neg fun q => e (hf.1 q), hc]; rfl
theorem dx_next (hb : g.length * 96 ≤ room) {l : List Int} {i c k : Int} (h : dxI g n l i) (hi : i < (g.length : Int)) (hk : dkI g n i c k) (hK : ¬ k < plcs n) :
    dxI g n (lapp l [c]) (w64 (i + 1)) ∧ (decide (0 ≤ opMu g (w64 (i + 1))) = true ∧ decide (opMu g (w64 (i + 1)) < opMu g i) = true) := by
  obtain ⟨⟨i0, i1⟩, hl⟩ := h
  obtain ⟨e1, e2, e3⟩ := opMu_next hb i0 hi
  refine ⟨?_, e2, e3⟩
  rw [e1]
  refine ⟨⟨by omega, by omega⟩, ?_⟩
  rw [take_succ i0 hi zerO, List.map_append, hl, hk.2, show k.toNat = plN n by unfold plN; have := hk.1; omega]; rfl
end
theorem num_w {n a : V3} (hs : Sid n) (h : inG n a = true) : w64 (w64 (w64 (w64 (a.x * n.y) + a.y) * n.z) + a.z) = numV n a := by
  have hk := num_in hs h
  have hpl := pl_pos hs
  obtain ⟨⟨a0, a1⟩, ⟨b0, b1⟩, c0, c1⟩ := inG_iff.1 h
  have p1 : 0 ≤ a.x * n.y := Int.mul_nonneg a0 (by have := hs.y0; omega)
  have p2 : (a.x * n.y + a.y) * 1 ≤ (a.x * n.y + a.y) * n.z := Int.mul_le_mul_of_nonneg_left hs.z0 (by omega)
  have e : numV n a = (a.x * n.y + a.y) * n.z + a.z := rfl
  rw [w64_id (x := a.x * n.y) (by omega) (by omega), w64_id (x := a.x * n.y + a.y) (by omega) (by omega), w64_id (x := (a.x * n.y + a.y) * n.z) (by omega) (by omega), w64_id (by omega) (by omega)]; rfl
theorem at_w {n : V3} (hs : Sid n) {k : Int} (h0 : 0 ≤ k) (h1 : k < plcs n) : w64 (n.y * n.z) ≠ 0 ∧ V3.mk (w64 (Int.tdiv k (w64 (n.y * n.z)))) (Int.tmod (w64 (Int.tdiv k n.z)) n.y) (Int.tmod k n.z) = atV n k := by
  have hpl := pl_pos hs
  obtain ⟨x0, x1, y0, y1, z0, z1, _⟩ := hs
  have p0 : 0 < n.y * n.z := Int.mul_pos (by omega) (by omega)
  have p1 : n.y * n.z ≤ 192 * 192 := Int.le_trans (Int.mul_le_mul_of_nonneg_right y1 (by omega)) (Int.mul_le_mul_of_nonneg_left z1 (by omega))
  rw [w64_id (x := n.y * n.z) (by omega) (by omega), Int.tdiv_eq_ediv_of_nonneg h0, Int.tdiv_eq_ediv_of_nonneg h0]
  have d1 : 0 ≤ k / (n.y * n.z) := Int.ediv_nonneg h0 (by omega)
  have d2 : k / (n.y * n.z) ≤ k := Int.ediv_le_self _ h0
  have d3 : 0 ≤ k / n.z := Int.ediv_nonneg h0 (by omega)
  have d4 : k / n.z ≤ k := Int.ediv_le_self _ h0
  rw [w64_id (x := k / (n.y * n.z)) (by omega) (by omega), w64_id (x := k / n.z) (by omega) (by omega), Int.tmod_eq_emod_of_nonneg d3, Int.tmod_eq_emod_of_nonneg h0]
  exact ⟨by omega, rfl⟩
end Go.Fx
end
section
set_option linter.unusedSimpArgs false
set_option linter.unusedVariables false
set_option linter.unusedSectionVars false
namespace Go.Fx
open Go
theorem mu_of {o : Op3} {n a : V3} (h : movP o n a) : muE o n a = 0 ∧ muV o n a = movV o n a := by
  obtain ⟨h1, h2, h3, h4⟩ := h
  have e : muE o n a = 0 := by
    unfold muE
    rw [if_pos h4, errO_ok.2 h1, h2, if_pos (show lsE 0 0 = 0 from rfl), if_pos h3]
  exact ⟨e, by unfold muV; rw [if_pos e]⟩
theorem mu_not {o : Op3} {n a : V3} (h : muE o n a ≠ 0) : muV o n a = V3.mk 0 0 0 := by unfold muV; rw [if_neg h]
theorem mu_fit {o : Op3} {n a : V3} (h : movP o n a) : Sid n ∧ Fit o n := ⟨sid_ok h.2.1, (fit_iff h.1 (sid_ok h.2.1)).1 h.2.2.1⟩
/-- Undone. -/
theorem mu_back {b : Op3} {n x : V3} (h : movP b n x) (he : invE b = 0) : muE (invO b) n (movV b n x) = 0 ∧ muV (invO b) n (movV b n x) = x := by
  obtain ⟨hs, hf⟩ := mu_fit h
  have hF := h.1
  have hi : Frm (invO b) := Frm.inv hF (by rw [← invE_frm hF]; exact he)
  have hP : movP (invO b) n (movV b n x) := ⟨hi, h.2.1, (fit_iff hi hs).2 (fit_inv hs hf), mov_in b hs x⟩
  obtain ⟨e1, e2⟩ := mu_of hP
  exact ⟨e1, by rw [e2, mov_back hs hF hf h.2.2.2]⟩
/-- One behind the other. -/
theorem mu_mul {a b : Op3} {n x : V3} (h : movP b n x) (ha : muE a n (movV b n x) = 0) (he : mulE a b = 0) : muE (mulO a b) n x = 0 ∧ muV (mulO a b) n x = muV a n (movV b n x) := by
  obtain ⟨hs, hf⟩ := mu_fit h
  have hA := mu_zero ha
  obtain ⟨_, hfa⟩ := mu_fit hA
  have hi : Frm (mulO a b) := Frm.mul hA.1 h.1 (by rw [← mulE_frm hA.1 h.1]; exact he)
  have hP : movP (mulO a b) n x := ⟨hi, h.2.1, (fit_iff hi hs).2 (fit_mul hs hfa hf), h.2.2.2⟩
  obtain ⟨e1, e2⟩ := mu_of hP
  exact ⟨e1, by rw [e2, (mu_of hA).2, mov_mul hs hfa hf]⟩
/-! ### Sums -/
def sumZ : List Int → Int
  | [] => 0
  | x :: r => x + sumZ r
theorem sumZ_app : ∀ (l m : List Int), sumZ (l ++ m) = sumZ l + sumZ m
  | [], m => by simp [sumZ]
  | x :: r, m => by
    show x + sumZ (r ++ m) = x + sumZ r + sumZ m
    rw [sumZ_app r m]; omega
theorem sumZ_map {α : Type} (c : α → Nat) : ∀ l : List α, sumZ (l.map fun k => ((c k : Nat) : Int)) = (((l.map c).sum : Nat) : Int)
  | [] => rfl
  | x :: r => by
    rw [List.map_cons, List.map_cons, List.sum_cons]
    show _ + sumZ (r.map _) = _
    rw [sumZ_map c r]; omega
theorem sumZ_bnd {B : Int} (hB : 0 ≤ B) : ∀ l : List Int, (∀ x ∈ l, 0 ≤ x ∧ x ≤ B) → 0 ≤ sumZ l ∧ sumZ l ≤ l.length * B
  | [], _ => ⟨Int.le_refl _, by simp [sumZ]⟩
  | x :: r, h => by
    have h1 := sumZ_bnd hB r fun y hy => h y (List.mem_cons_of_mem _ hy)
    have h2 := h x (List.mem_cons_self ..)
    show 0 ≤ x + sumZ r ∧ x + sumZ r ≤ ((r.length + 1 : Nat) : Int) * B
    rw [show ((r.length + 1 : Nat) : Int) = (r.length : Int) + 1 by omega, Int.add_mul, Int.one_mul]
    omega
def smU (l : List Int) (s i : Int) : Prop := (0 ≤ i ∧ i ≤ (l.length : Int)) ∧ s = sumZ (l.take i.toNat)
theorem smU_0 (l : List Int) : smU l 0 0 := ⟨⟨Int.le_refl _, by omega⟩, rfl⟩
theorem smU_next {l : List Int} {s i : Int} (hl : l.length ≤ 262144) (hb : ∀ x ∈ l, 0 ≤ x ∧ x ≤ 262144) (h : smU l s i) (hi : i < (l.length : Int)) :
    inB l i ∧ (smU l (w64 (s + l.getD i.toNat 0)) (w64 (i + 1)) ∧ (decide (0 ≤ inMu l (w64 (i + 1))) = true ∧ decide (inMu l (w64 (i + 1)) < inMu l i) = true)) := by
  obtain ⟨⟨i0, i1⟩, hs⟩ := h
  have hm := hb _ (getD_mem i0 hi 0)
  have hbd := sumZ_bnd (B := 262144) (by omega) (l.take i.toNat) fun x hx => hb x (List.mem_of_mem_take hx)
  rw [List.length_take] at hbd
  have hmn : ((min i.toNat l.length : Nat) : Int) ≤ 262144 := by omega
  have hs2 : 0 ≤ s ∧ s ≤ 262144 * 262144 := by
    rw [hs]
    exact ⟨hbd.1, Int.le_trans hbd.2 (Int.mul_le_mul_of_nonneg_right hmn (by omega))⟩
  rw [up1 i0 hi (by omega), w64_id (x := s + l.getD i.toNat 0) (by omega) (by omega)]
  refine ⟨⟨i0, hi⟩, ⟨⟨by omega, by omega⟩, ?_⟩, decide_eq_true (by unfold inMu; omega), decide_eq_true (by unfold inMu; omega)⟩
  rw [take_succ i0 hi 0, sumZ_app, hs]
  show _ = _ + (l.getD i.toNat 0 + 0)
  omega
theorem smU_end {l : List Int} {s i : Int} (h : smU l s i) (hi : ¬ i < (l.length : Int)) : s = sumZ l := by rw [h.2, take_end hi]
/-! ### Lists that are answered -/
section
variable {g : List Op3} {n : V3}
theorem ans_no (h : fuE g n ≠ 0) : fiL g n = [] ∧ ciL g n = [] ∧ owL g n = [] ∧ fxL g n = [] := by
  unfold fiL ciL owL fxL
  rw [if_neg h, if_neg h, if_neg h, if_neg h]
  exact ⟨rfl, rfl, rfl, rfl⟩
theorem ans_ok (h : fuE g n = 0) : fiL g n = fsA g n ∧ ciL g n = csA g n ∧ owL g n = orO g n ∧ fxL g n = g.map fun o => ((fxN (mvN n) (plN n) o : Nat) : Int) := by
  unfold fiL ciL owL fxL
  rw [if_pos h, if_pos h, if_pos h, if_pos h]
  exact ⟨rfl, rfl, rfl, rfl⟩
theorem fs_lenP : (fsA g n).length = (fsP g n (plN n)).length ∧ (csA g n).length = (fsP g n (plN n)).length ∧ (fsP g n (plN n)).length ≤ plN n := by
  refine ⟨by unfold fsA fsL; rw [List.length_map], by unfold csA csL; rw [List.length_map], ?_⟩
  have := (fs_bnd (g := g) (n := n) (plN n)).1
  unfold fsL at this; rwa [List.length_map] at this
theorem cs_mem (hA : Act g (plN n) (mvN n)) (hs : Sid n) {x : Int} (hx : x ∈ csA g n) : (1 ≤ x ∧ x ≤ 262144) ∧ Int.tmod (g.length : Int) x = 0 := by
  unfold csA csL at hx
  obtain ⟨k, hk, rfl⟩ := List.mem_map.1 hx
  obtain ⟨h1, h2⟩ := ct_dvd hA hk
  have hle : ctN (mvN n) g (plN n) k ≤ plN n := by
    have := List.length_filter_le (fun j => decide (loN (mvN n) g j = k)) (List.range (plN n))
    rw [List.length_range] at this
    exact this
  have hpl := pl_pos hs
  obtain ⟨q, e⟩ := h2
  have hP2 : plN n ≤ 262144 := by unfold plN; omega
  exact ⟨⟨by omega, by omega⟩, Int.tmod_eq_zero_of_dvd ⟨(q : Int), by rw [e, Int.natCast_mul]⟩⟩
theorem cs_sum (hA : Act g (plN n) (mvN n)) (hs : Sid n) : sumZ (csA g n) = plcs n := by
  have hpl := pl_pos hs
  unfold csA csL fsP
  rw [sumZ_map, ct_sum hA]; unfold plN; omega
theorem fx_sum (hA : Act g (plN n) (mvN n)) : sumZ (g.map fun o => ((fxN (mvN n) (plN n) o : Nat) : Int)) = ((fsA g n).length : Int) * (g.length : Int) := by
  rw [sumZ_map, burnside hA, fs_lenP.1, Int.natCast_mul]
theorem fx_mem (hs : Sid n) {x : Int} (hx : x ∈ g.map fun o => ((fxN (mvN n) (plN n) o : Nat) : Int)) : 0 ≤ x ∧ x ≤ 262144 := by
  obtain ⟨o, _, rfl⟩ := List.mem_map.1 hx
  have := fx_le (mvN n) o (plN n)
  have hpl := pl_pos hs
  have hP2 : plN n ≤ 262144 := by unfold plN; omega
  omega
/-! ### Owners -/
def uoL (g : List Op3) (n : V3) (i : Nat) : List Int := (fsP g n (plN n)).map fun k => ((cjN g n k i : Nat) : Int)
def uoI (g : List Op3) (n : V3) (u : List Int) (i : Int) : Prop := (0 ≤ i ∧ i ≤ plcs n) ∧ u = uoL g n i.toNat
theorem set_map {α : Type} {l : List Nat} {f h : Nat → α} {m : Nat} {y : α} (hn : l.Nodup) (hm : m < l.length) (h1 : h (l.getD m 0) = y) (h2 : ∀ k ∈ l, k ≠ l.getD m 0 → h k = f k) : (l.map f).set m y = l.map h := by
  refine List.ext_getElem (by simp) fun i hi hj => ?_
  have hil : i < l.length := by simpa using hj
  rw [List.getElem_set, List.getElem_map]
  have hg : l.getD m 0 = l[m] := by simp [List.getD, hm]
  by_cases e : m = i
  · subst e; rw [if_pos rfl, ← h1, hg, List.getElem_map]
  · rw [if_neg e, List.getElem_map]
    refine (h2 _ (List.getElem_mem hil) fun c => e ?_).symm
    rw [hg] at c
    exact (nodup_inj hn hil hm c).symm
theorem or_at {i : Nat} (hi : i < plN n) : (orO g n).getD i 0 = ((rkP g n (loP g n i) : Nat) : Int) := by
  unfold orO; rw [getD_map_range _ hi]
theorem or_len : (orO g n).length = plN n := by unfold orO; simp
theorem uo_0 (hs : Sid n) : uoI g n (lrep ((fsA g n).length : Int) 0) 0 := by
  refine ⟨⟨Int.le_refl _, by have := (pl_pos hs).1; omega⟩, ?_⟩
  unfold uoL lrep
  rw [fs_lenP.1]
  refine List.ext_getElem (by simp) fun i h1 h2 => ?_
  rw [List.getElem_replicate, List.getElem_map]
  unfold cjN; simp
theorem uo_len (i : Nat) : (uoL g n i).length = (fsP g n (plN n)).length := by unfold uoL; rw [List.length_map]
/-- What is asked of place i and its owner. -/
theorem uo_at (hA : Act g (plN n) (mvN n)) (hs : Sid n) {u : List Int} {i : Int} (h : uoI g n u i) (hi : i < plcs n) :
    ∃ k : Int, (orO g n).getD i.toNat 0 = k ∧ inB (orO g n) i ∧ 0 ≤ k ∧ k < ((fsA g n).length : Int) ∧ inB u k ∧ inB (fsA g n) k ∧
      (u.getD k.toNat 0 = 0 → (fsA g n).getD k.toNat (V3.mk 0 0 0) = atV n i) ∧
      (uoI g n (lset u k (w64 (u.getD k.toNat 0 + 1))) (w64 (i + 1)) ∧ (decide (0 ≤ mPl n (w64 (i + 1))) = true ∧ decide (mPl n (w64 (i + 1)) < mPl n i) = true)) := by
  obtain ⟨⟨i0, i1⟩, hu⟩ := h
  have hpl := pl_pos hs
  obtain ⟨e1, e2, e3, e4, e5, hP, ei⟩ := mpl_up hs i0 hi
  have hlo : loP g n i.toNat < plN n := lo_lt hA hP
  have hll : loP g n (loP g n i.toNat) = loP g n i.toNat := lo_lo hA hP
  obtain ⟨r1, r2⟩ := fst_rk hA hlo hll 0
  have r1 : (fsP g n (plN n)).getD (rkP g n (loP g n i.toNat)) 0 = loP g n i.toNat := r1
  have r2 : rkP g n (loP g n i.toNat) < (fsP g n (plN n)).length := r2
  obtain ⟨l1, l2, l3⟩ := fs_lenP (g := g) (n := n)
  have hfl : (fsA g n).getD (rkP g n (loP g n i.toNat)) (V3.mk 0 0 0) = atV n ((loP g n i.toNat : Nat) : Int) := by
    have hx := r1
    simp only [List.getD_eq_getElem?_getD, List.getElem?_eq_getElem r2, Option.getD_some] at hx
    unfold fsA fsL
    simp only [List.getD_eq_getElem?_getD, List.getElem?_map, List.getElem?_eq_getElem r2, Option.map_some, Option.getD_some, hx]
  have hul : u.getD (rkP g n (loP g n i.toNat)) 0 = ((cjN g n (loP g n i.toNat) i.toNat : Nat) : Int) := by
    have hx := r1
    simp only [List.getD_eq_getElem?_getD, List.getElem?_eq_getElem r2, Option.getD_some] at hx
    rw [hu]
    unfold uoL
    simp only [List.getD_eq_getElem?_getD, List.getElem?_map, List.getElem?_eq_getElem r2, Option.map_some, Option.getD_some, hx]
  have hcb := cj_le g n (loP g n i.toNat) i.toNat
  refine ⟨((rkP g n (loP g n i.toNat) : Nat) : Int), or_at hP, ⟨i0, by rw [or_len]; unfold plN; omega⟩, by omega, by rw [l1]; omega, ⟨by omega, by rw [hu, uo_len]; omega⟩, ⟨by omega, by rw [l1]; omega⟩, fun h0 => ?_, ?_, ?_⟩
  · rw [Int.toNat_natCast] at h0 ⊢
    rw [hul] at h0
    rw [hfl]
    have hle := lo_lek hA i.toNat
    have hle : loP g n i.toNat ≤ i.toNat := hle
    rcases Nat.lt_or_ge (loP g n i.toNat) i.toNat with c | c
    · exfalso
      have : loP g n i.toNat ∈ (List.range i.toNat).filter fun x => decide (loP g n x = loP g n i.toNat) := List.mem_filter.2 ⟨List.mem_range.2 c, decide_eq_true hll⟩
      have := List.length_pos_of_mem this
      unfold cjN at h0
      omega
    · rw [show loP g n i.toNat = i.toNat by omega, ei]
  · rw [Int.toNat_natCast, hul, w64_id (x := ((cjN g n (loP g n i.toNat) i.toNat : Nat) : Int) + 1) (by omega) (by omega), e1]
    refine ⟨e2, ?_⟩
    rw [e3, hu]
    unfold lset uoL
    rw [Int.toNat_natCast]
    refine set_map (fst_nodup hA _) r2 ?_ fun k hk hne => ?_
    · rw [r1, cj_succ, if_pos rfl]; omega
    · rw [r1] at hne
      rw [cj_succ, if_neg fun c => hne c.symm]; rfl
  · rw [e1]; exact ⟨e4, e5⟩
/-- A place that a map leads to has the same owner. -/
theorem uo_move (hA : Act g (plN n) (mvN n)) (hs : Sid n) {i : Int} (i0 : 0 ≤ i) (hi : i < plcs n) {o : Op3} (ho : o ∈ g) :
    inB (orO g n) (numV n (movV o n (atV n i))) ∧ (orO g n).getD (numV n (movV o n (atV n i))).toNat 0 = (orO g n).getD i.toNat 0 := by
  have hpl := pl_pos hs
  obtain ⟨e1, e2, e3, e4, e5, hP, ei⟩ := mpl_up hs i0 hi
  have hm : (numV n (movV o n (atV n i))).toNat = mvN n o i.toNat := by unfold mvN; rw [ei]
  have hk := num_in hs (mov_in o hs (atV n i))
  have hlt := hA.lt o ho _ hP
  refine ⟨⟨hk.1, by rw [or_len]; unfold plN; omega⟩, ?_⟩
  rw [hm, or_at hP, or_at hlt]
  have := lo_move hA hP ho
  rw [show loP g n (mvN n o i.toNat) = loP g n i.toNat from this]
theorem uo_end {u : List Int} {i : Int} (h : uoI g n u i) (hi : ¬ i < plcs n) : u = csA g n := by
  rw [h.2, show i.toNat = plN n by unfold plN; have := h.1; omega]; rfl
end
end Go.Fx
end
