/-
  Plain facts on whole-number vectors and matrices.
-/
import Derived.Test.YtcadkndjcneedaaGreatE18
set_option linter.unusedSimpArgs false
set_option linter.unusedVariables false
set_option linter.unusedSectionVars false
section
namespace Go.Fx
open Go

def inE (k x : Int) : Bool := decide (-k ≤ x) && decide (x ≤ k)
def okM (m : M3) : Bool := inE 1000 m.xx && inE 1000 m.xy && inE 1000 m.xz && inE 1000 m.yx && inE 1000 m.yy && inE 1000 m.yz && inE 1000 m.zx && inE 1000 m.zy && inE 1000 m.zz
def okC (v : V3) : Bool := inE 2147483648 v.x && inE 2147483648 v.y && inE 2147483648 v.z
def bey (x k : Int) : Bool := decide (x < w64 (-k)) || decide (k < x)
def errM (m : M3) : Int := if okM m = true then 0 else 4
def errV (v : V3) : Int := if okC v = true then 0 else 4
def err2 (a b : Int) : Int := if a = 0 then b else a
def selM (e : Int) (m : M3) : M3 := if e = 0 then m else M3.mk 0 0 0 0 0 0 0 0 0
def selV (e : Int) (m : V3) : V3 := if e = 0 then m else V3.mk 0 0 0
def selI (e : Int) (m : Int) : Int := if e = 0 then m else 0
def wM (m : M3) : M3 := M3.mk (w64 m.xx) (w64 m.xy) (w64 m.xz) (w64 m.yx) (w64 m.yy) (w64 m.yz) (w64 m.zx) (w64 m.zy) (w64 m.zz)
def wV (v : V3) : V3 := V3.mk (w64 v.x) (w64 v.y) (w64 v.z)
def mulZ (a b : M3) : M3 := M3.mk
  (a.xx * b.xx + a.xy * b.yx + a.xz * b.zx) (a.xx * b.xy + a.xy * b.yy + a.xz * b.zy) (a.xx * b.xz + a.xy * b.yz + a.xz * b.zz)
  (a.yx * b.xx + a.yy * b.yx + a.yz * b.zx) (a.yx * b.xy + a.yy * b.yy + a.yz * b.zy) (a.yx * b.xz + a.yy * b.yz + a.yz * b.zz)
  (a.zx * b.xx + a.zy * b.yx + a.zz * b.zx) (a.zx * b.xy + a.zy * b.yy + a.zz * b.zy) (a.zx * b.xz + a.zy * b.yz + a.zz * b.zz)
def appZ (m : M3) (v : V3) : V3 := V3.mk (m.xx * v.x + m.xy * v.y + m.xz * v.z) (m.yx * v.x + m.yy * v.y + m.yz * v.z) (m.zx * v.x + m.zy * v.y + m.zz * v.z)
def traZ (m : M3) : M3 := M3.mk m.xx m.yx m.zx m.xy m.yy m.zy m.xz m.yz m.zz
def cofZ (a b c d : Int) : Int := a * b - c * d
def detZ (m : M3) : Int := m.xx * (m.yy * m.zz - m.yz * m.zy) + m.xy * (m.yz * m.zx - m.yx * m.zz) + m.xz * (m.yx * m.zy - m.yy * m.zx)
def trcZ (m : M3) : Int := m.xx + m.yy + m.zz
def adjZ (m : M3) : M3 := M3.mk
  (m.yy * m.zz - m.yz * m.zy) (m.zy * m.xz - m.zz * m.xy) (m.xy * m.yz - m.xz * m.yy)
  (m.yz * m.zx - m.yx * m.zz) (m.zz * m.xx - m.zx * m.xz) (m.xz * m.yx - m.xx * m.yz)
  (m.yx * m.zy - m.yy * m.zx) (m.zx * m.xy - m.zy * m.xx) (m.xx * m.yy - m.xy * m.yx)
def oneZ (n : Int) : M3 := M3.mk n 0 0 0 n 0 0 0 n
def uniE (m : M3) : Int := if errM m = 0 then (if w64 (detZ m) = 1 ∨ w64 (detZ m) = -1 then 0 else 3) else errM m
def cmpE (x y k : Int) : Int := if x < y then -1 else if y < x then 1 else k
def cmpM (a b : M3) : Int := cmpE a.xx b.xx (cmpE a.xy b.xy (cmpE a.xz b.xz (cmpE a.yx b.yx (cmpE a.yy b.yy (cmpE a.yz b.yz (cmpE a.zx b.zx (cmpE a.zy b.zy (cmpE a.zz b.zz 0))))))))
theorem errM_cases (m : M3) : errM m = 0 ∨ errM m = 4 := by
  unfold errM; split
  · exact .inl rfl
  · exact .inr rfl
/-! ### Powers modulo a prime -/
def resP (p x : Int) : Int := (Int.tmod x p + p) % p
def dotP (p a b c x y z : Int) : Int := Int.tmod (Int.tmod (Int.tmod (a * resP p x) p + b * resP p y) p + c * resP p z) p
def stepP (p : Int) (m c : M3) : M3 := M3.mk
  (dotP p c.xx c.xy c.xz m.xx m.yx m.zx) (dotP p c.xx c.xy c.xz m.xy m.yy m.zy) (dotP p c.xx c.xy c.xz m.xz m.yz m.zz)
  (dotP p c.yx c.yy c.yz m.xx m.yx m.zx) (dotP p c.yx c.yy c.yz m.xy m.yy m.zy) (dotP p c.yx c.yy c.yz m.xz m.yz m.zz)
  (dotP p c.zx c.zy c.zz m.xx m.yx m.zx) (dotP p c.zx c.zy c.zz m.xy m.yy m.zy) (dotP p c.zx c.zy c.zz m.xz m.yz m.zz)
def powP (p : Int) (m : M3) : Nat → M3
  | 0 => oneZ 1
  | k + 1 => stepP p m (powP p m k)
def eqM (a b : M3) : Bool := decide (a.xx = b.xx) && (decide (a.xy = b.xy) && (decide (a.xz = b.xz) && (decide (a.yx = b.yx) && (decide (a.yy = b.yy) && (decide (a.yz = b.yz) && (decide (a.zx = b.zx) && (decide (a.zy = b.zy) && (decide (a.zz = b.zz) && true))))))))
def powZ (m : M3) (n : Int) : Bool := eqM (powP 2147483647 m n.toNat) (oneZ 1) && (eqM (powP 2147483629 m n.toNat) (oneZ 1) && eqM (powP 2147483587 m n.toNat) (oneZ 1))
def pInv (n p : Int) (m : M3) (i : Int) (c : M3) : Prop := 0 ≤ i ∧ (i ≤ n ∨ i = 0) ∧ c = powP p m i.toNat
def pMu (n i : Int) : Int := n - i
end Go.Fx
end
section
namespace Go.Fx
open Go

def inP (p x : Int) : Prop := 0 ≤ x ∧ x < p
def allP (p : Int) (c : M3) : Prop := (inP p c.xx ∧ inP p c.xy ∧ inP p c.xz) ∧ (inP p c.yx ∧ inP p c.yy ∧ inP p c.yz) ∧ inP p c.zx ∧ inP p c.zy ∧ inP p c.zz
def dotW (p a b c x y z : Int) : Int := Int.tmod (w64 (Int.tmod (w64 (Int.tmod (0 + w64 (a * ((Int.tmod x p + p) % p))) p + w64 (b * ((Int.tmod y p + p) % p)))) p + w64 (c * ((Int.tmod z p + p) % p)))) p
def stepW (p : Int) (m c : M3) : M3 := M3.mk
  (dotW p c.xx c.xy c.xz m.xx m.yx m.zx) (dotW p c.xx c.xy c.xz m.xy m.yy m.zy) (dotW p c.xx c.xy c.xz m.xz m.yz m.zz)
  (dotW p c.yx c.yy c.yz m.xx m.yx m.zx) (dotW p c.yx c.yy c.yz m.xy m.yy m.zy) (dotW p c.yx c.yy c.yz m.xz m.yz m.zz)
  (dotW p c.zx c.zy c.zz m.xx m.yx m.zx) (dotW p c.zx c.zy c.zz m.xy m.yy m.zy) (dotW p c.zx c.zy c.zz m.xz m.yz m.zz)
end Go.Fx
end
section
namespace Go.Fx
open Go

def ordMap : List (Int × Int) := [(3, 1), (2, 6), (1, 4), (0, 3), (-1, 2)]
def ordD (m : M3) : Int := selI (uniE m) (w64 (detZ m))
def ordT (m : M3) : Int := w64 (ordD m * w64 (w64 (m.xx + m.yy) + m.zz))
def ordB (m : M3) : Int := mgetD eqI ordMap (ordT m)
def ordN (m : M3) : Int := if ordD m < 0 then (if Int.tmod (ordB m) 2 = 1 then w64 (ordB m * 2) else ordB m) else ordB m
def ordHit (m : M3) (n k : Int) : Bool := decide (Int.tmod n k = 0) && powZ m k
/-- The least k from i on, below n, of which the power is the identity and that divides n; n, if there is none. -/
def ordK (m : M3) (n : Int) : Nat → Int → Int
  | 0, _ => n
  | f + 1, k => if k < n then (if ordHit m n k = true then k else ordK m n f (k + 1)) else n
def ordR (m : M3) : Int × Int :=
  if uniE m = 0 then (if mhas eqI ordMap (ordT m) = true then (if powZ m (ordN m) = true then (ordK m (ordN m) 6 1, 0) else (0, 9)) else (0, 9)) else (0, uniE m)
def ordZ (m : M3) : Int := (ordR m).1
def ordE (m : M3) : Int := (ordR m).2
def oInv (m : M3) (n k : Int) : Prop := 1 ≤ k ∧ k ≤ 7 ∧ ordK m n 6 1 = ordK m n (7 - k).toNat k
/-! ### One order of rows of numbers -/
def lexL : List Int → List Int → Int
  | x :: r, y :: s => cmpE x y (lexL r s)
  | _, _ => 0
theorem lexL_anti : ∀ (a b : List Int), lexL b a = -lexL a b
  | [], [] => rfl
  | [], _ :: _ => rfl
  | _ :: _, [] => rfl
  | x :: r, y :: s => by
    have := lexL_anti r s
    simp only [lexL, cmpE]
    by_cases h1 : x < y
    · rw [if_neg (by omega), if_pos h1, if_pos h1]; rfl
    · by_cases h2 : y < x
      · rw [if_pos h2, if_neg h1, if_pos h2]
      · rw [if_neg h1, if_neg h2, if_neg h2, if_neg h1, this]
theorem lexL_zero : ∀ {a b : List Int}, a.length = b.length → (lexL a b = 0 ↔ a = b)
  | [], [], _ => ⟨fun _ => rfl, fun _ => rfl⟩
  | x :: r, y :: s, h => by
    have := lexL_zero (a := r) (b := s) (by simpa using h)
    simp only [lexL, cmpE, List.cons.injEq]
    by_cases h1 : x < y
    · rw [if_pos h1]; exact ⟨fun h => absurd h (by decide), fun h => absurd h.1 (by omega)⟩
    · by_cases h2 : y < x
      · rw [if_neg h1, if_pos h2]; exact ⟨fun h => absurd h (by decide), fun h => absurd h.1 (by omega)⟩
      · rw [if_neg h1, if_neg h2, this]; exact ⟨fun h => ⟨by omega, h⟩, fun h => h.2⟩
theorem lexL_trans : ∀ {a b c : List Int}, a.length = b.length → b.length = c.length → (lexL a b ≤ 0 → lexL b c ≤ 0 → lexL a c ≤ 0) ∧ (lexL a b < 0 → lexL b c ≤ 0 → lexL a c < 0) ∧ (lexL a b ≤ 0 → lexL b c < 0 → lexL a c < 0)
  | [], [], [], _, _ => ⟨fun _ _ => Int.le_refl _, fun h _ => absurd h (by decide), fun _ h => absurd h (by decide)⟩
  | x :: r, y :: s, z :: t, h1, h2 => by
    obtain ⟨q1, q2, q3⟩ := lexL_trans (a := r) (b := s) (c := t) (by simpa using h1) (by simpa using h2)
    simp only [lexL, cmpE]
    by_cases a1 : x < y <;> by_cases a2 : y < x <;> by_cases b1 : y < z <;> by_cases b2 : z < y <;> by_cases c1 : x < z <;> by_cases c2 : z < x <;> simp only [a1, a2, b1, b2, c1, c2, if_true, if_false] <;> first | (exact ⟨by omega, by omega, by omega⟩) | (exact ⟨q1, q2, q3⟩)
def M3.row (m : M3) : List Int := [m.xx, m.xy, m.xz, m.yx, m.yy, m.yz, m.zx, m.zy, m.zz]
/-! ### More of layer 1 -/
def scaZ (n : Int) (m : M3) : M3 := M3.mk (m.xx * n) (m.xy * n) (m.xz * n) (m.yx * n) (m.yy * n) (m.yz * n) (m.zx * n) (m.zy * n) (m.zz * n)
def inK1000 (k : Int) : Prop := 0 ≤ k ∧ k ≤ 1000
def tamM (k : Int) (m : M3) : M3 := M3.mk (Int.tmod m.xx (k + 1)) (Int.tmod m.xy (k + 1)) (Int.tmod m.xz (k + 1)) (Int.tmod m.yx (k + 1)) (Int.tmod m.yy (k + 1)) (Int.tmod m.yz (k + 1)) (Int.tmod m.zx (k + 1)) (Int.tmod m.zy (k + 1)) (Int.tmod m.zz (k + 1))
def rordC (t s d : Int) : Int :=
  if t = 0 ∧ s = 0 ∧ d = 1 then 3
  else if (t = 1 ∧ s = 1 ∧ d = 1) ∨ (t = -1 ∧ s = 1 ∧ d = -1) then 4
  else if (t = 0 ∧ s = 0 ∧ d = -1) ∨ (t = 2 ∧ s = 2 ∧ d = 1) ∨ (t = -2 ∧ s = 2 ∧ d = -1) then 6
  else 0
def rordZ (m : M3) : Int :=
  if eqM m (oneZ 1) = true then 1 else if eqM (wM (mulZ m m)) (oneZ 1) = true then 2 else rordC (w64 (trcZ m)) (w64 (trcZ (wM (adjZ m)))) (w64 (detZ m))
def docO (m : M3) : Int := if uniE m = 0 then rordZ m else 0
def docE (m : M3) : Int := if uniE m = 0 then (if rordZ m = 0 then 9 else 0) else uniE m
end Go.Fx
end
section
namespace Go.Fx
open Go

theorem mulB {a b : Int} (k l : Int) (h1 : -k ≤ a) (h2 : a ≤ k) (h3 : -l ≤ b) (h4 : b ≤ l) : -(k * l) ≤ a * b ∧ a * b ≤ k * l := by
  have e := Int.natAbs_mul a b
  have h5 : (a * b).natAbs ≤ k.natAbs * l.natAbs := by rw [e]; exact Nat.mul_le_mul (by omega) (by omega)
  have h6 : ((k.natAbs * l.natAbs : Nat) : Int) = k * l := by
    rw [Int.natCast_mul, show (k.natAbs : Int) = k by omega, show (l.natAbs : Int) = l by omega]
  omega
/-- All entries within k. -/
structure Bnd (k : Int) (m : M3) : Prop where
  xx : -k ≤ m.xx ∧ m.xx ≤ k
  xy : -k ≤ m.xy ∧ m.xy ≤ k
  xz : -k ≤ m.xz ∧ m.xz ≤ k
  yx : -k ≤ m.yx ∧ m.yx ≤ k
  yy : -k ≤ m.yy ∧ m.yy ≤ k
  yz : -k ≤ m.yz ∧ m.yz ≤ k
  zx : -k ≤ m.zx ∧ m.zx ≤ k
  zy : -k ≤ m.zy ∧ m.zy ≤ k
  zz : -k ≤ m.zz ∧ m.zz ≤ k
theorem dotB {a b c x y z : Int} (k l : Int) (h1 : -k ≤ a ∧ a ≤ k) (h2 : -k ≤ b ∧ b ≤ k) (h3 : -k ≤ c ∧ c ≤ k) (h4 : -l ≤ x ∧ x ≤ l) (h5 : -l ≤ y ∧ y ≤ l) (h6 : -l ≤ z ∧ z ≤ l) :
    -(3 * (k * l)) ≤ a * x + b * y + c * z ∧ a * x + b * y + c * z ≤ 3 * (k * l) := by
  have q1 := mulB k l h1.1 h1.2 h4.1 h4.2
  have q2 := mulB k l h2.1 h2.2 h5.1 h5.2
  have q3 := mulB k l h3.1 h3.2 h6.1 h6.2
  omega
theorem mulZ_B {k l : Int} {a b : M3} (ha : Bnd k a) (hb : Bnd l b) : Bnd (3 * (k * l)) (mulZ a b) :=
  ⟨dotB k l ha.xx ha.xy ha.xz hb.xx hb.yx hb.zx, dotB k l ha.xx ha.xy ha.xz hb.xy hb.yy hb.zy, dotB k l ha.xx ha.xy ha.xz hb.xz hb.yz hb.zz,
   dotB k l ha.yx ha.yy ha.yz hb.xx hb.yx hb.zx, dotB k l ha.yx ha.yy ha.yz hb.xy hb.yy hb.zy, dotB k l ha.yx ha.yy ha.yz hb.xz hb.yz hb.zz,
   dotB k l ha.zx ha.zy ha.zz hb.xx hb.yx hb.zx, dotB k l ha.zx ha.zy ha.zz hb.xy hb.yy hb.zy, dotB k l ha.zx ha.zy ha.zz hb.xz hb.yz hb.zz⟩
theorem cofB {a b c d : Int} (k : Int) (h1 : -k ≤ a ∧ a ≤ k) (h2 : -k ≤ b ∧ b ≤ k) (h3 : -k ≤ c ∧ c ≤ k) (h4 : -k ≤ d ∧ d ≤ k) : -(2 * (k * k)) ≤ a * b - c * d ∧ a * b - c * d ≤ 2 * (k * k) := by
  have q1 := mulB k k h1.1 h1.2 h2.1 h2.2
  have q2 := mulB k k h3.1 h3.2 h4.1 h4.2
  omega
theorem adjZ_B {k : Int} {m : M3} (h : Bnd k m) : Bnd (2 * (k * k)) (adjZ m) :=
  ⟨cofB k h.yy h.zz h.yz h.zy, cofB k h.zy h.xz h.zz h.xy, cofB k h.xy h.yz h.xz h.yy,
   cofB k h.yz h.zx h.yx h.zz, cofB k h.zz h.xx h.zx h.xz, cofB k h.xz h.yx h.xx h.yz,
   cofB k h.yx h.zy h.yy h.zx, cofB k h.zx h.xy h.zy h.xx, cofB k h.xx h.yy h.xy h.yx⟩
theorem detZ_B {k : Int} {m : M3} (h : Bnd k m) : -(3 * (k * (2 * (k * k)))) ≤ detZ m ∧ detZ m ≤ 3 * (k * (2 * (k * k))) :=
  dotB k (2 * (k * k)) h.xx h.xy h.xz (cofB k h.yy h.zz h.yz h.zy) (cofB k h.yz h.zx h.yx h.zz) (cofB k h.yx h.zy h.yy h.zx)
theorem wM_id {k : Int} {m : M3} (hk : k ≤ 9223372036854775807) (h : Bnd k m) : wM m = m := by
  obtain ⟨h1, h2, h3, h4, h5, h6, h7, h8, h9⟩ := h
  unfold wM
  rw [w64_id (by omega) (by omega), w64_id (by omega) (by omega), w64_id (by omega) (by omega), w64_id (by omega) (by omega), w64_id (by omega) (by omega), w64_id (by omega) (by omega), w64_id (by omega) (by omega), w64_id (by omega) (by omega), w64_id (by omega) (by omega)]
theorem okM_B {m : M3} (h : okM m = true) : Bnd 1000 m := by
  simp only [okM, inE, Bool.and_eq_true, decide_eq_true_eq] at h
  obtain ⟨⟨⟨⟨⟨⟨⟨⟨h1, h2⟩, h3⟩, h4⟩, h5⟩, h6⟩, h7⟩, h8⟩, h9⟩ := h
  exact ⟨h1, h2, h3, h4, h5, h6, h7, h8, h9⟩
theorem B_okM {k : Int} {m : M3} (hk : k ≤ 1000) (h : Bnd k m) : okM m = true := by
  obtain ⟨h1, h2, h3, h4, h5, h6, h7, h8, h9⟩ := h
  simp only [okM, inE, Bool.and_eq_true, decide_eq_true_eq]
  exact ⟨⟨⟨⟨⟨⟨⟨⟨by omega, by omega⟩, by omega⟩, by omega⟩, by omega⟩, by omega⟩, by omega⟩, by omega⟩, by omega⟩
theorem errM_ok {m : M3} : errM m = 0 ↔ okM m = true := by
  unfold errM; split <;> simp_all

/-! ### Powers -/
def linZ (a b c : Int) (m : M3) : M3 := M3.mk
  (a * (mulZ m m).xx + b * m.xx + c) (a * (mulZ m m).xy + b * m.xy) (a * (mulZ m m).xz + b * m.xz)
  (a * (mulZ m m).yx + b * m.yx) (a * (mulZ m m).yy + b * m.yy + c) (a * (mulZ m m).yz + b * m.yz)
  (a * (mulZ m m).zx + b * m.zx) (a * (mulZ m m).zy + b * m.zy) (a * (mulZ m m).zz + b * m.zz + c)
def powI (m : M3) : Nat → M3
  | 0 => oneZ 1
  | k + 1 => mulZ (powI m k) m
def sZ (m : M3) : Int := trcZ (adjZ m)
def coef (t s d : Int) : Nat → Int × Int × Int
  | 0 => (0, 0, 1)
  | k + 1 => match coef t s d k with
    | (a, b, c) => (a * t + b, c - a * s, a * d)
/-- The trace of a power. -/
def trp (t s d : Int) (k : Nat) : Int := (coef t s d k).1 * (t * t - 2 * s) + (coef t s d k).2.1 * t + 3 * (coef t s d k).2.2
theorem mulZ_one (m : M3) : mulZ (oneZ 1) m = m ∧ mulZ m (oneZ 1) = m := by
  cases m; simp [mulZ, oneZ]
theorem mulZ_assoc (a b c : M3) : mulZ (mulZ a b) c = mulZ a (mulZ b c) := by
  simp only [mulZ, M3.mk.injEq]
  refine ⟨?_, ?_, ?_, ?_, ?_, ?_, ?_, ?_, ?_⟩ <;> grind
end Go.Fx
end
section
namespace Go.Fx
open Go

/-! ### Powers modulo three primes are powers -/
theorem resP_mod (p x : Int) : resP p x % p = x % p := by
  have h1 : Int.tmod x p = x - p * Int.tdiv x p := by have := Int.tmod_add_mul_tdiv x p; omega
  unfold resP
  rw [Int.emod_emod_of_dvd _ (Int.dvd_refl p), h1, show x - p * Int.tdiv x p + p = x + p * (1 - Int.tdiv x p) by rw [Int.mul_sub]; omega, Int.add_mul_emod_self_left]
def modM (p : Int) (m : M3) : M3 := M3.mk (m.xx % p) (m.xy % p) (m.xz % p) (m.yx % p) (m.yy % p) (m.yz % p) (m.zx % p) (m.zy % p) (m.zz % p)
theorem dot_modl (a b c x y z p : Int) : ((a % p) * x + (b % p) * y + (c % p) * z) % p = (a * x + b * y + c * z) % p := by
  have h : ∀ u v : Int, (u % p) * v = u * v + p * (-(u / p) * v) := fun u v => by
    have := Int.emod_def u p
    rw [this]; grind
  rw [h, h, h, show a * x + p * (-(a / p) * x) + (b * y + p * (-(b / p) * y)) + (c * z + p * (-(c / p) * z)) = a * x + b * y + c * z + p * (-(a / p) * x + -(b / p) * y + -(c / p) * z) by grind, Int.add_mul_emod_self_left]
def bigB : Nat → Int
  | 0 => 1
  | k + 1 => 3 * (bigB k * 1000)
/-! ### Which powers are the identity -/
def isOne (m : M3) : Prop := m = oneZ 1
/-- The order that the characteristic polynomial tells. -/
def rordX (m : M3) : Int := if eqM m (oneZ 1) = true then 1 else if eqM (mulZ m m) (oneZ 1) = true then 2 else rordC (trcZ m) (sZ m) (detZ m)
/-! ### The code's order -/
theorem uniE_ok {m : M3} (h : uniE m = 0) : Bnd 1000 m ∧ w64 (detZ m) = detZ m ∧ (detZ m = 1 ∨ detZ m = -1) := by
  have he : errM m = 0 := by
    rcases errM_cases m with h4 | h4
    · exact h4
    · unfold uniE at h; rw [if_neg (by rw [h4]; decide), h4] at h; exact absurd h (by decide)
  have hB := okM_B (errM_ok.1 he)
  have hdB := detZ_B hB
  have hw : w64 (detZ m) = detZ m := w64_id (by omega) (by omega)
  unfold uniE at h
  rw [if_pos he, hw] at h
  refine ⟨hB, hw, ?_⟩
  split at h
  · assumption
  · exact absurd h (by decide)
theorem uniE_of {m : M3} (h : Bnd 1000 m) (hd : detZ m = 1 ∨ detZ m = -1) : uniE m = 0 := by
  have hdB := detZ_B h
  unfold uniE
  rw [if_pos (errM_ok.2 (B_okM (Int.le_refl _) h)), w64_id (by omega) (by omega), if_pos hd]
end Go.Fx
end
section
namespace Go.Fx
open Go

theorem adj_r (m : M3) : mulZ m (adjZ m) = oneZ (detZ m) := by
  simp only [mulZ, adjZ, oneZ, detZ, M3.mk.injEq]
  refine ⟨?_, ?_, ?_, ?_, ?_, ?_, ?_, ?_, ?_⟩ <;> grind
theorem adj_l (m : M3) : mulZ (adjZ m) m = oneZ (detZ m) := by
  simp only [mulZ, adjZ, oneZ, detZ, M3.mk.injEq]
  refine ⟨?_, ?_, ?_, ?_, ?_, ?_, ?_, ?_, ?_⟩ <;> grind
theorem sca_l (n : Int) (a b : M3) : mulZ (scaZ n a) b = scaZ n (mulZ a b) := by
  simp only [mulZ, scaZ, M3.mk.injEq]
  refine ⟨?_, ?_, ?_, ?_, ?_, ?_, ?_, ?_, ?_⟩ <;> grind
theorem sca_r (n : Int) (a b : M3) : mulZ a (scaZ n b) = scaZ n (mulZ a b) := by
  simp only [mulZ, scaZ, M3.mk.injEq]
  refine ⟨?_, ?_, ?_, ?_, ?_, ?_, ?_, ?_, ?_⟩ <;> grind
theorem sca_one (n k : Int) : scaZ n (oneZ k) = oneZ (k * n) := by
  simp [scaZ, oneZ]
def invZ (m : M3) : M3 := scaZ (detZ m) (adjZ m)
theorem unit_sq {d : Int} (h : d = 1 ∨ d = -1) : d * d = 1 := by rcases h with rfl | rfl <;> rfl
theorem inv_r {m : M3} (h : detZ m = 1 ∨ detZ m = -1) : mulZ m (invZ m) = oneZ 1 := by
  unfold invZ; rw [sca_r, adj_r, sca_one, unit_sq h]
theorem inv_l {m : M3} (h : detZ m = 1 ∨ detZ m = -1) : mulZ (invZ m) m = oneZ 1 := by
  unfold invZ; rw [sca_l, adj_l, sca_one, unit_sq h]
/-! ### Small matrices without an order -/
def goodC (t s d : Int) : Bool := !decide (rordC t s d = 0) || (decide (t = 3) && decide (s = 3) && decide (d = 1)) || (decide (t = -3) && decide (s = 3) && decide (d = -1)) || (decide (t = 1) && decide (s = -1) && decide (d = -1)) || (decide (t = -1) && decide (s = -1) && decide (d = 1))
def chk (t s d : Int) : Nat → Int → Int → Int → Bool
  | 0, _, _, _ => true
  | f + 1, p, q, r => (!(decide (p = 3) && decide (q = t) && decide (r = t * t - 2 * s)) || goodC t s d) && chk t s d f q r (t * r - s * q + d * p)
def chkS (t d : Int) : Nat → Int → Bool
  | 0, _ => true
  | f + 1, s => chk t s d 12 t (t * t - 2 * s) (t * (t * t - 2 * s) - s * t + d * 3) && chkS t d f (s + 1)
def chkT (d : Int) : Nat → Int → Bool
  | 0, _ => true
  | f + 1, t => chkS t d 109 (-54) && chkT d f (t + 1)
def spC (t s d : Int) (k : Nat) : Bool :=
  !decide (trp t s d k = 3) ||
  (!decide ((coef t s d k).1 * ((coef t s d (k + 1)).2.1 - 1) - (coef t s d (k + 1)).1 * (coef t s d k).2.1 = 0) && decide (((coef t s d k).2.2 - 1) * ((coef t s d (k + 1)).2.1 - 1) - (coef t s d (k + 1)).2.2 * (coef t s d k).2.1 = -((coef t s d k).1 * ((coef t s d (k + 1)).2.1 - 1) - (coef t s d (k + 1)).1 * (coef t s d k).2.1))) ||
  (decide ((coef t s d k).2.1 = 0) && !decide ((coef t s d k).1 = 0) && decide ((coef t s d k).2.2 - 1 = -(coef t s d k).1))
/-! ### Told from elsewhere -/
section
variable {P q M : M3} (h1 : mulZ P q = oneZ 1) (h2 : mulZ q P = oneZ 1)
include h2
end
theorem errM_B {k : Int} {m : M3} (hk : k ≤ 1000) (h : Bnd k m) : errM m = 0 := errM_ok.2 (B_okM hk h)
theorem sca_B {k : Int} {m : M3} (h : Bnd k m) {d : Int} (hd : d = 1 ∨ d = -1) : Bnd k (scaZ d m) := by
  obtain ⟨⟨a1, b1⟩, ⟨a2, b2⟩, ⟨a3, b3⟩, ⟨a4, b4⟩, ⟨a5, b5⟩, ⟨a6, b6⟩, ⟨a7, b7⟩, ⟨a8, b8⟩, ⟨a9, b9⟩⟩ := h
  rcases hd with rfl | rfl <;> (refine ⟨?_, ?_, ?_, ?_, ?_, ?_, ?_, ?_, ?_⟩ <;> (simp only [scaZ]; constructor <;> omega))
def VpTail (M P : M3) (n e : Int) : Prop := (True ∧
  ∀ z20 : M3,
  (z20 = selM (uniE P) (wM (scaZ (detZ P) (adjZ P))) →
  ∀ z22 : Int,
  (z22 = uniE P →
  (((!(decide (z22 = 0))) = true →
   (true, ()) = (true, ())) ∧
  ((!(decide (z22 = 0))) = false →
  (True ∧
  ∀ z25 : M3,
  (z25 = selM (err2 (errM P) (errM M)) (wM (mulZ P M)) →
  ∀ z27 : Int,
  (z27 = err2 (errM P) (errM M) →
  (True ∧
  ∀ z29 : M3,
  (z29 = selM (err2 (errM z25) (errM z20)) (wM (mulZ z25 z20)) →
  ∀ z31 : Int,
  (z31 = err2 (errM z25) (errM z20) →
  (((!(decide (z31 = 0))) = true →
   (true, ()) = (true, ())) ∧
  ((!(decide (z31 = 0))) = false →
  (True ∧
  ∀ z34 : Int,
  (z34 = errM z29 →
  (((!(decide (z34 = 0))) = true →
   (true, ()) = (true, ())) ∧
  ((!(decide (z34 = 0))) = false →
  (True ∧
  ∀ z37 : Int,
  (z37 = ordZ z29 →
  ∀ z39 : Int,
  (z39 = ordE z29 →
  (((decide (z37 = n)) = true →
   ((decide (z39 = e)), ()) = (true, ())) ∧
  ((decide (z37 = n)) = false →
  (false, ()) = (true, ())))))))))))))))))))))))
def VpEnd (M P : M3) (n e : Int) : Prop := (((!(decide (e = 0))) = true →
 (((!(decide (e = 9))) = true →
  (false, ()) = (true, ())) ∧
 ((!(decide (e = 9))) = false →
 (((decide (e = 0)) = true →
  (((decide (n < 1)) = true →
   (false, ()) = (true, ())) ∧
  ((decide (n < 1)) = false →
  (((decide (6 < n)) = true →
   (false, ()) = (true, ())) ∧
  ((decide (6 < n)) = false →
  (((decide (n = 5)) = true →
   (false, ()) = (true, ())) ∧
  ((decide (n = 5)) = false →
  (True ∧
  ∀ z20 : M3,
  (z20 = selM (uniE P) (wM (scaZ (detZ P) (adjZ P))) →
  ∀ z22 : Int,
  (z22 = uniE P →
  (((!(decide (z22 = 0))) = true →
   (true, ()) = (true, ())) ∧
  ((!(decide (z22 = 0))) = false →
  (True ∧
  ∀ z25 : M3,
  (z25 = selM (err2 (errM P) (errM M)) (wM (mulZ P M)) →
  ∀ z27 : Int,
  (z27 = err2 (errM P) (errM M) →
  (True ∧
  ∀ z29 : M3,
  (z29 = selM (err2 (errM z25) (errM z20)) (wM (mulZ z25 z20)) →
  ∀ z31 : Int,
  (z31 = err2 (errM z25) (errM z20) →
  (((!(decide (z31 = 0))) = true →
   (true, ()) = (true, ())) ∧
  ((!(decide (z31 = 0))) = false →
  (True ∧
  ∀ z34 : Int,
  (z34 = errM z29 →
  (((!(decide (z34 = 0))) = true →
   (true, ()) = (true, ())) ∧
  ((!(decide (z34 = 0))) = false →
  (True ∧
  ∀ z37 : Int,
  (z37 = ordZ z29 →
  ∀ z39 : Int,
  (z39 = ordE z29 →
  (((decide (z37 = n)) = true →
   ((decide (z39 = e)), ()) = (true, ())) ∧
  ((decide (z37 = n)) = false →
  (false, ()) = (true, ())))))))))))))))))))))))))))))) ∧
 ((decide (e = 0)) = false →
 (True ∧
 ∀ z17 : M3,
 (z17 = selM (uniE P) (wM (scaZ (detZ P) (adjZ P))) →
 ∀ z19 : Int,
 (z19 = uniE P →
 (((!(decide (z19 = 0))) = true →
  (true, ()) = (true, ())) ∧
 ((!(decide (z19 = 0))) = false →
 (True ∧
 ∀ z22 : M3,
 (z22 = selM (err2 (errM P) (errM M)) (wM (mulZ P M)) →
 ∀ z24 : Int,
 (z24 = err2 (errM P) (errM M) →
 (True ∧
 ∀ z26 : M3,
 (z26 = selM (err2 (errM z22) (errM z17)) (wM (mulZ z22 z17)) →
 ∀ z28 : Int,
 (z28 = err2 (errM z22) (errM z17) →
 (((!(decide (z28 = 0))) = true →
  (true, ()) = (true, ())) ∧
 ((!(decide (z28 = 0))) = false →
 (True ∧
 ∀ z31 : Int,
 (z31 = errM z26 →
 (((!(decide (z31 = 0))) = true →
  (true, ()) = (true, ())) ∧
 ((!(decide (z31 = 0))) = false →
 (True ∧
 ∀ z34 : Int,
 (z34 = ordZ z26 →
 ∀ z36 : Int,
 (z36 = ordE z26 →
 (((decide (z34 = n)) = true →
  ((decide (z36 = e)), ()) = (true, ())) ∧
 ((decide (z34 = n)) = false →
 (false, ()) = (true, ())))))))))))))))))))))))))))) ∧
((!(decide (e = 0))) = false →
(((decide (e = 0)) = true →
 (((decide (n < 1)) = true →
  (false, ()) = (true, ())) ∧
 ((decide (n < 1)) = false →
 (((decide (6 < n)) = true →
  (false, ()) = (true, ())) ∧
 ((decide (6 < n)) = false →
 (((decide (n = 5)) = true →
  (false, ()) = (true, ())) ∧
 ((decide (n = 5)) = false →
 (True ∧
 ∀ z19 : M3,
 (z19 = selM (uniE P) (wM (scaZ (detZ P) (adjZ P))) →
 ∀ z21 : Int,
 (z21 = uniE P →
 (((!(decide (z21 = 0))) = true →
  (true, ()) = (true, ())) ∧
 ((!(decide (z21 = 0))) = false →
 (True ∧
 ∀ z24 : M3,
 (z24 = selM (err2 (errM P) (errM M)) (wM (mulZ P M)) →
 ∀ z26 : Int,
 (z26 = err2 (errM P) (errM M) →
 (True ∧
 ∀ z28 : M3,
 (z28 = selM (err2 (errM z24) (errM z19)) (wM (mulZ z24 z19)) →
 ∀ z30 : Int,
 (z30 = err2 (errM z24) (errM z19) →
 (((!(decide (z30 = 0))) = true →
  (true, ()) = (true, ())) ∧
 ((!(decide (z30 = 0))) = false →
 (True ∧
 ∀ z33 : Int,
 (z33 = errM z28 →
 (((!(decide (z33 = 0))) = true →
  (true, ()) = (true, ())) ∧
 ((!(decide (z33 = 0))) = false →
 (True ∧
 ∀ z36 : Int,
 (z36 = ordZ z28 →
 ∀ z38 : Int,
 (z38 = ordE z28 →
 (((decide (z36 = n)) = true →
  ((decide (z38 = e)), ()) = (true, ())) ∧
 ((decide (z36 = n)) = false →
 (false, ()) = (true, ())))))))))))))))))))))))))))))) ∧
((decide (e = 0)) = false →
(True ∧
∀ z16 : M3,
(z16 = selM (uniE P) (wM (scaZ (detZ P) (adjZ P))) →
∀ z18 : Int,
(z18 = uniE P →
(((!(decide (z18 = 0))) = true →
 (true, ()) = (true, ())) ∧
((!(decide (z18 = 0))) = false →
(True ∧
∀ z21 : M3,
(z21 = selM (err2 (errM P) (errM M)) (wM (mulZ P M)) →
∀ z23 : Int,
(z23 = err2 (errM P) (errM M) →
(True ∧
∀ z25 : M3,
(z25 = selM (err2 (errM z21) (errM z16)) (wM (mulZ z21 z16)) →
∀ z27 : Int,
(z27 = err2 (errM z21) (errM z16) →
(((!(decide (z27 = 0))) = true →
 (true, ()) = (true, ())) ∧
((!(decide (z27 = 0))) = false →
(True ∧
∀ z30 : Int,
(z30 = errM z25 →
(((!(decide (z30 = 0))) = true →
 (true, ()) = (true, ())) ∧
((!(decide (z30 = 0))) = false →
(True ∧
∀ z33 : Int,
(z33 = ordZ z25 →
∀ z35 : Int,
(z35 = ordE z25 →
(((decide (z33 = n)) = true →
 ((decide (z35 = e)), ()) = (true, ())) ∧
((decide (z33 = n)) = false →
(false, ()) = (true, ())))))))))))))))))))))))))))
def vpInv (m : M3) (_ _ k : Int) (a : M3) : Prop := 1 ≤ k ∧ k ≤ 13 ∧ a = powI m (k - 1).toNat

/-! ### Adjoints -/
theorem det_sca_adj {m : M3} (h : detZ m = 1 ∨ detZ m = -1) : detZ (invZ m) = detZ m := by
  have e1 : ∀ (n : Int) (a : M3), detZ (scaZ n a) = n * n * n * detZ a := fun n a => by simp only [detZ, scaZ]; grind
  have e2 : detZ (adjZ m) = detZ m * detZ m := by simp only [detZ, adjZ]; grind
  unfold invZ
  rw [e1, e2]
  rcases h with h | h <;> rw [h] <;> decide
end Go.Fx
end
