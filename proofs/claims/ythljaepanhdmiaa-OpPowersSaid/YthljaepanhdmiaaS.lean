/-
  Layer 1 in Lean: what each function of the code gives.
-/
import Derived.Test.YthljaepanhdmiaaE18
namespace Go.Fx
open Go

def inE (k x : Int) : Bool := decide (-k ≤ x) && decide (x ≤ k)
def okM (m : M3) : Bool := inE 1000 m.xx && inE 1000 m.xy && inE 1000 m.xz && inE 1000 m.yx && inE 1000 m.yy && inE 1000 m.yz && inE 1000 m.zx && inE 1000 m.zy && inE 1000 m.zz
def okC (v : V3) : Bool := inE 2147483648 v.x && inE 2147483648 v.y && inE 2147483648 v.z
def bey (x k : Int) : Bool := decide (x < w64 (-k)) || decide (k < x)
def errM (m : M3) : Int := if okM m = true then 0 else 4
def errV (v : V3) : Int := if okC v = true then 0 else 4
def err2 (a b : Int) : Int := if a = 0 then b else a
def selM (e : Int) (m : M3) : M3 := if e = 0 then m else M3.mk 0 0 0 0 0 0 0 0 0
def selV (e : Int) (m : V3) : V3 := if e = 0 then m else V3.mk 0 0 0
def selI (e : Int) (m : Int) : Int := if e = 0 then m else 0
def wM (m : M3) : M3 := M3.mk (w64 m.xx) (w64 m.xy) (w64 m.xz) (w64 m.yx) (w64 m.yy) (w64 m.yz) (w64 m.zx) (w64 m.zy) (w64 m.zz)
def wV (v : V3) : V3 := V3.mk (w64 v.x) (w64 v.y) (w64 v.z)
def mulZ (a b : M3) : M3 := M3.mk
  (a.xx * b.xx + a.xy * b.yx + a.xz * b.zx) (a.xx * b.xy + a.xy * b.yy + a.xz * b.zy) (a.xx * b.xz + a.xy * b.yz + a.xz * b.zz)
  (a.yx * b.xx + a.yy * b.yx + a.yz * b.zx) (a.yx * b.xy + a.yy * b.yy + a.yz * b.zy) (a.yx * b.xz + a.yy * b.yz + a.yz * b.zz)
  (a.zx * b.xx + a.zy * b.yx + a.zz * b.zx) (a.zx * b.xy + a.zy * b.yy + a.zz * b.zy) (a.zx * b.xz + a.zy * b.yz + a.zz * b.zz)
def appZ (m : M3) (v : V3) : V3 := V3.mk (m.xx * v.x + m.xy * v.y + m.xz * v.z) (m.yx * v.x + m.yy * v.y + m.yz * v.z) (m.zx * v.x + m.zy * v.y + m.zz * v.z)
def traZ (m : M3) : M3 := M3.mk m.xx m.yx m.zx m.xy m.yy m.zy m.xz m.yz m.zz
def cofZ (a b c d : Int) : Int := a * b - c * d
def detZ (m : M3) : Int := m.xx * (m.yy * m.zz - m.yz * m.zy) + m.xy * (m.yz * m.zx - m.yx * m.zz) + m.xz * (m.yx * m.zy - m.yy * m.zx)
def trcZ (m : M3) : Int := m.xx + m.yy + m.zz
def adjZ (m : M3) : M3 := M3.mk
  (m.yy * m.zz - m.yz * m.zy) (m.zy * m.xz - m.zz * m.xy) (m.xy * m.yz - m.xz * m.yy)
  (m.yz * m.zx - m.yx * m.zz) (m.zz * m.xx - m.zx * m.xz) (m.xz * m.yx - m.xx * m.yz)
  (m.yx * m.zy - m.yy * m.zx) (m.zx * m.xy - m.zy * m.xx) (m.xx * m.yy - m.xy * m.yx)
def oneZ (n : Int) : M3 := M3.mk n 0 0 0 n 0 0 0 n
def uniE (m : M3) : Int := if errM m = 0 then (if w64 (detZ m) = 1 ∨ w64 (detZ m) = -1 then 0 else 3) else errM m
def cmpE (x y k : Int) : Int := if x < y then -1 else if y < x then 1 else k
def cmpM (a b : M3) : Int := cmpE a.xx b.xx (cmpE a.xy b.xy (cmpE a.xz b.xz (cmpE a.yx b.yx (cmpE a.yy b.yy (cmpE a.yz b.yz (cmpE a.zx b.zx (cmpE a.zy b.zy (cmpE a.zz b.zz 0))))))))
theorem errM_cases (m : M3) : errM m = 0 ∨ errM m = 4 := by
  unfold errM; split
  · exact .inl rfl
  · exact .inr rfl
theorem errV_cases (m : V3) : errV m = 0 ∨ errV m = 4 := by
  unfold errV; split
  · exact .inl rfl
  · exact .inr rfl
theorem errM_traZ (m : M3) : errM (traZ m) = errM m := by
  unfold errM
  have : okM (traZ m) = okM m := by
    simp only [okM, traZ]
    rw [Bool.eq_iff_iff]
    simp only [Bool.and_eq_true]
    constructor <;> intro h <;> simp_all
  rw [this]
/-! ### Powers modulo a prime -/
def resP (p x : Int) : Int := (Int.tmod x p + p) % p
def dotP (p a b c x y z : Int) : Int := Int.tmod (Int.tmod (Int.tmod (a * resP p x) p + b * resP p y) p + c * resP p z) p
def stepP (p : Int) (m c : M3) : M3 := M3.mk
  (dotP p c.xx c.xy c.xz m.xx m.yx m.zx) (dotP p c.xx c.xy c.xz m.xy m.yy m.zy) (dotP p c.xx c.xy c.xz m.xz m.yz m.zz)
  (dotP p c.yx c.yy c.yz m.xx m.yx m.zx) (dotP p c.yx c.yy c.yz m.xy m.yy m.zy) (dotP p c.yx c.yy c.yz m.xz m.yz m.zz)
  (dotP p c.zx c.zy c.zz m.xx m.yx m.zx) (dotP p c.zx c.zy c.zz m.xy m.yy m.zy) (dotP p c.zx c.zy c.zz m.xz m.yz m.zz)
def powP (p : Int) (m : M3) : Nat → M3
  | 0 => oneZ 1
  | k + 1 => stepP p m (powP p m k)
def eqM (a b : M3) : Bool := decide (a.xx = b.xx) && (decide (a.xy = b.xy) && (decide (a.xz = b.xz) && (decide (a.yx = b.yx) && (decide (a.yy = b.yy) && (decide (a.yz = b.yz) && (decide (a.zx = b.zx) && (decide (a.zy = b.zy) && (decide (a.zz = b.zz) && true))))))))
def powZ (m : M3) (n : Int) : Bool := eqM (powP 2147483647 m n.toNat) (oneZ 1) && (eqM (powP 2147483629 m n.toNat) (oneZ 1) && eqM (powP 2147483587 m n.toNat) (oneZ 1))
def pInv (n p : Int) (m : M3) (i : Int) (c : M3) : Prop := 0 ≤ i ∧ (i ≤ n ∨ i = 0) ∧ c = powP p m i.toNat
def pMu (n i : Int) : Int := n - i
end Go.Fx
