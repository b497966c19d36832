/-
  Kinds by traces, as the document has them.
-/
import Derived.Test.YthljaepanhdmiaaZ
namespace Go.Fx
open Go

def negM (m : M3) : M3 := M3.mk (w64 (0 - m.xx)) (w64 (0 - m.xy)) (w64 (0 - m.xz)) (w64 (0 - m.yx)) (w64 (0 - m.yy)) (w64 (0 - m.yz)) (w64 (0 - m.zx)) (w64 (0 - m.zy)) (w64 (0 - m.zz))
def rotC (t : Int) (b c : Bool) : Int := if t = 3 then (if b = true then 1 else 0) else if t = -1 then (if c = true then 2 else 0) else if t = 0 then 3 else if t = 1 then 4 else if t = 2 then 6 else 0
def rotZ (m : M3) : Int := if w64 (trcZ m) = w64 (trcZ (wM (invZ m))) then rotC (w64 (trcZ m)) (eqM m (oneZ 1)) (eqM (wM (mulZ m m)) (oneZ 1)) else 0
def rkiZ (m : M3) : Int := if w64 (detZ m) = 1 then rotZ m else w64 (0 - rotZ (negM m))
def oofZ (k : Int) : Int := if 0 < k then k else if Int.tmod k 2 = 0 then w64 (0 - k) else w64 (-2 * k)
def gcdI (a b : Int) : Int := (Int.gcd a b : Int)
def nneg2 (a b : Int) : Prop := 0 ≤ a ∧ 0 ≤ b
def gcInv (a0 b0 a b : Int) : Prop := 0 ≤ a ∧ 0 ≤ b ∧ Int.gcd a b = Int.gcd a0 b0
def frmO (o : Op3) : Prop := errO o = 0
def appPre (o : Op3) (p : Pt) : Prop := errO o = 0 ∧ frmP p = true
def inTp (t : V3) : Prop := inT t = true
def mulPre (a b : Op3) : Prop := errM a.R = 0 ∧ errM b.R = 0 ∧ inT a.T = true ∧ inT b.T = true
def droR (o : Op3) : Int × Int :=
  if errO o = 0 then (if oofZ (rkiZ o.R) = 0 then (0, 9) else (w64 (oofZ (rkiZ o.R) * (24 / gcdI (gcdI (gcdI 24 (sumT o (oofZ (rkiZ o.R)).toNat).x) (sumT o (oofZ (rkiZ o.R)).toNat).y) (sumT o (oofZ (rkiZ o.R)).toNat).z)), 0)) else (0, errO o)
def droZ (o : Op3) : Int := (droR o).1
def droE (o : Op3) : Int := (droR o).2
def dkiE (o : Op3) : Int := if errO o = 0 then (if rkiZ o.R = 0 then 9 else 0) else errO o
def dkiZ (o : Op3) : Int := if errO o = 0 then rkiZ o.R else 0
def chInv (l : List Op3) (i w : Int) : Prop := 0 ≤ i ∧ i ≤ (l.length : Int) ∧ (∀ o ∈ l.take i.toNat, errO o ≠ 3) ∧ w = errL (l.take i.toNat)
def subMu (n k : Int) : Int := n - k
def opMu (l : List Op3) (k : Int) : Int := (l.length : Int) - k
end Go.Fx
