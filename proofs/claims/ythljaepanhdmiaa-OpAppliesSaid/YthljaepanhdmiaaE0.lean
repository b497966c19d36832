/-
  The engine, part 0: the operations on numbers, each under a name of its own (a printing twin of this file leaves them open).
-/
import Derived.WalkKit
namespace Go.Fx
open Go
def iadd (a b : Int) : Int := a + b
def isub (a b : Int) : Int := a - b
def imul (a b : Int) : Int := a * b
def idiv (a b : Int) : Int := a / b
def imod (a b : Int) : Int := a % b
def itdiv (a b : Int) : Int := a.tdiv b
def itmod (a b : Int) : Int := a.tmod b
def iwrap (k : IntKind) (a : Int) : Int := k.wrap a
def blt (a b : Int) : Bool := decide (a < b)
def ble (a b : Int) : Bool := decide (a ≤ b)
def beq (a b : Int) : Bool := decide (a = b)
def bnot (a : Bool) : Bool := !a
def band (a b : Bool) : Bool := a && b
def beqb (a b : Bool) : Bool := a == b
def bsel (c a b : Bool) : Bool := if c = true then a else b
def lenI {α : Type} (l : List α) : Int := (l.length : Int)
def nthD {α : Type} (l : List α) (i : Int) (d : α) : α := l.getD i.toNat d
def inB {α : Type} (l : List α) (i : Int) : Prop := 0 ≤ i ∧ i < (l.length : Int)
/-- Maps, as their entries in the order in which they came. -/
def mfind {α : Type} (eq : α → α → Bool) : List (α × Int) → α → Option Int
  | [], _ => none
  | p :: r, k => if eq p.1 k = true then some p.2 else mfind eq r k
def mgetD {α : Type} (eq : α → α → Bool) (m : List (α × Int)) (k : α) : Int := (mfind eq m k).getD 0
def mhas {α : Type} (eq : α → α → Bool) (m : List (α × Int)) (k : α) : Bool := (mfind eq m k).isSome
def mset {α : Type} (eq : α → α → Bool) : List (α × Int) → α → Int → List (α × Int)
  | [], k, v => [(k, v)]
  | p :: r, k, v => if eq p.1 k = true then (k, v) :: r else p :: mset eq r k v
def zmax (a b : Int) : Int := if b > a then b else a
def zmin (a b : Int) : Int := if b < a then b else a
def nez (a : Int) : Prop := a ≠ 0
end Go.Fx
