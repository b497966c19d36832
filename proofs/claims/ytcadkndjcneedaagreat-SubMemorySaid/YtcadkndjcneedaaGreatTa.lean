/-
  Seeds in Lean: the maps out of bytes.
-/
import Derived.Test.YtcadkndjcneedaaGreatGm
set_option linter.unusedSimpArgs false
set_option linter.unusedVariables false
set_option linter.unusedSectionVars false
namespace Go.Fx
open Go
def sgnN (n : Int) (a b c : Int) : M3 :=
  if n = 0 then M3.mk a 0 0 0 b 0 0 0 c else if n = 1 then M3.mk a 0 0 0 0 b 0 c 0 else if n = 2 then M3.mk 0 a 0 b 0 0 0 0 c
  else if n = 3 then M3.mk 0 a 0 0 0 b c 0 0 else if n = 4 then M3.mk 0 0 a b 0 0 0 c 0 else M3.mk 0 0 a 0 b 0 c 0 0
def sgnB (n : Int) : Int := if n = 1 then -1 else 1
def sgnM (k : Int) : M3 := sgnN ((k % 48) / 8) (sgnB ((k % 48) / 1 % 2)) (sgnB ((k % 48) / 2 % 2)) (sgnB ((k % 48) / 4 % 2))
def rotN : Nat → M3
  | 0 => M3.mk 1 0 0 0 1 0 0 0 1
  | n + 1 => wM (mulZ (rotN n) (M3.mk 1 (-1) 0 1 0 0 0 0 1))
def sixM (k : Int) : M3 :=
  let m := rotN (k % 6).toNat
  let m := if (k / 6) % 2 = 1 then wM (mulZ m (M3.mk 0 1 0 1 0 0 0 0 (-1))) else m
  if (k / 12) % 2 = 1 then wM (mulZ m (M3.mk (-1) 0 0 0 (-1) 0 0 0 (-1))) else m
def stpI (k : Int) : Int := if k % 6 = 0 then 12 else if k % 6 = 1 then 12 else if k % 6 = 2 then 8 else if k % 6 = 3 then 6 else if k % 6 = 4 then 4 else 1
def sdM (s : Sd) (m : M3) : Prop := m = if s.Hex = true then sixM s.K else sgnM s.K
def sdI (s : Sd) (t : V3) (i : Int) : Prop := (0 ≤ i → t.x = (s.t0 * stpI s.Step) % 24) ∧ (1 ≤ i → t.y = (s.t1 * stpI s.Step) % 24) ∧ (2 ≤ i → t.z = (s.t2 * stpI s.Step) % 24)
def sedO (s : Sd) : Op3 := Op3.mk (if s.Hex = true then sixM s.K else sgnM s.K) (V3.mk ((s.t0 * stpI s.Step) % 24) ((s.t1 * stpI s.Step) % 24) ((s.t2 * stpI s.Step) % 24))
def sedL (l : List Sd) : List Op3 := (l.take 3).map fun s => sedO (Sd.mk (l.getD 0 (Sd.mk false 0 0 0 0 0)).Hex s.K s.t0 s.t1 s.t2 s.Step)
def parI (k : Int) : Int := if k % 4 = 0 then 24 else if k % 4 = 1 then 48 else if k % 4 = 2 then 96 else 192
end Go.Fx
