/-
  The engine, part 2: what one operation gives, and the executor.
-/
import Derived.Test.YthljaepanhdmiaaE1
namespace Go.Fx
noncomputable section
open Go

/-! ### Contracts of calls -/
inductive Sh where
  | int (k : IntKind)
  | bool
  | agg (f : Fl)
  | list (f : Fl)
  | lit (k : IntKind) (z : Int)
def Sh.ty : Sh → Type
  | .int _ => Int
  | .bool => Bool
  | .agg f => f.ty
  | .list f => List f.ty
  | .lit _ _ => Unit
def HL : List Sh → Type
  | [] => Unit
  | s :: r => s.ty × HL r
structure Contract where
  args : List Sh
  res : List Sh
  pre : HL args → Prop
  F : HL args → HL res
  opq : Bool := false
/-- The same, its results under names of their own. -/
def Contract.hid (C : Contract) : Contract := { args := C.args, res := C.res, pre := C.pre, F := C.F, opq := true }
/-- Results under names. -/
def opqAll : (l : List Sh) → HL l → (HL l → Prop) → Prop
  | [], _, P => P ()
  | s :: r, x, P => match s, x, P with
    | .int _, x, P => ∀ z : Int, z = x.1 → opqAll r x.2 fun y => P (z, y)
    | .bool, x, P => ∀ z : Bool, z = x.1 → opqAll r x.2 fun y => P (z, y)
    | .agg f, x, P => ∀ z : f.ty, z = x.1 → opqAll r x.2 fun y => P (z, y)
    | .list f, x, P => ∀ z : List f.ty, z = x.1 → opqAll r x.2 fun y => P (z, y)
    | .lit _ _, x, P => opqAll r x.2 fun y => P ((), y)
theorem opqAll_self : ∀ (l : List Sh) (x : HL l) (P : HL l → Prop), opqAll l x P → P x
  | [], _, _, h => h
  | s :: r, x, P, h => by
    cases s with
    | int k => exact opqAll_self r x.2 (fun y => P (x.1, y)) (h x.1 rfl)
    | bool => exact opqAll_self r x.2 (fun y => P (x.1, y)) (h x.1 rfl)
    | agg f => exact opqAll_self r x.2 (fun y => P (x.1, y)) (h x.1 rfl)
    | list f => exact opqAll_self r x.2 (fun y => P (x.1, y)) (h x.1 rfl)
    | lit k z => exact opqAll_self r x.2 (fun y => P ((), y)) h
def agcOf : List SC → Nat → Nat → Nat → Option (List (List SC))
  | _, _, _, 0 => some []
  | cs, off, n, m + 1 => match agcOf cs (off + n) n m with
    | some l => some ((cs.drop off).take n :: l)
    | none => none
def ofSCs (f : Fl) : List (List SC) → Option (List f.ty)
  | [] => some []
  | x :: r => match f.ofSC x, ofSCs f r with
    | some y, some l => some (y :: l)
    | _, _ => none
def feq (a b : Fl) : Bool := Nat.beq a.ctorIdx b.ctorIdx
theorem feq_eq {a b : Fl} (h : feq a b = true) : a = b := by
  cases a <;> cases b <;> first | rfl | cases h
/-- What a list that is handed on holds. -/
def St.listOf (S : St) (f : Fl) : SV → Option (List f.ty)
  | .w (.c .nilsl) => some []
  | .w (.c (.csl b off len cap)) => match S.res b with
    | some (.box bx) => match Nat.ble (off + len * f.ks.length) bx.cells.length && Nat.ble len cap && Nat.ble (len * f.bytes) 140737488351232 with
      | true => match agcOf bx.cells off f.ks.length len with
        | some l => ofSCs f l
        | none => none
      | false => none
    | _ => none
  | .w (.c (.sl j)) => match S.res j with
    | some (.list L) => match h : feq L.f f with
      | true => some ((feq_eq h) ▸ L.l)
      | false => none
    | _ => none
  | _ => none
def decI (k : IntKind) : SV → Option Int
  | .w (.c (.int k' i)) => match keq k k' && ile (kmin k) i.lo && ile i.hi (kmax k) with
    | true => some i.v
    | false => none
  | _ => none
def decB : SV → Option Bool
  | .w (.c (.bool b _)) => some b
  | _ => none
def decL (k : IntKind) (z : Int) : SV → Option Unit
  | .w (.c (.int k' i)) => match keq k k', i.lit? with
    | true, some x => match ile z x && ile x z && ile (kmin k) z && ile z (kmax k) with
      | true => some ()
      | false => none
    | _, _ => none
  | _ => none
def decA (f : Fl) : SV → Option f.ty
  | .w (.agg cs) => f.ofSC cs
  | _ => none
def Sh.dec (S : St) : (s : Sh) → SV → Option s.ty
  | .int k, v => decI k v
  | .bool, v => decB v
  | .agg f, v => decA f v
  | .list f, v => S.listOf f v
  | .lit k z, v => decL k z v
def decArgs (S : St) : (l : List Sh) → List SV → Option (HL l)
  | [], [] => some ()
  | s :: r, v :: vs => match s.dec S v, decArgs S r vs with
    | some x, some y => some (x, y)
    | _, _ => none
  | _, _ => none
/-- The results as values, and what they bring with them, numbered from n on. -/
def Sh.put (n : Nat) : (s : Sh) → s.ty → SW × List Res
  | .int k, z => (.c (.int k ⟨z, kmin k, kmax k⟩), [])
  | .bool, b => (.c (.bool b none), [])
  | .agg f, x => (.agg (f.sw x), [])
  | .list f, l => (.c (.sl n), [.list ⟨f, l, true⟩])
  | .lit k z, _ => (.c (.int k (.lit z)), [])
def putAll : (l : List Sh) → HL l → Nat → List SW × List Res
  | [], _, _ => ([], [])
  | s :: r, x, n =>
    match s.put n x.1 with
    | (v, new) => match putAll r x.2 (n + new.length) with
      | (vs, news) => (v :: vs, new ++ news)
def oneOrTup : List SW → SV
  | [v] => .w v
  | vs => .tup vs

/-! ### Types -/
/-- A place in a state: a slot, or the whole box that a slot points to. -/
inductive Place where
  | tmp (t : Nat)
  | cell (t : Nat)
def shs : List (Place × Sh) → List Sh
  | [] => []
  | p :: r => p.2 :: shs r
/-- A loop's invariant: what it looks at and never turns, what it turns, what holds of both, and what falls. -/
structure LoopSpec where
  fix : List (Place × Sh)
  vars : List (Place × Sh)
  inv : HL (shs fix) → HL (shs vars) → Prop
  mu : HL (shs fix) → HL (shs vars) → Int
structure Env where
  P : Program
  fns : List (FuncId × Func)
  con : List (FuncId × Contract)
  keys : List (TypeId × Fl)
  loops : List (FuncId × Nat × LoopSpec)
def Env.size (E : Env) (t : TypeId) : Option Nat := (E.P.info? t).map (·.size)
def Env.isAgg (E : Env) (t : TypeId) : Option Bool := match E.P.underlying t with
  | some (.struct _) | some (.array _ _) => some true
  | some _ => some false
  | none => none
def Env.zero (E : Env) (t : TypeId) : Option SW := match E.P.info? t with
  | some i => match i.zero with
    | some v => ofValue v
    | none => none
  | none => none

/-! ### One operation that only reads and makes -/
inductive OpR where
  | fail (n : Nat)
  | val (side : Option Prop) (v : SV)
  | new (cells : List SC) (ty : TypeId) (sl : Option Nat)
def okV (v : SC) : OpR := .val none (.w (.c v))
/-- The opposite: a literal where it is known. -/
def bnotT (b : Bool) : Option Bool → Bool
  | some true => false
  | some false => true
  | none => bnot b
def okB (b : Bool) (t : Option Bool) : OpR := okV (.bool b t)
def cmpI : BinOp → SI → SI → OpR
  | .lss, a, b => match ile (a.hi + 1) b.lo, ile b.hi a.lo with
    | true, _ => okB true (some true)
    | _, true => okB false (some false)
    | _, _ => okB (blt a.v b.v) none
  | .leq, a, b => match ile a.hi b.lo, ile (b.hi + 1) a.lo with
    | true, _ => okB true (some true)
    | _, true => okB false (some false)
    | _, _ => okB (ble a.v b.v) none
  | .gtr, a, b => match ile (b.hi + 1) a.lo, ile a.hi b.lo with
    | true, _ => okB true (some true)
    | _, true => okB false (some false)
    | _, _ => okB (blt b.v a.v) none
  | .geq, a, b => match ile b.hi a.lo, ile (a.hi + 1) b.lo with
    | true, _ => okB true (some true)
    | _, true => okB false (some false)
    | _, _ => okB (ble b.v a.v) none
  | .eql, a, b => match (ile (a.hi + 1) b.lo || ile (b.hi + 1) a.lo), a.lit?, b.lit? with
    | true, _, _ => okB false (some false)
    | _, some _, some _ => okB true (some true)
    | _, _, _ => okB (beq a.v b.v) none
  | .neq, a, b => match (ile (a.hi + 1) b.lo || ile (b.hi + 1) a.lo), a.lit?, b.lit? with
    | true, _, _ => okB true (some true)
    | _, some _, some _ => okB false (some false)
    | _, _, _ => okB (bnot (beq a.v b.v)) none
  | _, _, _ => .fail 1
def tagF : Option Bool → Option Bool
  | some false => some false
  | _ => none
/-- Two rows of cells, one by one: are they alike? (the Bool; what is known of it) -/
def eqCells : List SC → List SC → Option (Bool × Option Bool)
  | [], [] => some (true, some true)
  | .int k a :: r, .int k' b :: s => match keq k k', eqCells r s with
    | true, some (x, t) => match (ile (a.hi + 1) b.lo || ile (b.hi + 1) a.lo), a.lit?, b.lit? with
      | true, _, _ => some (false, some false)
      | _, some _, some _ => some (x, t)
      | _, _, _ => some (band (beq a.v b.v) x, tagF t)
    | _, _ => none
  | _, _ => none
/-- How many cells a nest of structs and arrays of integers has; none: it is none, or its parts don't lie one behind the other. -/
def fieldsLen (P : Program) (len : TypeId → Option Nat) : Nat → List Field → Option Nat
  | off, [] => some off
  | off, f :: r => match len f.type, P.info? f.type with
    | some m, some i => match (f.name != "_") && Nat.beq f.offset off && Nat.beq i.size m with
      | true => fieldsLen P len (off + m) r
      | false => none
    | _, _ => none
def flatLen (P : Program) : Nat → TypeId → Option Nat
  | 0, _ => none
  | n + 1, t => match P.underlying t with
    | some (.int _) => some 1
    | some (.array len e) => match flatLen P n e, P.info? e with
      | some m, some i => match Nat.beq i.size m with
        | true => some (len * m)
        | false => none
      | _, _ => none
    | some (.struct fs) => match P.stoodInHeld t with
      | false => fieldsLen P (flatLen P n) 0 fs.toList
      | true => none
    | _ => none
def notInt (P : Program) (t : TypeId) : Bool := match P.underlying t with
  | some (.int _) => false
  | _ => true
def eqOk (P : Program) (t : TypeId) (m : Nat) : Bool := match flatLen P 8 t with
  | some n => Nat.beq n m && notInt P t && !(P.eqGuardType P.depth t)
  | none => false
def sameB : Bool → Bool → Bool
  | true, true => true
  | false, false => true
  | _, _ => false
def tagE : Option Bool → Option Bool → Option Bool
  | some x, some y => some (sameB x y)
  | _, _ => none
def beqT (a b : Bool) : Option Bool → Option Bool → Bool
  | some x, some y => sameB x y
  | _, _ => beqb a b
def binV (E : Env) (op : BinOp) (t : TypeId) : SV → SV → OpR
  | .w (.c (.int k a)), .w (.c (.int k' b)) => match keq k k' with
    | true => match op with
      | .add => okV (.int k (a.add k b))
      | .sub => okV (.int k (a.sub k b))
      | .mul => okV (.int k (a.mul k b))
      | .quo => .val (match b.nz with | true => none | false => some (nez b.v)) (.w (.c (.int k (a.quo k b))))
      | .rem => .val (match b.nz with | true => none | false => some (nez b.v)) (.w (.c (.int k (a.rem b))))
      | op => cmpI op a b
    | false => .fail 2
  | .w (.c (.bool a ta)), .w (.c (.bool b tb)) => match E.P.underlying t, op with
    | some .bool, .eql => okB (beqT a b ta tb) (tagE ta tb)
    | some .bool, .neq => okB (bnotT (beqT a b ta tb) (tagE ta tb)) ((tagE ta tb).map (!·))
    | _, _ => .fail 56
  | .w (.agg xs), .w (.agg ys) => match eqOk E.P t xs.length, eqCells xs ys, op with
    | true, some (x, tg), .eql => okB x tg
    | true, some (x, tg), .neq => okB (bnotT x tg) (tg.map (!·))
    | _, _, _ => .fail 3
  | _, _ => .fail 4
def unV (op : UnOp) : SV → OpR
  | .w (.c (.int k a)) => match op with
    | .neg => okV (.int k ((SI.lit 0).sub k a))
    | _ => .fail 5
  | .w (.c (.bool b t)) => match op with
    | .not => okB (bnotT b t) (t.map (!·))
    | _ => .fail 6
  | _ => .fail 7
def fillV (place : Nat → Option (Nat × Nat)) : List SC → List (Nat × SV) → Option (List SC)
  | cells, [] => some cells
  | cells, (i, .w v) :: r => match place i with
    | none => none
    | some (off, size) => match Nat.beq v.cells.length size && Nat.ble (off + size) cells.length with
      | true => fillV place (cells.take off ++ v.cells ++ cells.drop (off + size)) r
      | false => none
  | _, _ => none
def reps (z : List SC) : Nat → List SC
  | 0 => []
  | n + 1 => z ++ reps z n
def fieldsOf (E : Env) : List Field → Option (List (Nat × Nat))
  | [] => some []
  | f :: r => match E.size f.type, fieldsOf E r with
    | some n, some l => some ((f.offset, n) :: l)
    | _, _ => none
/-- A part of a row of cells, by its type. -/
def partV (E : Env) (t : TypeId) (cs : List SC) (off : Nat) : Option SW := match E.isAgg t with
  | some true => match E.size t with
    | some n => match Nat.ble (off + n) cs.length with
      | true => some (.agg ((cs.drop off).take n))
      | false => none
    | none => none
  | some false => match cs[off]? with
    | some c => some (.c c)
    | none => none
  | none => none
def ofOpt (o : Option SW) : OpR := match o with
  | some v => .val none (.w v)
  | none => .fail 8
def loadV (E : Env) (S : St) (t : TypeId) : SV → OpR
  | .w (.c (.ptr b off)) => match S.res b with
    | some (.box bx) => ofOpt (partV E t bx.cells off)
    | _ => .fail 9
  | .w (.c (.lptr j _ i c)) => match S.res j with
    | some (.list L) => ofOpt (partV E t (L.f.sw (nthD L.l i L.f.dflt)) c)
    | _ => .fail 10
  | _ => .fail 11
def indexAddrV (E : Env) (S : St) (t : TypeId) : SV → SV → OpR
  | x, .w (.c (.int _ i)) => match E.P.underlying t, x with
    | some (.array len elem), .w (.c (.ptr b off)) => match i.lit?, E.size elem with
      | some n, some sz => match ile 0 n && ile (n + 1) len with
        | true => okV (.ptr b (off + n.toNat * sz))
        | false => .fail 12
      | _, _ => .fail 13
    | some (.slice elem), .w (.c (.csl b off len _)) => match i.lit?, E.size elem with
      | some n, some sz => match ile 0 n && ile (n + 1) len with
        | true => okV (.ptr b (off + n.toNat * sz))
        | false => .fail 14
      | _, _ => .fail 15
    | some (.slice elem), .w (.c (.sl j)) => match S.res j, E.size elem with
      | some (.list L), some sz => match Nat.beq sz L.f.ks.length with
        | true => .val (some (inB L.l i.v)) (.w (.c (.lptr j sz i.v 0)))
        | false => .fail 16
      | _, _ => .fail 17
    | _, _ => .fail 18
  | _, _ => .fail 19
def indexV (E : Env) (t : TypeId) : SV → SV → OpR
  | .w (.agg cs), .w (.c (.int _ i)) => match E.P.underlying t, i.lit? with
    | some (.array len elem), some n => match E.size elem with
      | some sz => match ile 0 n && ile (n + 1) len with
        | true => ofOpt (partV E elem cs (n.toNat * sz))
        | false => .fail 20
      | none => .fail 21
    | _, _ => .fail 22
  | _, _ => .fail 23
/-- Is it a list that is still told? -/
def isList (S : St) (j : Nat) : Bool := match S.res j with
  | some (.list _) => true
  | _ => false
def fieldAddrV (E : Env) (S : St) (t : TypeId) (x : SV) (f : Nat) : OpR := match E.P.underlying t with
  | some (.struct fs) => match fs.toList[f]? with
    | some fd => match E.size fd.type, x with
      | some (_ + 1), .w (.c (.ptr b off)) => okV (.ptr b (off + fd.offset))
      | some (_ + 1), .w (.c (.lptr j n i c)) => match isList S j with
        | true => okV (.lptr j n i (c + fd.offset))
        | false => .fail 54
      | _, _ => .fail 51
    | none => .fail 52
  | _ => .fail 53
def arrIdxV (E : Env) (S : St) (t : TypeId) (x ix : SV) : OpR := match x, ix with
  | .w (.c (.lptr j n i c)), .w (.c (.int _ k)) => match E.P.underlying t, k.lit? with
    | some (.array len elem), some m => match E.size elem with
      | some sz => match ile 0 m && ile (m + 1) len && isList S j with
        | true => okV (.lptr j n i (c + m.toNat * sz))
        | false => .fail 26
      | none => .fail 27
    | _, _ => .fail 28
  | _, _ => .fail 29
def fieldV (E : Env) (t : TypeId) (x : SV) (f : Nat) : OpR := match E.P.underlying t, x with
  | some (.struct fs), .w (.agg cs) => match fs.toList[f]? with
    | some fd => ofOpt (partV E fd.type cs fd.offset)
    | none => .fail 30
  | _, _ => .fail 31
def buildV (E : Env) (t : TypeId) (parts : List (Nat × SV)) : OpR := match E.zero t, E.P.underlying t with
  | some z, some (.struct fs) => match fieldsOf E fs.toList with
    | some l => match fillV (fun i => l[i]?) z.cells parts with
      | some cs => .val none (.w (.agg cs))
      | none => .fail 32
    | none => .fail 33
  | some z, some (.array _ elem) => match E.size elem with
    | some sz => match fillV (fun i => some (i * sz, sz)) z.cells parts with
      | some cs => .val none (.w (.agg cs))
      | none => .fail 34
    | none => .fail 35
  | _, _ => .fail 36
def buildSliceV (E : Env) (t : TypeId) (len : Nat) (parts : List (Nat × SV)) : OpR := match E.P.underlying t with
  | some (.slice elem) => match E.size elem, E.zero elem with
    | some sz, some z => match Nat.beq z.cells.length sz && Nat.ble (len * sz) 16777216 && Nat.ble 1 (len * sz) with
      | true => match fillV (fun i => some (i * sz, sz)) (reps z.cells len) parts with
        | some cs => .new cs elem (some len)
        | none => .fail 37
      | false => .fail 38
    | _, _ => .fail 39
  | _ => .fail 40
def ptrsOf : List SV → Option (List (Nat × Nat))
  | [] => some []
  | .w (.c (.ptr b off)) :: r => match ptrsOf r with
    | some l => some ((b, off) :: l)
    | none => none
  | _ :: _ => none
def lenV (S : St) : SV → OpR
  | .w (.c (.csl _ _ len _)) => okV (.int .i64 (.lit len))
  | .w (.c .nilsl) => okV (.int .i64 (.lit 0))
  | .w (.c (.sl j)) => match S.res j with
    | some (.list L) => okV (.int .i64 ⟨lenI L.l, 0, 140737488351232⟩)
    | _ => .fail 42
  | _ => .fail 43
def maxV : SV → SV → OpR
  | .w (.c (.int k a)), .w (.c (.int k' b)) => match keq k k' with
    | true => okV (.int k ⟨zmax a.v b.v, imax a.lo b.lo, imax a.hi b.hi⟩)
    | false => .fail 62
  | _, _ => .fail 63
def minV : SV → SV → OpR
  | .w (.c (.int k a)), .w (.c (.int k' b)) => match keq k k' with
    | true => okV (.int k ⟨zmin a.v b.v, imin a.lo b.lo, imin a.hi b.hi⟩)
    | false => .fail 62
  | _, _ => .fail 63
def notAny : SV → OpR
  | .any => .fail 44
  | v => .val none v
def pickV : SV → SV → SV → OpR
  | .w (.c (.bool _ (some true))), a, _ => notAny a
  | .w (.c (.bool _ (some false))), _, b => notAny b
  | .w (.c (.bool c none)), .w (.c (.bool x _)), .w (.c (.bool y _)) => okB (bsel c x y) none
  | _, _, _ => .fail 61
def St.ev (S : St) : Operand → SV
  | .tmp t => match Nat.blt t S.nt with
    | true => S.get t
    | false => .any
  | .const v => match ofValue v with
    | some x => .w x
    | none => .any
  | .func f => .w (.c (.fn f []))
  | .global _ => .any
def St.evs (S : St) : List Operand → List SV
  | [] => []
  | x :: r => S.ev x :: St.evs S r
def St.evp (S : St) : List (Nat × Operand) → List (Nat × SV)
  | [] => []
  | x :: r => (x.1, S.ev x.2) :: St.evp S r
def opv (E : Env) (S : St) : Op → OpR
  | .move x => notAny (S.ev x)
  | .assign x => notAny (S.ev x)
  | .pick c a b => pickV (S.ev c) (S.ev a) (S.ev b)
  | .alloc t => match E.zero t with
    | some z => .new z.cells t none
    | none => .fail 45
  | .box t x => match S.ev x with
    | .w v => .new v.cells t none
    | _ => .fail 46
  | .build t parts => buildV E t (S.evp parts.toList)
  | .buildSlice t len parts => buildSliceV E t len (S.evp parts.toList)
  | .load t a => loadV E S t (S.ev a)
  | .nilCheck x => match S.ev x with
    | .w (.c (.ptr b off)) => okV (.ptr b off)
    | .w (.c (.fn f cap)) => okV (.fn f cap)
    | _ => .fail 47
  | .binOp op t x y _ => binV E op t (S.ev x) (S.ev y)
  | .unOp op _ x => unV op (S.ev x)
  | .convert src dst x => match E.P.underlying src, E.P.underlying dst, S.ev x with
    | some _, some (.int k), .w (.c (.int _ i)) => okV (.int k (i.conv k))
    | _, _, _ => .fail 48
  | .makeFunc (.func f) first cap => match first.size, ptrsOf (S.evs cap.toList) with
    | 0, some l => okV (.fn f l)
    | _, _ => .fail 49
  | .fieldAddr t x f => fieldAddrV E S t (S.ev x) f
  | .field t x f => fieldV E t (S.ev x) f
  | .indexAddr t x ix => match S.ev x with
    | .w (.c (.lptr j m i c)) => arrIdxV E S t (.w (.c (.lptr j m i c))) (S.ev ix)
    | v => indexAddrV E S t v (S.ev ix)
  | .index t x ix => indexV E t (S.ev x) (S.ev ix)
  | .extract x ix => match S.ev x with
    | .tup vs => match vs[ix]? with
      | some v => .val none (.w v)
      | none => .fail 50
    | _ => .fail 51
  | .call c => match c.callee with
    | .builtin .len => match c.args.toList, c.argTypes.toList with
      | [x], [t] => match E.P.underlying t with
        | some (.slice _) => lenV S (S.ev x)
        | _ => .fail 52
      | _, _ => .fail 53
    | .builtin .max => match c.args.toList with
      | [x, y] => maxV (S.ev x) (S.ev y)
      | _ => .fail 64
    | .builtin .min => match c.args.toList with
      | [x, y] => minV (S.ev x) (S.ev y)
      | _ => .fail 64
    | _ => .fail 54
  | _ => .fail 55

/-! ### The executor -/
/-- What the executor doesn't take: there is no proof of it; the number tells the place. -/
inductive Bad : Nat → Prop

inductive Ex where
  | normal
  | exit (id : Nat)
  | ret
def sideAnd : Option Prop → Prop → Prop
  | none, p => p
  | some s, p => s ∧ p
def undefV : SV := .w (.c .undef)
/-- Is the operation carried out? -/
def guardV (ops : List Oper) (S : St) (g : Option (Nat × Bool)) (k : St → Bool → Prop) : Prop := match g with
  | none => k S true
  | some (j, want) => match ops[j]? with
    | some oj => match oj.dst with
      | some d => match Nat.blt d S.nt, S.get d with
        | true, .w (.c (.bool _ (some x))) => k S (match x, want with | true, true => true | false, false => true | _, _ => false)
        | true, .w (.c (.bool b none)) =>
          (b = true → k (S.put (some d) (.w (.c (.bool true (some true))))) want) ∧ (b = false → k (S.put (some d) (.w (.c (.bool false (some false))))) (!want))
        | true, .w (.c .undef) => k S false
        | _, _ => Bad 101
      | none => Bad 102
    | none => Bad 103
abbrev Cont := Ex → St → Prop
abbrev IH := FuncId → Code → St → Cont → Prop
def initTm : List SV → Nat → List (Nat × SV)
  | [], _ => []
  | v :: r, n => (n, v) :: initTm r (n + 1)
def noAny : List SV → Bool
  | [] => true
  | .any :: _ => false
  | _ :: r => noAny r
def resOf (E : Env) (S : St) : List ResultVar → Option (List SW)
  | [] => some []
  | .tmp t :: r => match S.ev (.tmp t), resOf E S r with
    | .w v, some l => some (v :: l)
    | _, _ => none
  | .cell a t :: r => match loadV E S t (S.ev (.tmp a)), resOf E S r with
    | .val none (.w v), some l => some (v :: l)
    | _, _ => none
def noLists : List Sh → Bool
  | [] => true
  | .list _ :: _ => false
  | _ :: r => noLists r
/-- The contract of a call: the first that takes its arguments. -/
inductive Pick where
  | none
  | some (C : Contract) (x : HL C.args)
def pickC (f : FuncId) (args : List SV) (S : St) : List (FuncId × Contract) → Pick
  | [] => .none
  | (g, C) :: r => match Nat.beq g f && noLists C.res with
    | true => match decArgs S C.args args with
      | some x => .some C x
      | none => pickC f args S r
    | false => pickC f args S r
/-- A call, by its contract or gone into. -/
def callV (E : Env) (ih : IH) (f : FuncId) (args : List SV) (S : St) (k : SV → St → Prop) : Prop := match look E.fns f, noAny args with
  | some fn, true => match pickC f args S E.con with
    | .some C x => C.pre x ∧ match C.opq with
      | true => opqAll C.res (C.F x) fun y => k (oneOrTup (putAll C.res y S.nx).1) S
      | false => k (oneOrTup (putAll C.res (C.F x) S.nx).1) S
    | .none => match fn.body with
      | some c => ih f c { S with tm := initTm args 0, tb := fun _ => undefV, nt := args.length + (fn.ntmps - args.length) } fun ex S' => match ex with
          | .exit _ => Bad 102
          | _ => match resOf E S' fn.results.toList with
            | some vs => k (oneOrTup vs) { S' with tm := S.tm, tb := S.tb, nt := S.nt }
            | none => Bad 103
      | none => Bad 104
  | _, _ => Bad 105
/-- May the value lie in a cell that is written? -/
def storable (S : St) : List SC → Bool
  | [] => true
  | .undef :: _ => false
  | .lptr .. :: _ => false
  | .sl j :: r => (match S.res j with | some (.list _) => storable S r | _ => false)
  | _ :: r => storable S r
def storeV (E : Env) (t : TypeId) (S : St) : SV → SV → Option St
  | .w (.c (.ptr b off)), .w v => match S.res b, E.size t with
    | some (.box bx), some n => match Nat.beq v.cells.length n && Nat.ble (off + n) bx.cells.length && storable S v.cells with
      | true => some (S.set b (some (.box ⟨bx.cells.take off ++ v.cells ++ bx.cells.drop (off + n), bx.ty⟩)))
      | false => none
    | _, _ => none
  | _, _ => none
/-- The value that tells a new box. -/
def newV (n : Nat) : Option Nat → SV
  | none => .w (.c (.ptr n 0))
  | some len => .w (.c (.csl n 0 len len))
/-- A key. -/
def Fl.keyV : (f : Fl) → SV → Option f.ty
  | .int, v => decI .i64 v
  | .op, v => decA .op v
  | _, _ => none
/-- A map type from keys that are told to int: the keys' kind. -/
def mapT (E : Env) (t : TypeId) : Option Fl := match E.P.underlying t with
  | some (.map k e) => match E.zero e with
    | some (.c (.int .i64 i)) => match ile 0 i.v && ile i.v 0 with
      | true => look E.keys k
      | false => none
    | _ => none
  | _ => none
def mapSetV (E : Env) (t : TypeId) (S : St) : SV → SV → SV → Option St
  | .w (.c (.mp j)), kx, v => match mapT E t, S.res j with
    | some f, some (.map M) => match feq M.f f, M.f.keyV kx, decI .i64 v with
      | true, some x, some z => some (S.set j (some (.map ⟨M.f, mset M.f.kq M.m x z⟩)))
      | _, _, _ => none
    | _, _ => none
  | _, _, _ => none
def mapGetV (E : Env) (t : TypeId) (S : St) (ok : Bool) : SV → SV → Option SV
  | .w (.c (.mp j)), kx => match mapT E t, S.res j with
    | some f, some (.map M) => match feq M.f f, M.f.keyV kx with
      | true, some x => match ok with
        | true => some (.tup [.c (.int .i64 ⟨mgetD M.f.kq M.m x, kmin .i64, kmax .i64⟩), .c (.bool (mhas M.f.kq M.m x) none)])
        | false => some (.w (.c (.int .i64 ⟨mgetD M.f.kq M.m x, kmin .i64, kmax .i64⟩)))
      | _, _ => none
    | _, _ => none
  | _, _ => none
def exOp (E : Env) (ih : IH) (o : Oper) (S : St) (k : St → Prop) : Prop := match o.op with
  | .makeMap t none => match mapT E t with
    | some f => k ({ S.set S.nx (some (.map ⟨f, []⟩)) with nx := S.nx + 1 }.put o.dst (.w (.c (.mp S.nx))))
    | none => Bad 120
  | .insert t m x v => match mapSetV E t S (S.ev m) (S.ev x) (S.ev v) with
    | some S' => k (S'.put o.dst undefV)
    | none => Bad 121
  | .mapUpdate t m x v => match mapSetV E t S (S.ev m) (S.ev x) (S.ev v) with
    | some S' => k (S'.put o.dst undefV)
    | none => Bad 122
  | .lookup t m x ok => match mapGetV E t S ok (S.ev m) (S.ev x) with
    | some v => k (S.put o.dst v)
    | none => Bad 123
  | .store t a x => match storeV E t S (S.ev a) (S.ev x) with
    | some S' => k (S'.put o.dst undefV)
    | none => Bad 110
  | .call { callee := .value fo, args := as, argTypes := _ } => match S.ev fo with
    | .w (.c (.fn f cap)) => callV E ih f (S.evs as.toList ++ cap.map fun p => .w (.c (.ptr p.1 p.2))) S fun v S' => k (S'.put o.dst v)
    | _ => Bad 111
  | op => match opv E S op with
    | .fail n => Bad n
    | .val side v => sideAnd side (k (S.put o.dst v))
    | .new cells ty sl => k ({ S.set S.nx (some (.box ⟨cells, ty⟩)) with nx := S.nx + 1 }.put o.dst (newV S.nx sl))
def exOps (E : Env) (ih : IH) (ops : List Oper) : List Oper → St → (St → Prop) → Prop
  | [], S, k => k S
  | o :: r, S, k => guardV ops S o.guard fun S w => match w with
    | true => exOp E ih o S fun S' => exOps E ih ops r S' k
    | false => exOps E ih ops r (S.put o.dst undefV) k
/-! ### Regions whose order is open: operations that only read, make boxes and call by a contract, in any order; then a tail in one order -/
def guardQ (ops : List Oper) (S : St) (g : Option (Nat × Bool)) : Option Bool := match g with
  | none => some true
  | some (j, want) => match ops[j]? with
    | some oj => match oj.dst with
      | some d => match Nat.blt d S.nt, S.get d with
        | true, .w (.c (.bool _ (some x))) => some (match x, want with | true, true => true | false, false => true | _, _ => false)
        | true, .w (.c .undef) => some false
        | _, _ => none
      | none => none
    | none => none
def isGuard : List Oper → Nat → Bool
  | [], _ => false
  | o :: r, i => match o.guard with
    | some (j, _) => Nat.beq i j || isGuard r i
    | none => isGuard r i
def ltAll (n : Nat) : List (Nat × Nat) → Bool
  | [] => true
  | p :: r => Nat.blt p.1 n && ltAll n r
def scSC (n : Nat) : SC → Bool
  | .ptr b _ => Nat.blt b n
  | .lptr j .. => Nat.blt j n
  | .fn _ cap => ltAll n cap
  | .sl j => Nat.blt j n
  | .csl b _ _ _ => Nat.blt b n
  | .mp j => Nat.blt j n
  | _ => true
def scSCs (n : Nat) : List SC → Bool
  | [] => true
  | c :: r => scSC n c && scSCs n r
def scSW (n : Nat) : SW → Bool
  | .c x => scSC n x
  | .agg cs => scSCs n cs
def scSWs (n : Nat) : List SW → Bool
  | [] => true
  | c :: r => scSW n c && scSWs n r
def scSV (n : Nat) : SV → Bool
  | .w x => scSW n x
  | .tup vs => scSWs n vs
  | .any => true
def scOps (S : St) : List Operand → Bool
  | [] => true
  | x :: r => scSV S.nx (S.ev x) && scOps S r
/-- A call by its contract, as a value. -/
def callQ (E : Env) (f : FuncId) (args : List SV) (S : St) : OpR := match look E.fns f, noAny args, pickC f args S E.con with
  | some _, true, .some C x => .val (some (C.pre x)) (oneOrTup (putAll C.res (C.F x) 0).1)
  | _, _, _ => .fail 91
def qv (E : Env) (S : St) : Op → OpR
  | .call { callee := .value fo, args := as, argTypes := _ } => match S.ev fo with
    | .w (.c (.fn f cap)) => callQ E f (S.evs as.toList ++ cap.map fun p => .w (.c (.ptr p.1 p.2))) S
    | _ => .fail 92
  | op => opv E S op
def exQ (E : Env) (ops : List Oper) : List Oper → Nat → St → (St → Prop) → Prop
  | [], _, S, k => k S
  | o :: r, i, S, k => match guardQ ops S o.guard with
    | some true => match scOps S o.op.operands.toList with
      | true => match qv E S o.op with
        | .fail n => Bad n
        | .val side v => sideAnd side (match isGuard ops i, v with
          | true, .w (.c (.bool b none)) =>
            (b = true → exQ E ops r (i + 1) (S.put o.dst (.w (.c (.bool true (some true))))) k) ∧ (b = false → exQ E ops r (i + 1) (S.put o.dst (.w (.c (.bool false (some false))))) k)
          | _, _ => exQ E ops r (i + 1) (S.put o.dst v) k)
        | .new cells ty sl => exQ E ops r (i + 1) ({ S.set S.nx (some (.box ⟨cells, ty⟩)) with nx := S.nx + 1 }.put o.dst (newV S.nx sl)) k
      | false => Bad 93
    | some false => exQ E ops r (i + 1) (S.put o.dst undefV) k
    | none => Bad 94
/-- For whom an operation waits, straight or through others: a bit each. -/
def befOne (acc : List Nat) : List Edge → Nat
  | [] => 0
  | e :: r => match Region.binds .any e with
    | true => befOne acc r ||| (2 ^ e.on ||| acc.getD e.on 0)
    | false => befOne acc r
def befs : List Oper → List Nat → List Nat
  | [], acc => acc
  | o :: r, acc => befs r (acc ++ [befOne acc o.after.toList])
def waitsM (ms : List Nat) (i j : Nat) : Bool := Nat.testBit (ms.getD i 0) j
/-- The slots that an operation looks at. -/
def readsT : List Operand → List Nat
  | [] => []
  | .tmp t :: r => t :: readsT r
  | _ :: r => readsT r
def guardT (ops : List Oper) (g : Option (Nat × Bool)) : List Nat := match g with
  | none => []
  | some (j, _) => match ops[j]? with
    | some oj => oj.dst.toList
    | none => []
def looks (ops : List Oper) (o : Oper) : List Nat := guardT ops o.guard ++ readsT o.op.operands.toList
def isTail (ms : List Nat) (i : Nat) : Nat → Bool
  | 0 => true
  | j + 1 => waitsM ms i j && isTail ms i j
def isEffect (o : Oper) : Bool := match o.op with
  | .store .. => true
  | .call { callee := .builtin .append, .. } => true
  | _ => false
/-- How many operations stand ahead of the tail. -/
def quietLen : List Oper → Nat
  | [] => 0
  | o :: r => match isEffect o with
    | true => 0
    | false => quietLen r + 1
/-- The operations from number i on wait for all ahead of them. -/
def tailOk (ms : List Nat) : List Oper → Nat → Bool
  | [], _ => true
  | _ :: r, i => isTail ms i i && tailOk ms r (i + 1)
def nmem (d : Nat) : List Nat → Bool
  | [] => false
  | x :: r => Nat.beq d x || nmem d r
/-- Whoever writes a slot that o (number i) looks at stands ahead, and o waits for it, or waits for o; no slot is written twice. -/
def slotsOk (ms : List Nat) (all : List Oper) (o : Oper) (i : Nat) : List Oper → Nat → Bool
  | [], _ => true
  | p :: r, j => (match p.dst with
    | some d => Nat.beq i j || ((!(nmem d (looks all o)) || (Nat.blt j i && waitsM ms i j) || (Nat.blt i j && waitsM ms j i)) && (match o.dst with | some d' => !(Nat.beq d d') | none => true))
    | none => true) && slotsOk ms all o i r (j + 1)
def quietOk (ms : List Nat) (all q : List Oper) : List Oper → Nat → Bool
  | [], _ => true
  | o :: r, i => slotsOk ms all o i q 0 && quietOk ms all q r (i + 1)
/-- Whom an operation waits for, stands ahead. -/
def edgesLt (i : Nat) : List Edge → Bool
  | [] => true
  | e :: r => (match Region.binds .any e with | true => Nat.blt e.on i | false => true) && edgesLt i r
def allEdges : List Oper → Nat → Bool
  | [], _ => true
  | o :: r, i => edgesLt i o.after.toList && allEdges r (i + 1)
def drawOk (ops : List Oper) : Bool := match befs ops [] with
  | ms => allEdges ops 0 && quietOk ms ops (ops.take (quietLen ops)) (ops.take (quietLen ops)) 0 && tailOk ms (ops.drop (quietLen ops)) (quietLen ops)
/-! ### A small region in every order -/
def rdyB (l : List Bool) : List Edge → Bool
  | [] => true
  | e :: r => (match Region.binds .any e with | true => l.getD e.on false | false => true) && rdyB l r
def rdyL (l : List Bool) : List Oper → Nat → List Nat
  | [], _ => []
  | o :: r, i => match (!(l.getD i true)) && rdyB l o.after.toList with
    | true => i :: rdyL l r (i + 1)
    | false => rdyL l r (i + 1)
def setL : List Bool → Nat → List Bool
  | [], _ => []
  | _ :: r, 0 => true :: r
  | b :: r, n + 1 => b :: setL r n
def allN : List Nat → (Nat → Prop) → Prop
  | [], _ => True
  | [i], P => P i
  | i :: r, P => P i ∧ allN r P
def exAny (E : Env) (ih : IH) (ops : List Oper) : Nat → List Bool → St → (St → Prop) → Prop
  | 0, l, S, k => match rdyL l ops 0 with
    | [] => k S
    | _ => Bad 130
  | n + 1, l, S, k => match rdyL l ops 0 with
    | [] => k S
    | rs => allN rs fun i => match ops[i]? with
      | some o => guardV ops S o.guard fun S w => match w with
        | true => exOp E ih o S fun S' => exAny E ih ops n (setL l i) S' k
        | false => exAny E ih ops n (setL l i) (S.put o.dst undefV) k
      | none => Bad 131
def falses : Nat → List Bool
  | 0 => []
  | n + 1 => false :: falses n
/-- Does it hand a function on? -/
def hasFn : List Oper → Bool
  | [] => false
  | o :: r => (match o.op with | .makeFunc .. => true | _ => false) || hasFn r
def exDraw (E : Env) (ih : IH) (ops : List Oper) (S : St) (k : St → Prop) : Prop :=
  match (!hasFn ops) && drawOk ops with
  | true => exQ E ops (ops.take (quietLen ops)) 0 S fun S' => exOps E ih ops (ops.drop (quietLen ops)) S' k
  | false => match Nat.ble ops.length 12 with
    | true => exAny E ih ops ops.length (falses ops.length) S k
    | false => Bad 95
def learn (S : St) (c : Operand) (x : Bool) : St := match c with
  | .tmp t => S.put (some t) (.w (.c (.bool x (some x))))
  | _ => S
/-! ### Loops with an invariant -/
/-- The first region of a body: a loop's name. -/
def firstReg : Code → Option Nat
  | .region id _ _ => some id
  | .seq a b => match firstReg a with
    | some n => some n
    | none => firstReg b
  | .block _ c => firstReg c
  | .loop c => firstReg c
  | _ => none
def findL (f : FuncId) (n : Nat) : List (FuncId × Nat × LoopSpec) → Option LoopSpec
  | [] => none
  | (g, m, L) :: r => match Nat.beq g f && Nat.beq m n with
    | true => some L
    | false => findL f n r
def loopOf (E : Env) (f : FuncId) (c : Code) : Option LoopSpec := match firstReg c with
  | some n => findL f n E.loops
  | none => none
/-- The slots that a body writes. -/
def dsts : List Oper → List Nat
  | [] => []
  | o :: r => match o.dst with
    | some d => d :: dsts r
    | none => dsts r
def wrote : Code → List Nat
  | .region _ ops _ => dsts ops.toList
  | .seq a b => wrote a ++ wrote b
  | .cond c a b => (match c with | .tmp t => [t] | _ => []) ++ (wrote a ++ wrote b)
  | .block _ c => wrote c
  | .loop c => wrote c
  | _ => []
def havoc (S : St) : List Nat → St
  | [] => S
  | t :: r => havoc (S.put (some t) .any) r
def ofCells : Sh → List SC → SV
  | .agg _, cs => .w (.agg cs)
  | _, [c] => .w (.c c)
  | _, _ => .any
def readP (S : St) : Place → (s : Sh) → Option s.ty
  | .tmp t, s => s.dec S (S.ev (.tmp t))
  | .cell t, s => match S.ev (.tmp t) with
    | .w (.c (.ptr b 0)) => match S.res b with
      | some (.box bx) => s.dec S (ofCells s bx.cells)
      | _ => none
    | _ => none
def readAll (S : St) : (l : List (Place × Sh)) → Option (HL (shs l))
  | [] => some ()
  | p :: r => match readP S p.1 p.2, readAll S r with
    | some x, some y => some (x, y)
    | _, _ => none
def plainSh : Sh → Bool
  | .int _ | .bool | .agg _ => true
  | _ => false
def writeP (S0 S : St) (pl : Place) (s : Sh) (x : s.ty) : Option St := match plainSh s with
  | true => match pl with
    | .tmp t => match Nat.blt t S.nt with
      | true => some (S.put (some t) (.w (s.put 0 x).1))
      | false => none
    | .cell t => match S0.ev (.tmp t) with
      | .w (.c (.ptr b 0)) => match S0.res b with
        | some (.box bx) => some (S.set b (some (.box ⟨(s.put 0 x).1.cells, bx.ty⟩)))
        | _ => none
      | _ => none
  | false => none
def writeAll (S0 S : St) : (l : List (Place × Sh)) → HL (shs l) → Option St
  | [], _ => some S
  | p :: r, x => match writeP S0 S p.1 p.2 x.1 with
    | some S' => writeAll S0 S' r x.2
    | none => none
/-- For all values. -/
def allV : (l : List Sh) → (HL l → Prop) → Prop
  | [], P => P ()
  | s :: r, P => match s, P with
    | .int k, P => ∀ x : Int, ble (kmin k) x = true → ble x (kmax k) = true → allV r fun y => P (x, y)
    | .bool, P => ∀ x : Bool, allV r fun y => P (x, y)
    | .agg f, P => ∀ x : f.ty, allV r fun y => P (x, y)
    | .list f, P => ∀ x : List f.ty, allV r fun y => P (x, y)
    | .lit _ _, P => allV r fun y => P ((), y)
/-- All that was written stands among the slots that the body writes. -/
def tmsIn (ts : List Nat) : List (Nat × SV) → Nat → Bool
  | _, 0 => true
  | [], _ + 1 => false
  | p :: r, n + 1 => nmem p.1 ts && tmsIn ts r n
/-- All boxes that were written are the loop's own, or new. -/
def rssIn (nx : Nat) (bs : List Nat) : List (Nat × Option Res) → Nat → Bool
  | _, 0 => true
  | [], _ + 1 => false
  | p :: r, n + 1 => (Nat.ble nx p.1 || nmem p.1 bs) && rssIn nx bs r n
/-- The boxes and the slots of the places. -/
def boxesOf (S : St) : List (Place × Sh) → List Nat
  | [] => []
  | (.cell t, _) :: r => match S.ev (.tmp t) with
    | .w (.c (.ptr b _)) => b :: boxesOf S r
    | _ => boxesOf S r
  | _ :: r => boxesOf S r
def slotsOf : List (Place × Sh) → List Nat
  | [] => []
  | (.tmp t, _) :: r => t :: slotsOf r
  | _ :: r => slotsOf r
/-- The boxes have the types that they had. -/
def tysIn (S S' : St) : List Nat → Bool
  | [] => true
  | b :: r => (match S.res b, S'.res b with | some (.box x), some (.box y) => Nat.beq x.ty y.ty | _, _ => false) && tysIn S S' r
def backOk (S S1 S' : St) (ts bs : List Nat) : Bool :=
  tmsIn ts S'.tm (S'.tm.length - S1.tm.length) && rssIn S1.nx bs S'.rs (S'.rs.length - S1.rs.length) && tysIn S S' bs
def step (E : Env) (ih : IH) (f : FuncId) (c : Code) (S : St) (k : Cont) : Prop := match c with
  | .skip => k .normal S
  | .region _ ops draw => match draw with
    | false => exOps E ih ops.toList ops.toList S (k .normal)
    | true => exDraw E ih ops.toList S (k .normal)
  | .seq a b => ih f a S fun ex S' => match ex with
    | .normal => ih f b S' k
    | ex => k ex S'
  | .cond c t e => match S.ev c with
    | .w (.c (.bool _ (some true))) => ih f t S k
    | .w (.c (.bool _ (some false))) => ih f e S k
    | .w (.c (.bool b none)) => (b = true → ih f t (learn S c true) k) ∧ (b = false → ih f e (learn S c false) k)
    | _ => Bad 113
  | .block id c => ih f c S fun ex S' => match ex with
    | .exit id' => match Nat.beq id' id with
      | true => k .normal S'
      | false => k (.exit id') S'
    | ex => k ex S'
  | .loop c => match loopOf E f c with
    | none => ih f c S fun ex S' => match ex with
      | .normal => ih f (.loop c) S' k
      | ex => k ex S'
    | some L => match readAll S L.fix, readAll S L.vars with
      | some y, some v0 => L.inv y v0 ∧ allV (shs L.vars) fun v => L.inv y v → match writeAll (havoc S (wrote c ++ slotsOf L.vars)) (havoc S (wrote c ++ slotsOf L.vars)) L.vars v with
        | some S1 => ih f c S1 fun ex S' => match ex with
          | .normal => match backOk S S1 S' (wrote c ++ slotsOf L.vars) (boxesOf (havoc S (wrote c ++ slotsOf L.vars)) L.vars), readAll S' L.vars with
            | true, some v' => L.inv y v' ∧ ble 0 (L.mu y v') = true ∧ blt (L.mu y v') (L.mu y v) = true
            | _, _ => Bad 118
          | ex => k ex S'
        | none => Bad 117
      | _, _ => Bad 116
  | .exit id => k (.exit id) S
  | .ret => k .ret S
  | _ => Bad 114
def exec (E : Env) (n : Nat) : IH := Nat.rec (fun _ _ _ _ => Bad 115) (fun _ ih => step E ih) n
/-- The arguments of a call as a state has them; lists are told beside. -/
def argAll : (l : List Sh) → HL l → Nat → List SV × List Res
  | [], _, _ => ([], [])
  | s :: r, x, n => match s, x with
    | .int k, x => match argAll r x.2 n with | (vs, rs) => (.w (.c (.int k ⟨x.1, kmin k, kmax k⟩)) :: vs, rs)
    | .bool, x => match argAll r x.2 n with | (vs, rs) => (.w (.c (.bool x.1 none)) :: vs, rs)
    | .agg f, x => match argAll r x.2 n with | (vs, rs) => (.w (.agg (f.sw x.1)) :: vs, rs)
    | .list f, x => match argAll r x.2 (n + 1) with | (vs, rs) => (.w (.c (.sl n)) :: vs, .list ⟨f, x.1, false⟩ :: rs)
    | .lit k z, x => match argAll r x.2 n with | (vs, rs) => (.w (.c (.int k (.lit z))) :: vs, rs)
def svs : SV → List SV
  | .w v => [.w v]
  | .tup vs => vs.map SV.w
  | .any => [.any]
/-- What a call of f, from arguments x, is asked: to give what the contract says. -/
def runs (E : Env) (n : Nat) (f : FuncId) (C : Contract) (x : HL C.args) : Prop := match look E.fns f with
  | some fn => match fn.body with
    | some c => match argAll C.args x 0 with
      | (args, rs) => exec E n f c { tm := initTm args 0, tb := fun _ => undefV, nt := args.length + (fn.ntmps - args.length), rs := addAll [] 0 rs, rb := fun _ => none, nx := rs.length } fun ex S' => match ex with
        | .exit _ => Bad 96
        | _ => match resOf E S' fn.results.toList with
          | some vs => match decArgs S' C.res (svs (oneOrTup vs)), noLists C.res with
            | some y, true => y = C.F x
            | _, _ => Bad 97
          | none => Bad 98
    | none => Bad 99
  | none => Bad 99
end
end Go.Fx
