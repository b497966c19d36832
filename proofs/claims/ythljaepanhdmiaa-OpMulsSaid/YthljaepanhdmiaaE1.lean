/-
  The engine, part 1: a symbolic executor for the program's code. Scalars are Lean integers with an interval, memory of the call's own is told by numbers ('boxes'), slices and maps by what they hold. No statement of the seat stands here.
-/
import Derived.Test.YthljaepanhdmiaaE0
namespace Go.Fx
noncomputable section
open Go

/-! ### Plain data -/
structure V3 where
  x : Int
  y : Int
  z : Int
structure M3 where
  xx : Int
  xy : Int
  xz : Int
  yx : Int
  yy : Int
  yz : Int
  zx : Int
  zy : Int
  zz : Int
structure Op3 where
  R : M3
  T : V3
structure Pt where
  M : Int
  X : V3
structure Chg where
  P : M3
  O : V3
structure Met where
  AA : Int
  BB : Int
  CC : Int
  BC : Int
  AC : Int
  AB : Int
structure Sd where
  Hex : Bool
  K : Int
  t0 : Int
  t1 : Int
  t2 : Int
  Step : Int

/-- One cell of plain data; its kind. -/
inductive Cell where
  | i (z : Int)
  | b (x : Bool)
  deriving DecidableEq
inductive CK where
  | int (k : IntKind)
  | bool
def Cell.int : Cell → Int
  | .i z => z
  | .b _ => 0
def Cell.bool : Cell → Bool
  | .b x => x
  | .i _ => false

/-- The flat kinds of data. -/
inductive Fl where
  | int | bool | vec | mat | op | pt | met | chg | seed | u8
  deriving DecidableEq
def Fl.ty : Fl → Type
  | .int => Int
  | .bool => Bool
  | .vec => V3
  | .mat => M3
  | .op => Op3
  | .pt => Pt
  | .met => Met
  | .chg => Chg
  | .seed => Sd
  | .u8 => Int
def ckI : CK := .int .i64
def ckU : CK := .int .u8
def Fl.ks : Fl → List CK
  | .int => [ckI]
  | .bool => [.bool]
  | .vec => [ckI, ckI, ckI]
  | .mat => [ckI, ckI, ckI, ckI, ckI, ckI, ckI, ckI, ckI]
  | .op => [ckI, ckI, ckI, ckI, ckI, ckI, ckI, ckI, ckI, ckI, ckI, ckI]
  | .pt => [ckI, ckI, ckI, ckI]
  | .met => [ckI, ckI, ckI, ckI, ckI, ckI]
  | .chg => [ckI, ckI, ckI, ckI, ckI, ckI, ckI, ckI, ckI, ckI, ckI, ckI]
  | .seed => [.bool, ckU, ckU, ckU, ckU, ckU]
  | .u8 => [ckU]
def Fl.bytes : Fl → Nat
  | .int => 8
  | .bool => 1
  | .vec => 24
  | .mat => 72
  | .op => 96
  | .pt => 32
  | .met => 48
  | .chg => 96
  | .seed => 6
  | .u8 => 1
def V3.cells (v : V3) : List Cell := [.i v.x, .i v.y, .i v.z]
def M3.cells (m : M3) : List Cell := [.i m.xx, .i m.xy, .i m.xz, .i m.yx, .i m.yy, .i m.yz, .i m.zx, .i m.zy, .i m.zz]
def Fl.enc : (f : Fl) → f.ty → List Cell
  | .int, z => [.i z]
  | .bool, b => [.b b]
  | .vec, v => [.i v.x, .i v.y, .i v.z]
  | .mat, m => [.i m.xx, .i m.xy, .i m.xz, .i m.yx, .i m.yy, .i m.yz, .i m.zx, .i m.zy, .i m.zz]
  | .op, o => [.i o.R.xx, .i o.R.xy, .i o.R.xz, .i o.R.yx, .i o.R.yy, .i o.R.yz, .i o.R.zx, .i o.R.zy, .i o.R.zz, .i o.T.x, .i o.T.y, .i o.T.z]
  | .pt, p => [.i p.M, .i p.X.x, .i p.X.y, .i p.X.z]
  | .met, m => [.i m.AA, .i m.BB, .i m.CC, .i m.BC, .i m.AC, .i m.AB]
  | .chg, o => [.i o.P.xx, .i o.P.xy, .i o.P.xz, .i o.P.yx, .i o.P.yy, .i o.P.yz, .i o.P.zx, .i o.P.zy, .i o.P.zz, .i o.O.x, .i o.O.y, .i o.O.z]
  | .seed, s => [.b s.Hex, .i s.K, .i s.t0, .i s.t1, .i s.t2, .i s.Step]
  | .u8, z => [.i z]
def nthI (cs : List Cell) (n : Nat) : Int := (cs.getD n (.i 0)).int
def nthB (cs : List Cell) (n : Nat) : Bool := (cs.getD n (.b false)).bool
def decM (cs : List Cell) : M3 := ⟨nthI cs 0, nthI cs 1, nthI cs 2, nthI cs 3, nthI cs 4, nthI cs 5, nthI cs 6, nthI cs 7, nthI cs 8⟩
def Fl.dec : (f : Fl) → List Cell → f.ty
  | .int, cs => nthI cs 0
  | .bool, cs => nthB cs 0
  | .vec, cs => ⟨nthI cs 0, nthI cs 1, nthI cs 2⟩
  | .mat, cs => decM cs
  | .op, cs => ⟨decM cs, ⟨nthI cs 9, nthI cs 10, nthI cs 11⟩⟩
  | .pt, cs => ⟨nthI cs 0, ⟨nthI cs 1, nthI cs 2, nthI cs 3⟩⟩
  | .met, cs => ⟨nthI cs 0, nthI cs 1, nthI cs 2, nthI cs 3, nthI cs 4, nthI cs 5⟩
  | .chg, cs => ⟨decM cs, ⟨nthI cs 9, nthI cs 10, nthI cs 11⟩⟩
  | .seed, cs => ⟨nthB cs 0, nthI cs 1, nthI cs 2, nthI cs 3, nthI cs 4, nthI cs 5⟩
  | .u8, cs => nthI cs 0
def eqI (a b : Int) : Bool := decide (a = b)
def eqO (a b : Op3) : Bool := decide (Fl.op.enc a = Fl.op.enc b)
def Fl.kq : (f : Fl) → f.ty → f.ty → Bool
  | .int => eqI
  | .op => eqO
  | f => fun x y => decide (f.enc x = f.enc y)
def Fl.dflt (f : Fl) : f.ty := f.dec []

/-! ### Integers with an interval -/
def ile (a b : Int) : Bool := match b - a with
  | .ofNat _ => true
  | .negSucc _ => false
def ieq (a b : Int) : Bool := ile a b && ile b a
def imin (a b : Int) : Int := match ile a b with
  | true => a
  | false => b
def imax (a b : Int) : Int := match ile a b with
  | true => b
  | false => a
def kmin : IntKind → Int
  | .i8 => -128
  | .i16 => -32768
  | .i32 => -2147483648
  | .i64 => -9223372036854775808
  | _ => 0
def kmax : IntKind → Int
  | .i8 => 127
  | .i16 => 32767
  | .i32 => 2147483647
  | .i64 => 9223372036854775807
  | .u8 => 255
  | .u16 => 65535
  | .u32 => 4294967295
  | .u64 => 18446744073709551615
structure SI where
  v : Int
  lo : Int
  hi : Int
def SI.lit (n : Int) : SI := ⟨n, n, n⟩
def SI.lit? (a : SI) : Option Int := match ieq a.lo a.hi with
  | true => some a.lo
  | false => none
/-- A result: bare where the interval fits the kind, wrapped where not; a literal where it is known. -/
def SI.fit (k : IntKind) (v lo hi : Int) : SI :=
  match ile (kmin k) lo && ile hi (kmax k) with
  | true => match ieq lo hi with
    | true => ⟨lo, lo, lo⟩
    | false => ⟨v, lo, hi⟩
  | false => ⟨iwrap k v, kmin k, kmax k⟩
def SI.add (k : IntKind) (a b : SI) : SI := .fit k (iadd a.v b.v) (a.lo + b.lo) (a.hi + b.hi)
def SI.sub (k : IntKind) (a b : SI) : SI := .fit k (isub a.v b.v) (a.lo - b.hi) (a.hi - b.lo)
def SI.mul (k : IntKind) (a b : SI) : SI :=
  let p := a.lo * b.lo; let q := a.lo * b.hi; let r := a.hi * b.lo; let s := a.hi * b.hi
  .fit k (imul a.v b.v) (imin (imin p q) (imin r s)) (imax (imax p q) (imax r s))
/-- The greatest magnitude. -/
def SI.mag (a : SI) : Int := imax (imax a.hi (-a.lo)) 0
def SI.nonneg (a : SI) : Bool := ile 0 a.lo
def SI.pos (a : SI) : Bool := ile 1 a.lo
/-- May the number be 0? -/
def SI.nz (a : SI) : Bool := ile 1 a.lo || ile a.hi (-1)
def SI.quo (k : IntKind) (a b : SI) : SI :=
  match a.nonneg && b.pos with
  | true => .fit k (idiv a.v b.v) (match b.lit? with | some n => a.lo / n | none => 0) (match b.lit? with | some n => a.hi / n | none => a.hi)
  | false => match b.lit?, b.pos with
    | some n, true => .fit k (itdiv a.v b.v) (a.lo.tdiv n) (a.hi.tdiv n)
    | _, _ => .fit k (itdiv a.v b.v) (-a.mag) a.mag
def SI.rem (a b : SI) : SI :=
  let m := b.mag - 1
  match a.nonneg && b.pos with
  | true => match a.lit?, b.lit? with
    | some x, some y => .lit (x % y)
    | _, _ => ⟨imod a.v b.v, 0, imin a.hi m⟩
  | false => match a.lit?, b.lit? with
    | some x, some y => .lit (x.tmod y)
    | _, _ => ⟨itmod a.v b.v, imax (-m) (imin a.lo 0), imin m (imax a.hi 0)⟩
def SI.conv (k : IntKind) (a : SI) : SI := .fit k a.v a.lo a.hi

/-! ### Values -/
inductive SC where
  | undef
  | int (k : IntKind) (i : SI)
  | bool (b : Bool) (t : Option Bool)
  | ptr (b off : Nat)
  | lptr (j n : Nat) (i : Int) (c : Nat)
  | fn (f : FuncId) (cap : List (Nat × Nat))
  | sl (j : Nat)
  | csl (b off len cap : Nat)
  | nilsl
  | mp (j : Nat)
inductive SW where
  | c (x : SC)
  | agg (cs : List SC)
inductive SV where
  | w (x : SW)
  | tup (vs : List SW)
  | any
structure Al where
  blk : Nat → Nat
  sv : Nat → Value
def SC.den (α : Al) : SC → Value
  | .undef => Go.undef
  | .int k i => .int k i.v
  | .bool b _ => .bool b
  | .ptr b off => .pointer (some ⟨α.blk b, off, none⟩)
  | .lptr j n i c => match α.sv j with
    | .slice (some a) _ _ => .pointer (some ⟨a.block, a.off + (i.toNat * n + c), none⟩)
    | _ => .pointer none
  | .fn f cap => .func (.func f) #[] (cap.map fun p => Value.pointer (some ⟨α.blk p.1, p.2, none⟩)).toArray
  | .sl j => α.sv j
  | .csl b off len cap => .slice (some ⟨α.blk b, off, none⟩) len cap
  | .nilsl => .slice none 0 0
  | .mp j => .map (some (α.blk j))
def SW.den (α : Al) : SW → Value
  | .c x => x.den α
  | .agg cs => .agg (cs.map (SC.den α)).toArray
def SV.den (α : Al) : SV → Value
  | .w x => x.den α
  | .tup vs => .tuple (vs.map (SW.den α)).toArray
  | .any => Go.undef
def SW.cells : SW → List SC
  | .c x => [x]
  | .agg cs => cs
def CK.sc : CK → Cell → SC
  | .int k, .i z => .int k ⟨z, kmin k, kmax k⟩
  | .bool, .b x => .bool x none
  | _, _ => .undef
def SC.cell : SC → Cell
  | .int _ i => .i i.v
  | .bool b _ => .b b
  | _ => .i 0
def keq (a b : IntKind) : Bool := Nat.beq a.ctorIdx b.ctorIdx
def CK.fits : CK → SC → Bool
  | .int k, .int k' i => keq k k' && ile (kmin k) i.lo && ile i.hi (kmax k)
  | .bool, .bool _ _ => true
  | _, _ => false
def fitsAll : List CK → List SC → Bool
  | [], [] => true
  | k :: ks, c :: cs => k.fits c && fitsAll ks cs
  | _, _ => false
def cksc : List CK → List Cell → List SC
  | k :: ks, c :: cs => k.sc c :: cksc ks cs
  | _, _ => []
/-- A datum as a value. -/
def Fl.sw (f : Fl) (x : f.ty) : List SC := cksc f.ks (f.enc x)
def Fl.ofSC (f : Fl) (cs : List SC) : Option f.ty := match fitsAll f.ks cs with
  | true => some (f.dec (cs.map SC.cell))
  | false => none
def cellOf : Value → Option SC
  | .int k n => some (.int k ⟨n, n, n⟩)
  | .bool b => some (.bool b (some b))
  | .slice none 0 0 => some .nilsl
  | _ => none
def cellsOf : List Value → Option (List SC)
  | [] => some []
  | v :: r => match cellOf v, cellsOf r with
    | some c, some cs => some (c :: cs)
    | _, _ => none
def ofValue : Value → Option SW
  | .agg cs => (cellsOf cs.toList).map SW.agg
  | v => (cellOf v).map SW.c

/-! ### States -/
structure Box where
  cells : List SC
  ty : TypeId
structure LB where
  f : Fl
  l : List f.ty
  own : Bool
structure MB where
  f : Fl
  m : List (f.ty × Int)
inductive Res where
  | box (b : Box)
  | list (L : LB)
  | map (M : MB)
structure St where
  tm : List (Nat × SV)
  tb : Nat → SV
  nt : Nat
  rs : List (Nat × Option Res)
  rb : Nat → Option Res
  nx : Nat
def look {α : Type} : List (Nat × α) → Nat → Option α
  | [], _ => none
  | (k, v) :: r, n => match Nat.beq k n with
    | true => some v
    | false => look r n
def St.get (S : St) (t : Nat) : SV := match look S.tm t with
  | some v => v
  | none => S.tb t
def St.res (S : St) (i : Nat) : Option Res := match look S.rs i with
  | some r => r
  | none => S.rb i
def St.put (S : St) (d : Option Tmp) (v : SV) : St := match d with
  | some t => { S with tm := (t, v) :: S.tm }
  | none => S
def addAll (rs : List (Nat × Option Res)) (n : Nat) : List Res → List (Nat × Option Res)
  | [] => rs
  | r :: l => addAll ((n, some r) :: rs) (n + 1) l
def St.add (S : St) (n : Nat) (new : List Res) : St := { S with rs := addAll S.rs n new }
def St.set (S : St) (i : Nat) (r : Option Res) : St := { S with rs := (i, r) :: S.rs }

end
end Go.Fx
