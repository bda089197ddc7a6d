import PyProof.Rows.All
import Wide.All
import OpenK.AllK
import Wide.FinOn
import KE.KStateDown
import HandS.ForMost
import HandS.Nested
import HandS.ExcCtx
import HandS.Wide
import HandS.Gcd
import HandS.Style
import HandS.RaiseMore
import HandS.SortInts
import PyProof.ReprRoads
import HandS.IsInst
import HandS.ExcField
import KE.KExcIs
import HandS.Dict
import HandS.Zip
import HandS.Iter
import HandS.Small
import HandS.HotCalls
import HandS.ExcInit
import HandS.HeadEnd
import HandS.EndTab
import HandS.HeadHook1
import HandS.Head2
import HandS.Words
import PyProof.StrLawsRepr
import PyProof.FitsInt
import PySem.Challenge.RW_twobefore_k01_errors
set_option linter.all false
set_option Elab.async false
set_option maxRecDepth 100000
/-! Mi0: the small language (IR) of the dialect, pure values, the interpreter. Own work. -/
namespace Mi
open PySem (Str PyData)

/-- a key of a dict: an int or a text -/
abbrev DK := Int ⊕ Str

/-- pure values -/
inductive PV where
  | non | bl (b : Bool) | int (i : Int) | str (x : Str)
  | tup (xs : List PV) | lst (xs : List PV) | dic (kvs : List (DK × PV))
  | ins (C : Nat) (fs : List (Str × PV)) | exc (C : Nat) (fs : List (Str × PV))
  | fn (f : Nat) | clo (l : Nat) (caps : List PV)
  | klst (xs : List PV)     -- a list that no one writes (the script)

def atomOf : Int ⊕ Str → PV
  | .inl i => .int i
  | .inr x => .str x
def PV.atom? : PV → Option (Int ⊕ Str)
  | .int i => some (.inl i)
  | .str x => some (.inr x)
  | _ => none
def dget (kvs : List (DK × PV)) (k : DK) : Option PV := match kvs with
  | [] => none
  | (j, v) :: r => if j = k then some v else dget r k
def dput (kvs : List (DK × PV)) (k : DK) (v : PV) : List (DK × PV) :=
  if (kvs.any fun kv => decide (kv.1 = k)) = true then kvs.map (fun kv => if kv.1 = k then (kv.1, v) else kv) else kvs ++ [(k, v)]

/-- what holds no closure -/
def PV.noClo : PV → Bool
  | .non | .bl _ | .int _ | .str _ | .fn _ => true
  | .tup xs => noCloL xs
  | .lst xs => noCloL xs
  | .klst _ => false
  | .dic kvs => noCloK kvs
  | .ins _ fs => noCloF fs
  | .exc _ fs => noCloF fs
  | .clo _ _ => false
where
  noCloL : List PV → Bool
    | [] => true
    | x :: xs => x.noClo && noCloL xs
  noCloK : List (DK × PV) → Bool
    | [] => true
    | (_, x) :: xs => x.noClo && noCloK xs
  noCloF : List (Str × PV) → Bool
    | [] => true
    | (_, x) :: xs => x.noClo && noCloF xs

/-- what holds no exception (a closure's captured values hold none anyway) -/
def PV.noExc : PV → Bool
  | .tup xs => noExcL xs
  | .lst xs => noExcL xs
  | .klst xs => noExcL xs
  | .dic kvs => noExcK kvs
  | .ins _ fs => noExcF fs
  | .exc _ _ => false
  | _ => true
where
  noExcL : List PV → Bool
    | [] => true
    | x :: xs => x.noExc && noExcL xs
  noExcK : List (DK × PV) → Bool
    | [] => true
    | (_, x) :: xs => x.noExc && noExcK xs
  noExcF : List (Str × PV) → Bool
    | [] => true
    | (_, x) :: xs => x.noExc && noExcF xs

def keyD : DK → PyData
  | .inl i => .int i
  | .inr x => .str x
/-- as plain data -/
def PV.dat : PV → Option PyData
  | .non => some .none
  | .bl b => some (.bool b)
  | .int i => some (.int i)
  | .str x => some (.str x)
  | .tup xs => match datL xs with
    | some ds => some (.tuple ds)
    | none => none
  | .lst xs => match datL xs with
    | some ds => some (.list ds)
    | none => none
  | .dic kvs => match datK kvs with
    | some ds => some (.dict ds)
    | none => none
  | _ => none
where
  datL : List PV → Option (List PyData)
    | [] => some []
    | x :: xs => match x.dat, datL xs with
      | some d, some ds => some (d :: ds)
      | _, _ => none
  datK : List (DK × PV) → Option (List (PyData × PyData))
    | [] => some []
    | (k, x) :: xs => match x.dat, datK xs with
      | some d, some ds => some ((keyD k, d) :: ds)
      | _, _ => none

/-- == of plain data -/
def eqvD (a b : PV) : Option Bool := match a.dat, b.dat with
  | some x, some y => if PySem.SeqAt.shaped x = true ∧ PySem.SeqAt.shaped y = true then some (PyData.eqv x y) else none
  | _, _ => none
def eqvP (a b : PV) : Option Bool := match a, b with
  | .int a, .int b => some (decide (a = b))
  | .str a, .str b => some (decide (a = b))
  | .bl a, .bl b => some (decide (a = b))
  | .non, .non => some true
  | a, b => eqvD a b
def big : Nat := 16777216
inductive Op where | add | sub | mul | fdiv | mod | pow | shl
  deriving DecidableEq
inductive Cp where | eq | ne | lt | le | gt | ge | is | isn | mem | nmem
  deriving DecidableEq
def mulOk (a b : Int) : Prop := a.natAbs.log2 + b.natAbs.log2 < 100000000
instance : Decidable (mulOk a b) := inferInstanceAs (Decidable (_ < _))
/-- a op b: is the value a new list? -/
def Op.ap : Op → PV → PV → Option (Bool × PV)
  | .add, .int a, .int b => some (false, .int (a + b))
  | .add, .str a, .str b => if a.length + b.length ≤ big then some (false, .str (a ++ b)) else none
  | .add, .lst a, .lst b => if a.length + b.length ≤ big then some (true, .lst (a ++ b)) else none
  | .add, .tup a, .tup b => if a.isEmpty = false ∧ a.length + b.length ≤ big then some (false, .tup (a ++ b)) else none
  | .sub, .int a, .int b => some (false, .int (a - b))
  | .mul, .int a, .int b => if mulOk a b then some (false, .int (a * b)) else none
  | .fdiv, .int a, .int b => if 0 < b ∧ PySem.Builtin.divisionGoesByPylong a b = false then some (false, .int (a / b)) else none
  | .mod, .int a, .int b => if 0 < b then some (false, .int (a % b)) else none
  | .pow, .int a, .int b => if 0 ≤ b ∧ b ≤ 1000000 ∧ a.natAbs < 2 ^ 64 then some (false, .int (a ^ b.toNat)) else none
  | .shl, .int a, .int b => if 0 ≤ b ∧ b ≤ 1000000 ∧ a.natAbs < 2 ^ 64 then some (false, .int (a * 2 ^ b.toNat)) else none
  | _, _, _ => none
/-- x is y, y None, True or False -/
def isNon : PV → Bool
  | .non => true
  | _ => false
def isBl (b : Bool) : PV → Bool
  | .bl c => c == b
  | _ => false
def isP (x : PV) : PV → Option Bool
  | .non => some (isNon x)
  | .bl b => some (isBl b x)
  | _ => none
def memL (a : PV) (xs : List PV) : Option Bool := match a.dat, PV.dat.datL xs with
  | some d, some ds => if PySem.SeqAt.shaped d = true ∧ PyData.canLayAll0 ds = true then some (ds.any fun z => PyData.eqv z d) else none
  | _, _ => none
def memP (a : PV) : PV → Option Bool
  | .lst xs => memL a xs
  | .tup xs => memL a xs
  | .dic kvs => match a.atom? with
    | some k => some (dget kvs k).isSome
    | none => none
  | _ => none
def Cp.ap : Cp → PV → PV → Option Bool
  | .eq, a, b => eqvP a b
  | .ne, a, b => (eqvP a b).map (!·)
  | .lt, .int a, .int b => some (decide (a < b))
  | .le, .int a, .int b => some (decide (a ≤ b))
  | .gt, .int a, .int b => some (decide (b < a))
  | .ge, .int a, .int b => some (decide (b ≤ a))
  | .is, a, b => isP a b
  | .isn, a, b => (isP a b).map (!·)
  | .mem, a, b => memP a b
  | .nmem, a, b => (memP a b).map (!·)
  | _, _, _ => none

/-- built-in functions by values; the Bool: a new list (or dict) -/
inductive Bi where
  | len | abs | int | list | tuple | max | min | all | any | sum | sorted | repr | str | gcd | isqrt | dict | sset
  deriving DecidableEq
def allB : List PV → Option Bool
  | [] => some true
  | .bl b :: xs => match allB xs with
    | some c => some (b && c)
    | none => none
  | _ => none
def anyB : List PV → Option Bool
  | [] => some false
  | .bl b :: xs => match anyB xs with
    | some c => some (b || c)
    | none => none
  | _ => none
def intsOf : List PV → Option (List Int)
  | [] => some []
  | .int i :: xs => match intsOf xs with
    | some is => some (i :: is)
    | none => none
  | _ => none
def insI (i : Int) : List Int → List Int
  | [] => [i]
  | j :: r => if i ≤ j then i :: j :: r else j :: insI i r
def sortI : List Int → List Int
  | [] => []
  | i :: r => insI i (sortI r)
def maxI : Int → List Int → Int
  | m, [] => m
  | m, j :: r => maxI (if m < j then j else m) r
def minI : Int → List Int → Int
  | m, [] => m
  | m, j :: r => minI (if j < m then j else m) r
def itemsP : PV → Option (List PV)
  | .lst xs => some xs
  | .klst xs => some xs
  | .tup xs => some xs
  | _ => none
def reprP (a : PV) : Option Str := match a.dat with
  | some d => if d.showable = true ∧ d.depth ≤ 60 ∧ d.shown.length ≤ big then some d.shown else none
  | none => none
def Bi.ap : Bi → List PV → Option (Bool × PV)
  | .len, [.lst xs] => some (false, .int xs.length)
  | .len, [.klst xs] => some (false, .int xs.length)
  | .len, [.tup xs] => some (false, .int xs.length)
  | .len, [.str x] => if x.length ≤ big then some (false, .int x.length) else none
  | .len, [.dic kvs] => some (false, .int kvs.length)
  | .abs, [.int i] => some (false, .int (if i < 0 then -i else i))
  | .int, [.int i] => some (false, .int i)
  | .list, [a] => match itemsP a with
    | some xs => if xs.length ≤ big then some (true, .lst xs) else none
    | none => none
  | .tuple, [a] => match itemsP a with
    | some xs => if xs.length ≤ big then some (false, .tup xs) else none
    | none => none
  | .max, [.int i, .int j] => some (false, .int (if j > i then j else i))
  | .min, [.int i, .int j] => some (false, .int (if j < i then j else i))
  | .max, [.lst xs] => match intsOf xs with
    | some (i :: r) => some (false, .int (maxI i r))
    | _ => none
  | .min, [.lst xs] => match intsOf xs with
    | some (i :: r) => some (false, .int (minI i r))
    | _ => none
  | .all, [.lst xs] => match allB xs with
    | some b => some (false, .bl b)
    | none => none
  | .any, [.lst xs] => match anyB xs with
    | some b => some (false, .bl b)
    | none => none
  | .sum, [.lst xs] => match intsOf xs with
    | some is => some (false, .int is.sum)
    | none => none
  | .sorted, [.lst xs] => match intsOf xs with
    | some is => some (true, .lst ((sortI is).map .int))
    | none => none
  | .repr, [a] => match reprP a with
    | some x => some (false, .str x)
    | none => none
  | .str, [.int i] => if i.natAbs.log2 < 1920 then some (false, .str (toString i)) else none
  | .gcd, [.int i, .int j] => some (false, .int (Int.gcd i j))
  | _, _ => none

/-- a place in a sequence of n items -/
def place (n : Nat) (i : Int) : Option Nat := if 0 ≤ i then (if i < n then some i.toNat else none) else (if 0 ≤ i + n then some (i + n).toNat else none)
def ixP : PV → PV → Option PV
  | .lst xs, .int i => (place xs.length i).bind (xs[·]?)
  | .tup xs, .int i => (place xs.length i).bind (xs[·]?)
  | .dic kvs, k => match k.atom? with
    | some k => dget kvs k
    | none => none
  | _, _ => none
/-- a slice (no step) -/
def cut (xs : List α) (lo hi : Option Int) : List α := (xs.drop (HT.sIx xs.length 0 lo)).take (HT.sIx xs.length xs.length hi - HT.sIx xs.length 0 lo)
def slP (a : PV) (lo hi : Option Int) : Option (Bool × PV) := match a with
  | .lst xs => some (true, .lst (cut xs lo hi))
  | .tup xs => if HT.sIx xs.length 0 lo = 0 ∧ HT.sIx xs.length xs.length hi = xs.length then none else some (false, .tup (cut xs lo hi))
  | _ => none
def attrP (f : Str) : PV → Option PV
  | .ins _ fs => fs.lookup f
  | .exc _ fs => fs.lookup f
  | _ => none

/-- how a value is held: shared (never written again), owned (no one else has it), borrowed (a slot's own, just read) -/
inductive Fl where | sh | ow | bo
  deriving DecidableEq
def flOf : Bool → Fl
  | true => .ow
  | false => .sh
/-- a slot -/
inductive Sl where
  | no | sh (v : PV) | ow (v : PV)
abbrev Slots := List Sl
def Sl.val? : Sl → Option PV
  | .no => none
  | .sh v => some v
  | .ow v => some v
def Sl.noExc : Sl → Bool
  | .no => true
  | .sh v => v.noExc
  | .ow v => v.noExc
def Sl.fz : Sl → Sl
  | .ow v => .sh v
  | s => s

inductive Rs (α : Type) where
  | ok (a : α) (st : Slots) | ex (C : Nat) (fs : List (Str × PV)) (st : Slots) | bad
def Rs.bind {α β : Type} (r : Rs α) (k : α → Slots → Rs β) : Rs β := match r with
  | .ok a st => k a st
  | .ex C fs st => .ex C fs st
  | .bad => .bad
/-- a value that is wanted -/
def Rs.of {α : Type} (o : Option α) (st : Slots) : Rs α := match o with
  | some a => .ok a st
  | none => .bad

/-- what a call gives: the value (is it the caller's own?), and what the in-out parameter (the first) holds behind it -/
inductive Out where
  | val (own : Bool) (v : PV) (io : Option PV)
  | exc (C : Nat) (fs : List (Str × PV)) (io : Option PV)
  | bad
/-- functions by number; constants of modules by number; classes -/
structure G where
  call : Nat → List PV → Out
  con : Nat → PV
  sub : Nat → Nat → Bool      -- exception class C is (a subclass of) D
  flds : Nat → List Str        -- an exception class's fields
  init : Nat → Nat             -- a class's __init__

/-- what a name in isinstance stands for -/
inductive Ty where | int | bool | str | tuple | list | dict | cls (C : Nat) | xcls (C : Nat) | ve
  deriving DecidableEq
/-- a value's kind -/
inductive Kd where | non | bool | int | str | tuple | list | dict | ins (C : Nat) | exc (C : Nat)
  deriving DecidableEq
def kdP : PV → Option Kd
  | .non => some .non
  | .bl _ => some .bool
  | .int _ => some .int
  | .str _ => some .str
  | .tup _ => some .tuple
  | .lst _ => some .list
  | .klst _ => some .list
  | .dic _ => some .dict
  | .ins C _ => some (.ins C)
  | .exc C _ => some (.exc C)
  | _ => none
def Kd.isa (sub : Nat → Nat → Bool) : Kd → Ty → Bool
  | .int, .int => true
  | .bool, .int => true
  | .bool, .bool => true
  | .str, .str => true
  | .tuple, .tuple => true
  | .list, .list => true
  | .dict, .dict => true
  | .ins D, .cls C => D == C
  | .exc D, .xcls C => sub D C
  | .exc _, .ve => true
  | _, _ => false

/-- targets of an assignment -/
inductive Tg where
  | n (i : Nat) | t (ts : List Tg)

mutual
inductive E where
  | k (x : PV)                              -- a constant: None, a bool, an int, a text
  | gl (n : Nat)                            -- a module's constant
  | fn (f : Nat)                            -- a def as a value
  | sv (i : Nat)                            -- a slot's value, from now on shared
  | mv (i : Nat)                            -- a slot's value, moved out
  | bw (i : Nat)                            -- a slot's value, just read
  | bin (o : Op) (a b : E)
  | neg (a : E)
  | not (a : E)
  | cmp (o : Cp) (a b : E)
  | chain (o p : Cp) (a b c : E)
  | and (a b : E)
  | or (a b : E)
  | ite (c a b : E)
  | call (f : Nat) (as : Es)
  | calli (f : Nat) (i : Nat) (as : Es)     -- the first argument is slot i, in-out
  | callv (i : Nat) (as : Es)               -- slot i holds a def or a closure
  | mk (C : Nat) (as : Es)
  | bi (k : Bi) (as : Es)
  | isi (a : E) (ts : List Ty)
  | tup (as : Es)
  | lst (as : Es)
  | dct (ks : List DK) (as : Es)
  | ix (a b : E)
  | sl (a : E) (lo hi : Es)                 -- nil: left out
  | rev (a : E)
  | at (a : E) (f : Str)
  | lc (t : Tg) (it : I) (c : Es) (e : E)   -- c: nil or one test
  | lam (l : Nat) (caps : List Nat)
  | pop (i : Nat)
  | get (i : Nat) (x d : E)
inductive Es where
  | nil | cons (a : E) (r : Es)
inductive I where
  | e (a : E) | rng1 (a : E) | rng2 (a b : E) | rng3 (a b : E) (c : Int) | zip2 (a b : E) | enum (a : E)
end

/-- does it write a slot's object? -/
def E.io : E → Bool
  | .calli _ _ _ => true
  | .pop _ => true
  | .bin _ a b => a.io || b.io
  | .neg a => a.io
  | .not a => a.io
  | .cmp _ a b => a.io || b.io
  | .chain _ _ a b c => a.io || b.io || c.io
  | .and a b => a.io || b.io
  | .or a b => a.io || b.io
  | .ite c a b => c.io || a.io || b.io
  | .call _ as => ioL as
  | .callv _ as => ioL as
  | .mk _ as => ioL as
  | .bi _ as => ioL as
  | .isi a _ => a.io
  | .tup as => ioL as
  | .lst as => ioL as
  | .dct _ as => ioL as
  | .ix a b => a.io || b.io
  | .sl a lo hi => a.io || ioL lo || ioL hi
  | .rev a => a.io
  | .at a _ => a.io
  | .lc _ it c e => ioI it || ioL c || e.io
  | .get _ x d => x.io || d.io
  | _ => false
where
  ioL : Es → Bool
    | .nil => false
    | .cons a r => a.io || ioL r
  ioI : I → Bool
    | .e a => a.io
    | .rng1 a => a.io
    | .rng2 a b => a.io || b.io
    | .rng3 a b _ => a.io || b.io
    | .zip2 a b => a.io || b.io
    | .enum a => a.io

/-- a borrowed value may wait only while nothing is written -/
def wait (f : Fl) (io : Bool) : Bool := f != .bo || !io
/-- a value that is kept: not a borrowed one -/
def keepV (f : Fl) : Bool := f != .bo


def itemsT : PV → Option (List PV)
  | .tup xs => some xs
  | _ => none
mutual
def Tg.set (t : Tg) (v : PV) (st : Slots) : Option Slots := match t with
  | .n i => if i < st.length then some (st.set i (.sh v)) else none
  | .t ts => match itemsT v with
    | some xs => setL ts xs st
    | none => none
def setL (ts : List Tg) (xs : List PV) (st : Slots) : Option Slots := match ts, xs with
  | [], [] => some st
  | t :: ts, x :: xs => match t.set x st with
    | some st => setL ts xs st
    | none => none
  | _, _ => none
end
/-- the slots of a target -/
def Tg.slots : Tg → List Nat
  | .n i => [i]
  | .t ts => slotsL ts
where
  slotsL : List Tg → List Nat
    | [] => []
    | a :: as => a.slots ++ slotsL as
def wipeS (st : Slots) : List Nat → Slots
  | [] => st
  | i :: is => (wipeS st is).set i .no
def isOw : Option Sl → Bool
  | some (.ow _) => true
  | _ => false
/-- put back what stood at the slots is in st0 -/
def backS (st0 st : Slots) : List Nat → Slots
  | [] => st
  | i :: is => (backS st0 st is).set i (st0[i]?.getD .no)
def consO : Option PV → List PV → List PV
  | some y, ys => y :: ys
  | none, ys => ys
def lcRun (step : PV → Slots → Rs (Option PV)) : List PV → Slots → Rs (List PV)
  | [], st => .ok [] st
  | x :: xs, st => (step x st).bind fun o st => (lcRun step xs st).bind fun ys st => .ok (consO o ys) st
def Rs.noEx {α : Type} (r : Rs α) : Rs α := match r with
  | .ex _ _ _ => .bad
  | r => r
/-- slots read to be captured -/
def capsR : List Nat → Slots → Rs (List PV)
  | [], st => .ok [] st
  | i :: is, st => match st[i]? with
    | some (.sh v) => (capsR is st).bind fun vs st => .ok (v :: vs) st
    | some (.ow v) => (capsR is (st.set i (.sh v))).bind fun vs st => .ok (v :: vs) st
    | _ => .bad
def lim : Int := 4611686018427387904
def rangeP (lo hi : Int) : Option (List PV) := if -lim ≤ lo ∧ lo < lim ∧ -lim ≤ hi ∧ hi < lim then some ((List.range (hi - lo).toNat).map fun (i : Nat) => PV.int (lo + i)) else none
/-- lo, lo + 2, .. below hi -/
def rangeP2 (lo hi : Int) : Option (List PV) := if -lim ≤ lo ∧ lo < lim ∧ -lim ≤ hi ∧ hi < lim then some ((List.range (if lo < hi then (hi - lo - 1) / 2 + 1 else 0).toNat).map fun (i : Nat) => PV.int (lo + i * 2)) else none
def rangeDn (lo hi : Int) : Option (List PV) := if -lim ≤ lo ∧ lo < lim ∧ -lim ≤ hi ∧ hi < lim then some ((List.range (lo - hi).toNat).map fun (i : Nat) => PV.int (lo + i * (-1))) else none
def rangeP3 (m n c : Int) : Option (List PV) := if c = -1 then rangeDn m n else if c = 2 then rangeP2 m n else none
def listP : PV → Option (List PV)
  | .lst xs => some xs
  | .klst xs => some xs
  | _ => none
def zipP (x y : PV) : Option (List PV) := match listP x, listP y with
  | some xs, some ys => some ((xs.zip ys).map fun p => .tup [p.1, p.2])
  | _, _ => match x, y with
    | .tup xs, .tup ys => some ((xs.zip ys).map fun p => .tup [p.1, p.2])
    | _, _ => none
def intP : PV → Option Int
  | .int i => some i
  | _ => none
def boolP : PV → Option Bool
  | .bl b => some b
  | _ => none
def putF (f : Str) (v : PV) : List (Str × PV) → List (Str × PV)
  | [] => [(f, v)]
  | (g, u) :: r => if g = f then (g, v) :: r else (g, u) :: putF f v r
def dctP : List DK → List PV → List (DK × PV) → Option (List (DK × PV))
  | [], [], acc => some acc
  | k :: ks, v :: vs, acc => dctP ks vs (dput acc k v)
  | _, _, _ => none
def keepAll (xs : List (Fl × PV)) : Bool := xs.all fun x => keepV x.1
def valsOf (xs : List (Fl × PV)) : List PV := xs.map (·.2)
def outR (r : Out) (st : Slots) : Rs (Fl × PV) := match r with
  | .val o v none => .ok (flOf o, v) st
  | .exc C fs none => .ex C fs st
  | _ => .bad
def outI (r : Out) (i : Nat) (st : Slots) : Rs (Fl × PV) := match r with
  | .val o v (some p) => .ok (flOf o, v) (st.set i (.ow p))
  | .exc C fs (some p) => .ex C fs (st.set i (.ow p))
  | _ => .bad
def outM (r : Out) (st : Slots) : Rs (Fl × PV) := match r with
  | .val _ .non (some p) => .ok (.ow, p) st
  | .exc C fs (some _) => .ex C fs st
  | _ => .bad
def resO (f : Fl) (o : Option PV) (st : Slots) : Rs (Fl × PV) := match o with
  | some v => .ok (f, v) st
  | none => .bad
def resF (o : Option (Bool × PV)) (st : Slots) : Rs (Fl × PV) := match o with
  | some (n, v) => .ok (flOf n, v) st
  | none => .bad
def resB (o : Option Bool) (st : Slots) : Rs (Fl × PV) := match o with
  | some b => .ok (.sh, .bl b) st
  | none => .bad
def dicP : Option Sl → Option (List (DK × PV))
  | some (.ow (.dic kvs)) => some kvs
  | some (.sh (.dic kvs)) => some kvs
  | _ => none
def slG (x : PV) (l h : List PV) (st : Slots) : Rs (Fl × PV) := match l, h with
  | [], [] => resF (slP x none none) st
  | [.int i], [] => resF (slP x (some i) none) st
  | [], [.int j] => resF (slP x none (some j)) st
  | [.int i], [.int j] => resF (slP x (some i) (some j)) st
  | _, _ => .bad
def lcEnd (st0 : Slots) (is : List Nat) (r : Rs (List PV)) : Rs (Fl × PV) := match r with
  | .ok ys st => .ok (.ow, .lst ys) (backS st0 st is)
  | _ => .bad

def noCloAll (vs : List PV) : Bool := vs.all PV.noClo
mutual
def evE (Γ : G) : E → Slots → Rs (Fl × PV)
  | .k x, st => .ok (.sh, x) st
  | .gl n, st => .ok (.sh, Γ.con n) st
  | .fn f, st => .ok (.sh, .fn f) st
  | .sv i, st => match st[i]? with
    | some (.sh v) => .ok (.sh, v) st
    | some (.ow v) => .ok (.sh, v) (st.set i (.sh v))
    | _ => .bad
  | .mv i, st => match st[i]? with
    | some (.sh v) => .ok (.sh, v) st
    | some (.ow v) => .ok (.ow, v) (st.set i .no)
    | _ => .bad
  | .bw i, st => match st[i]? with
    | some (.sh v) => .ok (.sh, v) st
    | some (.ow v) => .ok (.bo, v) st
    | _ => .bad
  | .bin o a b, st => (evE Γ a st).bind fun x st => (evE Γ b st).bind fun y st => if wait x.1 b.io then resF (o.ap x.2 y.2) st else .bad
  | .neg a, st => (evE Γ a st).bind fun x st => match intP x.2 with
    | some i => .ok (.sh, .int (-i)) st
    | none => .bad
  | .not a, st => (evE Γ a st).bind fun x st => match boolP x.2 with
    | some b => .ok (.sh, .bl (!b)) st
    | none => .bad
  | .cmp o a b, st => (evE Γ a st).bind fun x st => (evE Γ b st).bind fun y st => if wait x.1 b.io then resB (o.ap x.2 y.2) st else .bad
  | .chain o p a b c, st => (evE Γ a st).bind fun x st => (evE Γ b st).bind fun y st => if wait x.1 b.io then match y.2 with
      | .int j => match o.ap x.2 (.int j) with
        | some true => (evE Γ c st).bind fun z st => resB (p.ap (.int j) z.2) st
        | some false => .ok (.sh, .bl false) st
        | none => .bad
      | _ => .bad
    else .bad
  | .and a b, st => (evE Γ a st).bind fun x st => match boolP x.2 with
    | some true => evE Γ b st
    | some false => .ok (.sh, .bl false) st
    | none => .bad
  | .or a b, st => (evE Γ a st).bind fun x st => match boolP x.2 with
    | some true => .ok (.sh, .bl true) st
    | some false => evE Γ b st
    | none => .bad
  | .ite c a b, st => (evE Γ c st).bind fun x st => match boolP x.2 with
    | some true => evE Γ a st
    | some false => evE Γ b st
    | none => .bad
  | .call f as, st => (evEs Γ as st).bind fun xs st => if keepAll xs then outR (Γ.call f (valsOf xs)) st else .bad
  | .calli f i as, st => if isOw st[i]? then (evEs Γ as st).bind fun xs st => if keepAll xs then match st[i]? with
      | some (.ow p) => outI (Γ.call f (p :: valsOf xs)) i st
      | _ => .bad
    else .bad
    else .bad
  | .callv i as, st => match st[i]? with
    | some (.sh (.fn f)) => (evEs Γ as st).bind fun xs st => if keepAll xs then (if noCloAll (valsOf xs) = true then outR (Γ.call f (valsOf xs)) st else .bad) else .bad
    | some (.sh (.clo l cs)) => (evEs Γ as st).bind fun xs st => if keepAll xs then outR (Γ.call l (valsOf xs ++ cs)) st else .bad
    | _ => .bad
  | .mk C as, st => (evEs Γ as st).bind fun xs st => if keepAll xs then outM (Γ.call (Γ.init C) (.ins C [] :: valsOf xs)) st else .bad
  | .bi k as, st => (evEs Γ as st).bind fun xs st => resF (k.ap (valsOf xs)) st
  | .isi a ts, st => (evE Γ a st).bind fun x st => match kdP x.2 with
    | some k => .ok (.sh, .bl (ts.any (k.isa Γ.sub))) st
    | none => .bad
  | .tup as, st => (evEs Γ as st).bind fun xs st => if keepAll xs then .ok (.sh, .tup (valsOf xs)) st else .bad
  | .lst as, st => (evEs Γ as st).bind fun xs st => if keepAll xs then .ok (.ow, .lst (valsOf xs)) st else .bad
  | .dct ks as, st => (evEs Γ as st).bind fun xs st => if keepAll xs then match dctP ks (valsOf xs) [] with
      | some kvs => .ok (.ow, .dic kvs) st
      | none => .bad
    else .bad
  | .ix a b, st => (evE Γ a st).bind fun x st => (evE Γ b st).bind fun y st => if wait x.1 b.io then resO .sh (ixP x.2 y.2) st else .bad
  | .sl a lo hi, st => (evE Γ a st).bind fun x st => (evEs Γ lo st).bind fun l st => (evEs Γ hi st).bind fun h st => if (wait x.1 (E.io.ioL lo || E.io.ioL hi) && l.all fun y => wait y.1 (E.io.ioL hi)) = true then slG x.2 (valsOf l) (valsOf h) st else .bad
  | .rev a, st => (evE Γ a st).bind fun x st => match x.2 with
    | .lst xs => .ok (.ow, .lst xs.reverse) st
    | _ => .bad
  | .at a f, st => (evE Γ a st).bind fun x st => resO .sh (attrP f x.2) st
  | .lc t it c e, st => (evI Γ it st).bind fun xs st => if xs.2.length ≤ big ∧ (t.slots.all fun i => !isOw st[i]?) = true ∧ wait xs.1 (E.io.ioL c || e.io) = true then
      lcEnd st t.slots (lcRun (fun x st => match t.set x (wipeS st t.slots) with
        | some st => (evEs Γ c st).bind fun b st => match valsOf b with
          | [] | [.bl true] => (evE Γ e st).bind fun y st => if keepV y.1 then .ok (some y.2) (wipeS st t.slots) else .bad
          | [.bl false] => .ok none (wipeS st t.slots)
          | _ => .bad
        | none => .bad) xs.2 st)
    else .bad
  | .lam l cs, st => (capsR cs st).bind fun vs st => .ok (.sh, .clo l vs) st
  | .pop i, st => match st[i]? with
    | some (.ow (.lst xs)) => match xs.getLast? with
      | some x => .ok (.sh, x) (st.set i (.ow (.lst xs.dropLast)))
      | none => .bad
    | _ => .bad
  | .get i k d, st => match dicP st[i]? with
    | some _ => (evE Γ k st).bind fun y st => (evE Γ d st).bind fun z st => if wait y.1 d.io then match dicP st[i]?, y.2.atom? with
      | some kvs, some k => if keepV z.1 then .ok (.sh, (dget kvs k).getD z.2) st else .bad
      | _, _ => .bad
      else .bad
    | none => .bad
def evEs (Γ : G) : Es → Slots → Rs (List (Fl × PV))
  | .nil, st => .ok [] st
  | .cons a r, st => (evE Γ a st).bind fun x st => (evEs Γ r st).bind fun xs st => if wait x.1 (E.io.ioL r) then .ok (x :: xs) st else .bad
def evI (Γ : G) : I → Slots → Rs (Fl × List PV)
  | .e a, st => (evE Γ a st).bind fun x st => match itemsP x.2 with
    | some xs => .ok (x.1, xs) st
    | none => .bad
  | .rng1 a, st => (evE Γ a st).bind fun x st => match intP x.2 with
    | some n => match rangeP 0 n with
      | some xs => .ok (.sh, xs) st
      | none => .bad
    | none => .bad
  | .rng2 a b, st => (evE Γ a st).bind fun x st => (evE Γ b st).bind fun y st => if wait x.1 b.io then match intP x.2, intP y.2 with
    | some m, some n => match rangeP m n with
      | some xs => .ok (.sh, xs) st
      | none => .bad
    | _, _ => .bad
    else .bad
  | .rng3 a b c, st => (evE Γ a st).bind fun x st => (evE Γ b st).bind fun y st => if wait x.1 b.io then match intP x.2, intP y.2 with
    | some m, some n => match rangeP3 m n c with
      | some xs => .ok (.sh, xs) st
      | none => .bad
    | _, _ => .bad
    else .bad
  | .zip2 a b, st => (evE Γ a st).bind fun x st => (evE Γ b st).bind fun y st => if wait x.1 b.io then match zipP x.2 y.2 with
    | some zs => .ok (if x.1 = .bo ∨ y.1 = .bo then .bo else .sh, zs) st
    | none => .bad
    else .bad
  | .enum a, st => (evE Γ a st).bind fun x st => match listP x.2 with
    | some xs => .ok (x.1, xs.zipIdx.map fun p => .tup [.int p.2, p.1]) st
    | none => .bad
end

/-! ### statements -/
mutual
inductive S where
  | set (i : Nat) (e : E)
  | unp (t : Tg) (e : E)
  | par (is : List Nat) (es : Es)
  | setix (i : Nat) (x e : E)
  | setat (i : Nat) (f : Str) (e : E)
  | aug (i : Nat) (o : Op) (e : E)
  | app (i : Nat) (e : E)
  | ext (i : Nat) (e : E)
  | ex (e : E)
  | ret (e : E)
  | retN
  | ifs (c : E) (a b : Ss)
  | whl (c : E) (b : Ss)
  | for (t : Tg) (it : I) (b : Ss)
  | rais (C : Nat) (as : Es)
  | tr (b : Ss) (hs : Hs)
  | pass | brk | cont
inductive Ss where
  | nil | cons (s : S) (r : Ss)
inductive Hs where
  | nil | cons (cs : List Nat) (i : Option Nat) (b : Ss) (r : Hs)
end
/-- how a statement ends -/
inductive Fw where
  | nx | rt (f : Fl) (v : PV) | bk | ct
def Fw.noExc : Fw → Bool
  | .rt _ v => v.noExc
  | _ => true
def whileM {σ ρ : Type} (step : σ → Option (σ ⊕ ρ)) (s : σ) : Option ρ :=
  match step s with
  | none => none
  | some (.inl s') => whileM step s'
  | some (.inr r) => some r
partial_fixpoint
/-- a while's turn -/
def whlStep (c : Slots → Rs (Fl × PV)) (b : Slots → Rs Fw) (st : Slots) : Option (Slots ⊕ Rs Fw) := match c st with
  | .ok x st => match boolP x.2 with
    | some true => match b st with
      | .ok .nx st => some (.inl st)
      | .ok .ct st => some (.inl st)
      | .ok .bk st => some (.inr (.ok .nx st))
      | r => some (.inr r)
    | some false => some (.inr (.ok .nx st))
    | none => none
  | .ex C fs st => some (.inr (.ex C fs st))
  | .bad => none
def whl (c : Slots → Rs (Fl × PV)) (b : Slots → Rs Fw) (st : Slots) : Rs Fw := (whileM (whlStep c b) st).getD .bad
def forRun (step : PV → Slots → Rs Fw) : List PV → Slots → Rs Fw
  | [], st => .ok .nx st
  | x :: xs, st => (step x st).bind fun w st => match w with
    | .nx => forRun step xs st
    | .ct => forRun step xs st
    | .bk => .ok .nx st
    | .rt f v => .ok (.rt f v) st
def setOwn (i : Nat) (x : Fl × PV) (st : Slots) : Rs Fw := match x.1 with
  | .sh => if i < st.length then .ok .nx (st.set i (.sh x.2)) else .bad
  | .ow => if i < st.length then .ok .nx (st.set i (.ow x.2)) else .bad
  | .bo => .bad
def setAll : List Nat → List (Fl × PV) → Slots → Rs Fw
  | [], [], st => .ok .nx st
  | i :: is, x :: xs, st => (setOwn i x st).bind fun _ st => setAll is xs st
  | _, _, _ => .bad
def storeP (p : PV) (k v : PV) : Option PV := match p with
  | .dic kvs => match k.atom? with
    | some k => if kvs.length < big then some (.dic (dput kvs k v)) else none
    | none => none
  | .lst xs => match k with
    | .int i => match place xs.length i with
      | some j => some (.lst (xs.set j v))
      | none => none
    | _ => none
  | _ => none
def lstO : Option Sl → Option (List PV)
  | some (.ow (.lst xs)) => some xs
  | _ => none

mutual
def evS (Γ : G) : S → Slots → Rs Fw
  | .set i e, st => (evE Γ e st).bind fun x st => setOwn i x st
  | .unp t e, st => (evE Γ e st).bind fun x st => if keepV x.1 then match t.set x.2 st with
      | some st => .ok .nx st
      | none => .bad
    else .bad
  | .par is es, st => (evEs Γ es st).bind fun xs st => setAll is xs st
  | .setix i k e, st => if isOw st[i]? then (evE Γ e st).bind fun x st => (evE Γ k st).bind fun y st => if wait x.1 k.io then if keepV x.1 then match st[i]? with
      | some (.ow p) => match storeP p y.2 x.2 with
        | some q => .ok .nx (st.set i (.ow q))
        | none => .bad
      | _ => .bad
    else .bad
    else .bad
    else .bad
  | .setat i f e, st => (evE Γ e st).bind fun x st => if keepV x.1 then match st[i]? with
      | some (.ow (.ins C fs)) => if fs.length < 1000 then .ok .nx (st.set i (.ow (.ins C (putF f x.2 fs)))) else .bad
      | _ => .bad
    else .bad
  | .aug i o e, st => match st[i]? with
    | some (.sh (.int a)) => (evE Γ e st).bind fun y st => match o, y.2 with
      | .add, .int b => if i < st.length then .ok .nx (st.set i (.sh (.int (a + b)))) else .bad
      | _, _ => .bad
    | _ => .bad
  | .app i e, st => if (lstO st[i]?).isSome then (evE Γ e st).bind fun x st => if keepV x.1 then match lstO st[i]? with
      | some xs => if xs.length < big then .ok .nx (st.set i (.ow (.lst (xs ++ [x.2])))) else .bad
      | none => .bad
    else .bad
    else .bad
  | .ext i e, st => if (lstO st[i]?).isSome then (evE Γ e st).bind fun x st => match lstO st[i]?, x.2 with
      | some xs, .lst ys => if xs.length + ys.length ≤ big ∧ x.1 ≠ .bo then .ok .nx (st.set i (.ow (.lst (xs ++ ys)))) else .bad
      | _, _ => .bad
    else .bad
  | .ex e, st => (evE Γ e st).bind fun _ st => .ok .nx st
  | .ret e, st => (evE Γ e st).bind fun x st => if keepV x.1 then .ok (.rt x.1 x.2) st else .bad
  | .retN, st => .ok (.rt .sh .non) st
  | .ifs c a b, st => (evE Γ c st).bind fun x st => match boolP x.2 with
    | some true => evSs Γ a st
    | some false => evSs Γ b st
    | none => .bad
  | .whl c b, st => whl (evE Γ c) (evSs Γ b) st
  | .for t it b, st => (evI Γ it st).bind fun xs st => if xs.1 ≠ .bo then forRun (fun x st => match t.set x st with
      | some st => evSs Γ b st
      | none => .bad) xs.2 st else .bad
  | .rais C as, st => (evEs Γ as st).bind fun xs st => if (keepAll xs && noCloAll (valsOf xs)) = true ∧ xs.length = (Γ.flds C).length then .ex C ((Γ.flds C).zip (valsOf xs)).reverse st else .bad
  | .tr b hs, st => match evSs Γ b st with
    | .ex C fs st => evHs Γ hs C fs st
    | r => r
  | .pass, st => .ok .nx st
  | .brk, st => .ok .bk st
  | .cont, st => .ok .ct st
def evSs (Γ : G) : Ss → Slots → Rs Fw
  | .nil, st => .ok .nx st
  | .cons s r, st => (evS Γ s st).bind fun w st => match w with
    | .nx => evSs Γ r st
    | w => .ok w st
def evHs (Γ : G) : Hs → Nat → List (Str × PV) → Slots → Rs Fw
  | .nil, C, fs, st => .ex C fs st
  | .cons cs i b r, C, fs, st => if cs.any (Γ.sub C) then match i with
      | none => (evSs Γ b st).noEx
      | some i => if i < st.length then match evSs Γ b (st.set i (.sh (.exc C fs))) with
        | .ok w st => if (w.noExc && (st.set i .no).all Sl.noExc) = true then .ok w (st.set i .no) else .bad
        | _ => .bad
        else .bad
    else evHs Γ r C fs st
end

/-! ### functions -/
structure Fn where
  io : Bool
  np : Nat
  ns : Nat
  body : Ss
def Fn.start (F : Fn) (args : List PV) : Slots := (match F.io, args with
  | true, p :: r => .ow p :: r.map .sh
  | _, as => as.map .sh) ++ List.replicate (F.ns - F.np) .no
def ownAt0 (o : Option Sl) : Option (Option PV) := match o with
  | some (.ow p) => some (some p)
  | _ => none
def Fn.ioOf (F : Fn) (st : Slots) : Option (Option PV) := if F.io then ownAt0 st[0]? else some none
def cloO : Option PV → Bool
  | none => true
  | some p => p.noClo
def Fn.fin (F : Fn) (r : Rs Fw) : Out := match r with
  | .ok (.rt f v) st => match F.ioOf st with
    | some p => if (v.noClo && keepV f && cloO p) = true then .val (f == .ow) v p else .bad
    | none => .bad
  | .ok .nx st => match F.ioOf st with
    | some p => if cloO p = true then .val false .non p else .bad
    | none => .bad
  | .ex C fs st => match F.ioOf st with
    | some p => if (PV.noClo.noCloF fs && cloO p) = true then .exc C fs p else .bad
    | none => .bad
  | _ => .bad
def Fn.run (Γ : G) (F : Fn) (args : List PV) : Out := if args.length = F.np then F.fin (evSs Γ F.body (F.start args)) else .bad
/-- calls of at most k levels -/
def callAt (Γ : G) (tab : Nat → Option Fn) : Nat → Nat → List PV → Out
  | 0, _, _ => .bad
  | k + 1, f, args => match tab f with
    | some F => F.run { Γ with call := callAt Γ tab k } args
    | none => .bad
end Mi

/-! Mi1: how pure values stand in the abstract heap. -/
namespace Mi
open PySem PySem.Spec L2

/-- where the defs and classes stand -/
structure Tb where
  fa : Nat → Addr
  ca : Nat → Addr
  ic : Nat → Prop        -- classes with instances
  ec : Nat → Prop        -- exception classes

/-- the surroundings: the written part, closures and exceptions that are known -/
structure Cn where
  T : Tb
  K : PySem.W.Frag
  CL : Addr → Nat → List V → Prop
  XP : Addr → Value → Option Addr → Prop

/-- a tuple, a list of the written part -/
def KT (K : PySem.W.Frag) (a : Addr) (xs : List V) : Prop :=
  ∃ (o : Obj) (its : Array Value) (n : Nat), K.lookup a = some o ∧ o.cls = .type "tuple" ∧ o.data = .seq its n ∧ its.size ≤ sizeLine ∧ Vals xs its.toList
def KLs (K : PySem.W.Frag) (a : Addr) (xs : List V) : Prop :=
  ∃ (o : Obj) (its : Array Value) (n : Nat), K.lookup a = some o ∧ o.cls = .type "list" ∧ o.dict = none ∧ o.data = .seq its n ∧ its.size ≤ sizeLine ∧ Vals xs its.toList
def TupAt (K : PySem.W.Frag) (B : Addr → Prop) (H : Hp) (a : Addr) (xs : List V) : Prop := (Rd H a (.tup xs) ∧ ¬ B a) ∨ KT K a xs
def LstAt (K : PySem.W.Frag) (B : Addr → Prop) (H : Hp) (a : Addr) (xs : List V) : Prop := (Rd H a (.lst xs) ∧ ¬ B a) ∨ KLs K a xs
theorem TupAt.sq {K B H a xs} (h : TupAt K B H a xs) : SqT K H a xs := h.elim (fun h => .inl h.1) .inr
theorem LstAt.sq {K B H a xs} (h : LstAt K B H a xs) : SqL K H a xs := h.elim (fun h => .inl h.1) .inr

/-- an exception's object that is tracked -/
def exo (a : Addr) (cls : Value) (d : Option Addr) : HO := .ext fun h => ∃ oe vs, h.get? a = some oe ∧ oe.cls = cls ∧ oe.dict = d ∧ oe.data = .fields vs

def ValsF (xs : List (Str × V)) : List V := xs.map (·.2)

/-- without the exceptions that are pinned -/
def Cn.clean (C : Cn) : Cn := ⟨C.T, C.K, C.CL, fun _ _ _ => False⟩
mutual
/-- v stands for the pure value; nothing that it reaches is in B -/
def Rep (C : Cn) (B : Addr → Prop) (H : Hp) : PV → V → Prop
  | .non, v => v = .non
  | .bl b, v => v = .bl b
  | .int i, v => v = .int i
  | .str x, v => v = .str x
  | .tup xs, v => ∃ a ys, v = .ref a ∧ TupAt C.K B H a ys ∧ Rep.RepL C B H xs ys
  | .lst xs, v => ∃ a ys, v = .ref a ∧ H a = some (.lst ys) ∧ ¬ B a ∧ Rep.RepL C B H xs ys
  | .klst xs, v => ∃ a ys, v = .ref a ∧ LstAt C.K B H a ys ∧ Rep.RepL C B H xs ys
  | .dic kvs, v => ∃ a ks, v = .ref a ∧ H a = some (.dK ks) ∧ ¬ B a ∧ Rep.RepK C B H kvs ks
  | .ins k fs, v => ∃ a dx ys, v = .ref a ∧ C.T.ic k ∧ H a = some (.ins (C.T.ca k) dx ys) ∧ ¬ B a ∧ Rep.RepF C B H fs ys
  | .exc k fs, v => ∃ a d ys, v = .ref a ∧ C.T.ec k ∧ (C.XP a (.ref (C.T.ca k)) d ∨ (H a = some (exo a (.ref (C.T.ca k)) d) ∧ ¬ B a)) ∧
      ((fs = [] ∧ d = none) ∨ ∃ dd, d = some dd ∧ H dd = some (.xd ys) ∧ ¬ B dd ∧ Rep.RepF C B H fs ys)
  | .fn f, v => v = .ref (C.T.fa f)
  | .clo l cs, v => ∃ a ws, v = .ref a ∧ C.CL a l ws ∧ Rep.RepL C.clean B H cs ws
def Rep.RepL (C : Cn) (B : Addr → Prop) (H : Hp) : List PV → List V → Prop
  | [], ys => ys = []
  | x :: xs, ys => ∃ y r, ys = y :: r ∧ Rep C B H x y ∧ Rep.RepL C B H xs r
def Rep.RepK (C : Cn) (B : Addr → Prop) (H : Hp) : List (DK × PV) → List (Key × V) → Prop
  | [], ys => ys = []
  | (k, x) :: xs, ys => ∃ y r, ys = (k, y) :: r ∧ Rep C B H x y ∧ Rep.RepK C B H xs r
def Rep.RepF (C : Cn) (B : Addr → Prop) (H : Hp) : List (Str × PV) → List (Str × V) → Prop
  | [], ys => ys = []
  | (f, x) :: xs, ys => ∃ y r, ys = (f, y) :: r ∧ Rep C B H x y ∧ Rep.RepF C B H xs r
end

/-- a slot's own object at a -/
def OwnAt (C : Cn) (B : Addr → Prop) (H : Hp) (a : Addr) : PV → Prop
  | .lst xs => ∃ ys, H a = some (.lst ys) ∧ Rep.RepL C B H xs ys
  | .dic kvs => ∃ ks, H a = some (.dK ks) ∧ Rep.RepK C B H kvs ks
  | .ins k fs => ∃ dx ys, C.T.ic k ∧ H a = some (.ins (C.T.ca k) dx ys) ∧ Rep.RepF C B H fs ys
  | _ => False
/-- an operand: shared, or a slot's own -/
def ORep (C : Cn) (B : Addr → Prop) (H : Hp) (x : PV) (v : V) : Prop := Rep C B H x v ∨ ∃ a, v = .ref a ∧ OwnAt C B H a x

/-- what is not in F stays (but tables) -/
def Kp (F : Addr → Prop) (H H' : Hp) : Prop := ∀ a o, H a = some o → ¬ F a → (∀ ps, o ≠ .tbl ps) → H' a = some o
theorem Kp.refl (F : Addr → Prop) (H : Hp) : Kp F H H := fun _ _ h _ _ => h
theorem Kp.trans {F : Addr → Prop} {H H1 H2 : Hp} (x : Kp F H H1) (y : Kp F H1 H2) : Kp F H H2 := fun a o h n t => y a o (x a o h n t) n t
theorem Kp.mono {F F' : Addr → Prop} {H H' : Hp} (x : Kp F H H') (h : ∀ a, F a → F' a) : Kp F' H H' := fun a o e n t => x a o e (fun z => n (h a z)) t
theorem Kp.upd {F : Addr → Prop} {H : Hp} {a : Addr} {o : HO} (h : H a = none) : Kp F H (L2.upd H a o) := fun b u e _ _ => by
  rw [upd_ne (ne_of_none e h)]; exact e
theorem Kp.write {F : Addr → Prop} {H : Hp} {a : Addr} {o : HO} (h : F a) : Kp F H (L2.upd H a o) := fun b u e n _ => by
  rw [upd_ne (fun z => n (by rw [z]; exact h))]; exact e

section mv
variable {C : Cn} {B B' F : Addr → Prop} {H H' : Hp}
theorem Rd.mv {a : Addr} {u : HO} (hu : ∀ ps, u ≠ .tbl ps) (r : Rd H a u) (k : Kp F H H') (n : ¬ F a) : Rd H' a u := by
  rcases r with r | ⟨o, r⟩
  · exact .inl (k _ _ r n hu)
  · exact .inr ⟨o, k _ _ r n (fun ps z => by cases z)⟩
theorem Rd.some {a : Addr} {u : HO} (r : Rd H a u) : H a ≠ none := by
  rcases r with r | ⟨o, r⟩ <;> rw [r] <;> exact fun z => by cases z
mutual
theorem Rep.mv (k : Kp F H H') (hF : ∀ a, F a → B a) (hB : ∀ a, B' a → B a ∨ H a = none) : ∀ {C : Cn} (x : PV) (v : V), Rep C B H x v → Rep C B' H' x v
  | _, .non, _, h => h
  | _, .bl _, _, h => h
  | _, .int _, _, h => h
  | _, .str _, _, h => h
  | _, .fn _, _, h => h
  | _, .tup xs, v, h => by
    obtain ⟨a, ys, e, t, r⟩ := h
    refine ⟨a, ys, e, ?_, RepL.mv k hF hB xs ys r⟩
    rcases t with ⟨t, n⟩ | t
    · exact .inl ⟨Rd.mv (fun ps z => by cases z) t k (fun z => n (hF a z)), fun z => (hB a z).elim n (Rd.some t)⟩
    · exact .inr t
  | _, .lst xs, v, h => by
    obtain ⟨a, ys, e, h, n, r⟩ := h
    exact ⟨a, ys, e, k _ _ h (fun z => n (hF a z)) (fun ps z => by cases z), fun z => (hB a z).elim n (fun z => by rw [h] at z; cases z), RepL.mv k hF hB xs ys r⟩
  | _, .klst xs, v, h => by
    obtain ⟨a, ys, e, t, r⟩ := h
    refine ⟨a, ys, e, ?_, RepL.mv k hF hB xs ys r⟩
    rcases t with ⟨t, n⟩ | t
    · exact .inl ⟨Rd.mv (fun ps z => by cases z) t k (fun z => n (hF a z)), fun z => (hB a z).elim n (Rd.some t)⟩
    · exact .inr t
  | _, .dic kvs, v, h => by
    obtain ⟨a, ks, e, h, n, r⟩ := h
    exact ⟨a, ks, e, k _ _ h (fun z => n (hF a z)) (fun ps z => by cases z), fun z => (hB a z).elim n (fun z => by rw [h] at z; cases z), RepK.mv k hF hB kvs ks r⟩
  | _, .ins c fs, v, h => by
    obtain ⟨a, dx, ys, e, hc, h, n, r⟩ := h
    refine ⟨a, dx, ys, e, hc, k _ _ h (fun z => n (hF a z)) (fun ps z => by cases z), fun z => (hB a z).elim n (fun z => by rw [h] at z; cases z), RepF.mv k hF hB fs ys r⟩
  | _, .exc c fs, v, h => by
    obtain ⟨a, d, ys, e, hc, h, r⟩ := h
    refine ⟨a, d, ys, e, hc, ?_, ?_⟩
    · rcases h with h | ⟨h, n⟩
      · exact .inl h
      · exact .inr ⟨k _ _ h (fun z => n (hF a z)) (fun ps z => by unfold exo at z; cases z), fun z => (hB a z).elim n (fun z => by rw [h] at z; cases z)⟩
    · rcases r with r | ⟨dd, e1, h, n, r⟩
      · exact .inl r
      · exact .inr ⟨dd, e1, k _ _ h (fun z => n (hF dd z)) (fun ps z => by cases z), fun z => (hB dd z).elim n (fun z => by rw [h] at z; cases z), RepF.mv k hF hB fs ys r⟩
  | _, .clo l cs, v, h => by
    obtain ⟨a, ws, e, h, r⟩ := h
    exact ⟨a, ws, e, h, RepL.mv k hF hB cs ws r⟩
theorem RepL.mv (k : Kp F H H') (hF : ∀ a, F a → B a) (hB : ∀ a, B' a → B a ∨ H a = none) : ∀ {C : Cn} (xs : List PV) (ys : List V), Rep.RepL C B H xs ys → Rep.RepL C B' H' xs ys
  | _, [], _, h => h
  | _, x :: xs, ys, h => by
    obtain ⟨y, r, e, h1, h2⟩ := h
    exact ⟨y, r, e, Rep.mv k hF hB x y h1, RepL.mv k hF hB xs r h2⟩
theorem RepK.mv (k : Kp F H H') (hF : ∀ a, F a → B a) (hB : ∀ a, B' a → B a ∨ H a = none) : ∀ {C : Cn} (xs : List (DK × PV)) (ys : List (Key × V)), Rep.RepK C B H xs ys → Rep.RepK C B' H' xs ys
  | _, [], _, h => h
  | _, (c, x) :: xs, ys, h => by
    obtain ⟨y, r, e, h1, h2⟩ := h
    exact ⟨y, r, e, Rep.mv k hF hB x y h1, RepK.mv k hF hB xs r h2⟩
theorem RepF.mv (k : Kp F H H') (hF : ∀ a, F a → B a) (hB : ∀ a, B' a → B a ∨ H a = none) : ∀ {C : Cn} (xs : List (Str × PV)) (ys : List (Str × V)), Rep.RepF C B H xs ys → Rep.RepF C B' H' xs ys
  | _, [], _, h => h
  | _, (f, x) :: xs, ys, h => by
    obtain ⟨y, r, e, h1, h2⟩ := h
    exact ⟨y, r, e, Rep.mv k hF hB x y h1, RepF.mv k hF hB xs r h2⟩
end
theorem OwnAt.mv {a : Addr} (k : Kp F H H') (hF : ∀ a, F a → B a) (hB : ∀ a, B' a → B a ∨ H a = none) (e : H' a = H a) : ∀ (x : PV), OwnAt C B H a x → OwnAt C B' H' a x
  | .lst xs, h => by
    obtain ⟨ys, h, r⟩ := h
    exact ⟨ys, e.trans h, RepL.mv k hF hB xs ys r⟩
  | .dic kvs, h => by
    obtain ⟨ks, h, r⟩ := h
    exact ⟨ks, e.trans h, RepK.mv k hF hB kvs ks r⟩
  | .ins c fs, h => by
    obtain ⟨dx, ys, hc, h, r⟩ := h
    exact ⟨dx, ys, hc, e.trans h, RepF.mv k hF hB fs ys r⟩
  | .non, h => h.elim
  | .bl _, h => h.elim
  | .int _, h => h.elim
  | .str _, h => h.elim
  | .tup _, h => h.elim
  | .exc _ _, h => h.elim
  | .fn _, h => h.elim
  | .clo _ _, h => h.elim
  | .klst _, h => h.elim
theorem OwnAt.some {a : Addr} : ∀ {x : PV}, OwnAt C B H a x → ∃ o, H a = some o ∧ (∀ ps, o ≠ .tbl ps) ∧ Mut (some o)
  | .lst xs, h => by obtain ⟨ys, h, r⟩ := h; exact ⟨_, h, (fun ps z => by cases z), True.intro⟩
  | .dic kvs, h => by obtain ⟨ks, h, r⟩ := h; exact ⟨_, h, (fun ps z => by cases z), True.intro⟩
  | .ins c fs, h => by obtain ⟨dx, ys, hc, h, r⟩ := h; exact ⟨_, h, (fun ps z => by cases z), True.intro⟩
  | .non, h => h.elim
  | .bl _, h => h.elim
  | .int _, h => h.elim
  | .str _, h => h.elim
  | .tup _, h => h.elim
  | .exc _ _, h => h.elim
  | .fn _, h => h.elim
  | .clo _ _, h => h.elim
  | .klst _, h => h.elim
/-- an own object, shared from now on -/
theorem OwnAt.rep {a : Addr} (hB : ∀ b, B' b → B b) (n : ¬ B' a) : ∀ (x : PV), OwnAt C B H a x → Rep C B' H x (.ref a)
  | .lst xs, h => by
    obtain ⟨ys, h, r⟩ := h
    exact ⟨a, ys, rfl, h, n, RepL.mv (Kp.refl (fun _ => False) H) (fun _ z => z.elim) (fun b z => .inl (hB b z)) xs ys r⟩
  | .dic kvs, h => by
    obtain ⟨ks, h, r⟩ := h
    exact ⟨a, ks, rfl, h, n, RepK.mv (Kp.refl (fun _ => False) H) (fun _ z => z.elim) (fun b z => .inl (hB b z)) kvs ks r⟩
  | .ins c fs, h => by
    obtain ⟨dx, ys, hc, h, r⟩ := h
    exact ⟨a, dx, ys, rfl, hc, h, n, RepF.mv (Kp.refl (fun _ => False) H) (fun _ z => z.elim) (fun b z => .inl (hB b z)) fs ys r⟩
  | .non, h => h.elim
  | .bl _, h => h.elim
  | .int _, h => h.elim
  | .str _, h => h.elim
  | .tup _, h => h.elim
  | .exc _ _, h => h.elim
  | .fn _, h => h.elim
  | .clo _ _, h => h.elim
  | .klst _, h => h.elim
theorem Rep.sub {x : PV} {v : V} (h : Rep C B H x v) (hB : ∀ a, B' a → B a) : Rep C B' H x v := Rep.mv (Kp.refl (fun _ => False) H) (fun _ z => z.elim) (fun a z => .inl (hB a z)) x v h
theorem Rep.RepL.sub {xs : List PV} {vs : List V} (h : Rep.RepL C B H xs vs) (hB : ∀ a, B' a → B a) : Rep.RepL C B' H xs vs := RepL.mv (Kp.refl (fun _ => False) H) (fun _ z => z.elim) (fun a z => .inl (hB a z)) xs vs h
theorem OwnAt.sub {a : Addr} {x : PV} (h : OwnAt C B H a x) (hB : ∀ a, B' a → B a) : OwnAt C B' H a x := OwnAt.mv (Kp.refl (fun _ => False) H) (fun _ z => z.elim) (fun a z => .inl (hB a z)) rfl x h
end mv

/-! ### from one surroundings to another -/
/-- b: closures are taken over; e: pinned exceptions are -/
structure CnLe (C C' : Cn) (b e : Bool) : Prop where
  T : C'.T = C.T
  K : C'.K = C.K
  cl : b = true → ∀ a l ws, C.CL a l ws → C'.CL a l ws
  xp : e = true → ∀ a c d, C.XP a c d → C'.XP a c d
theorem CnLe.clean {C C' : Cn} {b e : Bool} (h : CnLe C C' b e) : CnLe C.clean C'.clean b true := ⟨h.T, h.K, h.cl, fun _ _ _ _ z => z⟩
section cn
variable {B : Addr → Prop} {H : Hp}
theorem TupAt.cn {C C' : Cn} {b e : Bool} {a : Addr} {xs : List V} (h : CnLe C C' b e) (t : TupAt C.K B H a xs) : TupAt C'.K B H a xs := by rw [h.K]; exact t
theorem LstAt.cn {C C' : Cn} {b e : Bool} {a : Addr} {xs : List V} (h : CnLe C C' b e) (t : LstAt C.K B H a xs) : LstAt C'.K B H a xs := by rw [h.K]; exact t
theorem or2 {a b c : Bool} (h : (a || (b && c)) = true) : (a || b) = true ∧ (a || c) = true := by cases a <;> cases b <;> cases c <;> simp_all
mutual
theorem Rep.cn : ∀ {C C' : Cn} {b e : Bool} (_ : CnLe C C' b e) (x : PV) (v : V), (b || x.noClo) = true → (e || x.noExc) = true → Rep C B H x v → Rep C' B H x v
  | _, _, _, _, _, .non, _, _, _, h => h
  | _, _, _, _, _, .bl _, _, _, _, h => h
  | _, _, _, _, _, .int _, _, _, _, h => h
  | _, _, _, _, _, .str _, _, _, _, h => h
  | C, C', _, _, c, .fn f, v, _, _, h => by
    have h : v = .ref (C.T.fa f) := h
    show v = .ref (C'.T.fa f)
    rw [c.T]; exact h
  | _, _, _, _, c, .tup xs, v, h1, h2, h => by
    obtain ⟨a, ys, e, t, r⟩ := h
    exact ⟨a, ys, e, t.cn c, RepL.cn c xs ys h1 h2 r⟩
  | _, _, _, _, c, .lst xs, v, h1, h2, h => by
    obtain ⟨a, ys, e, h, n, r⟩ := h
    exact ⟨a, ys, e, h, n, RepL.cn c xs ys h1 h2 r⟩
  | _, _, b, _, c, .klst xs, v, h1, h2, h => by
    obtain ⟨a, ys, e, t, r⟩ := h
    have hb : b = true := by
      cases b with
      | true => rfl
      | false => exact Bool.noConfusion (show false = true from h1)
    subst hb
    exact ⟨a, ys, e, t.cn c, RepL.cn c xs ys rfl h2 r⟩
  | _, _, _, _, c, .dic kvs, v, h1, h2, h => by
    obtain ⟨a, ks, e, h, n, r⟩ := h
    exact ⟨a, ks, e, h, n, RepK.cn c kvs ks h1 h2 r⟩
  | C, C', _, _, c, .ins k fs, v, h1, h2, h => by
    obtain ⟨a, dx, ys, e, hc, h, n, r⟩ := h
    refine ⟨a, dx, ys, e, by rw [c.T]; exact hc, by rw [c.T]; exact h, n, RepF.cn c fs ys h1 h2 r⟩
  | C, C', _, e0, c, .exc k fs, v, h1, h2, h => by
    obtain ⟨a, d, ys, e, hc, h, r⟩ := h
    have he : e0 = true := by
      cases e0 with
      | true => rfl
      | false => exact Bool.noConfusion (show false = true from h2)
    subst he
    refine ⟨a, d, ys, e, by rw [c.T]; exact hc, by rw [c.T]; exact h.imp (c.xp rfl _ _ _) id, ?_⟩
    rcases r with r | ⟨dd, e1, h, n, r⟩
    · exact .inl r
    · exact .inr ⟨dd, e1, h, n, RepF.cn c fs ys h1 rfl r⟩
  | _, _, b, _, c, .clo l cs, v, h1, h2, h => by
    obtain ⟨a, ws, e, h, r⟩ := h
    have hb : b = true := by
      cases b with
      | true => rfl
      | false => exact Bool.noConfusion (show false = true from h1)
    subst hb
    exact ⟨a, ws, e, c.cl rfl _ _ _ h, RepL.cn c.clean cs ws rfl rfl r⟩
theorem RepL.cn : ∀ {C C' : Cn} {b e : Bool} (_ : CnLe C C' b e) (xs : List PV) (ys : List V), (b || PV.noClo.noCloL xs) = true → (e || PV.noExc.noExcL xs) = true → Rep.RepL C B H xs ys → Rep.RepL C' B H xs ys
  | _, _, _, _, _, [], _, _, _, h => h
  | _, _, _, _, c, x :: xs, ys, h1, h2, h => by
    obtain ⟨y, r, e, q1, q2⟩ := h
    exact ⟨y, r, e, Rep.cn c x y (or2 h1).1 (or2 h2).1 q1, RepL.cn c xs r (or2 h1).2 (or2 h2).2 q2⟩
theorem RepK.cn : ∀ {C C' : Cn} {b e : Bool} (_ : CnLe C C' b e) (xs : List (DK × PV)) (ys : List (Key × V)), (b || PV.noClo.noCloK xs) = true → (e || PV.noExc.noExcK xs) = true → Rep.RepK C B H xs ys → Rep.RepK C' B H xs ys
  | _, _, _, _, _, [], _, _, _, h => h
  | _, _, _, _, c, (k, x) :: xs, ys, h1, h2, h => by
    obtain ⟨y, r, e, q1, q2⟩ := h
    exact ⟨y, r, e, Rep.cn c x y (or2 h1).1 (or2 h2).1 q1, RepK.cn c xs r (or2 h1).2 (or2 h2).2 q2⟩
theorem RepF.cn : ∀ {C C' : Cn} {b e : Bool} (_ : CnLe C C' b e) (xs : List (Str × PV)) (ys : List (Str × V)), (b || PV.noClo.noCloF xs) = true → (e || PV.noExc.noExcF xs) = true → Rep.RepF C B H xs ys → Rep.RepF C' B H xs ys
  | _, _, _, _, _, [], _, _, _, h => h
  | _, _, _, _, c, (k, x) :: xs, ys, h1, h2, h => by
    obtain ⟨y, r, e, q1, q2⟩ := h
    exact ⟨y, r, e, Rep.cn c x y (or2 h1).1 (or2 h2).1 q1, RepF.cn c xs r (or2 h1).2 (or2 h2).2 q2⟩
end
theorem OwnAt.cn {C C' : Cn} {b e : Bool} (c : CnLe C C' b e) {a : Addr} : ∀ (x : PV), (b || x.noClo) = true → (e || x.noExc) = true → OwnAt C B H a x → OwnAt C' B H a x
  | .lst xs, h1, h2, h => by
    obtain ⟨ys, h, r⟩ := h
    exact ⟨ys, h, RepL.cn c xs ys h1 h2 r⟩
  | .dic kvs, h1, h2, h => by
    obtain ⟨ks, h, r⟩ := h
    exact ⟨ks, h, RepK.cn c kvs ks h1 h2 r⟩
  | .ins k fs, h1, h2, h => by
    obtain ⟨dx, ys, hc, h, r⟩ := h
    exact ⟨dx, ys, by rw [c.T]; exact hc, by rw [c.T]; exact h, RepF.cn c fs ys h1 h2 r⟩
  | .non, _, _, h => h.elim
  | .bl _, _, _, h => h.elim
  | .int _, _, _, h => h.elim
  | .str _, _, _, h => h.elim
  | .tup _, _, _, h => h.elim
  | .exc _ _, _, _, h => h.elim
  | .fn _, _, _, h => h.elim
  | .clo _ _, _, _, h => h.elim
  | .klst _, _, _, h => h.elim
end cn

/-! ### the state -/
def Owns (st : List Sl) (σ : List (Option V)) (a : Addr) : Prop := ∃ (i : Nat) (v : PV), st[i]? = some (Sl.ow v) ∧ σ[i]? = some (some (V.ref a))
/-- what no shared value may reach: M's and the slots' own -/
def Bn (M : Addr → Prop) (st : List Sl) (σ : List (Option V)) (a : Addr) : Prop := M a ∨ Owns st σ a
structure Rel (C : Cn) (M : Addr → Prop) (st : List Sl) (σ : List (Option V)) (H : Hp) : Prop where
  len : σ.length = st.length
  sh : ∀ (i : Nat) v, st[i]? = some (.sh v) → ∃ w, σ[i]? = some (some w) ∧ Rep C (Bn M st σ) H v w
  ow : ∀ (i : Nat) v, st[i]? = some (.ow v) → ∃ a, σ[i]? = some (some (.ref a)) ∧ OwnAt C (Bn M st σ) H a v ∧ ¬ M a
  inj : ∀ (i j : Nat) (v u : PV) (a : Addr), st[i]? = some (Sl.ow v) → st[j]? = some (Sl.ow u) → σ[i]? = some (some (V.ref a)) → σ[j]? = some (some (V.ref a)) → i = j
  al : ∀ a, M a → ∃ o, H a = some o ∧ (∀ ps, o ≠ .tbl ps)

def Sl.noClo : Sl → Bool
  | .no => true
  | .sh v => v.noClo
  | .ow v => v.noClo
theorem Rel.cn {C C' : Cn} {b e : Bool} {M : Addr → Prop} {st : List Sl} {σ : List (Option V)} {H : Hp} (c : CnLe C C' b e) (h1 : (b || st.all Sl.noClo) = true) (h2 : (e || st.all Sl.noExc) = true) (r : Rel C M st σ H) : Rel C' M st σ H := by
  have g1 : ∀ s ∈ st, (b || s.noClo) = true := fun s m => by
    cases b with
    | true => rfl
    | false => exact List.all_eq_true.mp h1 s m
  have g2 : ∀ s ∈ st, (e || s.noExc) = true := fun s m => by
    cases e with
    | true => rfl
    | false => exact List.all_eq_true.mp h2 s m
  refine ⟨r.len, fun i v q => ?_, fun i v q => ?_, r.inj, r.al⟩
  · obtain ⟨w, q1, q2⟩ := r.sh i v q
    exact ⟨w, q1, Rep.cn c v w (g1 _ (List.mem_of_getElem? q)) (g2 _ (List.mem_of_getElem? q)) q2⟩
  · obtain ⟨a, q1, q2, n⟩ := r.ow i v q
    exact ⟨a, q1, OwnAt.cn c v (g1 _ (List.mem_of_getElem? q)) (g2 _ (List.mem_of_getElem? q)) q2, n⟩
def Em : Addr → Prop := fun _ => False
def Un (M : Addr → Prop) (ps : List Addr) : Addr → Prop := fun a => M a ∨ a ∈ ps

end Mi

/-! Mi2: steps of the evaluation, results, their composition. -/
namespace Mi
open PySem PySem.Spec L2

/-- tables of code objects (where lambdas are made) -/
abbrev Tabs (T : List NdefX.NTab) (H : Hp) : Prop := NdefX.TabsN T H
def spec (o : HO) : Prop := (∃ ps, o = .tbl ps) ∨ (∃ φ, o = .ext φ)
theorem Tabs.mv {T : List NdefX.NTab} {H H' : Hp} (t : Tabs T H) (e : ∀ b o, H b = some o → spec o → H' b = some o) : Tabs T H' := fun p hp => by
  obtain ⟨ps, h1, h2, h3⟩ := t p hp
  refine ⟨ps, e _ _ h1 (.inl ⟨_, rfl⟩), h2, fun pos cv hc => ?_⟩
  obtain ⟨c, e1, e2⟩ := h3 pos cv hc
  exact ⟨c, e1, e _ _ e2 (.inr ⟨_, rfl⟩)⟩
theorem Tabs.upd {T : List NdefX.NTab} {H : Hp} {a : Addr} {o : HO} (t : Tabs T H) (h : H a = none) : Tabs T (L2.upd H a o) := t.mv fun b u e _ => by
  rw [upd_ne (ne_of_none e h)]; exact e
theorem Tabs.write {T : List NdefX.NTab} {H : Hp} {a : Addr} {o u : HO} (t : Tabs T H) (h : H a = some u) (n : ¬ spec u) : Tabs T (L2.upd H a o) := t.mv fun b x e s => by
  rw [upd_ne (fun z => n (by rw [z, h] at e; cases e; exact s))]; exact e

structure Step (C : Cn) (T : List NdefX.NTab) (io : Bool) (M : Addr → Prop) (st st' : List Sl) (σ : List (Option V)) (H H' : Hp) : Prop where
  rel : Rel C M st' σ H'
  kp : Kp (fun a => io = true ∧ Owns st σ a) H H'
  al : ∀ a, H a ≠ none → H' a ≠ none
  sub : ∀ a, Owns st' σ a → Owns st σ a
  tab : Tabs T H'

section
variable {C : Cn} {T : List NdefX.NTab} {io io' : Bool} {M M' : Addr → Prop} {st st' st1 st2 : List Sl} {σ : List (Option V)} {H H' H1 H2 : Hp}
theorem Bn.mono (h : ∀ a, M a → M' a) {a : Addr} (b : Bn M st σ a) : Bn M' st σ a := b.elim (fun z => .inl (h a z)) .inr
theorem Rel.weaken (r : Rel C M' st σ H) (h : ∀ a, M a → M' a) : Rel C M st σ H :=
  ⟨r.len, fun i v e => by
    obtain ⟨w, e1, e2⟩ := r.sh i v e
    exact ⟨w, e1, e2.sub fun a => Bn.mono h⟩, fun i v e => by
    obtain ⟨a, e1, e2, n⟩ := r.ow i v e
    exact ⟨a, e1, e2.sub fun a => Bn.mono h, fun z => n (h a z)⟩, r.inj, fun a z => r.al a (h a z)⟩
theorem Rel.notOwn (r : Rel C M st σ H) {a : Addr} (m : M a) : ¬ Owns st σ a := fun ⟨i, v, e1, e2⟩ => by
  obtain ⟨b, e3, _, n⟩ := r.ow i v e1
  rw [e2] at e3
  cases e3
  exact n m
theorem Rel.ownSome (r : Rel C M st σ H) {a : Addr} (o : Owns st σ a) : ∃ u, H a = some u ∧ (∀ ps, u ≠ .tbl ps) ∧ Mut (some u) := by
  obtain ⟨i, v, e1, e2⟩ := o
  obtain ⟨b, e3, h, n⟩ := r.ow i v e1
  rw [e2] at e3
  cases e3
  exact h.some
theorem Step.refl (r : Rel C M st σ H) (t : Tabs T H) : Step C T io M st st σ H H := ⟨r, Kp.refl _ _, fun _ h => h, fun _ h => h, t⟩
theorem Step.weaken (s : Step C T io M' st st' σ H H') (h : ∀ a, M a → M' a) (hi : io = true → io' = true) : Step C T io' M st st' σ H H' :=
  ⟨s.rel.weaken h, s.kp.mono fun a z => ⟨hi z.1, z.2⟩, s.al, s.sub, s.tab⟩
theorem Step.trans (s1 : Step C T io M st st1 σ H H1) (s2 : Step C T io' M' st1 st2 σ H1 H2) : Step C T (io || io') M' st st2 σ H H2 :=
  ⟨s2.rel, (s1.kp.mono fun a z => ⟨by rw [z.1]; rfl, z.2⟩).trans (s2.kp.mono fun a z => ⟨by rw [z.1]; cases io <;> rfl, s1.sub a z.2⟩), fun a h => s2.al a (s1.al a h), fun a h => s1.sub a (s2.sub a h), s2.tab⟩
end

/-- results: shared, owned (at the addresses ps), borrowed -/
inductive RL (C : Cn) (B : Addr → Prop) (H : Hp) : List (Fl × PV) → List V → List Addr → Prop
  | nil : RL C B H [] [] []
  | sh {x v xs vs ps} : Rep C B H x v → RL C B H xs vs ps → RL C B H ((.sh, x) :: xs) (v :: vs) ps
  | ow {x a xs vs ps} : OwnAt C B H a x → RL C B H xs vs ps → RL C B H ((.ow, x) :: xs) (.ref a :: vs) (a :: ps)
  | bo {x a xs vs ps} : OwnAt C B H a x → RL C B H xs vs ps → RL C B H ((.bo, x) :: xs) (.ref a :: vs) ps
theorem RL.append {C B H xs vs ps ys ws qs} (x : RL C B H xs vs ps) (y : RL C B H ys ws qs) : RL C B H (xs ++ ys) (vs ++ ws) (ps ++ qs) := by
  induction x with
  | nil => exact y
  | sh r _ ih => exact .sh r ih
  | ow r _ ih => exact .ow r ih
  | bo r _ ih => exact .bo r ih
theorem RL.mv {C : Cn} {B B' F : Addr → Prop} {H H' : Hp} (k : Kp F H H') (hF : ∀ a, F a → B a) (hB : ∀ a, B' a → B a ∨ H a = none) {xs vs ps} (r : RL C B H xs vs ps) (hp : ∀ a ∈ ps, H' a = H a) (hb : (xs.any fun x => x.1 == .bo) = true → ∀ a, ¬ F a) : RL C B' H' xs vs ps := by
  induction r with
  | nil => exact .nil
  | sh r _ ih => exact .sh (Rep.mv k hF hB _ _ r) (ih hp fun z => hb (by rw [List.any_cons, z]; simp))
  | @ow x a xs vs ps r _ ih =>
    exact .ow (OwnAt.mv k hF hB (hp a List.mem_cons_self) _ r) (ih (fun b h => hp b (List.mem_cons_of_mem _ h)) fun z => hb (by rw [List.any_cons, z]; simp))
  | @bo x a xs vs ps r _ ih =>
    have n := hb (by simp)
    obtain ⟨o, e, t, _⟩ := r.some
    exact .bo (OwnAt.mv k hF hB ((k a o e (n a) t).trans e.symm) _ r) (ih hp fun z => n)
/-- all shared: for calls and displays -/
theorem RL.reps {C : Cn} {B B' : Addr → Prop} {H : Hp} {xs vs ps} (r : RL C B H xs vs ps) (hB : ∀ a, B' a → B a) (hp : ∀ a ∈ ps, ¬ B' a) (hk : keepAll xs = true) : Rep.RepL C B' H (valsOf xs) vs := by
  induction r with
  | nil => rfl
  | @sh x v xs vs ps r _ ih =>
    unfold keepAll at hk
    rw [List.all_cons, Bool.and_eq_true] at hk
    exact ⟨_, _, rfl, r.sub hB, ih hp hk.2⟩
  | @ow x a xs vs ps r _ ih =>
    unfold keepAll at hk
    rw [List.all_cons, Bool.and_eq_true] at hk
    exact ⟨_, _, rfl, r.rep hB (hp a List.mem_cons_self), ih (fun b h => hp b (List.mem_cons_of_mem _ h)) hk.2⟩
  | bo r _ ih =>
    unfold keepAll at hk
    rw [List.all_cons, Bool.and_eq_true] at hk
    have z : (false : Bool) = true := hk.1
    cases z
/-- as operands -/
inductive OL (C : Cn) (B : Addr → Prop) (H : Hp) : List PV → List V → Prop
  | nil : OL C B H [] []
  | cons {x v xs vs} : ORep C B H x v → OL C B H xs vs → OL C B H (x :: xs) (v :: vs)
theorem RL.ops {C : Cn} {B : Addr → Prop} {H : Hp} {xs vs ps} (r : RL C B H xs vs ps) : OL C B H (valsOf xs) vs := by
  induction r with
  | nil => exact .nil
  | sh r _ ih => exact .cons (.inl r) ih
  | ow r _ ih => exact .cons (.inr ⟨_, rfl, r⟩) ih
  | bo r _ ih => exact .cons (.inr ⟨_, rfl, r⟩) ih

/-- an exception of the class c with these fields -/
def ExcR (C : Cn) (B : Addr → Prop) (H : Hp) (cls : Value) (d : Option Addr) (c : Nat) (fs : List (Str × PV)) : Prop :=
  C.T.ec c ∧ cls = .ref (C.T.ca c) ∧ ((fs = [] ∧ d = none) ∨ ∃ dd ys, d = some dd ∧ H dd = some (.xd ys) ∧ ¬ B dd ∧ Rep.RepF C B H fs ys)

def Post (C : Cn) (T : List NdefX.NTab) (W : WX) (io : Bool) (M : Addr → Prop) (st : List Sl) (σ : List (Option V)) (H : Hp) (r : Rs (List (Fl × PV))) (Q : List V → Hp → Prop) : Prop := match r with
  | .ok xs st' => ∀ vs ps H', Step C T io (Un M ps) st st' σ H H' → ps.Nodup → (∀ a ∈ ps, ¬ M a ∧ (H a = none ∨ Owns st σ a)) → RL C (Bn (Un M ps) st' σ) H' xs vs ps → Q vs H'
  | .ex c fs st' => ∀ cls d H', Step C T true M st st' σ H H' → ExcR C (Bn M st' σ) H' cls d c fs → W cls d σ H'
  | .bad => False
def one (r : Rs (Fl × PV)) : Rs (List (Fl × PV)) := r.bind fun x st => .ok [x] st
def PostE (C : Cn) (T : List NdefX.NTab) (W : WX) (io : Bool) (M : Addr → Prop) (st : List Sl) (σ : List (Option V)) (H : Hp) (r : Rs (Fl × PV)) (Q : VK) : Prop :=
  Post C T W io M st σ H (one r) fun vs H' => ∀ v, vs = [v] → Q v H'
def tE (Γ : G) (C : Cn) (T : List NdefX.NTab) (W : WX) (e : E) : TE := fun σ H Q => ∃ M st, Rel C M st σ H ∧ Tabs T H ∧ PostE C T W e.io M st σ H (evE Γ e st) Q
def tEs (Γ : G) (C : Cn) (T : List NdefX.NTab) (W : WX) (es : Es) : TA := fun σ H Q => ∃ M st, Rel C M st σ H ∧ Tabs T H ∧ Post C T W (E.io.ioL es) M st σ H (evEs Γ es st) Q

section
variable {Γ : G} {C : Cn} {T : List NdefX.NTab} {W : WX} {io io' : Bool} {M M' : Addr → Prop} {st st' st1 st2 : List Sl} {σ : List (Option V)} {H H' H1 H2 : Hp}
theorem Post.mono {r : Rs (List (Fl × PV))} {Q Q' : List V → Hp → Prop} (p : Post C T W io M st σ H r Q) (h : ∀ vs H', Q vs H' → Q' vs H') : Post C T W io M st σ H r Q' := by
  cases r with
  | ok xs st' => exact fun vs ps H' s n f r => h _ _ (p vs ps H' s n f r)
  | ex c fs st' => exact p
  | bad => exact p
theorem tE.mono {e : E} {Q Q' : VK} (p : tE Γ C T W e σ H Q) (h : ∀ v H', Q v H' → Q' v H') : tE Γ C T W e σ H Q' := by
  obtain ⟨M, st, r, t, p⟩ := p
  exact ⟨M, st, r, t, p.mono fun vs H' q v e => h _ _ (q v e)⟩
theorem un_nil {a : Addr} : Un M [] a ↔ M a := ⟨fun h => h.elim id (fun z => absurd z (by simp)), .inl⟩
theorem un_app {ps qs : List Addr} {a : Addr} : Un (Un M ps) qs a ↔ Un M (ps ++ qs) a := by
  unfold Un
  rw [List.mem_append]
  constructor
  · rintro ((h | h) | h)
    · exact .inl h
    · exact .inr (.inl h)
    · exact .inr (.inr h)
  · rintro (h | h | h)
    · exact .inl (.inl h)
    · exact .inl (.inr h)
    · exact .inr h
theorem Step.al' (s : Step C T io M st st1 σ H H1) {a : Addr} (h : H1 a = none ∨ Owns st1 σ a) : H a = none ∨ Owns st σ a := by
  rcases h with h | h
  · cases e : H a with
    | none => exact .inl rfl
    | some o => exact absurd h (s.al a (by rw [e]; exact fun z => by cases z))
  · exact .inr (s.sub a h)

/-- the first argument, then the others -/
theorem tEs_cons {a : E} {r : Es} {Q : List V → Hp → Prop} (h : tEs Γ C T W (.cons a r) σ H Q) : tE Γ C T W a σ H fun v H1 => tEs Γ C T W r σ H1 fun vs H2 => Q (v :: vs) H2 := by
  obtain ⟨M, st, rel, tb, P⟩ := h
  refine ⟨M, st, rel, tb, ?_⟩
  have P0 : Post C T W (a.io || E.io.ioL r) M st σ H ((evE Γ a st).bind fun x st => (evEs Γ r st).bind fun xs st => if wait x.1 (E.io.ioL r) then .ok (x :: xs) st else .bad) Q := P
  unfold PostE one
  cases e1 : evE Γ a st with
  | bad => rw [e1] at P0; exact P0
  | ex c fs st1 => rw [e1] at P0; exact P0
  | ok x st1 =>
    rw [e1] at P0
    have P1 : Post C T W (a.io || E.io.ioL r) M st σ H ((evEs Γ r st1).bind fun xs st => if wait x.1 (E.io.ioL r) then .ok (x :: xs) st else .bad) Q := P0
    intro vs ps H1 s1 n1 f1 r1 v ev
    subst ev
    refine ⟨Un M ps, st1, s1.rel, s1.tab, ?_⟩
    cases e2 : evEs Γ r st1 with
    | bad => rw [e2] at P1; exact P1
    | ex c fs st2 =>
      rw [e2] at P1
      intro cls d H2 s2 x2
      refine P1 cls d H2 ((s1.trans s2).weaken (fun a m => .inl m) (fun _ => rfl)) ⟨x2.1, x2.2.1, x2.2.2.elim .inl fun ⟨dd, ys, e1, e2, e3, e4⟩ => .inr ⟨dd, ys, e1, e2, fun z => e3 (Bn.mono (fun a m => .inl m) z), ?_⟩⟩
      exact RepF.mv (Kp.refl (fun _ => False) H2) (fun _ z => z.elim) (fun a z => .inl (Bn.mono (fun a m => .inl m) z)) fs ys e4
    | ok xs st2 =>
      rw [e2] at P1
      cases hw : wait x.1 (E.io.ioL r) with
      | false =>
        have P2 : Post C T W (a.io || E.io.ioL r) M st σ H (if wait x.1 (E.io.ioL r) then Rs.ok (x :: xs) st2 else .bad) Q := P1
        rw [hw] at P2
        exact P2.elim
      | true =>
        have P2 : Post C T W (a.io || E.io.ioL r) M st σ H (if wait x.1 (E.io.ioL r) then Rs.ok (x :: xs) st2 else .bad) Q := P1
        rw [hw, if_pos rfl] at P2
        intro vs2 qs H2 s2 n2 f2 r2
        refine P2 (v :: vs2) (ps ++ qs) H2 ((s1.trans s2).weaken (fun a m => un_app.mpr m) (fun z => z)) ?_ ?_ ?_
        · refine List.nodup_append.mpr ⟨n1, n2, fun a h1 b h2 e => ?_⟩
          subst e
          exact (f2 a h2).1 (.inr h1)
        · intro b hb
          rcases List.mem_append.mp hb with hb | hb
          · exact f1 b hb
          · exact ⟨fun m => (f2 b hb).1 (.inl m), s1.al' (f2 b hb).2⟩
        · have r1' : RL C (Bn (Un M (ps ++ qs)) st2 σ) H2 [x] [v] ps := by
            refine RL.mv s2.kp (fun b z => .inr z.2) (fun b z => ?_) r1 (fun b hb => ?_) (fun z b hz => ?_)
            · rcases z with z | z
              · rcases un_app.mpr z with z | z
                · exact .inl (.inl z)
                · rcases (f2 b z).2 with q | q
                  · exact .inr q
                  · exact .inl (.inr q)
              · exact .inl (.inr (s2.sub b z))
            · obtain ⟨o, e, t⟩ := s1.rel.al b (.inr hb)
              exact (s2.kp b o e (fun z => s1.rel.notOwn (.inr hb) z.2) t).trans e.symm
            · have q : x.1 = .bo := by simpa using z
              unfold wait at hw
              rw [q, hz.1] at hw
              exact absurd hw (by decide)
          have r2' : RL C (Bn (Un M (ps ++ qs)) st2 σ) H2 xs vs2 qs := by
            have : RL C (Bn (Un (Un M ps) qs) st2 σ) H2 xs vs2 qs := r2
            refine RL.mv (Kp.refl (fun _ => False) H2) (fun _ z => z.elim) (fun b z => .inl (Bn.mono (fun a m => un_app.mpr m) z)) this (fun b _ => rfl) (fun _ _ z => z)
          exact r1'.append r2'
theorem tEs_nil {Q : List V → Hp → Prop} (h : tEs Γ C T W .nil σ H Q) : Q [] H := by
  obtain ⟨M, st, rel, tb, P⟩ := h
  exact P [] [] H (Step.refl (rel.weaken fun a m => un_nil.mp m) tb) List.nodup_nil (fun a z => absurd z (by simp)) .nil
theorem tEs_one {a : E} {Q : List V → Hp → Prop} (h : tEs Γ C T W (.cons a .nil) σ H Q) : tE Γ C T W a σ H fun v H1 => Q [v] H1 := (tEs_cons h).mono fun v H1 h => tEs_nil h
theorem tEs_two {a b : E} {Q : List V → Hp → Prop} (h : tEs Γ C T W (.cons a (.cons b .nil)) σ H Q) : tE Γ C T W a σ H fun v H1 => tE Γ C T W b σ H1 fun w H2 => Q [v, w] H2 := (tEs_cons h).mono fun v H1 h => tEs_one h
theorem tEs_three {a b c : E} {Q : List V → Hp → Prop} (h : tEs Γ C T W (.cons a (.cons b (.cons c .nil))) σ H Q) : tE Γ C T W a σ H fun v H1 => tE Γ C T W b σ H1 fun w H2 => tE Γ C T W c σ H2 fun u H3 => Q [v, w, u] H3 := (tEs_cons h).mono fun v H1 h => tEs_two h
end
end Mi

/-! Mi3: expressions: what the checker asks, what the rules give (no calls of defs). -/
namespace Mi
open PySem PySem.Spec L2

/-! ### ends of an evaluation -/
section
variable {Γ : G} {C : Cn} {T : List NdefX.NTab} {W : WX} {io io' : Bool} {M M' : Addr → Prop} {st st' st1 st2 : List Sl} {σ : List (Option V)} {H H' H1 H2 : Hp}
theorem Rel.bnSome (r : Rel C M st σ H) {a : Addr} (b : Bn M st σ a) : ∃ o, H a = some o ∧ ∀ ps, o ≠ .tbl ps := by
  rcases b with m | o
  · exact r.al a m
  · obtain ⟨u, e, t, _⟩ := r.ownSome o
    exact ⟨u, e, t⟩
theorem Rel.bnFree (r : Rel C M st σ H) {a : Addr} (h : H a = none) : ¬ Bn M st σ a := fun b => by
  obtain ⟨o, e, _⟩ := r.bnSome b
  rw [h] at e
  cases e
/-- the heap has grown; nothing of the slots' own is written -/
theorem Rel.grow (r : Rel C M st σ H) (k : Kp (fun _ => False) H H') : Rel C M st σ H' :=
  ⟨r.len, fun i v e => by
    obtain ⟨w, e1, e2⟩ := r.sh i v e
    exact ⟨w, e1, Rep.mv k (fun _ z => z.elim) (fun a z => .inl z) v w e2⟩, fun i v e => by
    obtain ⟨a, e1, e2, n⟩ := r.ow i v e
    obtain ⟨o, e3, t, _⟩ := e2.some
    exact ⟨a, e1, OwnAt.mv k (fun _ z => z.elim) (fun a z => .inl z) ((k a o e3 (fun z => z) t).trans e3.symm) v e2, n⟩, r.inj, fun a m => by
    obtain ⟨o, e, t⟩ := r.al a m
    exact ⟨o, k a o e (fun z => z) t, t⟩⟩
theorem Kp.updF {p : Addr} {o : HO} (h : H p = none) : Kp (fun _ => False) H (L2.upd H p o) := Kp.upd h
theorem Rel.alloc {p : Addr} {o : HO} (r : Rel C M st σ H) (h : H p = none) (t : ∀ ps, o ≠ .tbl ps) : Rel C (Un M [p]) st σ (L2.upd H p o) := by
  have k : Kp (fun _ => False) H (L2.upd H p o) := Kp.updF h
  have g := r.grow k
  have bn : ∀ a, Bn (Un M [p]) st σ a → Bn M st σ a ∨ H a = none := fun a z => by
    rcases z with (z | z) | z
    · exact .inl (.inl z)
    · exact .inr (by rw [show a = p by simpa using z]; exact h)
    · exact .inl (.inr z)
  refine ⟨r.len, fun i v e => ?_, fun i v e => ?_, r.inj, fun a m => ?_⟩
  · obtain ⟨w, e1, e2⟩ := r.sh i v e
    exact ⟨w, e1, Rep.mv k (fun _ z => z.elim) bn v w e2⟩
  · obtain ⟨a, e1, e2, n⟩ := r.ow i v e
    obtain ⟨u, e3, tt, _⟩ := e2.some
    refine ⟨a, e1, OwnAt.mv k (fun _ z => z.elim) bn ((k a u e3 (fun z => z) tt).trans e3.symm) v e2, fun z => ?_⟩
    rcases z with z | z
    · exact n z
    · rw [show a = p by simpa using z, h] at e3
      cases e3
  · rcases m with m | m
    · exact g.al a m
    · rw [show a = p by simpa using m]
      exact ⟨o, upd_same, t⟩
theorem Step.grow (s : Step C T io M st st2 σ H H2) (k : Kp (fun _ => False) H2 H') (al : ∀ a, H2 a ≠ none → H' a ≠ none) (t : Tabs T H') : Step C T io M st st2 σ H H' :=
  ⟨s.rel.grow k, s.kp.trans (k.mono fun _ z => z.elim), fun a h => al a (s.al a h), s.sub, t⟩
theorem upd_al {p : Addr} {o : HO} (a : Addr) (h : H a ≠ none) : L2.upd H p o a ≠ none := by
  unfold L2.upd
  split
  · exact fun z => by cases z
  · exact h
theorem Step.upd {p : Addr} {o : HO} (s : Step C T io M st st2 σ H H2) (h : H2 p = none) : Step C T io M st st2 σ H (L2.upd H2 p o) :=
  s.grow (Kp.updF h) (fun a => upd_al a) (s.tab.upd h)
theorem Step.un0 (s : Step C T io M st st2 σ H H2) : Step C T io (Un M []) st st2 σ H H2 := s.weaken (fun a m => un_nil.mp m) (fun h => h)
theorem fin_sh {z : PV} {v : V} {Q : VK} (h : PostE C T W io M st σ H (.ok (.sh, z) st2) Q) (s : Step C T io M st st2 σ H H2) (r : Rep C (Bn M st2 σ) H2 z v) : Q v H2 :=
  h [v] [] H2 s.un0 List.nodup_nil (fun a z => absurd z (by simp)) (.sh (r.sub fun a => Bn.mono fun a m => un_nil.mp m) .nil) v rfl
theorem bn_new {p : Addr} (h : H2 p = none) : ∀ a, Bn (Un M [p]) st2 σ a → Bn M st2 σ a ∨ H2 a = none := fun a z => by
  rcases z with (z | z) | z
  · exact .inl (.inl z)
  · exact .inr (by rw [show a = p by simpa using z]; exact h)
  · exact .inl (.inr z)
/-- a new object, the value's own -/
theorem fin_ow {z : PV} {p : Addr} {o : HO} {Q : VK} (h : PostE C T W io M st σ H (.ok (.ow, z) st2) Q) (s : Step C T io M st st2 σ H H2) (hp : H2 p = none) (t : ∀ ps, o ≠ .tbl ps) (r : OwnAt C (Bn (Un M [p]) st2 σ) (L2.upd H2 p o) p z) : Q (.ref p) (L2.upd H2 p o) := by
  have hp0 : H p = none := by
    cases e : H p with
    | none => rfl
    | some u => exact absurd hp (s.al p (by rw [e]; exact fun z => by cases z))
  have s' : Step C T io M st st2 σ H (L2.upd H2 p o) := s.upd hp
  refine h [.ref p] [p] _ ⟨s.rel.alloc hp t, s'.kp, s'.al, s'.sub, s'.tab⟩ (by simp) (fun a ha => ?_) (.ow r .nil) _ rfl
  rw [show a = p by simpa using ha]
  exact ⟨fun m => s.rel.bnFree hp (.inl m), .inl hp0⟩
theorem own_lst {p : Addr} {xs : List PV} {vs : List V} (hp : H2 p = none) (q : Rep.RepL C (Bn M st2 σ) H2 xs vs) : OwnAt C (Bn (Un M [p]) st2 σ) (L2.upd H2 p (.lst vs)) p (.lst xs) :=
  ⟨vs, upd_same, RepL.mv (Kp.updF hp) (fun _ z => z.elim) (bn_new hp) xs vs q⟩
theorem own_dK {p : Addr} {xs : List (DK × PV)} {vs : List (Key × V)} (hp : H2 p = none) (q : Rep.RepK C (Bn M st2 σ) H2 xs vs) : OwnAt C (Bn (Un M [p]) st2 σ) (L2.upd H2 p (.dK vs)) p (.dic xs) :=
  ⟨vs, upd_same, RepK.mv (Kp.updF hp) (fun _ z => z.elim) (bn_new hp) xs vs q⟩
/-- a new object, shared from the start -/
theorem Rep.fresh_tup {p : Addr} {xs : List PV} {vs : List V} (r : Rel C M st2 σ H2) (hp : H2 p = none) (q : Rep.RepL C (Bn M st2 σ) H2 xs vs) : Rep C (Bn M st2 σ) (L2.upd H2 p (.tup vs)) (.tup xs) (.ref p) :=
  ⟨p, vs, rfl, .inl ⟨.inl upd_same, fun z => r.bnFree hp z⟩, RepL.mv (Kp.updF hp) (fun _ z => z.elim) (fun a z => .inl z) xs vs q⟩
theorem post_bind {r : Rs (List (Fl × PV))} {K : List (Fl × PV) → Slots → Rs (Fl × PV)} {Q : VK} (h : PostE C T W io M st σ H (r.bind K) Q) :
    Post C T W io M st σ H r fun vs H2 => ∃ xs st2 ps, r = .ok xs st2 ∧ Step C T io (Un M ps) st st2 σ H H2 ∧ ps.Nodup ∧ (∀ a ∈ ps, ¬ M a ∧ (H a = none ∨ Owns st σ a)) ∧ RL C (Bn (Un M ps) st2 σ) H2 xs vs ps ∧ PostE C T W io M st σ H (K xs st2) Q := by
  cases r with
  | ok xs st2 => exact fun vs ps H2 s n f q => ⟨xs, st2, ps, rfl, s, n, f, q, h⟩
  | ex c fs st2 => exact h
  | bad => exact h

/-! ### operands -/
theorem ORep.int {B : Addr → Prop} {i : Int} {v : V} (h : ORep C B H (.int i) v) : v = .int i := h.elim id fun ⟨_, _, h⟩ => h.elim
theorem ORep.bl {B : Addr → Prop} {b : Bool} {v : V} (h : ORep C B H (.bl b) v) : v = .bl b := h.elim id fun ⟨_, _, h⟩ => h.elim
theorem ORep.str {B : Addr → Prop} {x : Str} {v : V} (h : ORep C B H (.str x) v) : v = .str x := h.elim id fun ⟨_, _, h⟩ => h.elim
theorem ORep.non {B : Addr → Prop} {v : V} (h : ORep C B H .non v) : v = .non := h.elim id fun ⟨_, _, h⟩ => h.elim
theorem ORep.lst {B : Addr → Prop} {xs : List PV} {v : V} (h : ORep C B H (.lst xs) v) : ∃ a ys, v = .ref a ∧ H a = some (.lst ys) ∧ Rep.RepL C B H xs ys := by
  rcases h with ⟨a, ys, e, h, _, r⟩ | ⟨a, e, ys, h, r⟩
  · exact ⟨a, ys, e, h, r⟩
  · exact ⟨a, ys, e, h, r⟩
theorem ORep.tup {B : Addr → Prop} {xs : List PV} {v : V} (h : ORep C B H (.tup xs) v) : ∃ a ys, v = .ref a ∧ TupAt C.K B H a ys ∧ Rep.RepL C B H xs ys := h.elim id fun ⟨_, _, h⟩ => h.elim
theorem RepL.length {B : Addr → Prop} : ∀ {xs : List PV} {vs : List V}, Rep.RepL C B H xs vs → vs.length = xs.length
  | [], _, h => by rw [show _ = [] from h]; rfl
  | x :: xs, _, h => by
    obtain ⟨y, r, e, _, h2⟩ := h
    rw [e, List.length_cons, List.length_cons, RepL.length h2]
theorem RepL.append {B : Addr → Prop} : ∀ {xs ys : List PV} {vs ws : List V}, Rep.RepL C B H xs vs → Rep.RepL C B H ys ws → Rep.RepL C B H (xs ++ ys) (vs ++ ws)
  | [], ys, vs, ws, h, q => by rw [show vs = [] from h]; exact q
  | x :: xs, ys, vs, ws, h, q => by
    obtain ⟨y, r, e, h1, h2⟩ := h
    exact ⟨y, r ++ ws, by rw [e]; rfl, h1, RepL.append h2 q⟩
theorem RepL.get {B : Addr → Prop} : ∀ {xs : List PV} {vs : List V} {i : Nat} {x : PV}, Rep.RepL C B H xs vs → xs[i]? = some x → ∃ v, vs[i]? = some v ∧ Rep C B H x v
  | [], _, _, _, _, e => by simp at e
  | x :: xs, _, 0, z, h, e => by
    obtain ⟨y, r, ev, h1, h2⟩ := h
    simp at e
    subst e ev
    exact ⟨y, rfl, h1⟩
  | x :: xs, _, i + 1, z, h, e => by
    obtain ⟨y, r, ev, h1, h2⟩ := h
    subst ev
    obtain ⟨v, e1, e2⟩ := RepL.get (i := i) h2 (by simpa using e)
    exact ⟨v, by simpa using e1, e2⟩

end
end Mi

/-! Mi4: operations by values. -/
namespace Mi
open PySem PySem.Spec PyProof.Rows L2

def rSem2 (X : Cx) (f : Value → Value → Sem Value) : R2 := fun x y H Q => ∀ pins s σ v u, Inv X pins σ H s → RelV x v → RelV y u → wpAny (model X.prog X.w) X.A (f v u) (EP X pins σ Q) X.xe s
theorem opSem {X : Cx} {f : Value → Value → Sem Value} : OpR X f (rSem2 X f) := fun pins s σ H x y v u Q I rx ry h => h pins s σ v u I rx ry
theorem _root_.L2.OpR.sem {X : Cx} {f : Value → Value → Sem Value} {r : R2} (o : OpR X f r) {x y : V} {H : Hp} {Q : VK} (h : r x y H Q) : rSem2 X f x y H Q := fun pins s σ v u I rx ry => o pins s σ H x y v u Q I rx ry h
def rSem1 (X : Cx) (f : Value → Sem Value) : V → Hp → VK → Prop := fun x H Q => ∀ pins s σ v, Inv X pins σ H s → RelV x v → wpAny (model X.prog X.w) X.A (f v) (EP X pins σ Q) X.xe s
theorem unSem {X : Cx} {f : Value → Sem Value} : UnR X f (rSem1 X f) := fun pins s σ H x v Q I rx h => h pins s σ v I rx
def rSemC (X : Cx) (f : Value) : List V → Hp → VK → Prop := fun xs H Q => ∀ pins s σ us, Inv X pins σ H s → Vals xs us → wpAny (model X.prog X.w) X.A (call f us) (EP X pins σ Q) X.xe s
theorem callSem {X : Cx} {f : Value} : CallR X f (rSemC X f) := fun pins s σ H xs us Q I r h => h pins s σ us I r
theorem _root_.L2.CallR.sem {X : Cx} {f : Value} {r : List V → Hp → VK → Prop} (o : CallR X f r) {xs : List V} {H : Hp} {Q : VK} (h : r xs H Q) : rSemC X f xs H Q := fun pins s σ us I q => o pins s σ H xs us Q I q h

def opB : Op → Operator → Bool
  | .add, .Add => true
  | .sub, .Sub => true
  | .mul, .Mult => true
  | .fdiv, .FloorDiv => true
  | .mod, .Mod => true
  | .pow, .Pow => true
  | .shl, .LShift => true
  | _, _ => false
theorem mulOk_ok {i j : Int} (h : mulOk i j) : IntMulOk i j := by
  have b : ∀ x : Int, Builtin.Int.intBits x ≤ x.natAbs.log2 + 1 := fun x => by
    unfold Builtin.Int.intBits
    split <;> omega
  have h1 := b i
  have h2 := b j
  have h3 : i.natAbs.log2 + j.natAbs.log2 < 100000000 := h
  have e : bitsLine = 134217728 := by decide
  unfold IntMulOk
  intro z
  rw [Bool.and_eq_true] at z
  have z2 := z.2
  unfold Builtin.Int.intTooBig at z2
  have z3 := of_decide_eq_true z2
  rw [e] at z3
  omega
theorem big_eq : big = sizeLine := by rw [sizeLine_eq]; rfl
section
variable {X : Cx} {Γ : G} {C : Cn} {T : List NdefX.NTab} {W : WX} {io io' : Bool} {M M' : Addr → Prop} {st st' st1 st2 : List Sl} {σ : List (Option V)} {H H' H1 H2 : Hp}
theorem op_mulM : OpR X (binaryOp .Mult) (rI mulOk fun i j => .int (i * j)) := opI fun _ _ _ _ _ _ _ hc q => mul_int q (mulOk_ok hc)
theorem op_fdivM : OpR X (binaryOp .FloorDiv) (rI (fun i j => 0 < j ∧ Builtin.divisionGoesByPylong i j = false) fun i j => .int (i / j)) := opI fun i j _ _ _ _ _ hc q => by
  have h1 : (0 : Int) < j := hc.1
  exact floordiv_int (by omega) (by rw [Int.fdiv_eq_ediv_of_nonneg i (by omega)]; exact q) (.inl hc.2)
theorem resF_some {o : Option (Bool × PV)} {Q : VK} (h : PostE C T W io M st σ H (resF o st2) Q) : ∃ n z, o = some (n, z) := by
  cases o with
  | none => exact (show False from h).elim
  | some p => exact ⟨p.1, p.2, rfl⟩
theorem op_ap {o : Op} {op : Operator} {x y : PV} {v w : V} {Q : VK} (hK : X.K = C.K) (ho : opB o op = true) (hM : ∀ a, M a → M' a) (s : Step C T io M' st st2 σ H H2) (h1 : ORep C (Bn M' st2 σ) H2 x v) (h2 : ORep C (Bn M' st2 σ) H2 y w)
    (h : PostE C T W io M st σ H (resF (o.ap x y) st2) Q) : rSem2 X (binaryOp op) v w H2 Q := by
  have s0 : Step C T io M st st2 σ H H2 := s.weaken hM (fun z => z)
  have ii : ∀ {i : Int}, PostE C T W io M st σ H (resF (some (false, .int i)) st2) Q → Q (.int i) H2 := fun h => fin_sh h s0 rfl
  unfold Op.ap at h
  split at h
  all_goals first
    | exact (show False from h).elim
    | skip
  · rename_i a b
    rw [h1.int, h2.int]
    cases op <;> first | exact absurd ho (by decide) | skip
    exact op_add.sem ⟨a, b, rfl, rfl, ii h⟩
  · rename_i a b
    rw [h1.str, h2.str]
    split at h
    · rename_i hz
      cases op <;> first | exact absurd ho (by decide) | skip
      exact op_add_str.sem ⟨a, b, rfl, rfl, by rw [← big_eq]; exact hz, fin_sh h s0 rfl⟩
    · exact (show False from h).elim
  · rename_i a b
    obtain ⟨p, vs, e1, q1, r1⟩ := h1.lst
    obtain ⟨q, ws, e2, q2, r2⟩ := h2.lst
    rw [e1, e2]
    split at h
    · rename_i hz
      cases op <;> first | exact absurd ho (by decide) | skip
      refine op_cat.sem ⟨p, q, vs, ws, rfl, rfl, q1, q2, by rw [RepL.length r1, RepL.length r2, ← big_eq]; exact hz, fun t ht => ?_⟩
      exact fin_ow h s0 ht (fun ps z => by cases z) (own_lst ht ((RepL.append r1 r2).sub fun a => Bn.mono hM))
    · exact (show False from h).elim
  · rename_i a b
    obtain ⟨p, vs, e1, q1, r1⟩ := h1.tup
    obtain ⟨q, ws, e2, q2, r2⟩ := h2.tup
    rw [e1, e2]
    split at h
    · rename_i hz
      cases op <;> first | exact absurd ho (by decide) | skip
      have rr := RepL.append r1 r2
      have hne : vs ≠ [] := fun z => by
        have l := RepL.length r1
        rw [z] at l
        cases a with
        | nil => exact absurd hz.1 (by decide)
        | cons x xs => rw [List.length_cons, List.length_nil] at l; omega
      refine op_catT.sem ⟨p, q, vs, ws, rfl, rfl, by rw [hK]; exact q1.sq, by rw [hK]; exact q2.sq, hne, by rw [RepL.length r1, RepL.length r2, ← big_eq]; exact hz.2, fun z => ?_, fun _ t ht => ?_⟩
      · subst z
        have e : vs ++ [] = vs := List.append_nil vs
        rw [e] at rr
        exact fin_sh h s0 ⟨p, vs, rfl, q1.elim (fun z => .inl ⟨z.1, fun y => z.2 (Bn.mono hM y)⟩) .inr, rr.sub fun a => Bn.mono hM⟩
      · have s1 := s0.upd (o := .tup (vs ++ ws)) ht
        exact fin_sh h s1 (Rep.fresh_tup s0.rel ht (rr.sub fun a => Bn.mono hM))
    · exact (show False from h).elim
  · rename_i a b
    rw [h1.int, h2.int]
    cases op <;> first | exact absurd ho (by decide) | skip
    exact op_sub.sem ⟨a, b, rfl, rfl, ii h⟩
  · rename_i a b
    rw [h1.int, h2.int]
    split at h
    · rename_i hz
      cases op <;> first | exact absurd ho (by decide) | skip
      exact op_mulM.sem ⟨a, b, rfl, rfl, hz, ii h⟩
    · exact (show False from h).elim
  · rename_i a b
    rw [h1.int, h2.int]
    split at h
    · rename_i hz
      cases op <;> first | exact absurd ho (by decide) | skip
      exact op_fdivM.sem ⟨a, b, rfl, rfl, hz, ii h⟩
    · exact (show False from h).elim
  · rename_i a b
    rw [h1.int, h2.int]
    split at h
    · rename_i hz
      cases op <;> first | exact absurd ho (by decide) | skip
      exact op_mod.sem ⟨a, b, rfl, rfl, hz, ii h⟩
    · exact (show False from h).elim
  · rename_i a b
    rw [h1.int, h2.int]
    split at h
    · rename_i hz
      cases op <;> first | exact absurd ho (by decide) | skip
      exact op_pow.sem ⟨a, b, rfl, rfl, hz, ii h⟩
    · exact (show False from h).elim
  · rename_i a b
    rw [h1.int, h2.int]
    split at h
    · rename_i hz
      cases op <;> first | exact absurd ho (by decide) | skip
      exact op_shl.sem ⟨a, b, rfl, rfl, hz, ii h⟩
    · exact (show False from h).elim

/-! ### comparisons -/
theorem op_isB : OpR X (compareOp .Is) (fun x y H Q => ∃ b, y = .bl b ∧ Q (.bl (decide (x = .bl b))) H) := by
  intro pins s σ H x y v u Q I rx ry h
  obtain ⟨b, rfl, q⟩ := h
  cases (show u = Value.bool b from ry)
  cases x with
  | bl a =>
    cases (show v = Value.bool a from rx)
    by_cases e : a = b
    · subst e
      exact wpAny_is_self rfl ⟨.bl true, H, I, rfl, by simpa using q⟩
    · exact wpAny_is_other rfl (fun z => e (Value.bool.inj z)) ⟨.bl false, H, I, rfl, by simpa [e] using q⟩
  | non => cases rx; exact wpAny_pure (fin_bl I q rfl)
  | int i => obtain ⟨t, rfl⟩ := rx; exact wpAny_pure (fin_bl I q rfl)
  | str i => obtain ⟨t, rfl⟩ := rx; exact wpAny_pure (fin_bl I q rfl)
  | byt i => obtain ⟨t, rfl⟩ := rx; exact wpAny_pure (fin_bl I q rfl)
  | flt i => obtain ⟨t, rfl⟩ := rx; exact wpAny_pure (fin_bl I q rfl)
  | ref i => cases rx; exact wpAny_pure (fin_bl I q rfl)
  | ty i => cases rx; exact wpAny_pure (fin_bl I q rfl)
theorem op_notB : OpR X (compareOp .IsNot) (fun x y H Q => ∃ b, y = .bl b ∧ Q (.bl (!decide (x = .bl b))) H) := by
  intro pins s σ H x y v u Q I rx ry h
  obtain ⟨b, rfl, q⟩ := h
  cases (show u = Value.bool b from ry)
  cases x with
  | bl a => exact op_notBl pins s σ H (.bl a) (.bl b) v _ Q I rx rfl ⟨a, b, rfl, rfl, by simpa using q⟩
  | non => cases rx; exact wpAny_pure (fin_bl I q rfl)
  | int i => obtain ⟨t, rfl⟩ := rx; exact wpAny_pure (fin_bl I q rfl)
  | str i => obtain ⟨t, rfl⟩ := rx; exact wpAny_pure (fin_bl I q rfl)
  | byt i => obtain ⟨t, rfl⟩ := rx; exact wpAny_pure (fin_bl I q rfl)
  | flt i => obtain ⟨t, rfl⟩ := rx; exact wpAny_pure (fin_bl I q rfl)
  | ref i => cases rx; exact wpAny_pure (fin_bl I q rfl)
  | ty i => cases rx; exact wpAny_pure (fin_bl I q rfl)
/-- a value's kind shows -/
theorem ORep.kind_non {B : Addr → Prop} {x : PV} {v : V} (h : ORep C B H x v) : v = .non ↔ x = .non := by
  constructor
  · intro e
    subst e
    rcases h with h | ⟨a, e, _⟩
    · cases x <;> first | rfl | exact absurd h (by simp [Rep]) | (obtain ⟨_, _, e, _⟩ := h; cases e) | (obtain ⟨_, e, _⟩ := h; cases e) | (obtain ⟨_, _, _, e, _⟩ := h; cases e)
    · cases e
  · intro e
    subst e
    exact h.non
theorem ORep.kind_bl {B : Addr → Prop} {x : PV} {v : V} {b : Bool} (h : ORep C B H x v) : v = .bl b ↔ x = .bl b := by
  constructor
  · intro e
    subst e
    rcases h with h | ⟨a, e, _⟩
    · cases x with
      | bl c => cases (show V.bl b = .bl c from h); rfl
      | _ => first | exact absurd h (by simp [Rep]) | (obtain ⟨_, _, e, _⟩ := h; cases e) | (obtain ⟨_, e, _⟩ := h; cases e) | (obtain ⟨_, _, _, e, _⟩ := h; cases e)
    · cases e
  · intro e
    subst e
    exact h.bl
mutual
theorem Rep.dp {K : PySem.W.Frag} {B : Addr → Prop} (hK : K = C.K) : ∀ (x : PV) (v : V) (d : PyData), Rep C B H x v → x.dat = some d → d.canLay0 = true → Dp K H v d
  | .non, v, d, h, e, _ => by cases e; rw [show v = .non from h]; exact .non
  | .bl b, v, d, h, e, _ => by cases e; rw [show v = .bl b from h]; exact .bl b
  | .int i, v, d, h, e, _ => by cases e; rw [show v = .int i from h]; exact .int i
  | .str i, v, d, h, e, _ => by cases e; rw [show v = .str i from h]; exact .str i
  | .tup xs, v, d, h, e, c => by
    obtain ⟨a, ys, ev, t, r⟩ := h
    unfold PV.dat at e
    split at e
    · rename_i ds q
      cases e
      rw [ev]
      exact .tup (by rw [hK]; exact t.sq) (RepL.dp hK xs ys ds r q (by simpa only [PyData.canLay0] using c))
    · cases e
  | .lst xs, v, d, h, e, c => by
    obtain ⟨a, ys, ev, t, _, r⟩ := h
    unfold PV.dat at e
    split at e
    · rename_i ds q
      cases e
      rw [ev]
      exact .lst (SqL.of t) (RepL.dp hK xs ys ds r q (by simpa only [PyData.canLay0] using c))
    · cases e
  | .dic kvs, v, d, h, e, c => by
    unfold PV.dat at e
    split at e
    · cases e
      simp only [PyData.canLay0] at c
      cases c
    · cases e
  | .ins _ _, _, _, _, e, _ => by cases e
  | .exc _ _, _, _, _, e, _ => by cases e
  | .fn _, _, _, _, e, _ => by cases e
  | .clo _ _, _, _, _, e, _ => by cases e
  | .klst _, _, _, _, e, _ => by cases e
theorem RepL.dp {K : PySem.W.Frag} {B : Addr → Prop} (hK : K = C.K) : ∀ (xs : List PV) (vs : List V) (ds : List PyData), Rep.RepL C B H xs vs → PV.dat.datL xs = some ds → PyData.canLayAll0 ds = true → DpAll K H vs ds
  | [], _, ds, h, e, _ => by cases e; rw [show _ = [] from h]; exact .nil
  | x :: xs, _, ds, h, e, c => by
    obtain ⟨y, r, ev, h1, h2⟩ := h
    unfold PV.dat.datL at e
    split at e
    · rename_i d ds' q1 q2
      cases e
      rw [ev]
      have c' : d.canLay0 = true ∧ PyData.canLayAll0 ds' = true := by simpa [PyData.canLayAll0] using c
      exact .cons (Rep.dp hK x y d h1 q1 c'.1) (RepL.dp hK xs r ds' h2 q2 c'.2)
    · cases e
end

theorem resB_some {o : Option Bool} {Q : VK} (h : PostE C T W io M st σ H (resB o st2) Q) : ∃ b, o = some b := by
  cases o with
  | none => exact (show False from h).elim
  | some b => exact ⟨b, rfl⟩
theorem fin_b {b : Bool} {Q : VK} (h : PostE C T W io M st σ H (resB (some b) st2) Q) (s : Step C T io M st st2 σ H H2) : Q (.bl b) H2 := fin_sh h s rfl
def cpB : Cp → CmpOp → Bool
  | .eq, .Eq => true
  | .ne, .NotEq => true
  | .lt, .Lt => true
  | .le, .LtE => true
  | .gt, .Gt => true
  | .ge, .GtE => true
  | .is, .Is => true
  | .isn, .IsNot => true
  | .mem, .In => true
  | .nmem, .NotIn => true
  | _, _ => false
/-- an operand as data -/
theorem ORep.dp {K : PySem.W.Frag} {B : Addr → Prop} {x : PV} {v : V} {d : PyData} (hK : K = C.K) (h : ORep C B H x v) (e : x.dat = some d) (c : d.canLay0 = true) : Dp K H v d := by
  rcases h with h | ⟨a, ev, h⟩
  · exact Rep.dp hK x v d h e c
  · subst ev
    cases x with
    | lst xs =>
      obtain ⟨ys, q, r⟩ := h
      unfold PV.dat at e
      split at e
      · cases e
        exact .lst (SqL.of q) (RepL.dp hK xs ys _ r (by assumption) (by simpa only [PyData.canLay0] using c))
      · cases e
    | dic kvs =>
      unfold PV.dat at e
      split at e
      · cases e
        simp only [PyData.canLay0] at c
        cases c
      · cases e
    | ins _ _ => cases e
    | _ => exact (show False from h).elim
theorem eqvD_some {x y : PV} {b : Bool} (e : eqvD x y = some b) : ∃ d d', x.dat = some d ∧ y.dat = some d' ∧ PySem.SeqAt.shaped d = true ∧ PySem.SeqAt.shaped d' = true ∧ b = PyData.eqv d d' := by
  unfold eqvD at e
  split at e
  · split at e
    · rename_i d d' h1 h2 hs
      cases e
      exact ⟨d, d', h1, h2, hs.1, hs.2, rfl⟩
    · cases e
  · cases e
theorem eqvP_or {x y : PV} {b : Bool} (e : eqvP x y = some b) : (∃ i j : Int, x = .int i ∧ y = .int j ∧ b = decide (i = j)) ∨ (∃ i j : Str, x = .str i ∧ y = .str j ∧ b = decide (i = j)) ∨ (∃ i j : Bool, x = .bl i ∧ y = .bl j ∧ b = decide (i = j)) ∨ (x = .non ∧ y = .non ∧ b = true) ∨ eqvD x y = some b := by
  unfold eqvP at e
  split at e
  · cases e; exact .inl ⟨_, _, rfl, rfl, rfl⟩
  · cases e; exact .inr (.inl ⟨_, _, rfl, rfl, rfl⟩)
  · cases e; exact .inr (.inr (.inl ⟨_, _, rfl, rfl, rfl⟩))
  · cases e; exact .inr (.inr (.inr (.inl ⟨rfl, rfl, rfl⟩)))
  · exact .inr (.inr (.inr (.inr e)))
theorem eq_scal {x y : PV} {v w : V} {b : Bool} {B : Addr → Prop} (h1 : ORep C B H x v) (h2 : ORep C B H y w) (e : eqvP x y = some b) : (scal v w = true ∧ b = decide (v = w)) ∨ eqvD x y = some b := by
  rcases eqvP_or e with ⟨i, j, rfl, rfl, rfl⟩ | ⟨i, j, rfl, rfl, rfl⟩ | ⟨i, j, rfl, rfl, rfl⟩ | ⟨rfl, rfl, rfl⟩ | e
  · rw [h1.int, h2.int]; exact .inl ⟨rfl, by simp⟩
  · rw [h1.str, h2.str]; exact .inl ⟨rfl, by simp⟩
  · rw [h1.bl, h2.bl]; exact .inl ⟨rfl, by simp⟩
  · rw [h1.non, h2.non]; exact .inl ⟨rfl, by simp⟩
  · exact .inr e
theorem atom_kV {B : Addr → Prop} {x : PV} {v : V} {k : Key} (h : ORep C B H x v) (e : x.atom? = some k) : v = kV k := by
  cases x with
  | int i => cases e; exact h.int
  | str s => cases e; exact h.str
  | _ => cases e
theorem repK_get {B : Addr → Prop} : ∀ {kvs : List (DK × PV)} {ks : List (Key × V)} (k : Key), Rep.RepK C B H kvs ks → (∀ v, dget kvs k = some v → ∃ w, valV ks k = some w ∧ Rep C B H v w) ∧ (dget kvs k = none → valV ks k = none)
  | [], _, k, h => by
    rw [show _ = [] from h]
    exact ⟨fun v e => (by cases e), fun _ => rfl⟩
  | (j, x) :: kvs, _, k, h => by
    obtain ⟨y, r, ev, h1, h2⟩ := h
    subst ev
    have ih := repK_get k h2
    by_cases e : j = k
    · subst e
      refine ⟨fun v q => ⟨y, valV_pos rfl, ?_⟩, fun q => ?_⟩
      · unfold dget at q; rw [if_pos rfl] at q; cases q; exact h1
      · unfold dget at q; rw [if_pos rfl] at q; cases q
    · refine ⟨fun v q => ?_, fun q => ?_⟩
      · unfold dget at q; rw [if_neg e] at q
        rw [valV_neg (p := (j, y)) e]
        exact ih.1 v q
      · unfold dget at q; rw [if_neg e] at q
        rw [valV_neg (p := (j, y)) e]
        exact ih.2 q
theorem ORep.dic {B : Addr → Prop} {kvs : List (DK × PV)} {v : V} (h : ORep C B H (.dic kvs) v) : ∃ a ks, v = .ref a ∧ H a = some (.dK ks) ∧ Rep.RepK C B H kvs ks := by
  rcases h with ⟨a, ks, e, h, _, r⟩ | ⟨a, e, ks, h, r⟩
  · exact ⟨a, ks, e, h, r⟩
  · exact ⟨a, ks, e, h, r⟩
/-- a look-up in a dict -/
theorem dic_get {B : Addr → Prop} {kvs : List (DK × PV)} {x : PV} {v w : V} {k : Key} (hd : ORep C B H (.dic kvs) v) (hx : ORep C B H x w) (ek : x.atom? = some k) :
    ∃ a o, v = .ref a ∧ DGet H a w o ∧ (∀ y, dget kvs k = some y → ∃ z, o = some z ∧ Rep C B H y z) ∧ (dget kvs k = none → o = none) := by
  obtain ⟨a, ks, e, h, r⟩ := hd.dic
  have g := repK_get k r
  refine ⟨a, valV ks k, e, ?_, fun y q => ?_, g.2⟩
  · rw [atom_kV hx ek]
    exact .inl ⟨ks, k, .inl h, rfl, rfl⟩
  · obtain ⟨z, e1, e2⟩ := g.1 y q
    exact ⟨z, e1, e2⟩
theorem datL_of {xs : List PV} {ds : List PyData} (e : PV.dat.datL xs = some ds) : (PV.lst xs).dat = some (.list ds) ∧ (PV.tup xs).dat = some (.tuple ds) := by
  constructor
  · unfold PV.dat; rw [e]
  · unfold PV.dat; rw [e]
theorem op_inL {neg : Bool} (hu : X.A.units + 65 < cLine) : OpR X (compareOp (if neg then .NotIn else .In)) (fun x y H Q => ∃ d ds, Dp X.K H x d ∧ (Dp X.K H y (.list ds) ∨ Dp X.K H y (.tuple ds)) ∧ SeqAt.shaped d = true ∧ PyData.canLayAll0 ds = true ∧ Q (.bl (if neg then !(ds.any fun z => PyData.eqv z d) else ds.any fun z => PyData.eqv z d)) H) := by
  intro pins s σ H x y v u Q I rx ry h
  obtain ⟨d, ds, hd, he, sd, se, q⟩ := h
  obtain ⟨as, r1⟩ := Dp.reads I d x v hd rx
  have room : X.A.units + 1 + min (PyData.depthAll ds) d.depth < cLine := by
    have h1 := SeqAt.depth_of_shaped sd
    have h2 : min (PyData.depthAll ds) d.depth ≤ d.depth := Nat.min_le_right _ _
    omega
  rcases he with he | he
  · obtain ⟨bs, r2⟩ := Dp.reads I (.list ds) y u he ry
    cases neg with
    | false => exact SeqAt.in_list_reads r2 r1 se (SeqAt.canLay_of_shaped sd) room ⟨.bl _, H, I, rfl, q⟩
    | true => exact SeqAt.notIn_list_reads r2 r1 se (SeqAt.canLay_of_shaped sd) room ⟨.bl _, H, I, rfl, q⟩
  · obtain ⟨bs, r2⟩ := Dp.reads I (.tuple ds) y u he ry
    cases neg with
    | false => exact SeqAt.in_tuple_reads r2 r1 se (SeqAt.canLay_of_shaped sd) room ⟨.bl _, H, I, rfl, q⟩
    | true => exact SeqAt.notIn_tuple_reads r2 r1 se (SeqAt.canLay_of_shaped sd) room ⟨.bl _, H, I, rfl, q⟩
theorem op_inDic {neg : Bool} (hu : X.A.units + 1 < cLine) : OpR X (compareOp (if neg then .NotIn else .In)) (fun x y H Q => ∃ a o, y = .ref a ∧ DGet H a x o ∧ Q (.bl (if neg then !o.isSome else o.isSome)) H) := by
  intro pins s σ H x y v u Q I rx ry h
  obtain ⟨a, o, rfl, g, q⟩ := h
  cases ry
  cases neg with
  | false => exact d_in hu I g rx fun s3 I3 => ⟨.bl _, H, I3, rfl, q⟩
  | true => exact d_notIn hu I g rx fun s3 I3 => ⟨.bl _, H, I3, rfl, q⟩
theorem mem_ap {neg : Bool} {x y : PV} {v w : V} {b : Bool} {Q : VK} (hK : X.K = C.K) (hu : X.A.units + 65 < cLine) {B : Addr → Prop} (h1 : ORep C B H x v) (h2 : ORep C B H y w) (e : memP x y = some b) (q : Q (.bl (if neg then !b else b)) H) :
    rSem2 X (compareOp (if neg then .NotIn else .In)) v w H Q := by
  unfold memP at e
  split at e
  · rename_i xs
    unfold memL at e
    split at e
    · rename_i d ds q1 q2
      split at e
      · rename_i hs
        cases e
        refine (op_inL (neg := neg) hu).sem ⟨d, ds, h1.dp hK q1 (SeqAt.canLay_of_shaped hs.1), .inl (h2.dp hK (datL_of q2).1 (by simpa only [PyData.canLay0] using hs.2)), hs.1, hs.2, q⟩
      · cases e
    · cases e
  · rename_i xs
    unfold memL at e
    split at e
    · rename_i d ds q1 q2
      split at e
      · rename_i hs
        cases e
        refine (op_inL (neg := neg) hu).sem ⟨d, ds, h1.dp hK q1 (SeqAt.canLay_of_shaped hs.1), .inr (h2.dp hK (datL_of q2).2 (by simpa only [PyData.canLay0] using hs.2)), hs.1, hs.2, q⟩
      · cases e
    · cases e
  · rename_i kvs
    split at e
    · rename_i k ek
      obtain ⟨a, o, ev, g, p1, p2⟩ := dic_get h2 h1 ek
      have eb : o.isSome = b := by
        have e' : (dget kvs k).isSome = b := Option.some.inj e
        rw [← e']
        cases q : dget kvs k with
        | none => rw [p2 q]; rfl
        | some y =>
          obtain ⟨z, e1, _⟩ := p1 y q
          rw [e1]
          rfl
      refine (op_inDic (neg := neg) (by omega)).sem ⟨a, o, ev, g, by rw [eb]; exact q⟩
    · cases e
  · cases e
theorem isP_some {x y : PV} {b : Bool} (e : isP x y = some b) : (y = .non ∧ b = isNon x) ∨ ∃ c, y = .bl c ∧ b = isBl c x := by
  unfold isP at e
  split at e
  · exact .inl ⟨rfl, (Option.some.inj e).symm⟩
  · exact .inr ⟨_, rfl, (Option.some.inj e).symm⟩
  · cases e
theorem isNon_eq {B : Addr → Prop} {x : PV} {v : V} (h : ORep C B H x v) : decide (v = .non) = isNon x := by
  by_cases e : x = .non
  · subst e
    rw [h.non]
    rfl
  · rw [decide_eq_false (fun z => e (h.kind_non.mp z))]
    cases x <;> first | rfl | exact absurd rfl e
theorem isBl_eq {B : Addr → Prop} {x : PV} {v : V} {c : Bool} (h : ORep C B H x v) : decide (v = .bl c) = isBl c x := by
  by_cases e : x = .bl c
  · subst e
    rw [h.bl]
    simp [isBl]
  · rw [decide_eq_false (fun z => e (h.kind_bl.mp z))]
    cases x with
    | bl d =>
      have ne : d ≠ c := fun z => e (by rw [z])
      simp [isBl, ne]
    | _ => rfl
theorem cp_ap {o : Cp} {op : CmpOp} {x y : PV} {v w : V} {b : Bool} {Q : VK} (hK : X.K = C.K) (hu : X.A.units + 65 < cLine) (ho : cpB o op = true) {B : Addr → Prop} (h1 : ORep C B H x v) (h2 : ORep C B H y w)
    (e : o.ap x y = some b) (q : Q (.bl b) H) : rSem2 X (compareOp op) v w H Q := by
  cases o with
  | eq =>
    cases op <;> first | exact absurd ho (by decide) | skip
    rcases eq_scal h1 h2 (show eqvP x y = some b from e) with ⟨k1, rfl⟩ | e
    · exact op_eq.sem ⟨k1, q⟩
    obtain ⟨d, d', e1, e2, s1, s2, rfl⟩ := eqvD_some e
    exact (op_eqD (by omega)).sem ⟨d, d', h1.dp hK e1 (SeqAt.canLay_of_shaped s1), h2.dp hK e2 (SeqAt.canLay_of_shaped s2), s1, s2, q⟩
  | ne =>
    cases op <;> first | exact absurd ho (by decide) | skip
    obtain ⟨c, e0, rfl⟩ := Option.map_eq_some_iff.mp (show (eqvP x y).map (!·) = some b from e)
    rcases eq_scal h1 h2 e0 with ⟨k1, rfl⟩ | e0
    · exact op_ne.sem ⟨k1, q⟩
    obtain ⟨d, d', e1, e2, s1, s2, rfl⟩ := eqvD_some e0
    exact (op_neD (by omega)).sem ⟨d, d', h1.dp hK e1 (SeqAt.canLay_of_shaped s1), h2.dp hK e2 (SeqAt.canLay_of_shaped s2), s1, s2, q⟩
  | lt =>
    cases op <;> first | exact absurd ho (by decide) | skip
    cases x <;> first | cases e | skip
    cases y <;> first | cases e | skip
    rw [h1.int, h2.int]
    exact op_lt.sem ⟨_, _, rfl, rfl, q⟩
  | le =>
    cases op <;> first | exact absurd ho (by decide) | skip
    cases x <;> first | cases e | skip
    cases y <;> first | cases e | skip
    rw [h1.int, h2.int]
    exact op_le.sem ⟨_, _, rfl, rfl, q⟩
  | gt =>
    cases op <;> first | exact absurd ho (by decide) | skip
    cases x <;> first | cases e | skip
    cases y <;> first | cases e | skip
    rw [h1.int, h2.int]
    exact op_gt.sem ⟨_, _, rfl, rfl, q⟩
  | ge =>
    cases op <;> first | exact absurd ho (by decide) | skip
    cases x <;> first | cases e | skip
    cases y <;> first | cases e | skip
    rw [h1.int, h2.int]
    exact op_ge.sem ⟨_, _, rfl, rfl, q⟩
  | is =>
    cases op <;> first | exact absurd ho (by decide) | skip
    rcases isP_some (show isP x y = some b from e) with ⟨rfl, rfl⟩ | ⟨c, rfl, rfl⟩
    · rw [h2.non]
      exact op_isN.sem ⟨rfl, by rw [isNon_eq h1]; exact q⟩
    · rw [h2.bl]
      exact op_isB.sem ⟨c, rfl, by rw [isBl_eq h1]; exact q⟩
  | isn =>
    cases op <;> first | exact absurd ho (by decide) | skip
    obtain ⟨b', e0, rfl⟩ := Option.map_eq_some_iff.mp (show (isP x y).map (!·) = some b from e)
    rcases isP_some e0 with ⟨rfl, rfl⟩ | ⟨c, rfl, rfl⟩
    · rw [h2.non]
      exact op_notN.sem ⟨rfl, by rw [isNon_eq h1]; exact q⟩
    · rw [h2.bl]
      exact op_notB.sem ⟨c, rfl, by rw [isBl_eq h1]; exact q⟩
  | mem =>
    cases op <;> first | exact absurd ho (by decide) | skip
    exact mem_ap (neg := false) hK hu h1 h2 e q
  | nmem =>
    cases op <;> first | exact absurd ho (by decide) | skip
    obtain ⟨c, e0, rfl⟩ := Option.map_eq_some_iff.mp (show (memP x y).map (!·) = some b from e)
    exact mem_ap (neg := true) hK hu h1 h2 e0 q
end
end Mi

/-! Mi5: built-in functions, subscripts, slices, attributes by values. -/
namespace Mi
open PySem PySem.Spec PyProof.Rows L2

section
variable {X : Cx} {Γ : G} {C : Cn} {T : List NdefX.NTab} {W : WX} {io io' : Bool} {M M' : Addr → Prop} {st st' st1 st2 : List Sl} {σ : List (Option V)} {H H' H1 H2 : Hp}
theorem OL.one {B : Addr → Prop} {x : PV} {vs : List V} (h : OL C B H [x] vs) : ∃ v, vs = [v] ∧ ORep C B H x v := by
  cases h with
  | cons h1 h2 => cases h2; exact ⟨_, rfl, h1⟩
theorem OL.two {B : Addr → Prop} {x y : PV} {vs : List V} (h : OL C B H [x, y] vs) : ∃ v w, vs = [v, w] ∧ ORep C B H x v ∧ ORep C B H y w := by
  cases h with
  | cons h1 h2 =>
    obtain ⟨w, e, h3⟩ := OL.one h2
    exact ⟨_, w, by rw [e], h1, h3⟩
theorem OL.three {B : Addr → Prop} {x y z : PV} {vs : List V} (h : OL C B H [x, y, z] vs) : ∃ v w u, vs = [v, w, u] ∧ ORep C B H x v ∧ ORep C B H y w ∧ ORep C B H z u := by
  cases h with
  | cons h1 h2 =>
    obtain ⟨w, u, e, h3, h4⟩ := OL.two h2
    exact ⟨_, w, u, by rw [e], h1, h3, h4⟩
theorem ORep.klst {B : Addr → Prop} {xs : List PV} {v : V} (h : ORep C B H (.klst xs) v) : ∃ a ys, v = .ref a ∧ LstAt C.K B H a ys ∧ Rep.RepL C B H xs ys := h.elim id fun ⟨_, _, h⟩ => h.elim
/-- a sequence's items -/
theorem ORep.seq {K : PySem.W.Frag} {B : Addr → Prop} {x : PV} {xs : List PV} {v : V} (hK : K = C.K) (h : ORep C B H x v) (e : itemsP x = some xs) : ∃ a ys, v = .ref a ∧ (SqL K H a ys ∨ (SqT K H a ys ∧ x = .tup xs)) ∧ Rep.RepL C B H xs ys := by
  unfold itemsP at e
  split at e
  · cases e
    obtain ⟨a, ys, e1, e2, r⟩ := h.lst
    exact ⟨a, ys, e1, .inl (SqL.of e2), r⟩
  · cases e
    obtain ⟨a, ys, e1, e2, r⟩ := h.klst
    exact ⟨a, ys, e1, .inl (by rw [hK]; exact e2.sq), r⟩
  · cases e
    obtain ⟨a, ys, e1, e2, r⟩ := h.tup
    exact ⟨a, ys, e1, .inr ⟨by rw [hK]; exact e2.sq, rfl⟩, r⟩
  · cases e
theorem RepL.ints {B : Addr → Prop} : ∀ {xs : List PV} {vs : List V} {is : List Int}, Rep.RepL C B H xs vs → intsOf xs = some is → vs = is.map V.int
  | [], _, _, h, e => by cases e; rw [show _ = [] from h]; rfl
  | x :: xs, _, is, h, e => by
    obtain ⟨y, r, ev, h1, h2⟩ := h
    unfold intsOf at e
    split at e
    · rename_i z; cases z
    · rename_i i xs' he
      split at e
      · rename_i is' q
        cases he
        cases e
        rw [ev, RepL.ints h2 q, show y = .int i from h1]
        rfl
      · cases e
    · cases e
theorem RepL.allB {B : Addr → Prop} : ∀ {xs : List PV} {vs : List V} {b : Bool}, Rep.RepL C B H xs vs → allB xs = some b → ∃ bs : List Bool, vs = bs.map V.bl ∧ b = bs.all id
  | [], _, _, h, e => by cases e; exact ⟨[], by rw [show _ = [] from h]; rfl, rfl⟩
  | x :: xs, _, b, h, e => by
    obtain ⟨y, r, ev, h1, h2⟩ := h
    unfold Mi.allB at e
    split at e
    · rename_i z; cases z
    · rename_i c xs' he
      split at e
      · rename_i b' q
        cases he
        cases e
        obtain ⟨bs, e1, e2⟩ := RepL.allB h2 q
        exact ⟨c :: bs, by rw [ev, e1, show y = .bl c from h1]; rfl, by rw [List.all_cons, e2]; rfl⟩
      · cases e
    · cases e
theorem RepL.anyB {B : Addr → Prop} : ∀ {xs : List PV} {vs : List V} {b : Bool}, Rep.RepL C B H xs vs → anyB xs = some b → ∃ bs : List Bool, vs = bs.map V.bl ∧ b = bs.any id
  | [], _, _, h, e => by cases e; exact ⟨[], by rw [show _ = [] from h]; rfl, rfl⟩
  | x :: xs, _, b, h, e => by
    obtain ⟨y, r, ev, h1, h2⟩ := h
    unfold Mi.anyB at e
    split at e
    · rename_i z; cases z
    · rename_i c xs' he
      split at e
      · rename_i b' q
        cases he
        cases e
        obtain ⟨bs, e1, e2⟩ := RepL.anyB h2 q
        exact ⟨c :: bs, by rw [ev, e1, show y = .bl c from h1]; rfl, by rw [List.any_cons, e2]; rfl⟩
      · cases e
    · cases e
theorem repL_ints {B : Addr → Prop} : ∀ (is : List Int), Rep.RepL C B H (is.map PV.int) (is.map V.int)
  | [] => rfl
  | i :: is => ⟨_, _, rfl, rfl, repL_ints is⟩
theorem maxI_spec : ∀ (r : List Int) (i : Int), maxI i r ∈ i :: r ∧ ∀ y ∈ i :: r, y ≤ maxI i r
  | [], i => ⟨List.mem_singleton.mpr rfl, fun y h => by rw [List.mem_singleton.mp h]; exact Int.le_refl _⟩
  | j :: r, i => by
    unfold maxI
    obtain ⟨h1, h2⟩ := maxI_spec r (if i < j then j else i)
    generalize maxI (if i < j then j else i) r = m at h1 h2 ⊢
    refine ⟨?_, fun y hy => ?_⟩
    · rcases List.mem_cons.mp h1 with h | h
      · rw [h]; split <;> simp
      · exact List.mem_cons_of_mem _ (List.mem_cons_of_mem _ h)
    · have h3 := h2 (if i < j then j else i) List.mem_cons_self
      rcases List.mem_cons.mp hy with h | h
      · subst h; split at h3 <;> omega
      · rcases List.mem_cons.mp h with h | h
        · subst h; split at h3 <;> omega
        · exact h2 y (List.mem_cons_of_mem _ h)
theorem minI_spec : ∀ (r : List Int) (i : Int), minI i r ∈ i :: r ∧ ∀ y ∈ i :: r, minI i r ≤ y
  | [], i => ⟨List.mem_singleton.mpr rfl, fun y h => by rw [List.mem_singleton.mp h]; exact Int.le_refl _⟩
  | j :: r, i => by
    unfold minI
    obtain ⟨h1, h2⟩ := minI_spec r (if j < i then j else i)
    generalize minI (if j < i then j else i) r = m at h1 h2 ⊢
    refine ⟨?_, fun y hy => ?_⟩
    · rcases List.mem_cons.mp h1 with h | h
      · rw [h]; split <;> simp
      · exact List.mem_cons_of_mem _ (List.mem_cons_of_mem _ h)
    · have h3 := h2 (if j < i then j else i) List.mem_cons_self
      rcases List.mem_cons.mp hy with h | h
      · subst h; split at h3 <;> omega
      · rcases List.mem_cons.mp h with h | h
        · subst h; split at h3 <;> omega
        · exact h2 y (List.mem_cons_of_mem _ h)
theorem insI_perm (i : Int) : ∀ l : List Int, (insI i l).Perm (i :: l)
  | [] => List.Perm.refl _
  | j :: r => by
    unfold insI
    split
    · exact List.Perm.refl _
    · exact ((insI_perm i r).cons j).trans (List.Perm.swap ..)
theorem sortI_perm : ∀ l : List Int, (sortI l).Perm l
  | [] => List.Perm.refl _
  | i :: r => (insI_perm i _).trans ((sortI_perm r).cons i)
theorem insI_rises (i : Int) : ∀ l : List Int, l.Pairwise (· ≤ ·) → (insI i l).Pairwise (· ≤ ·)
  | [], _ => List.pairwise_singleton ..
  | j :: r, h => by
    unfold insI
    split
    · rename_i hij
      exact List.pairwise_cons.mpr ⟨fun y hy => by
        rcases List.mem_cons.mp hy with e | e
        · rw [e]; exact hij
        · exact Int.le_trans hij ((List.pairwise_cons.mp h).1 y e), h⟩
    · rename_i hij
      refine List.pairwise_cons.mpr ⟨fun y hy => ?_, insI_rises i r (List.pairwise_cons.mp h).2⟩
      rcases List.mem_cons.mp ((insI_perm i r).mem_iff.mp hy) with e | e
      · rw [e]; omega
      · exact (List.pairwise_cons.mp h).1 y e
theorem sortI_rises : ∀ l : List Int, (sortI l).Pairwise (· ≤ ·)
  | [] => List.Pairwise.nil
  | i :: r => insI_rises i _ (sortI_rises r)
theorem eq_sortI {ns ns' : List Int} (hp : ns'.Perm ns) (hs : ns'.Pairwise (· ≤ ·)) : ns' = sortI ns :=
  List.Perm.eq_of_pairwise (fun _ _ _ _ a b => Int.le_antisymm a b) hs (sortI_rises ns) (hp.trans (sortI_perm ns).symm)

theorem RepK.length {B : Addr → Prop} : ∀ {xs : List (DK × PV)} {vs : List (Key × V)}, Rep.RepK C B H xs vs → vs.length = xs.length
  | [], _, h => by rw [show _ = [] from h]; rfl
  | (k, x) :: xs, _, h => by
    obtain ⟨y, r, e, _, h2⟩ := h
    rw [e, List.length_cons, List.length_cons, RepK.length h2]
/-- a built-in function's value -/
def biV : Bi → Value
  | .len => .builtin "len"
  | .abs => .builtin "abs"
  | .int => .type "int"
  | .list => .type "list"
  | .tuple => .type "tuple"
  | .max => .builtin "max"
  | .min => .builtin "min"
  | .all => .builtin "all"
  | .any => .builtin "any"
  | .sum => .builtin "sum"
  | .sorted => .builtin "sorted"
  | .repr => .builtin "repr"
  | .str => .type "str"
  | .gcd => .builtin "math.gcd"
  | .isqrt => .builtin "math.isqrt"
  | .dict => .type "dict"
  | .sset => .type "set"
theorem call_lenD : CallR X (.builtin "len") (fun xs H Q => ∃ a kvs, xs = [.ref a] ∧ H a = some (.dK kvs) ∧ Q (.int kvs.length) H) := by
  intro pins s σ H xs us Q I r h
  obtain ⟨a, kvs, rfl, e, q⟩ := h
  obtain ⟨u, rfl, rx⟩ := vals1 r
  cases rx
  exact d_len I (.inl e) fun t s' I' => ⟨.int kvs.length, H, I', ⟨t, rfl⟩, q⟩
theorem keyIs_reads {h : Heap} {k : Key} {v : Value} (q : keyIs k v = true) : Reads h v (keyD k) [] := by
  rcases keyIs_shape q with ⟨i, t, rfl, rfl⟩ | ⟨x, t, rfl, rfl⟩
  · exact .int i t
  · exact .str x t
section
variable {pins : List (Addr × Obj)} {s : Shared} {B : Addr → Prop}
theorem lstR (I : Inv X pins σ H s) {a : Addr} {ys : List V} {ds : List PyData} (t : H a = some (.lst ys)) (k : ∀ its, Vals ys its → ∃ as, ReadsAll s.heap its ds as ∧ ∀ a ∈ as, H a ≠ none) : ∃ as, Reads s.heap (.ref a) (.list ds) as ∧ ∀ a ∈ as, H a ≠ none := by
  obtain ⟨_, its, n, rv, h1⟩ := (show ObjOk X.prog X.w H s.heap a (.lst ys) from I.hok a _ t)
  obtain ⟨as, q1, q2⟩ := k its rv
  exact ⟨a :: as, .list h1 rfl rfl (by simpa using q1), fun b hb => (List.mem_cons.mp hb).elim (fun z => by rw [z, t]; exact fun z => by cases z) (q2 b)⟩
theorem dicR (I : Inv X pins σ H s) {a : Addr} {ks : List (Key × V)} {ds : List (PyData × PyData)} (t : H a = some (.dK ks)) (k : ∀ (vs : List (Key × Value)) (es : List DictEntry), KV ks vs → Pairs (mixKind X.prog X.w) es vs → ∃ bs, ReadsAll s.heap (es.map (·.key)) (ds.map (·.1)) [] ∧ ReadsAll s.heap (es.map (·.val)) (ds.map (·.2)) bs ∧ ∀ a ∈ bs, H a ≠ none) :
    ∃ as, Reads s.heap (.ref a) (.dict ds) as ∧ ∀ a ∈ as, H a ≠ none := by
  obtain ⟨_, _, vs, kv, o, es, ep, h1, h2, h3, _, pr, _⟩ := dk_of I.hok t
  obtain ⟨bs, q1, q2, q3⟩ := k vs es.toList kv pr
  exact ⟨a :: [] ++ bs, .dict h1 h2.1 h3 q1 q2, fun b hb => (List.mem_cons.mp hb).elim (fun z => by rw [z, t]; exact fun z => by cases z) (q3 b)⟩
mutual
theorem Rep.reads (hK : X.K = C.K) (I : Inv X pins σ H s) : ∀ (x : PV) (v : V) (u : Value) (d : PyData), Rep C B H x v → x.dat = some d → RelV v u → ∃ as, Reads s.heap u d as ∧ ∀ a ∈ as, H a ≠ none
  | .non, v, u, d, h, e, r => by cases e; rw [show v = .non from h] at r; cases r; exact ⟨_, .none, fun a z => absurd z (by simp)⟩
  | .bl b, v, u, d, h, e, r => by cases e; rw [show v = .bl b from h] at r; cases r; exact ⟨_, .bool b, fun a z => absurd z (by simp)⟩
  | .int i, v, u, d, h, e, r => by cases e; rw [show v = .int i from h] at r; obtain ⟨t, rfl⟩ := r; exact ⟨_, .int i t, fun a z => absurd z (by simp)⟩
  | .str i, v, u, d, h, e, r => by cases e; rw [show v = .str i from h] at r; obtain ⟨t, rfl⟩ := r; exact ⟨_, .str i t, fun a z => absurd z (by simp)⟩
  | .tup xs, v, u, d, h, e, r => by
    obtain ⟨a, ys, ev, t, rl⟩ := h
    subst ev
    cases r
    unfold PV.dat at e
    split at e
    · rename_i ds q
      cases e
      obtain ⟨its, rv, ⟨o, h1, h2, n, h3⟩, _⟩ := I.tuple (show SqT X.K H a ys by rw [hK]; exact t.sq)
      obtain ⟨as, q1, q2⟩ := RepL.reads hK I xs ys its ds rl q rv
      exact ⟨as, .tuple h1 h2 h3 (by simpa using q1), q2⟩
    · cases e
  | .lst xs, v, u, d, h, e, r => by
    obtain ⟨a, ys, ev, t, _, rl⟩ := h
    subst ev
    cases r
    unfold PV.dat at e
    split at e
    · rename_i ds q
      cases e
      exact lstR I t fun its rv => RepL.reads hK I xs ys its ds rl q rv
    · cases e
  | .dic kvs, v, u, d, h, e, r => by
    obtain ⟨a, ks, ev, t, _, rl⟩ := h
    subst ev
    cases r
    unfold PV.dat at e
    split at e
    · rename_i ds q
      cases e
      exact dicR I t fun vs es kv pr => RepK.reads hK I kvs ks ds vs es rl q kv pr
    · cases e
  | .klst _, _, _, _, _, e, _ => by cases e
  | .ins _ _, _, _, _, _, e, _ => by cases e
  | .exc _ _, _, _, _, _, e, _ => by cases e
  | .fn _, _, _, _, _, e, _ => by cases e
  | .clo _ _, _, _, _, _, e, _ => by cases e
theorem RepL.reads (hK : X.K = C.K) (I : Inv X pins σ H s) : ∀ (xs : List PV) (vs : List V) (us : List Value) (ds : List PyData), Rep.RepL C B H xs vs → PV.dat.datL xs = some ds → Vals vs us → ∃ as, ReadsAll s.heap us ds as ∧ ∀ a ∈ as, H a ≠ none
  | [], _, _, ds, h, e, r => by
    cases e
    rw [show _ = [] from h] at r
    cases r
    exact ⟨[], .nil, fun a z => absurd z (by simp)⟩
  | x :: xs, _, us, ds, h, e, r => by
    obtain ⟨y, r', ev, h1, h2⟩ := h
    subst ev
    unfold PV.dat.datL at e
    split at e
    · rename_i d ds' q1 q2
      cases e
      cases r with
      | cons ru rr =>
        obtain ⟨as, a1, a2⟩ := Rep.reads hK I x y _ d h1 q1 ru
        obtain ⟨bs, b1, b2⟩ := RepL.reads hK I xs r' _ ds' h2 q2 rr
        exact ⟨as ++ bs, .cons a1 b1, fun a z => (List.mem_append.mp z).elim (a2 a) (b2 a)⟩
    · cases e
theorem RepK.reads (hK : X.K = C.K) (I : Inv X pins σ H s) : ∀ (kvs : List (DK × PV)) (ks : List (Key × V)) (ds : List (PyData × PyData)) (vs : List (Key × Value)) (es : List DictEntry), Rep.RepK C B H kvs ks → PV.dat.datK kvs = some ds → KV ks vs → Pairs (mixKind X.prog X.w) es vs →
    ∃ bs, ReadsAll s.heap (es.map (·.key)) (ds.map (·.1)) [] ∧ ReadsAll s.heap (es.map (·.val)) (ds.map (·.2)) bs ∧ ∀ a ∈ bs, H a ≠ none
  | [], _, ds, vs, es, h, e, kv, pr => by
    cases e
    rw [show _ = [] from h] at kv
    cases kv
    cases pr
    exact ⟨[], .nil, .nil, fun a z => absurd z (by simp)⟩
  | (k, x) :: kvs, _, ds, vs, es, h, e, kv, pr => by
    obtain ⟨y, r', ev, h1, h2⟩ := h
    subst ev
    unfold PV.dat.datK at e
    split at e
    · rename_i d ds' q1 q2
      cases e
      cases kv with
      | cons c cc =>
        obtain ⟨c1, c2⟩ := c
        cases pr with
        | cons p1 p2 p3 =>
          obtain ⟨as, a1, a2⟩ := Rep.reads hK I x y _ d h1 q1 c2
          obtain ⟨bs, b1, b2, b3⟩ := RepK.reads hK I kvs r' ds' _ _ h2 q2 cc p3
          have kr := keyIs_reads (h := s.heap) p1
          rw [← c1] at kr
          exact ⟨as ++ bs, ReadsAll.cons (as := []) (bs := []) kr b1, .cons (by have a3 := a1; rw [← p2] at a3; exact a3) b2, fun a z => (List.mem_append.mp z).elim (a2 a) (b3 a)⟩
    · cases e
end
theorem ORep.reads (hK : X.K = C.K) (I : Inv X pins σ H s) {x : PV} {v : V} {u : Value} {d : PyData} (h : ORep C B H x v) (e : x.dat = some d) (r : RelV v u) : ∃ as, Reads s.heap u d as ∧ ∀ a ∈ as, H a ≠ none := by
  rcases h with h | ⟨a, ev, h⟩
  · exact Rep.reads hK I x v u d h e r
  · subst ev
    cases r
    cases x with
    | lst xs =>
      obtain ⟨ys, t, rl⟩ := h
      unfold PV.dat at e
      split at e
      · rename_i ds q
        cases e
        exact lstR I t fun its rv => RepL.reads hK I xs ys its ds rl q rv
      · cases e
    | dic kvs =>
      obtain ⟨ks, t, rl⟩ := h
      unfold PV.dat at e
      split at e
      · rename_i ds q
        cases e
        exact dicR I t fun vs es kv pr => RepK.reads hK I kvs ks ds vs es rl q kv pr
      · cases e
    | ins _ _ => cases e
    | _ => exact (show False from h).elim
theorem sys_out (hs : ∃ o, X.base.get? sysModules = some o) (I : Inv X pins σ H s) {as : List Addr} (h : ∀ a ∈ as, H a ≠ none) : sysModules ∉ as := fun z => by
  obtain ⟨o, e⟩ := hs
  exact h _ z (I.bs _ _ e).2
/-- repr of data -/
theorem call_repr (hs : ∃ o, X.base.get? sysModules = some o) (hK : X.K = C.K) (hu : X.A.units + 65 < cLine) (hg : X.A.guards = some []) : CallR X (.builtin "repr") (fun xs H Q => ∃ x v d, xs = [v] ∧ ORep C B H x v ∧ x.dat = some d ∧ d.showable = true ∧ d.depth ≤ 60 ∧ d.shown.length ≤ big ∧ Q (.str d.shown) H) := by
  intro pins s σ H xs us Q I r h
  obtain ⟨x, v, d, rfl, ho, e, h1, h3, h4, q⟩ := h
  obtain ⟨u, rfl, rx⟩ := vals1 r
  rw [big_eq] at h4
  obtain ⟨as, rd, out⟩ := ho.reads hK I e rx
  cases u with
  | ref a => exact repr_of_reads' rd h1 (fun _ => sys_out hs I out) hg (by omega) (fun b o e => e) (fun h' u tk k => ⟨.str d.shown, H, I.kept k, ⟨u, rfl⟩, q⟩) h4
  | none => cases rd; exact PySem.P.repr_of_none ⟨.str _, H, I.tok _, ⟨_, rfl⟩, q⟩
  | bool b => cases rd; exact PySem.P.repr_of_bool ⟨.str _, H, I.tok _, ⟨_, rfl⟩, q⟩
  | int i t => cases rd; exact PySem.P.repr_of_int (by simpa [PyData.showable] using h1) ⟨.str _, H, I.tok _, ⟨_, rfl⟩, q⟩
  | str i t => cases rd; exact PySem.P.repr_of_str ⟨.str _, H, I.tok _, ⟨_, rfl⟩, q⟩ h4
  | _ => cases rd
end
theorem resF_none {Q : VK} (h : PostE C T W io M st σ H (resF none st2) Q) : False := h
/-- what the built-in functions are given -/
structure BiOk (hot : Bool) (X : Cx) : Prop where
  calm : hot = false → X.calm = true
  units : X.A.units + 65 < cLine
  guards : X.A.guards = some []
  sys : ∃ o, X.base.get? sysModules = some o
/-- within an except suite -/
def hotBi : Bi → Bool
  | .len | .repr | .abs | .int | .str => true
  | _ => false
theorem bi_ap {hot : Bool} {k : Bi} {xs : List PV} {vs : List V} {Q : VK} (ok : BiOk hot X) (hhot : hot = false ∨ hotBi k = true) (hK : X.K = C.K) (hM : ∀ a, M a → M' a) (s : Step C T io M' st st2 σ H H2) (r : OL C (Bn M' st2 σ) H2 xs vs)
    (h : PostE C T W io M st σ H (resF (k.ap xs) st2) Q) : rSemC X (biV k) vs H2 Q := by
  have s0 : Step C T io M st st2 σ H H2 := s.weaken hM (fun z => z)
  have ii : ∀ {i : Int}, PostE C T W io M st σ H (resF (some (false, .int i)) st2) Q → Q (.int i) H2 := fun h => fin_sh h s0 rfl
  have bb : ∀ {b : Bool}, PostE C T W io M st σ H (resF (some (false, .bl b)) st2) Q → Q (.bl b) H2 := fun h => fin_sh h s0 rfl
  unfold Bi.ap at h
  split at h
  · -- len, a list
    obtain ⟨v, e, o⟩ := r.one
    obtain ⟨a, ys, e1, e2, q⟩ := o.lst
    subst e e1
    exact call_len.sem ⟨_, _, rfl, .inl ⟨ys, SqL.of e2, (RepL.length q).symm⟩, ii h⟩
  · obtain ⟨v, e, o⟩ := r.one
    obtain ⟨a, ys, e1, e2, q⟩ := o.klst
    subst e e1
    exact call_len.sem ⟨_, _, rfl, .inl ⟨ys, by rw [hK]; exact e2.sq, (RepL.length q).symm⟩, ii h⟩
  · obtain ⟨v, e, o⟩ := r.one
    obtain ⟨a, ys, e1, e2, q⟩ := o.tup
    subst e e1
    exact call_len.sem ⟨_, _, rfl, .inr ⟨ys, by rw [hK]; exact e2.sq, (RepL.length q).symm⟩, ii h⟩
  · obtain ⟨v, e, o⟩ := r.one
    subst e
    rw [o.str]
    split at h
    · rename_i x hx
      exact call_len.sem ⟨_, _, rfl, ⟨by rw [← big_eq]; exact hx, rfl⟩, ii h⟩
    · exact (resF_none h).elim
  · obtain ⟨v, e, o⟩ := r.one
    obtain ⟨a, ks, e1, e2, q⟩ := o.dic
    subst e e1
    refine call_lenD.sem ⟨a, ks, rfl, e2, ?_⟩
    rw [RepK.length q]
    exact ii h
  · obtain ⟨v, e, o⟩ := r.one
    subst e
    rw [o.int]
    exact call_abs.sem ⟨_, rfl, ii h⟩
  · obtain ⟨v, e, o⟩ := r.one
    subst e
    rw [o.int]
    exact call_int1.sem (.inl ⟨_, rfl, ii h⟩)
  · -- list(..)
    obtain ⟨v, e, o⟩ := r.one
    subst e
    split at h
    · rename_i xs hi
      obtain ⟨a, ys, e1, e2, q⟩ := o.seq hK hi
      subst e1
      split at h
      · refine call_list_of.sem ⟨a, ys, rfl, e2.elim .inl (fun z => .inr z.1), fun l hl => ?_⟩
        exact fin_ow h s0 hl (fun ps z => by cases z) (own_lst hl (q.sub fun a => Bn.mono hM))
      · exact (resF_none h).elim
    · exact (resF_none h).elim
  · -- tuple(..)
    obtain ⟨v, e, o⟩ := r.one
    subst e
    split at h
    · rename_i xs hi
      obtain ⟨a, ys, e1, e2, q⟩ := o.seq hK hi
      subst e1
      split at h
      · refine call_tuple_of.sem ⟨a, ys, rfl, ?_⟩
        rcases e2 with e2 | ⟨e2, ex⟩
        · refine .inl ⟨e2, fun l hl => ?_⟩
          exact fin_sh h (s0.upd hl) (Rep.fresh_tup s0.rel hl (q.sub fun a => Bn.mono hM))
        · refine .inr ⟨e2, ?_⟩
          subst ex
          refine fin_sh h s0 ?_
          rcases o with r | ⟨_, _, r⟩
          · exact r.sub fun a => Bn.mono hM
          · exact r.elim
      · exact (resF_none h).elim
    · exact (resF_none h).elim
  · obtain ⟨v, w, e, r1, r2⟩ := r.two
    subst e
    rw [r1.int, r2.int]
    exact (call_max2 (ok.calm (hhot.resolve_right (by decide)))).sem ⟨_, _, rfl, ii h⟩
  · obtain ⟨v, w, e, r1, r2⟩ := r.two
    subst e
    rw [r1.int, r2.int]
    exact (call_min2 (ok.calm (hhot.resolve_right (by decide)))).sem ⟨_, _, rfl, ii h⟩
  · -- max of a list
    obtain ⟨v, e, o⟩ := r.one
    obtain ⟨a, ys, e1, e2, q⟩ := o.lst
    subst e e1
    split at h
    · rename_i i r he
      have ey := RepL.ints q he
      subst ey
      refine (cr_max (ok.calm (hhot.resolve_right (by decide)))).sem ⟨a, i :: r, rfl, SqL.of e2, by simp, fun m h1 h2 => ?_⟩
      have hs := maxI_spec r i
      have e : m = maxI i r := Int.le_antisymm (hs.2 m h1) (h2 _ hs.1)
      rw [e]
      exact ii h
    · exact (resF_none h).elim
  · obtain ⟨v, e, o⟩ := r.one
    obtain ⟨a, ys, e1, e2, q⟩ := o.lst
    subst e e1
    split at h
    · rename_i i r he
      have ey := RepL.ints q he
      subst ey
      refine (cr_min (ok.calm (hhot.resolve_right (by decide)))).sem ⟨a, i :: r, rfl, SqL.of e2, by simp, fun m h1 h2 => ?_⟩
      have hs := minI_spec r i
      have e : m = minI i r := Int.le_antisymm (h2 _ hs.1) (hs.2 m h1)
      rw [e]
      exact ii h
    · exact (resF_none h).elim
  · obtain ⟨v, e, o⟩ := r.one
    obtain ⟨a, ys, e1, e2, q⟩ := o.lst
    subst e e1
    split at h
    · rename_i b hb
      obtain ⟨bs, e3, e4⟩ := RepL.allB q hb
      subst e3 e4
      exact (cr_all (ok.calm (hhot.resolve_right (by decide)))).sem ⟨a, bs, rfl, SqL.of e2, bb h⟩
    · exact (resF_none h).elim
  · obtain ⟨v, e, o⟩ := r.one
    obtain ⟨a, ys, e1, e2, q⟩ := o.lst
    subst e e1
    split at h
    · rename_i b hb
      obtain ⟨bs, e3, e4⟩ := RepL.anyB q hb
      subst e3 e4
      exact (cr_any (ok.calm (hhot.resolve_right (by decide)))).sem ⟨a, bs, rfl, SqL.of e2, bb h⟩
    · exact (resF_none h).elim
  · obtain ⟨v, e, o⟩ := r.one
    obtain ⟨a, ys, e1, e2, q⟩ := o.lst
    subst e e1
    split at h
    · rename_i is he
      have ey := RepL.ints q he
      subst ey
      exact (cr_sum (ok.calm (hhot.resolve_right (by decide)))).sem ⟨a, is, rfl, SqL.of e2, ii h⟩
    · exact (resF_none h).elim
  · obtain ⟨v, e, o⟩ := r.one
    obtain ⟨a, ys, e1, e2, q⟩ := o.lst
    subst e e1
    split at h
    · rename_i is he
      have ey := RepL.ints q he
      subst ey
      refine cr_sortedI.sem ⟨a, is, rfl, SqL.of e2, fun ns' p h1 h2 hp => ?_⟩
      rw [eq_sortI h1 h2]
      exact fin_ow h s0 hp (fun ps z => by cases z) (own_lst hp (repL_ints _))
    · exact (resF_none h).elim
  · obtain ⟨v, e, o⟩ := r.one
    subst e
    split at h
    · rename_i x hx
      unfold reprP at hx
      split at hx
      · rename_i d hd
        split at hx
        · rename_i hz
          cases hx
          exact (call_repr (B := Bn M' st2 σ) ok.sys hK ok.units ok.guards).sem ⟨_, _, d, rfl, o, hd, hz.1, hz.2.1, hz.2.2, fin_sh h s0 rfl⟩
        · cases hx
      · cases hx
    · exact (resF_none h).elim
  · obtain ⟨v, e, o⟩ := r.one
    subst e
    rw [o.int]
    split at h
    · rename_i hz
      exact call_str_int.sem ⟨_, rfl, hz, fin_sh h s0 rfl⟩
    · exact (resF_none h).elim
  · obtain ⟨v, w, e, r1, r2⟩ := r.two
    subst e
    rw [r1.int, r2.int]
    exact cr_gcd.sem ⟨_, _, rfl, ii h⟩
  · exact (resF_none h).elim
end
end Mi

/-! Mi6: subscripts, slices, attributes, isinstance by values. -/
namespace Mi
open PySem PySem.Spec PyProof.Rows L2

def rSemIx (X : Cx) : R2 := fun x y H Q => ∀ (value slice : Expr) pins s σ v u, Inv X pins σ H s → RelV x v → RelV y u → subscripted slice false v u = operate [v, u] (getItem v u) → wpAny (model X.prog X.w) X.A (subscriptTail value slice v u) (EP X pins σ Q) X.xe s
theorem ixSem {X : Cx} : IxR X (rSemIx X) := fun value slice pins s σ H x y v u Q I rx ry h hs => h value slice pins s σ v u I rx ry hs
theorem _root_.L2.IxR.sem {X : Cx} {r : R2} (o : IxR X r) {x y : V} {H : Hp} {Q : VK} (h : r x y H Q) : rSemIx X x y H Q := fun value slice pins s σ v u I rx ry hs => o value slice pins s σ H x y v u Q I rx ry h hs
def rSemSl (X : Cx) : V → Option Int → Option Int → Hp → VK → Prop := fun x lo hi H Q => ∀ pins s σ v vl vu sl, Inv X pins σ H s → RelV x v → s.heap.IsSliceOf sl vl vu .none → IsPart vl lo → IsPart vu hi →
  ∃ T id, typeLookup (.type T) "__getitem__" = pure (some (.builtin id)) ∧ s.TypeIs v T ∧ wpAny (model X.prog X.w) X.A (getItem v (.ref sl)) (EP X pins σ Q) X.xe s
theorem slSem {X : Cx} : SlR X (rSemSl X) := fun pins s σ H x v vl vu lo hi sl Q I rx h1 h2 h3 h => h pins s σ v vl vu sl I rx h1 h2 h3
theorem _root_.L2.SlR.sem {X : Cx} {r : V → Option Int → Option Int → Hp → VK → Prop} (o : SlR X r) {x : V} {lo hi : Option Int} {H : Hp} {Q : VK} (h : r x lo hi H Q) : rSemSl X x lo hi H Q := fun pins s σ v vl vu sl I rx h1 h2 h3 => o pins s σ H x v vl vu lo hi sl Q I rx h1 h2 h3 h

section
variable {X : Cx} {Γ : G} {C : Cn} {T : List NdefX.NTab} {W : WX} {io io' : Bool} {M M' : Addr → Prop} {st st' st1 st2 : List Sl} {σ : List (Option V)} {H H' H1 H2 : Hp}
theorem resO_some {f : Fl} {o : Option PV} {Q : VK} (h : PostE C T W io M st σ H (resO f o st2) Q) : ∃ z, o = some z := by
  cases o with
  | none => exact (show False from h).elim
  | some p => exact ⟨p, rfl⟩
theorem place_ixN {n : Nat} {i : Int} : place n i = ixN n i := by
  unfold place ixN
  by_cases h : 0 ≤ i
  · rw [if_pos h, if_pos h]
  · rw [if_neg h, if_neg h]
    by_cases h2 : 0 ≤ i + n
    · rw [if_pos h2, if_pos (by omega)]
    · rw [if_neg h2, if_neg (by omega)]
theorem RepL.at {B : Addr → Prop} {xs : List PV} {ys : List V} {i : Int} {z : PV} (r : Rep.RepL C B H xs ys) (e : (place xs.length i).bind (xs[·]?) = some z) : ∃ y, atI ys i = some y ∧ Rep C B H z y := by
  obtain ⟨j, e1, e2⟩ := Option.bind_eq_some_iff.mp e
  obtain ⟨y, e3, q⟩ := RepL.get r e2
  refine ⟨y, ?_, q⟩
  unfold atI
  rw [← place_ixN, RepL.length r, e1]
  exact e3
theorem ix_dic (hu : X.A.units + 1 < cLine) : IxR X (fun x y H Q => ∃ a v, x = .ref a ∧ DGet H a y (some v) ∧ Q v H) := by
  intro value slice pins s σ H x y v u Q I rx ry h hs
  obtain ⟨a, z, rfl, g, q⟩ := h
  cases rx
  exact tail_any (dict_typeIs I g) PySem.F.slot_dict_getitem.lookup (d_getItem hu I g ry fun w' s3 I3 rw' => ⟨z, H, I3, rw', q⟩) hs
/-- a[b] -/
theorem ix_ap {x y z : PV} {v w : V} {Q : VK} (hu : X.A.units + 1 < cLine) (hK : X.K = C.K) {B : Addr → Prop} (h1 : ORep C B H x v) (h2 : ORep C B H y w) (e : ixP x y = some z) (q : ∀ u, Rep C B H z u → Q u H) : rSemIx X v w H Q := by
  unfold ixP at e
  split at e
  · obtain ⟨a, ys, ev, hy, r⟩ := h1.lst
    rw [ev, h2.int]
    obtain ⟨y, e1, r1⟩ := RepL.at r e
    exact ix_list.sem ⟨a, ys, _, y, rfl, rfl, SqL.of hy, e1, q y r1⟩
  · obtain ⟨a, ys, ev, hy, r⟩ := h1.tup
    rw [ev, h2.int]
    obtain ⟨y, e1, r1⟩ := RepL.at r e
    exact ix_tup.sem ⟨a, ys, _, y, rfl, rfl, by rw [hK]; exact hy.sq, e1, q y r1⟩
  · split at e
    · rename_i k ek
      obtain ⟨a, o, ev, g, p1, _⟩ := dic_get h1 h2 ek
      obtain ⟨u, eo, r⟩ := p1 z e
      subst eo
      exact (ix_dic hu).sem ⟨a, u, ev, g, q u r⟩
    · cases e
  · cases e
theorem RepL.drop {B : Addr → Prop} : ∀ {xs : List PV} {ys : List V} (n : Nat), Rep.RepL C B H xs ys → Rep.RepL C B H (xs.drop n) (ys.drop n)
  | xs, ys, 0, h => h
  | [], _, n + 1, h => by rw [show _ = [] from h]; rfl
  | x :: xs, _, n + 1, h => by
    obtain ⟨y, r, e, _, h2⟩ := h
    rw [e]
    exact RepL.drop n h2
theorem RepL.take {B : Addr → Prop} : ∀ {xs : List PV} {ys : List V} (n : Nat), Rep.RepL C B H xs ys → Rep.RepL C B H (xs.take n) (ys.take n)
  | xs, ys, 0, h => by rw [List.take_zero, List.take_zero]; rfl
  | [], _, n + 1, h => by rw [show _ = [] from h]; rfl
  | x :: xs, _, n + 1, h => by
    obtain ⟨y, r, e, h1, h2⟩ := h
    rw [e]
    exact ⟨y, r.take n, rfl, h1, RepL.take n h2⟩
theorem RepL.cut {B : Addr → Prop} {xs : List PV} {ys : List V} (lo hi : Option Int) (h : Rep.RepL C B H xs ys) : Rep.RepL C B H (Mi.cut xs lo hi) (cutV ys lo hi) := by
  unfold Mi.cut cutV
  rw [RepL.length h]
  exact RepL.take _ (RepL.drop _ h)
theorem RepL.reverse {B : Addr → Prop} : ∀ {xs : List PV} {ys : List V}, Rep.RepL C B H xs ys → Rep.RepL C B H xs.reverse ys.reverse
  | [], _, h => by rw [show _ = [] from h]; rfl
  | x :: xs, _, h => by
    obtain ⟨y, r, e, h1, h2⟩ := h
    rw [e, List.reverse_cons, List.reverse_cons]
    exact RepL.append (RepL.reverse h2) ⟨y, [], rfl, h1, rfl⟩
/-- a[lo:hi] -/
theorem sl_ap {x : PV} {v : V} {lo hi : Option Int} {Q : VK} (hK : X.K = C.K) (hM : ∀ a, M a → M' a) (s : Step C T io M' st st2 σ H H2) (h1 : ORep C (Bn M' st2 σ) H2 x v)
    (h : PostE C T W io M st σ H (resF (slP x lo hi) st2) Q) : rSemSl X v lo hi H2 Q := by
  have s0 : Step C T io M st st2 σ H H2 := s.weaken hM (fun z => z)
  unfold slP at h
  split at h
  · obtain ⟨a, ys, ev, hy, r⟩ := h1.lst
    rw [ev]
    refine sl_list.sem ⟨a, ys, rfl, SqL.of hy, fun p hp => ?_⟩
    exact fin_ow h s0 hp (fun ps z => by cases z) (own_lst hp ((RepL.cut lo hi r).sub fun a => Bn.mono hM))
  · obtain ⟨a, ys, ev, hy, r⟩ := h1.tup
    rw [ev]
    split at h
    · exact (resF_none h).elim
    · rename_i hn
      refine sl_tup.sem ⟨a, ys, rfl, by rw [hK]; exact hy.sq, by rw [RepL.length r]; exact hn, fun p hp => ?_⟩
      exact fin_sh h (s0.upd hp) (Rep.fresh_tup s0.rel hp ((RepL.cut lo hi r).sub fun a => Bn.mono hM))
  · exact (resF_none h).elim

/-! ### attributes -/
/-- an exception class: what the rules ask -/
structure ExK (K : PySem.W.Frag) (D : Addr) : Prop where
  ga : PySem.W.findIn K (.ref D) "__getattribute__" = some (some (.builtin "BaseException.__getattribute__"))
  gg : PySem.W.findIn K (.ref D) "__getattr__" = some none
  sb : PySem.W.subIn K (.ref D) (.type "BaseException") = some true
  hd : PySem.W.hasDictIn K D = true
  ha : PySem.W.findIn K (.ref D) "__class__" = some (some (.builtin "object.__class__"))
  hm : PySem.W.mroIn K D (.type "object") = some true
/-- an instance's class -/
structure InK (K : PySem.W.Frag) (D : Addr) : Prop where
  cl : Cls K D
  ha : PySem.W.findIn K (.ref D) "__class__" = some (some (.builtin "object.__class__"))
  hm : PySem.W.mroIn K D (.type "object") = some true
def kdV (T : Tb) : Kd → Value
  | .non => .type "NoneType"
  | .bool => .type "bool"
  | .int => .type "int"
  | .str => .type "str"
  | .tuple => .type "tuple"
  | .list => .type "list"
  | .dict => .type "dict"
  | .ins C => .ref (T.ca C)
  | .exc C => .ref (T.ca C)
def tyVal (T : Tb) : Ty → Value
  | .int => .type "int"
  | .bool => .type "bool"
  | .str => .type "str"
  | .tuple => .type "tuple"
  | .list => .type "list"
  | .dict => .type "dict"
  | .cls C => .ref (T.ca C)
  | .xcls C => .ref (T.ca C)
  | .ve => .type "ValueError"
def tyV' (T : Tb) : Ty → V
  | .int => .ty "int"
  | .bool => .ty "bool"
  | .str => .ty "str"
  | .tuple => .ty "tuple"
  | .list => .ty "list"
  | .dict => .ty "dict"
  | .cls C => .ref (T.ca C)
  | .xcls C => .ref (T.ca C)
  | .ve => .ty "ValueError"
def Kd.ok (T : Tb) : Kd → Prop
  | .ins C => T.ic C
  | .exc C => T.ec C
  | _ => True
/-- facts of the written part -/
structure KOk (K : PySem.W.Frag) (T : Tb) (sub : Nat → Nat → Bool) (atts : List Str) (tys : List Ty) : Prop where
  ins : ∀ c, T.ic c → InK K (T.ca c) ∧ ∀ f ∈ atts, NoAttr K (T.ca c) f
  exc : ∀ c, T.ec c → ExK K (T.ca c) ∧ ∀ f ∈ atts, PySem.W.findIn K (.ref (T.ca c)) f = some none
  hn : PySem.W.specialIn K (.builtin "object.__class__") "__get__" = some (some (.builtin "getset_descriptor.__get__"))
  ht : PySem.W.takesIn K (.builtin "object.__class__") = some true
  kit : ∀ k : Kd, k.ok T → ∀ t ∈ tys, PySem.W.kitOne K (kdV T k) (tyVal T t) = some (k.isa sub t)
/-- the exceptions that are pinned -/
def XPOk (X : Cx) (C : Cn) : Prop := ∀ a cls d, C.XP a cls d → ∃ oe vs, (a, oe) ∈ X.pn ∧ oe.cls = cls ∧ oe.dict = d ∧ oe.data = .fields vs
/-- an exception's object -/
theorem exc_at {pins : List (Addr × Obj)} {s : Shared} {a : Addr} {cls : Value} {d : Option Addr} (xp : XPOk X C) (I : Inv X pins σ H s) (h : C.XP a cls d ∨ H a = some (exo a cls d)) : ∃ oe vs, s.heap.get? a = some oe ∧ oe.cls = cls ∧ oe.dict = d ∧ oe.data = .fields vs := by
  rcases h with h | h
  · obtain ⟨oe, vs, e1, e2, e3, e4⟩ := xp a cls d h
    exact ⟨oe, vs, (I.pin (a, oe) (List.mem_append_left _ e1)).1, e2, e3, e4⟩
  · obtain ⟨⟨oe, vs, h1, h2⟩, _⟩ := (show ObjOk X.prog X.w H s.heap a (exo a cls d) from I.hok a _ h)
    exact ⟨oe, vs, h1, h2⟩
theorem lookF {B : Addr → Prop} {f : Str} {z : PV} : ∀ {fs : List (Str × PV)} {ys : List (Str × V)}, Rep.RepF C B H fs ys → fs.lookup f = some z → ∃ y, ys.lookup f = some y ∧ Rep C B H z y
  | [], _, _, e => by cases e
  | (g, x) :: fs, _, h, e => by
    obtain ⟨y, r, ev, h1, h2⟩ := h
    subst ev
    by_cases q : f = g
    · subst q
      rw [List.lookup_cons_self] at e
      cases e
      exact ⟨y, List.lookup_cons_self, h1⟩
    · have q' : (f == g) = false := beq_eq_false_iff_ne.mpr q
      rw [List.lookup_cons, q'] at e
      obtain ⟨u, e1, e2⟩ := lookF h2 e
      exact ⟨u, by rw [List.lookup_cons, q']; exact e1, e2⟩
def rSemA (X : Cx) (f : Str) : V → Hp → VK → Prop := fun x H Q => ∀ pins s σ u, Inv X pins σ H s → RelV x u → wpAny (model X.prog X.w) X.A (getAttr u f true) (EP X pins σ Q) X.xe s
theorem inst_there {a D : Addr} {oe : Obj} {od : Option Obj} {h : Heap} {vs : Array Value} (h1 : h.get? a = some oe) (h2 : oe.cls = .ref D) (h4 : oe.data = .fields vs) (h3 : match oe.dict with | some dx => h.get? dx = od ∧ od ≠ none | none => od = none) : PySem.W.InstAt h a oe D od := by
  refine ⟨h1, h2, by unfold PySem.W.notCls; rw [h4] <;> rfl, ?_⟩
  cases e : oe.dict with
  | none =>
    rw [e] at h3
    subst h3
    exact True.intro
  | some dx =>
    rw [e] at h3
    obtain ⟨q1, q2⟩ := h3
    cases od with
    | none => exact absurd rfl q2
    | some o => exact q1
theorem at_ap {sub : Nat → Nat → Bool} {atts : List Str} {tys : List Ty} {x z : PV} {v : V} {f : Str} {Q : VK} (F : KOk X.K C.T sub atts tys) (xp : XPOk X C) {B : Addr → Prop} (hf : f ∈ atts) (h1 : ORep C B H x v) (e : attrP f x = some z) (q : ∀ u, Rep C B H z u → Q u H) : rSemA X f v H Q := by
  intro pins s σ u I rx
  unfold attrP at e
  split at e
  · rename_i c fs
    have h2 : ∃ a dx ys, v = .ref a ∧ C.T.ic c ∧ H a = some (.ins (C.T.ca c) dx ys) ∧ Rep.RepF C B H fs ys := by
      rcases h1 with ⟨a, dx, ys, e1, ic, e2, _, r⟩ | ⟨a, e1, dx, ys, ic, e2, r⟩
      · exact ⟨a, dx, ys, e1, ic, e2, r⟩
      · exact ⟨a, dx, ys, e1, ic, e2, r⟩
    obtain ⟨a, dx, ys, e1, ic, e2, r⟩ := h2
    subst e1
    cases rx
    obtain ⟨y, e3, ry⟩ := lookF r e
    exact getattr_ok I e2 (F.ins c ic).1.cl ((F.ins c ic).2 f hf) e3 fun u s2 I2 ru => ⟨y, H, I2, ru, q y ry⟩
  · rename_i c fs
    obtain ⟨a, d, ys, e1, ec, hx, hd⟩ := h1.elim id fun ⟨_, _, h⟩ => h.elim
    subst e1
    cases rx
    have K := F.exc c ec
    obtain ⟨oe, vs, g1, g2, g3, g4⟩ := exc_at xp I (hx.elim .inl fun z => .inr z.1)
    rcases hd with ⟨hd, _⟩ | ⟨dd, ed, ha, _, r⟩
    · subst hd
      cases e
    · subst ed
      obtain ⟨y, e3, ry⟩ := lookF r e
      have hxd : ObjOk X.prog X.w H s.heap dd (.xd ys) := I.hok dd _ ha
      obtain ⟨mA, hns, hr⟩ := hxd
      obtain ⟨od, ho, hl⟩ := lookIn_ns hns
      obtain ⟨u, hu, ru⟩ := RelO.some_of (v := y) (o := mA f) (by rw [← e3]; exact hr f)
      have J : PySem.W.InstAt s.heap a oe (C.T.ca c) (some od) := inst_there g1 g2 g4 (by rw [g3]; exact ⟨ho, fun z => by cases z⟩)
      exact HandSPX.exc_get I.kIn J K.1.ga K.1.gg K.1.sb (PySem.W.findObj_own K.1.hd (K.2 f hf) rfl (by rw [hl, hu])) (handed_of ru) ⟨y, H, I.tok _, ru, q y ry⟩
  · cases e

/-! ### isinstance -/
theorem kit_kd {sub : Nat → Nat → Bool} {atts : List Str} {tys : List Ty} {x : PV} {v : V} {k : Kd} (F : KOk X.K C.T sub atts tys) (hK : X.K = C.K) (xp : XPOk X C) {B : Addr → Prop} (h : ORep C B H x v) (e : kdP x = some k) {pins : List (Addr × Obj)} {s : Shared} {u : Value} (I : Inv X pins σ H s) (rx : RelV v u) :
    k.ok C.T ∧ ∃ P : Heap → Prop, PySem.W.KitX X.K u (kdV C.T k) P ∧ P s.heap ∧ u ≠ .builtin "__main__.__loader__#opaque" := by
  cases x with
  | non => cases e; rw [h.non] at rx; exact ⟨True.intro, kit_of I rx (.base .non)⟩
  | bl b => cases e; rw [h.bl] at rx; exact ⟨True.intro, kit_of I rx (.base (.bl b))⟩
  | int i => cases e; rw [h.int] at rx; exact ⟨True.intro, kit_of I rx (.base (.int i))⟩
  | str i => cases e; rw [h.str] at rx; exact ⟨True.intro, kit_of I rx (.base (.str i))⟩
  | tup xs =>
    cases e
    obtain ⟨a, ys, ev, t, _⟩ := h.tup
    subst ev
    refine ⟨True.intro, ?_⟩
    rcases t with ⟨t | ⟨o, t⟩, _⟩ | ⟨o, its, n, t, tc, _⟩
    · exact kit_of I rx (.base (.tup t))
    · exact kit_of I rx (.fTuple t)
    · exact kit_of I rx (.kTuple (o := o) (by rw [hK]; exact t) tc)
  | lst xs =>
    cases e
    obtain ⟨a, ys, ev, t, _⟩ := h.lst
    subst ev
    exact ⟨True.intro, kit_of I rx (.base (.lst t))⟩
  | klst xs =>
    cases e
    obtain ⟨a, ys, ev, t, _⟩ := h.klst
    subst ev
    refine ⟨True.intro, ?_⟩
    rcases t with ⟨t | ⟨o, t⟩, _⟩ | ⟨o, its, n, t, tc, _⟩
    · exact kit_of I rx (.base (.lst t))
    · exact kit_of I rx (.base (.frz t))
    · exact kit_of I rx (.kList (o := o) (by rw [hK]; exact t) tc)
  | dic kvs =>
    cases e
    obtain ⟨a, ks, ev, t, _⟩ := h.dic
    subst ev
    exact ⟨True.intro, kit_of I rx (.base (.dK t))⟩
  | ins c fs =>
    cases e
    have h2 : ∃ a dx ys, v = .ref a ∧ C.T.ic c ∧ H a = some (.ins (C.T.ca c) dx ys) := by
      rcases h with ⟨a, dx, ys, e1, ic, e2, _, r⟩ | ⟨a, e1, dx, ys, ic, e2, r⟩
      · exact ⟨a, dx, ys, e1, ic, e2⟩
      · exact ⟨a, dx, ys, e1, ic, e2⟩
    obtain ⟨a, dx, ys, e1, ic, e2⟩ := h2
    subst e1
    have K := (F.ins c ic).1
    exact ⟨ic, kit_of I rx (.base (.ins e2 K.cl K.ha F.hn F.ht K.hm))⟩
  | exc c fs =>
    cases e
    obtain ⟨a, d, ys, e1, ec, hx, hd⟩ := h.elim id fun ⟨_, _, h⟩ => h.elim
    subst e1
    cases rx
    have K := (F.exc c ec).1
    obtain ⟨oe, vs, g1, g2, g3, g4⟩ := exc_at xp I (hx.elim .inl fun z => .inr z.1)
    have J : ∃ od, PySem.W.InstAt s.heap a oe (C.T.ca c) od := by
      rcases hd with ⟨_, hd⟩ | ⟨dd, ed, ha, _, r⟩
      · exact ⟨none, inst_there g1 g2 g4 (by rw [g3, hd])⟩
      · have hxd : ObjOk X.prog X.w H s.heap dd (.xd ys) := I.hok dd _ ha
        obtain ⟨mA, hns, hr⟩ := hxd
        obtain ⟨od, ho, hl⟩ := lookIn_ns hns
        exact ⟨some od, inst_there g1 g2 g4 (by rw [g3, ed]; exact ⟨ho, fun z => by cases z⟩)⟩
    obtain ⟨od, J⟩ := J
    obtain ⟨cd, hc, _⟩ := PySem.W.any_some K.hd
    exact ⟨ec, _, PySem.W.kitx_exc (by rw [hc]; rfl) K.ga K.gg K.sb K.ha F.hn F.ht K.hm, J, fun z => nomatch z⟩
  | fn _ => cases e
  | clo _ _ => cases e
theorem tyV'_cls {T : Tb} (t : Ty) : ClsV (tyV' T t) (tyVal T t) := by
  cases t <;> first | exact .ty _ | exact .own _
theorem kitAny_of {K : PySem.W.Frag} {T : Tb} {sub : Nat → Nat → Bool} {k : Kd} : ∀ (ts : List Ty), (∀ t ∈ ts, PySem.W.kitOne K (kdV T k) (tyVal T t) = some (k.isa sub t)) → PySem.W.kitAny K (kdV T k) (ts.map (tyVal T)) = some (ts.any (k.isa sub))
  | [], _ => rfl
  | t :: ts, h => by
    refine kitAny_cons (h t List.mem_cons_self) (fun e => ?_) (fun e => ?_)
    · rw [List.any_cons, e, Bool.false_or]
      exact kitAny_of ts fun u hu => h u (List.mem_cons_of_mem _ hu)
    · rw [List.any_cons, e, Bool.true_or]
/-- isinstance(x, c) -/
theorem isi_one {sub : Nat → Nat → Bool} {atts : List Str} {tys : List Ty} {x : PV} {v : V} {k : Kd} {t : Ty} {Q : VK} (F : KOk X.K C.T sub atts tys) (hK : X.K = C.K) (xp : XPOk X C) {B : Addr → Prop} (ht : t ∈ tys) (h : ORep C B H x v) (e : kdP x = some k) (q : Q (.bl (k.isa sub t)) H) :
    rSemC X (.builtin "isinstance") [v, tyV' C.T t] H Q := by
  intro pins s σ us I r
  obtain ⟨u1, u2, rfl, r1, r2⟩ := vals2 r
  have e2 := (tyV'_cls t).eq r2
  subst e2
  obtain ⟨hk, P, Z, p, hx⟩ := kit_kd F hK xp h e I r1
  exact PySem.W.kia_one Z I.kIn p (F.kit k hk t ht) hx fun tk => ⟨.bl _, H, I.tok tk, rfl, q⟩
/-- isinstance(x, (c, ..)) -/
theorem isi_tup {sub : Nat → Nat → Bool} {atts : List Str} {tys : List Ty} {x : PV} {v : V} {k : Kd} {ts : List Ty} {Q : VK} {tp : Addr} (F : KOk X.K C.T sub atts tys) (hK : X.K = C.K) (xp : XPOk X C) {B : Addr → Prop} (ht : ∀ t ∈ ts, t ∈ tys) (h : ORep C B H x v) (e : kdP x = some k)
    (hT : H tp = some (.tup (ts.map (tyV' C.T)))) (q : Q (.bl (ts.any (k.isa sub))) H) : rSemC X (.builtin "isinstance") [v, .ref tp] H Q := by
  intro pins s σ us I r
  obtain ⟨u1, u2, rfl, r1, r2⟩ := vals2 r
  cases (show u2 = Value.ref tp from r2)
  obtain ⟨hk, P, Z, p, hx⟩ := kit_kd F hK xp h e I r1
  obtain ⟨_, its, rv, o, h1, h2, n, h3⟩ := (show ObjOk X.prog X.w H s.heap tp (.tup (ts.map (tyV' C.T))) from I.hok tp _ hT)
  have pc : ∀ (l : List Ty), Paired ClsV (l.map (tyV' C.T)) (l.map (tyVal C.T)) := fun l => by
    induction l with
    | nil => exact .nil
    | cons t l ih => exact .cons (tyV'_cls t) ih
  have e3 := ClsV.all (pc ts) rv
  subst e3
  obtain ⟨oc, od, dt, sl⟩ := o
  simp only at h2 h3
  subst h2 h3
  exact PySem.W.kia_tup Z I.kIn p h1 (kitAny_of ts fun t hu => F.kit k hk t (ht t hu)) hx fun tk => ⟨.bl _, H, I.tok tk, rfl, q⟩
end
end Mi

/-! Mi7: soundness of the expressions, form by form. -/
namespace Mi
open PySem PySem.Spec PyProof.Rows L2

section
variable {Γ : G} {C : Cn} {T : List NdefX.NTab} {W : WX} {io io1 io2 io' : Bool} {M M' : Addr → Prop} {st st' st1 st2 : List Sl} {σ : List (Option V)} {H H' H1 H2 : Hp}
/-! ### slots read -/
theorem owns_drop {i : Nat} {s : Sl} {b : Addr} (hs : ∀ v, s ≠ .ow v) (o : Owns (st.set i s) σ b) : ∃ j v, j ≠ i ∧ st[j]? = some (.ow v) ∧ σ[j]? = some (some (.ref b)) := by
  obtain ⟨j, v, e1, e2⟩ := o
  by_cases h : i = j
  · subst h
    by_cases hl : i < st.length
    · rw [List.getElem?_set_self hl] at e1
      cases e1
      exact absurd rfl (hs v)
    · rw [List.getElem?_eq_none (by rw [List.length_set]; omega)] at e1
      cases e1
  · rw [List.getElem?_set_ne h] at e1
    exact ⟨j, v, fun z => h z.symm, e1, e2⟩
theorem bn_drop {i : Nat} {s : Sl} {b : Addr} (hs : ∀ v, s ≠ .ow v) (o : Bn M (st.set i s) σ b) : Bn M st σ b := o.elim .inl fun o => by
  obtain ⟨j, v, _, e1, e2⟩ := owns_drop hs o
  exact .inr ⟨j, v, e1, e2⟩
theorem Rel.share (r : Rel C M st σ H) {i : Nat} {v : PV} (e : st[i]? = some (.ow v)) : ∃ a, σ[i]? = some (some (.ref a)) ∧ Rel C M (st.set i (.sh v)) σ H ∧ Rep C (Bn M (st.set i (.sh v)) σ) H v (.ref a) := by
  obtain ⟨a, e1, e2, n⟩ := r.ow i v e
  have hl : i < st.length := (List.getElem?_eq_some_iff.mp e).1
  have ns : ∀ u, Sl.sh v ≠ .ow u := fun u z => by cases z
  have bn : ∀ b, Bn M (st.set i (.sh v)) σ b → Bn M st σ b := fun b => bn_drop ns
  have na : ¬ Bn M (st.set i (.sh v)) σ a := fun z => by
    rcases z with z | z
    · exact n z
    · obtain ⟨j, u, hj, q1, q2⟩ := owns_drop ns z
      exact hj (r.inj j i u v a q1 e q2 e1)
  have rp : Rep C (Bn M (st.set i (.sh v)) σ) H v (.ref a) := e2.rep bn na
  refine ⟨a, e1, ⟨by rw [List.length_set]; exact r.len, fun j u q => ?_, fun j u q => ?_, fun j k u w b q1 q2 q3 q4 => ?_, r.al⟩, rp⟩
  · by_cases h : i = j
    · subst h
      rw [List.getElem?_set_self hl] at q
      cases q
      exact ⟨_, e1, rp⟩
    · rw [List.getElem?_set_ne h] at q
      obtain ⟨w, q1, q2⟩ := r.sh j u q
      exact ⟨w, q1, q2.sub bn⟩
  · by_cases h : i = j
    · subst h
      rw [List.getElem?_set_self hl] at q
      cases q
    · rw [List.getElem?_set_ne h] at q
      obtain ⟨w, q1, q2, q3⟩ := r.ow j u q
      exact ⟨w, q1, q2.sub bn, q3⟩
  · have hj : i ≠ j := fun z => by subst z; rw [List.getElem?_set_self hl] at q1; cases q1
    have hk : i ≠ k := fun z => by subst z; rw [List.getElem?_set_self hl] at q2; cases q2
    rw [List.getElem?_set_ne hj] at q1
    rw [List.getElem?_set_ne hk] at q2
    exact r.inj j k u w b q1 q2 q3 q4
theorem Rel.move (r : Rel C M st σ H) {i : Nat} {v : PV} (e : st[i]? = some (.ow v)) : ∃ a, σ[i]? = some (some (.ref a)) ∧ Rel C (Un M [a]) (st.set i .no) σ H ∧ OwnAt C (Bn (Un M [a]) (st.set i .no) σ) H a v ∧ ¬ M a := by
  obtain ⟨a, e1, e2, n⟩ := r.ow i v e
  have hl : i < st.length := (List.getElem?_eq_some_iff.mp e).1
  have ns : ∀ u, Sl.no ≠ .ow u := fun u z => by cases z
  have bn : ∀ b, Bn (Un M [a]) (st.set i .no) σ b → Bn M st σ b := fun b z => by
    rcases z with (z | z) | z
    · exact .inl z
    · rw [show b = a by simpa using z]
      exact .inr ⟨i, v, e, e1⟩
    · exact bn_drop ns (.inr z)
  refine ⟨a, e1, ⟨by rw [List.length_set]; exact r.len, fun j u q => ?_, fun j u q => ?_, fun j k u w b q1 q2 q3 q4 => ?_, fun b m => ?_⟩, e2.sub bn, n⟩
  · have h : i ≠ j := fun z => by subst z; rw [List.getElem?_set_self hl] at q; cases q
    rw [List.getElem?_set_ne h] at q
    obtain ⟨w, q1, q2⟩ := r.sh j u q
    exact ⟨w, q1, q2.sub bn⟩
  · have h : i ≠ j := fun z => by subst z; rw [List.getElem?_set_self hl] at q; cases q
    rw [List.getElem?_set_ne h] at q
    obtain ⟨b, q1, q2, q3⟩ := r.ow j u q
    refine ⟨b, q1, q2.sub bn, fun z => ?_⟩
    rcases z with z | z
    · exact q3 z
    · rw [show b = a by simpa using z] at q1
      exact h (r.inj i j v u a e q e1 q1)
  · have hj : i ≠ j := fun z => by subst z; rw [List.getElem?_set_self hl] at q1; cases q1
    have hk : i ≠ k := fun z => by subst z; rw [List.getElem?_set_self hl] at q2; cases q2
    rw [List.getElem?_set_ne hj] at q1
    rw [List.getElem?_set_ne hk] at q2
    exact r.inj j k u w b q1 q2 q3 q4
  · rcases m with m | m
    · exact r.al b m
    · rw [show b = a by simpa using m]
      obtain ⟨o, h1, h2, _⟩ := e2.some
      exact ⟨o, h1, h2⟩
theorem owns_sub {i : Nat} {s : Sl} (hs : ∀ v, s ≠ .ow v) : ∀ b, Owns (st.set i s) σ b → Owns st σ b := fun b o => by
  obtain ⟨j, v, _, e1, e2⟩ := owns_drop hs o
  exact ⟨j, v, e1, e2⟩
/-- what an evaluation from here gives, after a step -/
theorem Post.after {r : Rs (List (Fl × PV))} {Q : List V → Hp → Prop} (s : Step C T io1 M st st1 σ H H1) (P : Post C T W io M st σ H r Q) (h1 : io1 = true → io = true) (h2 : io2 = true → io = true) : Post C T W io2 M st1 σ H1 r Q := by
  have hi : (io1 || io2) = true → io = true := fun z => by
    rcases (Bool.or_eq_true ..).mp z with z | z
    · exact h1 z
    · exact h2 z
  cases r with
  | ok xs st2 => exact fun vs ps H2 s2 n f r => P vs ps H2 ((s.trans s2).weaken (fun _ m => m) hi) n (fun a ha => ⟨(f a ha).1, s.al' (f a ha).2⟩) r
  | ex c fs st2 => exact fun cls d H2 s2 x => P cls d H2 ((s.trans s2).weaken (fun _ m => m) (fun _ => rfl)) x
  | bad => exact P

/-! ### several operands -/
theorem rs_of {α β : Type} {r : Rs α} {k k' : α → Slots → Rs β} (h : ∀ a st, k a st = k' a st) : r.bind k = r.bind k' := by
  have e : k = k' := funext fun a => funext fun st => h a st
  rw [e]
theorem rs_assoc {α β γ : Type} (r : Rs α) (k : α → Slots → Rs β) (l : β → Slots → Rs γ) : (r.bind k).bind l = r.bind fun a st => (k a st).bind l := by cases r <;> rfl
theorem ev_cons (a : E) (r : Es) (K : List (Fl × PV) → Slots → Rs (Fl × PV)) : (evEs Γ (.cons a r) st).bind K = (evE Γ a st).bind fun x st => (evEs Γ r st).bind fun xs st => if wait x.1 (E.io.ioL r) then K (x :: xs) st else .bad := by
  show ((evE Γ a st).bind fun x st => (evEs Γ r st).bind fun xs st => if wait x.1 (E.io.ioL r) then .ok (x :: xs) st else .bad).bind K = _
  rw [rs_assoc]
  refine rs_of fun x st => ?_
  rw [rs_assoc]
  refine rs_of fun xs st => ?_
  split <;> rfl
theorem wait_f (f : Fl) : wait f false = true := by cases f <;> rfl
theorem ev_nil (K : List (Fl × PV) → Slots → Rs (Fl × PV)) : (evEs Γ .nil st).bind K = K [] st := rfl
theorem ev_one (a : E) (K : List (Fl × PV) → Slots → Rs (Fl × PV)) : (evEs Γ (.cons a .nil) st).bind K = (evE Γ a st).bind fun x st => K [x] st := by
  rw [ev_cons]
  refine rs_of fun x st => ?_
  rw [ev_nil]
  show (if wait x.1 false = true then K [x] st else .bad) = _
  rw [if_pos (wait_f _)]
theorem ev_two (a b : E) (K : List (Fl × PV) → Slots → Rs (Fl × PV)) : (evEs Γ (.cons a (.cons b .nil)) st).bind K = (evE Γ a st).bind fun x st => (evE Γ b st).bind fun y st => if wait x.1 b.io then K [x, y] st else .bad := by
  rw [ev_cons]
  refine rs_of fun x st => ?_
  rw [ev_one]
  refine rs_of fun y st => ?_
  show (if wait x.1 (b.io || false) = true then _ else _) = _
  rw [Bool.or_false]
def Es.len : Es → Nat
  | .nil => 0
  | .cons _ r => r.len + 1
theorem evEs_len : ∀ (es : Es) (st : Slots) {xs : List (Fl × PV)} {st2 : Slots}, evEs Γ es st = .ok xs st2 → xs.length = es.len
  | .nil, st, xs, st2, e => by
    have e : Rs.ok [] st = .ok xs st2 := e
    cases e
    rfl
  | .cons a r, st, xs, st2, e => by
    have e : ((evE Γ a st).bind fun x st => (evEs Γ r st).bind fun xs st => if wait x.1 (E.io.ioL r) then .ok (x :: xs) st else .bad) = .ok xs st2 := e
    cases e1 : evE Γ a st with
    | bad => rw [e1] at e; cases e
    | ex c fs st1 => rw [e1] at e; cases e
    | ok x st1 =>
      rw [e1] at e
      have e : ((evEs Γ r st1).bind fun xs st => if wait x.1 (E.io.ioL r) then .ok (x :: xs) st else .bad) = .ok xs st2 := e
      cases e2 : evEs Γ r st1 with
      | bad => rw [e2] at e; cases e
      | ex c fs st1 => rw [e2] at e; cases e
      | ok ys st3 =>
        rw [e2] at e
        have e : (if wait x.1 (E.io.ioL r) then Rs.ok (x :: ys) st3 else .bad) = .ok xs st2 := e
        split at e
        · cases e
          rw [List.length_cons, evEs_len r st1 e2]
          rfl
        · cases e
/-- what is known behind the operands -/
def Fin (Γ : G) (C : Cn) (T : List NdefX.NTab) (W : WX) (io : Bool) (n : Nat) (K : List (Fl × PV) → Slots → Rs (Fl × PV)) (σ : List (Option V)) (H : Hp) (Q : VK) (vs : List V) (H2 : Hp) : Prop :=
  ∃ M st xs st2 ps, xs.length = n ∧ Step C T io (Un M ps) st st2 σ H H2 ∧ ps.Nodup ∧ (∀ a ∈ ps, ¬ M a ∧ (H a = none ∨ Owns st σ a)) ∧ RL C (Bn (Un M ps) st2 σ) H2 xs vs ps ∧ PostE C T W io M st σ H (K xs st2) Q
theorem Post.ioLe {r : Rs (List (Fl × PV))} {Q : List V → Hp → Prop} (P : Post C T W io M st σ H r Q) (h : io2 = true → io = true) : Post C T W io2 M st σ H r Q := by
  cases r with
  | ok xs st2 => exact fun vs ps H2 s2 n f r => P vs ps H2 (s2.weaken (fun _ m => m) h) n f r
  | ex c fs st2 => exact fun cls d H2 s2 x => P cls d H2 s2 x
  | bad => exact P
theorem Post.upM {M1 : Addr → Prop} {r : Rs (List (Fl × PV))} {Q : List V → Hp → Prop} (P : Post C T W io M st σ H r Q) (h : ∀ a, M a → M1 a) : Post C T W io M1 st σ H r Q := by
  cases r with
  | ok xs st2 =>
    intro vs ps H2 s n f r
    have hu : ∀ a, Un M ps a → Un M1 ps a := fun a z => z.elim (fun z => .inl (h a z)) .inr
    refine P vs ps H2 (s.weaken hu (fun z => z)) n (fun a ha => ⟨fun z => (f a ha).1 (h a z), (f a ha).2⟩) ?_
    exact RL.mv (Kp.refl (fun _ => False) H2) (fun _ z => z.elim) (fun b z => .inl (Bn.mono hu z)) r (fun _ _ => rfl) (fun _ _ z => z)
  | ex c fs st2 => exact fun cls d H2 s x => P cls d H2 (s.weaken h (fun z => z)) ⟨x.1, x.2.1, x.2.2.elim .inl fun ⟨dd, ys, e1, e2, e3, e4⟩ => .inr ⟨dd, ys, e1, e2, fun z => e3 (Bn.mono h z), RepF.mv (Kp.refl (fun _ => False) H2) (fun _ z => z.elim) (fun a z => .inl (Bn.mono h z)) fs ys e4⟩⟩
  | bad => exact P
/-- what is known of the results, with it -/
theorem Post.know {r : Rs (List (Fl × PV))} {Q : List V → Hp → Prop} (P : Post C T W io M st σ H r Q) : Post C T W io M st σ H r fun vs H2 => Q vs H2 ∧ ∃ xs st2 ps, r = .ok xs st2 ∧ Step C T io (Un M ps) st st2 σ H H2 ∧ ps.Nodup ∧ (∀ a ∈ ps, ¬ M a ∧ (H a = none ∨ Owns st σ a)) ∧ RL C (Bn (Un M ps) st2 σ) H2 xs vs ps := by
  cases r with
  | ok xs st2 => exact fun vs ps H2 s n f r => ⟨P vs ps H2 s n f r, xs, st2, ps, rfl, s, n, f, r⟩
  | ex c fs st2 => exact P
  | bad => exact P
/-- .. from a state that is known -/
def FinM (C : Cn) (T : List NdefX.NTab) (W : WX) (io : Bool) (n : Nat) (K : List (Fl × PV) → Slots → Rs (Fl × PV)) (M : Addr → Prop) (st : Slots) (σ : List (Option V)) (H : Hp) (Q : VK) (vs : List V) (H2 : Hp) : Prop :=
  ∃ xs st2 ps, xs.length = n ∧ Step C T io (Un M ps) st st2 σ H H2 ∧ ps.Nodup ∧ (∀ a ∈ ps, ¬ M a ∧ (H a = none ∨ Owns st σ a)) ∧ RL C (Bn (Un M ps) st2 σ) H2 xs vs ps ∧ PostE C T W io M st σ H (K xs st2) Q
theorem tE_args0 {es : Es} {K : List (Fl × PV) → Slots → Rs (Fl × PV)} {Q : VK} (r : Rel C M st σ H) (t : Tabs T H) (P : PostE C T W io M st σ H ((evEs Γ es st).bind K) Q) (hio : E.io.ioL es = true → io = true) : tEs Γ C T W es σ H (FinM C T W io es.len K M st σ H Q) :=
  ⟨M, st, r, t, Post.ioLe (Post.mono (post_bind P) fun vs H2 ⟨xs, st2, ps, ee, s, n, f, q, P⟩ => ⟨xs, st2, ps, evEs_len es st ee, s, n, f, q, P⟩) hio⟩
theorem tE_args' {e : E} {es : Es} {K : List (Fl × PV) → Slots → Rs (Fl × PV)} {Q : VK} (h : tE Γ C T W e σ H Q) (hev : ∀ st, evE Γ e st = (evEs Γ es st).bind K) (hio : E.io.ioL es = true → e.io = true) : tEs Γ C T W es σ H (Fin Γ C T W e.io es.len K σ H Q) := by
  obtain ⟨M, st, r, t, P⟩ := h
  rw [hev] at P
  refine ⟨M, st, r, t, Post.ioLe (Post.mono (post_bind P) fun vs H2 ⟨xs, st2, ps, ee, s, n, f, q, P⟩ => ⟨M, st, xs, st2, ps, evEs_len es st ee, s, n, f, q, P⟩) hio⟩
theorem tE_args {e : E} {es : Es} {K : List (Fl × PV) → Slots → Rs (Fl × PV)} {Q : VK} (h : tE Γ C T W e σ H Q) (hev : ∀ st, evE Γ e st = (evEs Γ es st).bind K) (hio : e.io = E.io.ioL es) : tEs Γ C T W es σ H (Fin Γ C T W e.io es.len K σ H Q) := tE_args' h hev (fun z => by rw [hio]; exact z)
theorem un_l {ps : List Addr} : ∀ a, M a → Un M ps a := fun a m => .inl m

/-! ### the readings -/
def tT (Γ : G) (C : Cn) (T : List NdefX.NTab) (W : WX) (a : E) : TT := tTest (tE Γ C T W a)
end
theorem _root_.L2.PE.imp {X : Cx} {e : Expr} {t t' : TE} (h : PE X e t) (i : ∀ σ H Q, t' σ H Q → t σ H Q) : PE X e t' := ⟨fun pins s σ H Q I q => h.run pins s σ H Q I (i σ H Q q)⟩
theorem _root_.L2.PT.imp {X : Cx} {e : Expr} {t t' : TT} (h : PT X e t) (i : ∀ σ H Q, t' σ H Q → t σ H Q) : PT X e t' := ⟨fun pins s σ H Q I q => h.run pins s σ H Q I (i σ H Q q)⟩
theorem _root_.L2.PW.imp {X : Cx} {e : Expr} {t t' : TT} (h : PW X e t) (i : ∀ σ H Q, t' σ H Q → t σ H Q) : PW X e t' := ⟨fun wh pins s σ H Q I q => h.run wh pins s σ H Q I (i σ H Q q)⟩

structure SE (X : Cx) (Γ : G) (C : Cn) (T : List NdefX.NTab) (W : WX) (a : E) (e : Expr) : Prop where
  pe : PE X e (tE Γ C T W a)
  pt : PT X e (tT Γ C T W a)
  pw : ∀ op vs pos, e = .BoolOp op vs pos → PW X e (tT Γ C T W a)
  st : ∀ env rest, starEach (e :: rest) env = (false, eval e env) :: starEach rest env

section
variable {X : Cx} {Γ : G} {C : Cn} {T : List NdefX.NTab} {W : WX} {a b c : E} {A B D : Expr} {pos : Pos}
/-- a form whose test is its value's -/
theorem SE.of {e : Expr} (h : PE X e (tE Γ C T W a)) (he : ∀ whole, isTrue e X.env whole = (do let v ← whole; standAt e.pos; holding [v] (truthy v)) := by intro _; rfl) (hb : ∀ op vs pos, e ≠ .BoolOp op vs pos := by intro _ _ _ z; cases z)
    (hs : ∀ env rest, starEach (e :: rest) env = (false, eval e env) :: starEach rest env := by intro _ _; rfl) : SE X Γ C T W a e :=
  ⟨h, pt_val h he, fun op vs pos z => absurd z (hb op vs pos), hs⟩
/-- a constant -/
theorem tE_k {x : PV} {v : V} (hr : ∀ B H, Rep C B H x v) : ∀ σ H Q, tE Γ C T W (.k x) σ H Q → Q v H := fun σ H Q h => by
  obtain ⟨M, st, r, t, P⟩ := h
  exact fin_sh P (Step.refl r t) (hr _ _)
def constB : PV → Const → Bool
  | .non, .none => true
  | .bl a, .bool b => a == b
  | .int i, .int j => i == j
  | .str x, .str y => x == y
  | _, _ => false
theorem se_k {x : PV} {k : Const} {n : Nat} (h : constB x k = true) : SE X Γ C T W (.k x) (.Constant k n pos) := by
  unfold constB at h
  split at h
  · exact .of (pe_non.imp (tE_k fun B H => rfl))
  · rw [beq_iff_eq] at h; subst h
    exact .of (pe_bl.imp (tE_k fun B H => rfl))
  · rw [beq_iff_eq] at h; subst h
    exact .of (pe_int.imp (tE_k fun B H => rfl))
  · rw [beq_iff_eq] at h; subst h
    exact .of (pe_str.imp (tE_k fun B H => rfl))
  · cases h
/-- slots -/
theorem tE_sv {i : Nat} : ∀ σ H Q, tE Γ C T W (.sv i) σ H Q → tVar i σ H Q := fun σ H Q h => by
  obtain ⟨M, st, r, t, P⟩ := h
  have P : PostE C T W false M st σ H (match st[i]? with
    | some (.sh v) => .ok (.sh, v) st
    | some (.ow v) => .ok (.sh, v) (st.set i (.sh v))
    | _ => .bad) Q := P
  split at P
  · rename_i v e
    obtain ⟨w, e1, e2⟩ := r.sh i v e
    exact ⟨w, e1, fin_sh P (Step.refl r t) e2⟩
  · rename_i v e
    obtain ⟨a, e1, r2, q⟩ := r.share e
    exact ⟨.ref a, e1, fin_sh P ⟨r2, Kp.refl _ _, fun _ h => h, owns_sub (fun v z => by cases z), t⟩ q⟩
  · exact P.elim
theorem tE_mv {i : Nat} : ∀ σ H Q, tE Γ C T W (.mv i) σ H Q → tVar i σ H Q := fun σ H Q h => by
  obtain ⟨M, st, r, t, P⟩ := h
  have P : PostE C T W false M st σ H (match st[i]? with
    | some (.sh v) => .ok (.sh, v) st
    | some (.ow v) => .ok (.ow, v) (st.set i .no)
    | _ => .bad) Q := P
  split at P
  · rename_i v e
    obtain ⟨w, e1, e2⟩ := r.sh i v e
    exact ⟨w, e1, fin_sh P (Step.refl r t) e2⟩
  · rename_i v e
    obtain ⟨a, e1, r2, q, n⟩ := r.move e
    refine ⟨.ref a, e1, P [.ref a] [a] H ⟨r2, Kp.refl _ _, fun _ h => h, owns_sub (fun v z => by cases z), t⟩ (by simp) (fun b hb => ?_) (.ow q .nil) _ rfl⟩
    rw [show b = a by simpa using hb]
    exact ⟨n, .inr ⟨i, v, e, e1⟩⟩
  · exact P.elim
theorem tE_bw {i : Nat} : ∀ σ H Q, tE Γ C T W (.bw i) σ H Q → tVar i σ H Q := fun σ H Q h => by
  obtain ⟨M, st, r, t, P⟩ := h
  have P : PostE C T W false M st σ H (match st[i]? with
    | some (.sh v) => .ok (.sh, v) st
    | some (.ow v) => .ok (.bo, v) st
    | _ => .bad) Q := P
  split at P
  · rename_i v e
    obtain ⟨w, e1, e2⟩ := r.sh i v e
    exact ⟨w, e1, fin_sh P (Step.refl r t) e2⟩
  · rename_i v e
    obtain ⟨a, e1, q, n⟩ := r.ow i v e
    exact ⟨.ref a, e1, P [.ref a] [] H (Step.refl (r.weaken fun a m => un_nil.mp m) t) List.nodup_nil (fun a z => absurd z (by simp)) (.bo (q.sub fun a => Bn.mono fun a m => un_nil.mp m) .nil) _ rfl⟩
  · exact P.elim
/-- a op b -/
theorem Fin.two {io : Bool} {n : Nat} {f : PV → PV → Slots → Rs (Fl × PV)} {σ : L2.St} {H H2 : Hp} {Q : VK} {v w : V} (h : Fin Γ C T W io n (fun xs st => match valsOf xs with | [x, y] => f x y st | _ => .bad) σ H Q [v, w] H2) :
    ∃ M ps st st2 x y, Step C T io (Un M ps) st st2 σ H H2 ∧ ORep C (Bn (Un M ps) st2 σ) H2 x v ∧ ORep C (Bn (Un M ps) st2 σ) H2 y w ∧ PostE C T W io M st σ H (f x y st2) Q := by
  obtain ⟨M, st, xs, st2, ps, ln, s, n, fr, q, P⟩ := h
  have o := q.ops
  dsimp only at P
  split at P
  · rename_i x y e
    rw [e] at o
    obtain ⟨v', w', e2, o1, o2⟩ := o.two
    cases e2
    exact ⟨M, ps, st, st2, x, y, s, o1, o2, P⟩
  · exact P.elim
theorem Fin.one {io : Bool} {n : Nat} {f : PV → Slots → Rs (Fl × PV)} {σ : L2.St} {H H2 : Hp} {Q : VK} {v : V} (h : Fin Γ C T W io n (fun xs st => match valsOf xs with | [x] => f x st | _ => .bad) σ H Q [v] H2) :
    ∃ M ps st st2 x, Step C T io (Un M ps) st st2 σ H H2 ∧ ORep C (Bn (Un M ps) st2 σ) H2 x v ∧ PostE C T W io M st σ H (f x st2) Q := by
  obtain ⟨M, st, xs, st2, ps, ln, s, n, fr, q, P⟩ := h
  have o := q.ops
  dsimp only at P
  split at P
  · rename_i x e
    rw [e] at o
    obtain ⟨v', e2, o1⟩ := o.one
    cases e2
    exact ⟨M, ps, st, st2, x, s, o1, P⟩
  · exact P.elim
theorem tE_two {e : E} {f : PV → PV → Slots → Rs (Fl × PV)} (hev : ∀ st, evE Γ e st = (evE Γ a st).bind fun x st => (evE Γ b st).bind fun y st => if wait x.1 b.io then f x.2 y.2 st else .bad) (hio : e.io = (a.io || b.io)) {σ : L2.St} {H : Hp} {Q : VK} (h : tE Γ C T W e σ H Q) :
    tE Γ C T W a σ H fun v H1 => tE Γ C T W b σ H1 fun w H2 => ∃ M ps st st2 x y, Step C T e.io (Un M ps) st st2 σ H H2 ∧ ORep C (Bn (Un M ps) st2 σ) H2 x v ∧ ORep C (Bn (Un M ps) st2 σ) H2 y w ∧ PostE C T W e.io M st σ H (f x y st2) Q :=
  (tEs_two (tE_args (es := .cons a (.cons b .nil)) (K := fun xs st => match valsOf xs with | [x, y] => f x y st | _ => .bad) h (fun st => by rw [hev, ev_two] <;> rfl) (by rw [hio]; show _ = (a.io || (b.io || false)); rw [Bool.or_false]))).mono fun v H1 h => h.mono fun w H2 h => h.two
theorem tE_one {e : E} {f : PV → Slots → Rs (Fl × PV)} (hev : ∀ st, evE Γ e st = (evE Γ a st).bind fun x st => f x.2 st) (hio : e.io = a.io) {σ : L2.St} {H : Hp} {Q : VK} (h : tE Γ C T W e σ H Q) :
    tE Γ C T W a σ H fun v H1 => ∃ M ps st st2 x, Step C T e.io (Un M ps) st st2 σ H H1 ∧ ORep C (Bn (Un M ps) st2 σ) H1 x v ∧ PostE C T W e.io M st σ H (f x st2) Q :=
  (tEs_one (tE_args (es := .cons a .nil) (K := fun xs st => match valsOf xs with | [x] => f x st | _ => .bad) h (fun st => by rw [hev, ev_one] <;> rfl) (by rw [hio]; show _ = (a.io || false); rw [Bool.or_false]))).mono fun v H1 h => h.one
theorem se_bin {o : Op} {op : Operator} (hK : X.K = C.K) (ho : opB o op = true) (ha : SE X Γ C T W a A) (hb : SE X Γ C T W b B) : SE X Γ C T W (.bin o a b) (.BinOp A op B pos) :=
  .of ((pe_op opSem ha.pe hb.pe).imp fun σ H Q h => (tE_two (f := fun x y st => resF (o.ap x y) st) (fun _ => rfl) rfl h).mono fun v H1 h => h.mono fun w H2 ⟨M, ps, st, st2, x, y, s, o1, o2, P⟩ => op_ap hK ho un_l s o1 o2 P)
theorem se_cmp {o : Cp} {op : CmpOp} (hK : X.K = C.K) (hu : X.A.units + 65 < cLine) (ho : cpB o op = true) (hm : behindInMarks op B = false) (ha : SE X Γ C T W a A) (hb : SE X Γ C T W b B) : SE X Γ C T W (.cmp o a b) (.Compare A [op] [B] pos) := by
  have im : ∀ σ H Q, tE Γ C T W (.cmp o a b) σ H Q → tOp (rSem2 X (compareOp op)) (tE Γ C T W a) (tE Γ C T W b) σ H Q := fun σ H Q h => (tE_two (f := fun x y st => resB (o.ap x y) st) (fun _ => rfl) rfl h).mono fun v H1 h => h.mono fun w H2 ⟨M, ps, st, st2, x, y, s, o1, o2, P⟩ => by
    obtain ⟨r, e⟩ := resB_some P
    rw [e] at P
    exact cp_ap hK hu ho o1 o2 e (fin_b P (s.weaken un_l fun z => z))
  exact ⟨(pe_cmpR opSem ha.pe hb.pe hm).imp im, (pt_cmpR opSem ha.pe hb.pe hm).imp fun σ H Q h => im σ H _ h, (fun op vs pos z => by cases z), fun _ _ => rfl⟩
theorem se_neg (ha : SE X Γ C T W a A) : SE X Γ C T W (.neg a) (.UnaryOp .USub A pos) :=
  .of ((pe_un un_neg ha.pe).imp fun σ H Q h => (tE_one (e := .neg a) (a := a) (f := fun x st => match intP x with | some i => .ok (.sh, .int (-i)) st | none => .bad) (fun _ => rfl) rfl h).mono fun v H1 ⟨M, ps, st, st2, x, s, o1, P⟩ => by
    cases x with
    | int i =>
      rw [o1.int]
      exact ⟨i, rfl, fin_sh P (s.weaken un_l fun z => z) rfl⟩
    | _ => exact (show False from P).elim)
theorem se_not (ha : SE X Γ C T W a A) : SE X Γ C T W (.not a) (.UnaryOp .Not A pos) := by
  have im : ∀ σ H Q, tE Γ C T W (.not a) σ H Q → tNotV (tE Γ C T W a) σ H Q := fun σ H Q h => (tE_one (e := .not a) (a := a) (f := fun x st => match boolP x with | some b => .ok (.sh, .bl (!b)) st | none => .bad) (fun _ => rfl) rfl h).mono fun v H1 ⟨M, ps, st, st2, x, s, o1, P⟩ => by
    cases x with
    | bl i =>
      rw [o1.bl]
      exact ⟨i, rfl, fin_sh P (s.weaken un_l fun z => z) rfl⟩
    | _ => exact (show False from P).elim
  refine ⟨(pe_not ha.pe).imp im, (pt_not ha.pt).imp fun σ H Q h => ?_, (fun op vs pos z => by cases z), fun _ _ => rfl⟩
  exact (im σ H _ h).mono fun v H1 ⟨k, e, k', e', q⟩ => ⟨k, e, by cases e'; exact q⟩
end
end Mi

/-! Mi8: soundness of the expressions: displays, tests, subscripts, built-in functions. -/
namespace Mi
open PySem PySem.Spec PyProof.Rows L2

section
variable {X : Cx} {Γ : G} {C : Cn} {T : List NdefX.NTab} {W : WX} {a b c : E} {A B D : Expr} {pos : Pos} {σ : L2.St} {H H' H1 H2 : Hp} {Q : VK} {M : Addr → Prop} {st st1 st2 : List Sl} {io : Bool}
/-! ### tests -/
theorem tE_bool {e : E} {K1 K2 : Slots → Rs (Fl × PV)} (hev : ∀ st, evE Γ e st = (evE Γ a st).bind fun x st => match boolP x.2 with | some true => K1 st | some false => K2 st | none => .bad) (hio : a.io = true → e.io = true) (h : tE Γ C T W e σ H Q) :
    tE Γ C T W a σ H fun v H1 => ∃ k, v = .bl k ∧ ∃ M st st1, Step C T a.io M st st1 σ H H1 ∧ PostE C T W e.io M st σ H (if k = true then K1 st1 else K2 st1) Q := by
  obtain ⟨M, st, r, t, P⟩ := h
  rw [hev] at P
  refine ⟨M, st, r, t, ?_⟩
  unfold PostE one
  cases e1 : evE Γ a st with
  | bad => rw [e1] at P; exact P
  | ex c fs st1 => rw [e1] at P; exact P
  | ok x st1 =>
    rw [e1] at P
    have P1 : PostE C T W e.io M st σ H (match boolP x.2 with | some true => K1 st1 | some false => K2 st1 | none => .bad) Q := P
    intro vs ps H1 s1 n1 f1 r1 v ev
    subst ev
    obtain ⟨v', e2, o⟩ := r1.ops.one
    cases e2
    obtain ⟨fl, y⟩ := x
    cases y with
    | bl k =>
      refine ⟨k, o.bl, M, st, st1, s1.weaken un_l (fun z => z), ?_⟩
      cases k <;> exact P1
    | _ => exact (show False from P1).elim
theorem tE_then {e : E} {M : Addr → Prop} {st st1 : List Sl} {io io1 : Bool} (s : Step C T io1 M st st1 σ H H1) (P : PostE C T W io M st σ H (evE Γ e st1) Q) (h1 : io1 = true → io = true) (h2 : e.io = true → io = true) : tE Γ C T W e σ H1 Q :=
  ⟨M, st1, s.rel, s.tab, Post.after s P h1 h2⟩
theorem se_and {rest : List Expr} (ha : SE X Γ C T W a A) (he : PE X (.BoolOp .And (B :: rest) pos) (tE Γ C T W b)) (hw : PW X (.BoolOp .And (B :: rest) pos) (tT Γ C T W b)) : SE X Γ C T W (.and a b) (.BoolOp .And (A :: B :: rest) pos) := by
  have io1 : a.io = true → (a.io || b.io) = true := fun z => by rw [z]; rfl
  have io2 : b.io = true → (a.io || b.io) = true := fun z => by rw [z]; cases a.io <;> rfl
  have im : ∀ σ H Q, tE Γ C T W (.and a b) σ H Q → tAndV (tE Γ C T W a) (tE Γ C T W b) σ H Q := fun σ H Q h => (tE_bool (e := .and a b) (K1 := evE Γ b) (K2 := fun st => .ok (.sh, .bl false) st) (fun _ => rfl) io1 h).mono fun v H1 ⟨k, e, M, st, st1, s, P⟩ => by
    refine ⟨k, e, ?_⟩
    cases k with
    | true => exact tE_then s P io1 io2
    | false => exact fin_sh P (s.weaken (fun _ m => m) io1) rfl
  have iw : ∀ σ H Q, tT Γ C T W (.and a b) σ H Q → tAnd (tT Γ C T W a) (tT Γ C T W b) σ H Q := fun σ H Q h => (im σ H _ h).mono fun v H1 ⟨k, e, q⟩ => by
    refine ⟨k, e, ?_⟩
    cases k with
    | true => exact q
    | false =>
      obtain ⟨k', e', q⟩ := q
      cases e'
      exact q
  have w := (pw_and ha.pt hw).imp iw
  exact ⟨(pe_and ha.pe he).imp im, w.pt, fun _ _ _ _ => w, fun _ _ => rfl⟩
theorem se_or {rest : List Expr} (ha : SE X Γ C T W a A) (he : PE X (.BoolOp .Or (B :: rest) pos) (tE Γ C T W b)) (hw : PW X (.BoolOp .Or (B :: rest) pos) (tT Γ C T W b)) : SE X Γ C T W (.or a b) (.BoolOp .Or (A :: B :: rest) pos) := by
  have io1 : a.io = true → (a.io || b.io) = true := fun z => by rw [z]; rfl
  have io2 : b.io = true → (a.io || b.io) = true := fun z => by rw [z]; cases a.io <;> rfl
  have im : ∀ σ H Q, tE Γ C T W (.or a b) σ H Q → tOrV (tE Γ C T W a) (tE Γ C T W b) σ H Q := fun σ H Q h => (tE_bool (e := .or a b) (K1 := fun st => .ok (.sh, .bl true) st) (K2 := evE Γ b) (fun _ => rfl) io1 h).mono fun v H1 ⟨k, e, M, st, st1, s, P⟩ => by
    refine ⟨k, e, ?_⟩
    cases k with
    | true => exact fin_sh P (s.weaken (fun _ m => m) io1) rfl
    | false => exact tE_then s P io1 io2
  have iw : ∀ σ H Q, tT Γ C T W (.or a b) σ H Q → tOr (tT Γ C T W a) (tT Γ C T W b) σ H Q := fun σ H Q h => (im σ H _ h).mono fun v H1 ⟨k, e, q⟩ => by
    refine ⟨k, e, ?_⟩
    cases k with
    | false => exact q
    | true =>
      obtain ⟨k', e', q⟩ := q
      cases e'
      exact q
  have w := (pw_or ha.pt hw).imp iw
  exact ⟨(pe_or ha.pe he).imp im, w.pt, fun _ _ _ _ => w, fun _ _ => rfl⟩
/-- the rest of an and (or): one operand, or several -/
theorem se_one {op : BoolOp} (h : SE X Γ C T W a A) : PE X (.BoolOp op [A] pos) (tE Γ C T W a) ∧ PW X (.BoolOp op [A] pos) (tT Γ C T W a) := by
  refine ⟨pe_one h.pe, ?_⟩
  cases op with
  | And => exact pw_and1 h.pt
  | Or => exact pw_or1 h.pt
theorem pt_ifExp {c a b : Expr} {tc ta tb : TT} (hc : PT X c tc) (ha : PT X a ta) (hb : PT X b tb) : PT X (.IfExp c a b pos) (fun σ H Q => tc σ H fun k H1 => if k = true then ta σ H1 Q else tb σ H1 Q) := by
  refine ⟨fun pins s σ H Q I h => ?_⟩
  show wpAny _ _ (do if ← isTrue c X.env (eval c X.env) then isTrue a X.env (eval a X.env) else isTrue b X.env (eval b X.env)) _ _ s
  refine wpAny_bind (thn (hc.run pins s σ H _ I h) fun k s1 ⟨H1, I1, q⟩ => ?_)
  cases k with
  | true => exact ha.run pins s1 σ H1 _ I1 q
  | false => exact hb.run pins s1 σ H1 _ I1 q
theorem se_ite (hc : SE X Γ C T W c D) (ha : SE X Γ C T W a A) (hb : SE X Γ C T W b B) : SE X Γ C T W (.ite c a b) (.IfExp D A B pos) := by
  have io1 : c.io = true → (c.io || a.io || b.io) = true := fun z => by rw [z]; rfl
  have io2 : a.io = true → (c.io || a.io || b.io) = true := fun z => by rw [z]; cases c.io <;> rfl
  have io3 : b.io = true → (c.io || a.io || b.io) = true := fun z => by rw [z]; cases c.io <;> cases a.io <;> rfl
  have im : ∀ σ H Q, tE Γ C T W (.ite c a b) σ H Q → tIf (tT Γ C T W c) (tE Γ C T W a) (tE Γ C T W b) σ H Q := fun σ H Q h => (tE_bool (e := .ite c a b) (K1 := evE Γ a) (K2 := evE Γ b) (fun _ => rfl) io1 h).mono fun v H1 ⟨k, e, M, st, st1, s, P⟩ => by
    refine ⟨k, e, ?_⟩
    cases k with
    | true => exact tE_then s P io1 io2
    | false => exact tE_then s P io1 io3
  refine ⟨(pe_ifExp hc.pt ha.pe hb.pe).imp im, (pt_ifExp hc.pt ha.pt hb.pt).imp fun σ H Q h => ?_, (fun op vs pos z => by cases z), fun _ _ => rfl⟩
  exact (im σ H _ h).mono fun v H1 ⟨k, e, q⟩ => ⟨k, e, by cases k <;> exact q⟩
theorem se_chain {o p : Cp} {op op' : CmpOp} (hK : X.K = C.K) (hu : X.A.units + 65 < cLine) (ho : cpB o op = true) (hp : cpB p op' = true) (hm : lastMarks [op, op'] [B, D] = false) (ha : SE X Γ C T W a A) (hb : SE X Γ C T W b B) (hc : SE X Γ C T W c D) : SE X Γ C T W (.chain o p a b c) (.Compare A [op, op'] [B, D] pos) := by
  have im : ∀ σ H Q, tE Γ C T W (.chain o p a b c) σ H Q → tChain (rSem2 X (compareOp op)) (rSem2 X (compareOp op')) (tE Γ C T W a) (tE Γ C T W b) (tE Γ C T W c) σ H Q := fun σ H Q h => by
    have io1 : E.io.ioL (.cons a (.cons b .nil)) = true → (E.chain o p a b c).io = true := fun z => by
      have z : (a.io || (b.io || false)) = true := z
      show (a.io || b.io || c.io) = true
      rw [Bool.or_false] at z
      rw [z]
      rfl
    have io3 : c.io = true → (E.chain o p a b c).io = true := fun z => by
      show (a.io || b.io || c.io) = true
      rw [z]
      cases a.io <;> cases b.io <;> rfl
    refine (tEs_two (tE_args' (es := .cons a (.cons b .nil)) (K := fun xs st => match valsOf xs with
      | [x, y] => (match y with
        | .int j => match o.ap x (.int j) with
          | some true => (evE Γ c st).bind fun z st => resB (p.ap (.int j) z.2) st
          | some false => .ok (.sh, .bl false) st
          | none => .bad
        | _ => .bad)
      | _ => .bad) h (fun st => by rw [ev_two] <;> rfl) io1)).mono fun v H1 h => h.mono fun w H2 h => ?_
    obtain ⟨M, ps, st, st2, x, y, s, o1, o2, P⟩ := h.two
    cases y with
    | int j =>
      dsimp only at P
      cases e : o.ap x (.int j) with
      | none => rw [e] at P; exact (show False from P).elim
      | some k =>
        rw [e] at P
        refine cp_ap hK hu ho o1 o2 e ⟨k, rfl, ?_⟩
        have s1 : Step C T (E.chain o p a b c).io M st st2 σ H H2 := s.weaken un_l fun z => z
        cases k with
        | false => exact fin_sh P s1 rfl
        | true =>
          rw [o2.int]
          obtain ⟨M3, st3, r3, t3, P3⟩ : ∃ M st, Rel C M st σ H2 ∧ Tabs T H2 ∧ PostE C T W c.io M st σ H2 ((evE Γ c st).bind fun z st => resB (p.ap (.int j) z.2) st) Q := ⟨M, st2, s1.rel, s1.tab, Post.after s1 P (fun z => z) io3⟩
          refine ⟨M3, st3, r3, t3, ?_⟩
          unfold PostE one
          cases e1 : evE Γ c st3 with
          | bad => rw [e1] at P3; exact P3
          | ex c fs st1 => rw [e1] at P3; exact P3
          | ok z st4 =>
            rw [e1] at P3
            have P4 : PostE C T W c.io M3 st3 σ H2 (resB (p.ap (.int j) z.2) st4) Q := P3
            intro vs ps H5 s5 n5 f5 r5 u ev
            subst ev
            obtain ⟨u', e2, o5⟩ := r5.ops.one
            cases e2
            obtain ⟨r, e6⟩ := resB_some P4
            rw [e6] at P4
            exact cp_ap hK hu hp (.inl rfl : ORep C (Bn (Un M3 ps) st4 σ) H5 (.int j) (.int j)) o5 e6 (fin_b P4 (s5.weaken un_l fun z => z))
    | _ => exact (show False from P).elim
  exact ⟨(pe_chain opSem opSem ha.pe hb.pe hc.pe hm).imp im, (pt_chain opSem opSem ha.pe hb.pe hc.pe hm).imp fun σ H Q h => im σ H _ h, (fun op vs pos z => by cases z), fun _ _ => rfl⟩
end
end Mi

/-! Mi9: soundness of the expressions: displays, subscripts, built-in functions. -/
namespace Mi
open PySem PySem.Spec PyProof.Rows L2

theorem _root_.L2.PA.imp {X : Cx} {e : List Expr} {t t' : TA} (h : PA X e t) (i : ∀ σ H Q, t' σ H Q → t σ H Q) : PA X e t' := ⟨fun pos pins s σ H Q I q => h.run pos pins s σ H Q I (i σ H Q q)⟩
/-- the keys of a display -/
def mDk : List DK → List (Option Expr) → Bool
  | [], [] => true
  | k :: ks, some (.Constant c _ _) :: es => (match k, c with
    | .inl i, .int j => i == j
    | .inr x, .str y => x == y
    | _, _ => false) && mDk ks es
  | _, _ => false
def trsOf (Γ : G) (C : Cn) (T : List NdefX.NTab) (W : WX) : List DK → Es → List (TE × TE)
  | k :: ks, .cons a r => (tC (kV k), tE Γ C T W a) :: trsOf Γ C T W ks r
  | _, _ => []
/-- an argument list -/
structure SEs (X : Cx) (Γ : G) (C : Cn) (T : List NdefX.NTab) (W : WX) (as : Es) (es : List Expr) : Prop where
  pa : PA X es (tEs Γ C T W as)
  len : es.length = as.len
  pl : ∀ env (pos : Pos), (backTo pos (starEach es env)).any (·.1) = false
  hd : ∀ e r, es = e :: r → ∀ env, starEach (e :: r) env = (false, eval e env) :: starEach r env
  tl : ∀ e r, es = e :: r → ∀ env (pos : Pos), (backTo pos (starEach r env)).any (·.1) = false
  pp : ∀ (pos : Pos) (ks : List DK) (keys : List (Option Expr)), mDk ks keys = true → ks.length = as.len → PPs X pos keys es (trsOf Γ C T W ks as)

section
variable {X : Cx} {Γ : G} {C : Cn} {T : List NdefX.NTab} {W : WX} {a b c : E} {as : Es} {A B D : Expr} {As : List Expr} {pos : Pos} {σ : L2.St} {H H' H1 H2 : Hp} {Q : VK} {M : Addr → Prop} {st st1 st2 : List Sl} {io : Bool}
theorem tEs.mono {Q Q' : List V → Hp → Prop} (p : tEs Γ C T W as σ H Q) (h : ∀ vs H', Q vs H' → Q' vs H') : tEs Γ C T W as σ H Q' := by
  obtain ⟨M, st, r, t, p⟩ := p
  exact ⟨M, st, r, t, Post.mono p h⟩
theorem ses_nil : SEs X Γ C T W .nil [] :=
  ⟨pa_nil.imp fun σ H Q h => tEs_nil h, rfl, fun _ _ => rfl, (fun e r z => by cases z), (fun e r z => by cases z), fun pos ks keys h hl => by
    cases ks with
    | nil => cases keys with
      | nil => exact pps_nil
      | cons _ _ => cases h
    | cons k ks => exact absurd hl (by show ¬ (ks.length + 1 = 0); omega)⟩
theorem ses_cons (ha : SE X Γ C T W a A) (hr : SEs X Γ C T W as As) : SEs X Γ C T W (.cons a as) (A :: As) := by
  refine ⟨(pa_cons ha.pe hr.pa (ha.st _ _)).imp fun σ H Q h => tEs_cons h, ?_, fun env pos => ?_, fun e r z env => ?_, fun e r z => ?_, fun pos ks keys h hl => ?_⟩
  · rw [List.length_cons, hr.len]
    rfl
  · rw [ha.st]
    show ((backTo pos ((false, eval A env) :: starEach As env)).any (·.1)) = false
    exact hr.pl env pos
  · cases z
    exact ha.st env _
  · cases z
    exact hr.pl
  · cases ks with
    | nil => exact absurd hl (by show ¬ (0 = as.len + 1); omega)
    | cons k ks =>
      unfold mDk at h
      split at h
      · rename_i z; cases z
      · rename_i k' ks' c n q es h1
        cases h1
        rw [Bool.and_eq_true] at h
        have hp := hr.pp pos ks es h.2 (by have q : ks.length + 1 = as.len + 1 := hl; omega)
        have h1 := h.1
        split at h1
        · rename_i i j
          rw [beq_iff_eq] at h1
          subst h1
          exact pps_cons pe_int ha.pe hp
        · rename_i i j
          rw [beq_iff_eq] at h1
          subst h1
          exact pps_cons pe_str ha.pe hp
        · cases h1
      · cases h
theorem wlen {vs : List V} {xs : List (Fl × PV)} {ps : List Addr} {B : Addr → Prop} (r : RL C B H xs vs ps) : vs.length = xs.length := by
  induction r with
  | nil => rfl
  | sh _ _ ih => rw [List.length_cons, List.length_cons, ih]
  | ow _ _ ih => rw [List.length_cons, List.length_cons, ih]
  | bo _ _ ih => rw [List.length_cons, List.length_cons, ih]
/-- values that are kept: shared from now on -/
theorem keep_reps {xs : List (Fl × PV)} {vs : List V} {ps : List Addr} (s : Step C T io (Un M ps) st st2 σ H H2) (f : ∀ a ∈ ps, ¬ M a ∧ (H a = none ∨ Owns st σ a)) (q : RL C (Bn (Un M ps) st2 σ) H2 xs vs ps) (k : keepAll xs = true) : Rep.RepL C (Bn M st2 σ) H2 (valsOf xs) vs :=
  q.reps (fun a => Bn.mono un_l) (fun a ha z => by
    rcases z with z | z
    · exact (f a ha).1 z
    · exact s.rel.notOwn (.inr ha) z) k
theorem se_tup {n : Nat} (hl : decide (as.len ≤ 10000) = true) (h : SEs X Γ C T W as As) : SE X Γ C T W (.tup as) (.Tuple As n pos) :=
  .of ((pe_tup h.pa).imp fun σ H Q h => tEs.mono (tE_args (es := as) (K := fun xs st => if keepAll xs then .ok (.sh, .tup (valsOf xs)) st else .bad) h (fun _ => rfl) rfl) fun vs H2 ⟨M, st, xs, st2, ps, ln, s, n, f, q, P⟩ => by
    have z := of_decide_eq_true hl
    refine ⟨by rw [wlen q, ln, ← big_eq]; exact Nat.le_trans z (by decide), fun p hp => ?_⟩
    dsimp only at P
    split at P
    · rename_i k
      have s0 := s.weaken un_l (fun z => z)
      exact fin_sh P (s0.upd hp) (Rep.fresh_tup s0.rel hp (keep_reps s f q k))
    · exact P.elim)
theorem se_lst (hl : decide (as.len ≤ 10000) = true) (h : SEs X Γ C T W as As) : SE X Γ C T W (.lst as) (.List As pos) :=
  .of ((pe_lst h.pa).imp fun σ H Q h => tEs.mono (tE_args (es := as) (K := fun xs st => if keepAll xs then .ok (.ow, .lst (valsOf xs)) st else .bad) h (fun _ => rfl) rfl) fun vs H2 ⟨M, st, xs, st2, ps, ln, s, n, f, q, P⟩ => by
    have z := of_decide_eq_true hl
    refine ⟨by rw [wlen q, ln, ← big_eq]; exact Nat.le_trans z (by decide), fun p hp => ?_⟩
    dsimp only at P
    split at P
    · rename_i k
      have s0 := s.weaken un_l (fun z => z)
      exact fin_ow P s0 hp (fun ps z => by cases z) (own_lst hp (keep_reps s f q k))
    · exact P.elim)
/-! ### subscripts -/
/-- an index, not a slice -/
def ixB : Expr → Bool
  | .Slice _ _ _ _ => false
  | _ => true
theorem ixB_ok (h : ixB B = true) : PlainIx B := by
  intro o i
  cases B <;> first | rfl | cases h
theorem resO_ok {o : Option PV} (h : PostE C T W io M st σ H (resO .sh o st2) Q) (s : Step C T io M st st2 σ H H2) : ∃ z, o = some z ∧ ∀ u, Rep C (Bn M st2 σ) H2 z u → Q u H2 := by
  obtain ⟨z, e⟩ := resO_some h
  subst e
  exact ⟨z, rfl, fun u r => fin_sh h s r⟩
theorem se_ix (hK : X.K = C.K) (hu : X.A.units + 1 < cLine) (hi : ixB B = true) (ha : SE X Γ C T W a A) (hb : SE X Γ C T W b B) : SE X Γ C T W (.ix a b) (.Subscript A B pos) :=
  .of ((pe_ix ixSem ha.pe hb.pe (ixB_ok hi)).imp fun σ H Q h => (tE_two (f := fun x y st => resO .sh (ixP x y) st) (fun _ => rfl) rfl h).mono fun v H1 h => h.mono fun w H2 ⟨M, ps, st, st2, x, y, s, o1, o2, P⟩ => by
    obtain ⟨z, e, q⟩ := resO_ok P (s.weaken un_l fun z => z)
    exact ix_ap hu hK o1 o2 e fun u r => q u (r.sub fun a => Bn.mono un_l))
/-- a slice's part, whatever it is -/
def RelPart : Value → Option V → Prop
  | u, none => u = .none
  | u, some v => RelV v u
structure PP (X : Cx) (e : Option Expr) (t : L2.St → Hp → (Option V → Hp → Prop) → Prop) : Prop where
  run : ∀ (pins : List (Addr × Obj)) (s : Shared) (σ : L2.St) (H : Hp) (Q : Option V → Hp → Prop), Inv X pins σ H s → t σ H Q →
    wpAny (model X.prog X.w) X.A (evalPart e X.env) (fun u s' => ∃ o H', Inv X pins σ H' s' ∧ RelPart u o ∧ Q o H') X.xe s
theorem pp_none : PP X none (fun _ H Q => Q none H) := ⟨fun pins s σ H Q I h => by rw [evalPart_none]; exact wpAny_pure ⟨none, H, I, rfl, h⟩⟩
theorem pp_some {e : Expr} {te : TE} (h : PE X e te) : PP X (some e) (fun σ H Q => te σ H fun x H1 => Q (some x) H1) := ⟨fun pins s σ H Q I q => by
  rw [evalPart_some]
  exact thn (h.run pins s σ H _ I q) fun u s1 ⟨x, H1, I1, r1, q1⟩ => ⟨some x, H1, I1, r1, q1⟩⟩
inductive PartI : Option V → Option Int → Prop
  | none : PartI none none
  | int (i : Int) : PartI (some (.int i)) (some i)
theorem PartI.is {u : Value} {v : Option V} {o : Option Int} (p : PartI v o) (r : RelPart u v) : IsPart u o := by
  cases p with
  | none => cases (show u = .none from r); exact .none
  | int i => obtain ⟨t, rfl⟩ := (show ∃ t, u = .int i t from r); exact .int i t
theorem pe_sl {e : Expr} {te : TE} {lo hi : Option Expr} {tl th : L2.St → Hp → (Option V → Hp → Prop) → Prop} {pos p2 : Pos} (he : PE X e te) (hl : PP X lo tl) (hu : PP X hi th) :
    PE X (.Subscript e (.Slice lo hi none p2) pos) (fun σ H Q => te σ H fun x H1 => tl σ H1 fun l H2 => th σ H2 fun u H3 => ∃ i j, PartI l i ∧ PartI u j ∧ rSemSl X x i j H3 Q) := by
  refine ⟨fun pins s σ H Q I h => ?_⟩
  refine Subscript_ (thn (he.run pins s σ H _ I h) fun v s1 ⟨x, H1, I1, r1, q1⟩ => ?_)
  refine wpAny_Slice (thn (hl.run pins s1 σ H1 _ I1 q1) fun vl s2 ⟨l, H2, I2, pl, q2⟩ => thn (hu.run pins s2 σ H2 _ I2 q2) fun vu s3 ⟨u, H3, I3, pu, i, j, p1, p2', q3⟩ => ?_)
  rw [evalPart_none]
  refine wpAny_pure ?_
  have I4 : Inv X pins σ H3 { s3 with heap := s3.heap.push { cls := .type "slice", data := .fields #[vl, vu, .none] } } := I3.kept (t' := s3.toks) fun b ob q => Heap.get?_push_of_some _ q
  obtain ⟨T, id, hT, ht, hg⟩ := q3 pins { s3 with heap := s3.heap.push { cls := .type "slice", data := .fields #[vl, vu, .none] } } σ v vl vu s3.heap.objs.size I4 r1 (Heap.IsSliceOf.new ..) (p1.is pl) (p2'.is pu)
  show wpAny (model X.prog X.w) X.A (subscriptTail e (.Slice lo hi none p2) v (.ref s3.heap.objs.size)) (EP X pins σ Q) X.xe { s3 with heap := s3.heap.push { cls := .type "slice", data := .fields #[vl, vu, .none] } }
  exact tail_any (ops := [.ref s3.heap.objs.size, v]) ht hT hg (by with_unfolding_all rfl)
theorem bind_nil {K : List (Fl × PV) → Slots → Rs (Fl × PV)} {st : Slots} : ((evEs Γ .nil st).bind K) = K [] st := rfl
theorem RL.one' {B : Addr → Prop} {x : Fl × PV} {xs : List (Fl × PV)} {vs : List V} {ps : List Addr} (h : RL C B H (x :: xs) vs ps) : ∃ v r qs, vs = v :: r ∧ ORep C B H x.2 v ∧ RL C B H xs r qs := by
  cases h with
  | sh r t => exact ⟨_, _, _, rfl, .inl r, t⟩
  | ow r t => exact ⟨_, _, _, rfl, .inr ⟨_, rfl, r⟩, t⟩
  | bo r t => exact ⟨_, _, _, rfl, .inr ⟨_, rfl, r⟩, t⟩
theorem slG_ok {x : PV} {l h : List PV} (P : PostE C T W io M st σ H (slG x l h st2) Q) : ∃ i j, PostE C T W io M st σ H (resF (slP x i j) st2) Q ∧ ((l = [] ∧ i = none) ∨ ∃ k, l = [.int k] ∧ i = some k) ∧ ((h = [] ∧ j = none) ∨ ∃ k, h = [.int k] ∧ j = some k) := by
  unfold slG at P
  split at P
  · exact ⟨none, none, P, .inl ⟨rfl, rfl⟩, .inl ⟨rfl, rfl⟩⟩
  · exact ⟨some _, none, P, .inr ⟨_, rfl, rfl⟩, .inl ⟨rfl, rfl⟩⟩
  · exact ⟨none, some _, P, .inl ⟨rfl, rfl⟩, .inr ⟨_, rfl, rfl⟩⟩
  · exact ⟨some _, some _, P, .inr ⟨_, rfl, rfl⟩, .inr ⟨_, rfl, rfl⟩⟩
  · exact P.elim
theorem se_sl0 {p2 : Pos} (hK : X.K = C.K) (ha : SE X Γ C T W a A) : SE X Γ C T W (.sl a .nil .nil) (.Subscript A (.Slice none none none p2) pos) :=
  .of ((pe_sl ha.pe pp_none pp_none).imp fun σ H Q h => (tEs_one (tE_args (es := .cons a .nil) (K := fun xs st => match xs with | [x] => slG x.2 [] [] st | _ => .bad) h (fun st => by
      rw [ev_one]
      refine rs_of fun x st => ?_
      show (if (wait x.1 (false || false) && true) = true then slG x.2 [] [] st else .bad) = _
      rw [Bool.or_false, wait_f]; rfl) (by show (a.io || false || false) = (a.io || false); rw [Bool.or_false]))).mono fun v H1 ⟨M, st, xs, st2, ps, ln, s, n, f, q, P⟩ => by
    dsimp only at P
    split at P
    · obtain ⟨i, j, P, c1, c2⟩ := slG_ok P
      obtain ⟨_, _, _, e, o, _⟩ := RL.one' q
      cases e
      rcases c1 with ⟨_, rfl⟩ | ⟨_, e, _⟩
      · rcases c2 with ⟨_, rfl⟩ | ⟨_, e, _⟩
        · exact ⟨none, none, .none, .none, sl_ap hK un_l s o P⟩
        · cases e
      · cases e
    · exact P.elim)
theorem se_sl1 {p2 : Pos} (hK : X.K = C.K) (ha : SE X Γ C T W a A) (hb : SE X Γ C T W b B) : SE X Γ C T W (.sl a (.cons b .nil) .nil) (.Subscript A (.Slice (some B) none none p2) pos) :=
  .of ((pe_sl ha.pe (pp_some hb.pe) pp_none).imp fun σ H Q h => (tEs_two (tE_args (es := .cons a (.cons b .nil)) (K := fun xs st => match xs with | [x, y] => slG x.2 [y.2] [] st | _ => .bad) h (fun st => by
      rw [ev_two]
      refine rs_of fun x st => ?_
      show ((evEs Γ (.cons b .nil) st).bind fun l st => _) = _
      rw [ev_one]
      refine rs_of fun y st => ?_
      show (if (wait x.1 (b.io || false || false) && (wait y.1 false && true)) = true then slG x.2 [y.2] [] st else .bad) = _
      rw [Bool.or_false, Bool.or_false, wait_f, Bool.and_true, Bool.and_true]) (by show (a.io || (b.io || false) || false) = (a.io || (b.io || false)); rw [Bool.or_false, Bool.or_false]))).mono fun v H1 h => h.mono fun w H2 ⟨M, st, xs, st2, ps, ln, s, n, f, q, P⟩ => by
    dsimp only at P
    split at P
    · obtain ⟨i, j, P, c1, c2⟩ := slG_ok P
      obtain ⟨_, _, _, e, o, q⟩ := RL.one' q
      cases e
      obtain ⟨_, _, _, e, o2, q⟩ := RL.one' q
      cases e
      rcases c1 with ⟨e, _⟩ | ⟨k, e, rfl⟩
      · cases e
      · rcases c2 with ⟨_, rfl⟩ | ⟨_, e, _⟩
        · rw [(List.cons.inj e).1] at o2
          rw [o2.int]
          exact ⟨some k, none, .int k, .none, sl_ap hK un_l s o P⟩
        · cases e
    · exact P.elim)
theorem se_sl2 {p2 : Pos} (hK : X.K = C.K) (ha : SE X Γ C T W a A) (hb : SE X Γ C T W b B) : SE X Γ C T W (.sl a .nil (.cons b .nil)) (.Subscript A (.Slice none (some B) none p2) pos) :=
  .of ((pe_sl ha.pe pp_none (pp_some hb.pe)).imp fun σ H Q h => (tEs_two (tE_args (es := .cons a (.cons b .nil)) (K := fun xs st => match xs with | [x, y] => slG x.2 [] [y.2] st | _ => .bad) h (fun st => by
      rw [ev_two]
      refine rs_of fun x st => ?_
      show ((evEs Γ (.cons b .nil) st).bind fun l st => _) = _
      rw [ev_one]
      refine rs_of fun y st => ?_
      show (if (wait x.1 (false || (b.io || false)) && true) = true then slG x.2 [] [y.2] st else .bad) = _
      rw [Bool.or_false, Bool.false_or, Bool.and_true]) (by show (a.io || false || (b.io || false)) = (a.io || (b.io || false)); rw [Bool.or_false, Bool.or_false]))).mono fun v H1 h => h.mono fun w H2 ⟨M, st, xs, st2, ps, ln, s, n, f, q, P⟩ => by
    dsimp only at P
    split at P
    · obtain ⟨i, j, P, c1, c2⟩ := slG_ok P
      obtain ⟨_, _, _, e, o, q⟩ := RL.one' q
      cases e
      obtain ⟨_, _, _, e, o2, q⟩ := RL.one' q
      cases e
      rcases c1 with ⟨_, rfl⟩ | ⟨k, e, _⟩
      · rcases c2 with ⟨e, _⟩ | ⟨k, e, rfl⟩
        · cases e
        · rw [(List.cons.inj e).1] at o2
          rw [o2.int]
          exact ⟨none, some k, .none, .int k, sl_ap hK un_l s o P⟩
      · cases e
    · exact P.elim)
theorem se_sl3 {p2 : Pos} (hK : X.K = C.K) (ha : SE X Γ C T W a A) (hb : SE X Γ C T W b B) (hc : SE X Γ C T W c D) : SE X Γ C T W (.sl a (.cons b .nil) (.cons c .nil)) (.Subscript A (.Slice (some B) (some D) none p2) pos) :=
  .of ((pe_sl ha.pe (pp_some hb.pe) (pp_some hc.pe)).imp fun σ H Q h => (tEs_three (tE_args (es := .cons a (.cons b (.cons c .nil))) (K := fun xs st => match xs with | [x, y, z] => slG x.2 [y.2] [z.2] st | _ => .bad) h (fun st => by
      rw [ev_cons]
      refine rs_of fun x st => ?_
      show ((evEs Γ (.cons b .nil) st).bind fun l st => _) = _
      rw [ev_one, ev_two]
      refine rs_of fun y st => ?_
      show ((evEs Γ (.cons c .nil) st).bind fun l st => _) = _
      rw [ev_one]
      refine rs_of fun z st => ?_
      show (if (wait x.1 ((b.io || false) || (c.io || false)) && (wait y.1 (c.io || false) && true)) = true then slG x.2 [y.2] [z.2] st else .bad) = (if wait y.1 c.io = true then (if wait x.1 (b.io || (c.io || false)) = true then slG x.2 [y.2] [z.2] st else .bad) else .bad)
      rw [Bool.or_false, Bool.or_false, Bool.and_true]
      cases wait x.1 (b.io || c.io) <;> cases wait y.1 c.io <;> rfl) (by show (a.io || (b.io || false) || (c.io || false)) = (a.io || (b.io || (c.io || false))); cases a.io <;> cases b.io <;> cases c.io <;> rfl))).mono fun v H1 h => h.mono fun w H2 h => h.mono fun u H3 ⟨M, st, xs, st2, ps, ln, s, n, f, q, P⟩ => by
    dsimp only at P
    split at P
    · obtain ⟨i, j, P, c1, c2⟩ := slG_ok P
      obtain ⟨_, _, _, e, o, q⟩ := RL.one' q
      cases e
      obtain ⟨_, _, _, e, o2, q⟩ := RL.one' q
      cases e
      obtain ⟨_, _, _, e, o3, q⟩ := RL.one' q
      cases e
      rcases c1 with ⟨e, _⟩ | ⟨k, e, rfl⟩
      · cases e
      · rcases c2 with ⟨e2, _⟩ | ⟨k2, e2, rfl⟩
        · cases e2
        · rw [(List.cons.inj e).1] at o2
          rw [(List.cons.inj e2).1] at o3
          rw [o2.int, o3.int]
          exact ⟨some k, some k2, .int k, .int k2, sl_ap hK un_l s o P⟩
    · exact P.elim)
theorem se_rev {k : Nat} {p1 p2 p3 : Pos} (hK : X.K = C.K) (ha : SE X Γ C T W a A) : SE X Γ C T W (.rev a) (.Subscript A (.Slice none none (some (.UnaryOp .USub (.Constant (.int 1) k p1) p2)) p3) pos) :=
  .of ((pe_revL ha.pe).imp fun σ H Q h => (tE_one (e := .rev a) (a := a) (f := fun x st => match x with | .lst xs => .ok (.ow, .lst xs.reverse) st | _ => .bad) (fun _ => rfl) rfl h).mono fun v H1 ⟨M, ps, st, st2, x, s, o1, P⟩ => by
    cases x with
    | lst xs =>
      obtain ⟨p, ys, e, hy, r⟩ := o1.lst
      refine ⟨p, ys, e, SqL.of hy, fun q hq => ?_⟩
      have s0 := s.weaken un_l (fun z => z)
      exact fin_ow P s0 hq (fun ps z => by cases z) (own_lst hq ((RepL.reverse r).sub fun a => Bn.mono un_l))
    | _ => exact (show False from P).elim)
/-- what an attribute is asked of -/
def atB : Expr → Bool
  | .Call _ _ _ _ => false
  | _ => true
theorem atB_ok {f : Str} (h : atB A = true) : attributeBase A f X.env (eval A X.env) = eval A X.env := by
  cases A <;> first | rfl | cases h
theorem se_at {sub : Nat → Nat → Bool} {atts : List Str} {tys : List Ty} {f : Str} (F : KOk X.K C.T sub atts tys) (xp : XPOk X C) (hf : f ∈ atts) (hA : atB A = true) (ha : SE X Γ C T W a A) : SE X Γ C T W (.at a f) (.Attribute A f pos) :=
  .of (⟨fun pins s σ H Q I h => by
    refine attr_of (atB_ok hA) (thn (ha.pe.run pins s σ H (fun v H1 => rSemA X f v H1 Q) I ?_) fun u s1 ⟨x, H1, I1, rx, q⟩ => q pins s1 σ u I1 rx)
    refine (tE_one (e := .at a f) (a := a) (f := fun x st => resO .sh (attrP f x) st) (fun _ => rfl) rfl h).mono fun v H1 ⟨M, ps, st, st2, x, s, o1, P⟩ => ?_
    obtain ⟨z, e, q⟩ := resO_ok P (s.weaken un_l fun z => z)
    exact at_ap F xp hf o1 e fun u r => q u (r.sub fun a => Bn.mono un_l)⟩)
end
end Mi

/-! Mi10: the context; names of the module; calls. -/
namespace Mi
open PySem PySem.Spec PyProof.Rows L2

/-- what a name of the module stands for -/
inductive Gn where
  | fn (f : Nat) | cls (c : Nat) | xc (c : Nat) | con (n : Nat) | imp (k : Bi)
  deriving DecidableEq
/-- what the checker knows of the module -/
structure Dat where
  globs : List (Str × Gn)
  blts : List Str         -- names of builtins that the module does not hold
  atts : List Str
  tys : List Ty
  hot : Bool               -- within an except suite
  hots : Nat → Bool        -- defs that may be called there
  clo : Bool               -- holding closures
  nocs : Nat → Bool        -- defs that may be called then

def GnOk (X : Cx) (C : Cn) (Γ : G) (x : Str) : Gn → Prop
  | .fn f => X.mg x = some (.ref (C.T.fa f))
  | .cls c => X.mg x = some (.ref (C.T.ca c)) ∧ C.T.ic c
  | .xc c => X.mg x = some (.ref (C.T.ca c)) ∧ C.T.ec c
  | .con n => ∃ u v, X.mg x = some u ∧ RelV v u ∧ ∀ B H, Rep C B H (Γ.con n) v
  | .imp k => X.mg x = some (biV k)

/-- calls, by values -/
structure CallsOk (D : Dat) (X : Cx) (Γ : G) (C : Cn) (T : List NdefX.NTab) (W : WX) : Prop where
  cf : ∀ (f : Nat), (D.hot = true → D.hots f = true) → ∀ (args : List PV), (D.clo = true → D.nocs f = true ∨ noCloAll args = true) → ∀ (vs : List V) (M : Addr → Prop) (st : Slots) (σ : L2.St) (H : Hp) (Q : VK), Rel C M st σ H → Tabs T H → Rep.RepL C (Bn M st σ) H args vs →
    PostE C T W false M st σ H (outR (Γ.call f args) st) Q → ∀ pins s us, Inv X pins σ H s → Vals vs us → wpAny (model X.prog X.w) X.A (call (.ref (C.T.fa f)) us) (EP X pins σ Q) X.xe s
  ci : ∀ (f i : Nat), (D.hot = true → D.hots f = true) → (D.clo = true → D.nocs f = true) → ∀ (p : PV) (a : Addr) (args : List PV) (vs : List V) (M : Addr → Prop) (st : Slots) (σ : L2.St) (H : Hp) (Q : VK), Rel C M st σ H → Tabs T H → st[i]? = some (.ow p) → σ[i]? = some (some (.ref a)) → Rep.RepL C (Bn M st σ) H args vs →
    PostE C T W true M st σ H (outI (Γ.call f (p :: args)) i st) Q → ∀ pins s us, Inv X pins σ H s → Vals vs us → wpAny (model X.prog X.w) X.A (call (.ref (C.T.fa f)) (.ref a :: us)) (EP X pins σ Q) X.xe s
  cm : ∀ (c : Nat), D.hot = false → D.clo = false → ∀ (args : List PV) (vs : List V) (M : Addr → Prop) (st : Slots) (σ : L2.St) (H : Hp) (Q : VK), C.T.ic c → Rel C M st σ H → Tabs T H → Rep.RepL C (Bn M st σ) H args vs →
    PostE C T W false M st σ H (outM (Γ.call (Γ.init c) (.ins c [] :: args)) st) Q → ∀ pins s us, Inv X pins σ H s → Vals vs us → wpAny (model X.prog X.w) X.A (call (.ref (C.T.ca c)) us) (EP X pins σ Q) X.xe s
  cc : ∀ (l : Nat), D.hot = false → ∀ (a : Addr) (cs args : List PV) (ws vs : List V) (M : Addr → Prop) (st : Slots) (σ : L2.St) (H : Hp) (Q : VK), C.CL a l ws → Rep.RepL C.clean (Bn M st σ) H cs ws → Rel C M st σ H → Tabs T H → Rep.RepL C (Bn M st σ) H args vs →
    PostE C T W false M st σ H (outR (Γ.call l (args ++ cs)) st) Q → ∀ pins s us, Inv X pins σ H s → Vals vs us → wpAny (model X.prog X.w) X.A (call (.ref a) us) (EP X pins σ Q) X.xe s
  cloAt : D.hot = false → ∀ a l ws, C.CL a l ws → ∀ pins σ H s, Inv X pins σ H s → PySem.W.FnAt a s.heap
  kf : ∀ f, PySem.W.keepIn X.K (.ref (C.T.fa f)) = true
  kc : ∀ c, C.T.ic c → PySem.W.keepIn X.K (.ref (C.T.ca c)) = true

/-- the context of the expressions -/
structure XOk (D : Dat) (X : Cx) (Γ : G) (C : Cn) (T : List NdefX.NTab) (W : WX) : Prop where
  hK : X.K = C.K
  bi : BiOk D.hot X
  N : X.N.Nodup
  kf : KOk X.K C.T Γ.sub D.atts D.tys
  xp : XPOk X C
  gl : ∀ x g, D.globs.lookup x = some g → GnOk X C Γ x g
  fr : ∀ x, x ∈ D.blts → X.mg x = none
  cs : CallsOk D X Γ C T W

section
variable {Dt : Dat} {X : Cx} {Γ : G} {C : Cn} {T : List NdefX.NTab} {W : WX} {a b c : E} {as : Es} {A B D : Expr} {As : List Expr} {pos p : Pos} {x : Str} {σ : L2.St} {H H' H1 H2 : Hp} {Q : VK} {M : Addr → Prop} {st st1 st2 : List Sl} {io : Bool}
/-- a name that is not the debug flag -/
def okN (x : Str) : Bool := !(x == ("__debug__" : Str)) && !(x == ("__classdict__" : Str)) && !(x == ("__name__" : Str))
theorem okN_d (h : okN x = true) : (x == ("__debug__" : Str)) = false := by
  unfold okN at h
  cases e : (x == ("__debug__" : Str)) with
  | false => rfl
  | true => rw [e] at h; cases h
theorem okN_c (h : okN x = true) : (x == ("__classdict__" : Str)) = false := by
  unfold okN at h
  cases e : (x == ("__classdict__" : Str)) with
  | false => rfl
  | true => rw [e] at h; simp at h
theorem okN_n (h : okN x = true) : x ≠ "__name__" := fun e => by
  unfold okN at h
  rw [beq_iff_eq.mpr e] at h
  simp at h
def glB (sc : Scope) (x : Str) : Bool := sc.names.lookup x == some .globalImplicit
def visB (sc : Scope) (x : Str) : Bool := match sc.names.lookup x with
  | some .local => true
  | some .cell => true
  | some .free => true
  | _ => false
theorem visB_ok {sc : Scope} (h : visB sc x = true) : Vis sc x := by
  unfold visB at h
  split at h
  · rename_i e; exact .inl e
  · rename_i e; exact .inr (.inl e)
  · rename_i e; exact .inr (.inr e)
  · cases h
theorem glB_ok (h : glB X.env.scope x = true) : Gl X x := by
  unfold glB at h
  exact beq_iff_eq.mp h
theorem se_slot {i : Nat} {e : E} (he : ∀ σ H Q, tE Γ C T W e σ H Q → tVar i σ H Q) (hN : X.N[i]? = some x) (hv : Vis X.env.scope x) (ho : okN x = true) : SE X Γ C T W e (.Name x pos) :=
  .of ((pe_var hN hv (okN_d ho) (okN_c ho)).imp he)
theorem se_gl {n : Nat} (ok : XOk Dt X Γ C T W) (hg : Gl X x) (ho : okN x = true) (h : Dt.globs.lookup x = some (.con n)) : SE X Γ C T W (.gl n) (.Name x pos) := by
  obtain ⟨u, v, e, r, q⟩ := ok.gl x _ h
  exact .of ((pe_glob hg e r (okN_d ho)).imp fun σ H Q h => by
    obtain ⟨M, st, r, t, P⟩ := h
    exact fin_sh P (Step.refl r t) (q _ _))
theorem se_fn {f : Nat} (ok : XOk Dt X Γ C T W) (hg : Gl X x) (ho : okN x = true) (h : Dt.globs.lookup x = some (.fn f)) : SE X Γ C T W (.fn f) (.Name x pos) :=
  .of ((pe_glob (v := .ref (C.T.fa f)) hg (ok.gl x _ h) rfl (okN_d ho)).imp fun σ H Q h => by
    obtain ⟨M, st, r, t, P⟩ := h
    exact fin_sh P (Step.refl r t) rfl)

/-! ### built-in functions -/
def biN : Bi → Str
  | .len => "len"
  | .abs => "abs"
  | .int => "int"
  | .list => "list"
  | .tuple => "tuple"
  | .max => "max"
  | .min => "min"
  | .all => "all"
  | .any => "any"
  | .sum => "sum"
  | .sorted => "sorted"
  | .repr => "repr"
  | .str => "str"
  | .dict => "dict"
  | .sset => "set"
  | .gcd => "gcd"
  | .isqrt => "isqrt"
theorem bi_boot : ∀ k : Bi, k ≠ .gcd → k ≠ .isqrt → bootBuiltins (biN k) = some (biV k)
  | .len, _, _ => by decide +kernel
  | .abs, _, _ => by decide +kernel
  | .int, _, _ => by decide +kernel
  | .list, _, _ => by decide +kernel
  | .tuple, _, _ => by decide +kernel
  | .max, _, _ => by decide +kernel
  | .min, _, _ => by decide +kernel
  | .all, _, _ => by decide +kernel
  | .any, _, _ => by decide +kernel
  | .sum, _, _ => by decide +kernel
  | .sorted, _, _ => by decide +kernel
  | .repr, _, _ => by decide +kernel
  | .str, _, _ => by decide +kernel
  | .dict, _, _ => by decide +kernel
  | .sset, _, _ => by decide +kernel
  | .gcd, h, _ => absurd rfl h
  | .isqrt, _, h => absurd rfl h
theorem biV_cases (k : Bi) : (∃ id, biV k = .builtin id) ∨ ∃ T, biV k = .type T := by
  cases k <;> first | exact .inl ⟨_, rfl⟩ | exact .inr ⟨_, rfl⟩
/-- a built-in value called, as the frame rules give it -/
theorem callB_any {k : Bi} {e : Expr} {rest : List Expr} {E : Value → Shared → Prop} {s : Shared} {Q : Value → Shared → Prop} (h : wpAny (model X.prog X.w) X.A (spliced (backTo pos (starEach (e :: rest) X.env))) (fun vs s₁ => wpAny (model X.prog X.w) X.A (call (biV k) vs) Q E s₁) E s)
    (he : starEach (e :: rest) X.env = (false, eval e X.env) :: starEach rest X.env) (hp : (backTo pos (starEach rest X.env)).any (·.1) = false) : wpAny (model X.prog X.w) X.A (callWith pos (biV k) [] (backTo pos (starEach (e :: rest) X.env)) []) Q E s := by
  rcases biV_cases k with ⟨id, e1⟩ | ⟨id, e1⟩
  · rw [e1] at h ⊢
    exact PyProof.Rows.callWith_builtin1 h he hp
  · rw [e1] at h ⊢
    exact PyProof.Rows.callWith_type1 h he hp
/-- the name of a built-in function is read -/
def BiAt (Dt : Dat) (sc : Scope) (k : Bi) (x : Str) : Prop := (Dt.globs.lookup x = some (.imp k)) ∨ (x = biN k ∧ k ≠ .gcd ∧ k ≠ .isqrt ∧ x ∈ Dt.blts)
theorem ld_bi {k : Bi} {E : Value → Shared → Prop} {pins : List (Addr × Obj)} {s : Shared} {R : Value → Shared → Prop} (ok : XOk Dt X Γ C T W) (I : Inv X pins σ H s) (hg : Gl X x) (ho : okN x = true) (hb : BiAt Dt X.env.scope k x) (h : R (biV k) s) : wpAny (model X.prog X.w) X.A (eval (.Name x p) X.env) R E s := by
  rcases hb with hb | ⟨e, h1, h2, ht⟩
  · exact ld_glob I hg (ok.gl x _ hb) h (okN_d ho)
  · subst e
    exact ld_blt I hg (ok.fr _ ht) (bi_boot k h1 h2) h (okN_n ho) (okN_d ho)
theorem se_bi {k : Bi} (ok : XOk Dt X Γ C T W) (hh : Dt.hot = false ∨ hotBi k = true) (hg : Gl X x) (ho : okN x = true) (hb : BiAt Dt X.env.scope k x) (h0 : As ≠ []) (h : SEs X Γ C T W as As) : SE X Γ C T W (.bi k as) (.Call (.Name x p) As [] pos) := by
  refine .of ⟨fun pins s σ H Q I q => ?_⟩
  refine wpAny_Call_Name_kw (ld_bi ok I hg ho hb ?_)
  cases As with
  | nil => exact absurd rfl h0
  | cons e rest =>
    refine callB_any (thn (h.pa.run pos pins s σ H (fun vs H1 => rSemC X (biV k) vs H1 Q) I ?_) fun us s1 ⟨vs, H1, I1, r1, q1⟩ => q1 pins s1 σ us I1 r1) (h.hd _ _ rfl _) (h.tl _ _ rfl _ _)
    refine tEs.mono (tE_args (es := as) (K := fun xs st => resF (k.ap (valsOf xs)) st) q (fun _ => rfl) rfl) fun vs H2 ⟨M, st, xs, st2, ps, ln, s, n, f, q, P⟩ => ?_
    exact bi_ap ok.bi hh ok.hK un_l s q.ops P

/-! ### calls of defs -/
theorem call_start {K : List (Fl × PV) → Slots → Rs (Fl × PV)} {vs : List V} {n : Nat} (hio : ∀ {M st xs st2}, PostE C T W io M st σ H (K xs st2) Q → keepAll xs = true) (h : Fin Γ C T W io n K σ H Q vs H2) :
    ∃ M st2 xs, Rel C M st2 σ H2 ∧ Tabs T H2 ∧ keepAll xs = true ∧ Rep.RepL C (Bn M st2 σ) H2 (valsOf xs) vs ∧ ∀ io2 : Bool, (io2 = true → io = true) → PostE C T W io2 M st2 σ H2 (K xs st2) Q := by
  obtain ⟨M, st, xs, st2, ps, ln, s, n, f, q, P⟩ := h
  have k := hio P
  have s0 := s.weaken un_l (fun z => z)
  exact ⟨M, st2, xs, s0.rel, s0.tab, k, keep_reps s f q k, fun io2 h => Post.after s0 P (fun z => z) h⟩
theorem keep_if {xs : List (Fl × PV)} {r : Rs (Fl × PV)} (P : PostE C T W io M st σ H (if keepAll xs then r else .bad) Q) : keepAll xs = true := by
  cases e : keepAll xs with
  | true => rfl
  | false => rw [e] at P; exact (show False from P).elim
theorem callK_any {f : Value} {R : VK} {pins : List (Addr × Obj)} {s : Shared} {Q' : List V → Hp → Prop} (I : Inv X pins σ H s) (hk : PySem.W.keepIn X.K f = true) (h : SEs X Γ C T W as As) (q : tEs Γ C T W as σ H Q')
    (fin : ∀ vs H1 us s1, Inv X pins σ H1 s1 → Vals vs us → Q' vs H1 → wpAny (model X.prog X.w) X.A (call f us) (EP X pins σ R) X.xe s1) : wpAny (model X.prog X.w) X.A (callWith pos f [] (backTo pos (starEach As X.env)) []) (EP X pins σ R) X.xe s := by
  cases As with
  | nil =>
    have e : as = .nil := by
      cases as with
      | nil => rfl
      | cons a r => exact absurd h.len (by show ¬ (0 = r.len + 1); omega)
    subst e
    exact PySem.W.callWith_K0 I.kIn hk (fin [] H [] s I .nil (tEs_nil q))
  | cons e rest =>
    refine PySem.W.callWith_K (h₀ := X.base) I.ok.mod.kin hk (thn (h.pa.run pos pins s σ H _ I q) fun us s1 ⟨vs, H1, I1, r1, q1⟩ => ⟨I1.kIn, ?_⟩) (h.hd _ _ rfl _) (h.tl _ _ rfl _ _)
    exact fin vs H1 us s1 I1 r1 q1
theorem se_call {f : Nat} (ok : XOk Dt X Γ C T W) (hh : Dt.hot = true → Dt.hots f = true) (hn : Dt.clo = true → Dt.nocs f = true) (hg : Gl X x) (ho : okN x = true) (hf : Dt.globs.lookup x = some (.fn f)) (h : SEs X Γ C T W as As) : SE X Γ C T W (.call f as) (.Call (.Name x p) As [] pos) := by
  refine .of ⟨fun pins s σ H Q I q => ?_⟩
  refine wpAny_Call_Name_kw (ld_glob I hg (ok.gl x _ hf) ?_ (okN_d ho))
  refine callK_any I (ok.cs.kf f) h (tE_args (es := as) (K := fun xs st => if keepAll xs then outR (Γ.call f (valsOf xs)) st else .bad) q (fun _ => rfl) rfl) fun vs H1 us s1 I1 r1 q1 => ?_
  obtain ⟨M, st2, xs, r, t, k, rp, P⟩ := call_start (fun P => keep_if P) q1
  have P := P false (fun z => by cases z)
  rw [k, if_pos rfl] at P
  exact ok.cs.cf f hh (valsOf xs) (fun z => .inl (hn z)) vs M st2 σ H1 Q r t rp P pins s1 us I1 r1
theorem se_mk {c : Nat} (ok : XOk Dt X Γ C T W) (hh : Dt.hot = false) (hn : Dt.clo = false) (hg : Gl X x) (ho : okN x = true) (hf : Dt.globs.lookup x = some (.cls c)) (h : SEs X Γ C T W as As) : SE X Γ C T W (.mk c as) (.Call (.Name x p) As [] pos) := by
  obtain ⟨e, ic⟩ := ok.gl x _ hf
  refine .of ⟨fun pins s σ H Q I q => ?_⟩
  refine wpAny_Call_Name_kw (ld_glob I hg e ?_ (okN_d ho))
  refine callK_any I (ok.cs.kc c ic) h (tE_args (es := as) (K := fun xs st => if keepAll xs then outM (Γ.call (Γ.init c) (.ins c [] :: valsOf xs)) st else .bad) q (fun _ => rfl) rfl) fun vs H1 us s1 I1 r1 q1 => ?_
  obtain ⟨M, st2, xs, r, t, k, rp, P⟩ := call_start (fun P => keep_if P) q1
  have P := P false (fun z => by cases z)
  rw [k, if_pos rfl] at P
  exact ok.cs.cm c hh hn (valsOf xs) vs M st2 σ H1 Q ic r t rp P pins s1 us I1 r1
/-- the first argument is the slot's own -/
theorem se_calli {f i : Nat} {y : Str} {py : Pos} (ok : XOk Dt X Γ C T W) (hh : Dt.hot = true → Dt.hots f = true) (hn : Dt.clo = true → Dt.nocs f = true) (hg : Gl X x) (ho : okN x = true) (hf : Dt.globs.lookup x = some (.fn f)) (hN : X.N[i]? = some y) (hv : Vis X.env.scope y) (hy : okN y = true) (h : SEs X Γ C T W as As) :
    SE X Γ C T W (.calli f i as) (.Call (.Name x p) (.Name y py :: As) [] pos) := by
  refine .of ⟨fun pins s σ H Q I q => ?_⟩
  refine wpAny_Call_Name_kw (ld_glob I hg (ok.gl x _ hf) ?_ (okN_d ho))
  have pa : PA X (.Name y py :: As) (tCons (tVar i) (tEs Γ C T W as)) := pa_cons (pe_var hN hv (okN_d hy) (okN_c hy)) h.pa rfl
  obtain ⟨M, st, r, t, P⟩ := q
  have P : PostE C T W true M st σ H (if isOw st[i]? then (evEs Γ as st).bind fun xs st => if keepAll xs then match st[i]? with
      | some (.ow p) => outI (Γ.call f (p :: valsOf xs)) i st
      | _ => .bad
    else .bad
    else .bad) Q := P
  cases ei : isOw st[i]? with
  | false => rw [ei] at P; exact (show False from P).elim
  | true =>
    rw [ei, if_pos rfl] at P
    obtain ⟨p0, e0⟩ : ∃ p, st[i]? = some (.ow p) := by
      unfold isOw at ei
      split at ei
      · rename_i p e; exact ⟨p, e⟩
      · cases ei
    obtain ⟨w, e1, _, _⟩ := r.ow i p0 e0
    have q := tE_args0 r t P (fun _ => rfl)
    refine PySem.W.callWith_K (h₀ := X.base) I.ok.mod.kin (ok.cs.kf f) (thn (pa.run pos pins s σ H (fun vs H2 => ∃ r, vs = .ref w :: r ∧ FinM C T W true as.len _ M st σ H Q r H2) I ⟨.ref w, e1, tEs.mono q fun vs H2 F => ⟨vs, rfl, F⟩⟩) fun us s1 ⟨vs, H1, I1, r1, rr, ev, F⟩ => ⟨I1.kIn, ?_⟩) rfl (h.pl _ _)
    subst ev
    obtain ⟨xs, st2, ps, ln, s2, n, fr, rl, P⟩ := F
    dsimp only at P
    have k := keep_if P
    have s0 := s2.weaken un_l (fun z => z)
    have rp := keep_reps s2 fr rl k
    rw [k, if_pos rfl] at P
    cases r1 with
    | cons ra rv =>
      cases ra
      cases e3 : st2[i]? with
      | none => rw [e3] at P; exact (show False from P).elim
      | some sl =>
        rw [e3] at P
        cases sl with
        | ow p =>
          exact ok.cs.ci f i hh hn p w (valsOf xs) rr M st2 σ H1 Q s0.rel s0.tab e3 e1 rp (Post.after s0 P (fun z => z) (fun z => z)) pins s1 _ I1 rv
        | no => exact (show False from P).elim
        | sh v => exact (show False from P).elim
/-- a slot's def or closure called -/
theorem se_callv {i : Nat} (ok : XOk Dt X Γ C T W) (hh : Dt.hot = false) (hN : X.N[i]? = some x) (hv : Vis X.env.scope x) (ho : okN x = true) (h : SEs X Γ C T W as As) : SE X Γ C T W (.callv i as) (.Call (.Name x p) As [] pos) := by
  refine .of ⟨fun pins s σ H Q I q => ?_⟩
  obtain ⟨M, st, r, t, P⟩ := q
  have P : PostE C T W (E.io.ioL as) M st σ H (match st[i]? with
    | some (.sh (.fn f)) => (evEs Γ as st).bind fun xs st => if keepAll xs then (if noCloAll (valsOf xs) = true then outR (Γ.call f (valsOf xs)) st else .bad) else .bad
    | some (.sh (.clo l cs)) => (evEs Γ as st).bind fun xs st => if keepAll xs then outR (Γ.call l (valsOf xs ++ cs)) st else .bad
    | _ => .bad) Q := P
  split at P
  · rename_i f e
    obtain ⟨w, e1, e2⟩ := r.sh i _ e
    have e2 : w = .ref (C.T.fa f) := e2
    subst e2
    refine wpAny_Call_Name_kw (thn ((pe_var hN hv (okN_d ho) (okN_c ho)).run pins s σ H (fun v H1 => v = .ref (C.T.fa f) ∧ H1 = H) I ⟨_, e1, rfl, rfl⟩) fun u s1 ⟨v, H1, I1, r1, q1, q2⟩ => ?_)
    subst q1 q2
    cases r1
    refine callK_any I1 (ok.cs.kf f) h (tE_args0 r t P (fun z => z)) fun vs H2 us s2 I2 r2 ⟨xs, st2, ps, ln, sZ, n, fr, rl, P⟩ => ?_
    dsimp only at P
    have k := keep_if P
    have s0 := sZ.weaken un_l (fun z => z)
    have rp := keep_reps sZ fr rl k
    rw [k, if_pos rfl] at P
    have nc : noCloAll (valsOf xs) = true := by
      cases e : noCloAll (valsOf xs) with
      | true => rfl
      | false => rw [e] at P; exact (show False from P).elim
    rw [nc, if_pos rfl] at P
    exact ok.cs.cf f (fun z => absurd z (by rw [hh]; exact Bool.false_ne_true)) (valsOf xs) (fun _ => .inr nc) vs M st2 σ H2 Q s0.rel s0.tab rp (Post.after s0 P (fun z => z) (fun z => by cases z)) pins s2 us I2 r2
  · rename_i l cs e
    obtain ⟨w, e1, a, ws, e2, cl, rc⟩ := r.sh i _ e
    subst e2
    refine wpAny_Call_Name_kw (thn ((pe_var hN hv (okN_d ho) (okN_c ho)).run pins s σ H (fun v H1 => v = .ref a ∧ H1 = H) I ⟨_, e1, rfl, rfl⟩) fun u s1 ⟨v, H1, I1, r1, q1, q2⟩ => ?_)
    subst q1 q2
    cases r1
    have fin : ∀ vs H2 us s2, Inv X pins σ H2 s2 → Vals vs us → FinM C T W (E.io.ioL as) as.len (fun xs st => if keepAll xs then outR (Γ.call l (valsOf xs ++ cs)) st else .bad) M st σ H1 Q vs H2 → wpAny (model X.prog X.w) X.A (call (.ref a) us) (EP X pins σ Q) X.xe s2 := by
      intro vs H2 us s2 I2 r2 ⟨xs, st2, ps, ln, sZ, n, fr, rl, P⟩
      dsimp only at P
      have k := keep_if P
      have s0 := sZ.weaken un_l (fun z => z)
      have rp := keep_reps sZ fr rl k
      rw [k, if_pos rfl] at P
      refine ok.cs.cc l hh a cs (valsOf xs) ws vs M st2 σ H2 Q cl ?_ s0.rel s0.tab rp (Post.after s0 P (fun z => z) (fun z => by cases z)) pins s2 us I2 r2
      exact RepL.mv s0.kp (fun b z => .inr z.2) (fun b z => .inl (z.elim .inl fun o => .inr (s0.sub b o))) cs ws rc
    cases As with
    | nil =>
      have e : as = .nil := by
        cases as with
        | nil => rfl
        | cons a r => exact absurd h.len (by show ¬ (0 = r.len + 1); omega)
      subst e
      exact PySem.W.callWith_F0 (ok.cs.cloAt hh a l ws cl pins σ _ s1 I1) (fin [] H1 [] s1 I1 .nil (tEs_nil (tE_args0 r t P (fun z => z))))
    | cons e rest =>
      refine PySem.W.callWith_F (ok.cs.cloAt hh a l ws cl pins σ _ s1 I1) (thn (h.pa.run pos pins s1 σ H1 _ I1 (tE_args0 r t P (fun z => z))) fun us s2 ⟨vs, H2, I2, r2, q2⟩ => ⟨ok.cs.cloAt hh a l ws cl pins σ _ s2 I2, ?_⟩) (h.hd _ _ rfl _) (h.tl _ _ rfl _ _)
      exact fin vs H2 us s2 I2 r2 q2
  · exact P.elim
end
end Mi

/-! Mi11: isinstance, pop, get, dict displays, lambdas, comprehensions. -/
namespace Mi
open PySem PySem.Spec PyProof.Rows L2

section
variable {Dt : Dat} {X : Cx} {Γ : G} {C : Cn} {T : List NdefX.NTab} {W : WX} {a b c : E} {as : Es} {A B D : Expr} {As : List Expr} {pos p : Pos} {x : Str} {σ : L2.St} {H H' H1 H2 : Hp} {Q : VK} {M : Addr → Prop} {st st1 st2 : List Sl} {io : Bool}
theorem ORep.grow {B : Addr → Prop} {x : PV} {v : V} (h : ORep C B H x v) (k : Kp (fun _ => False) H H') : ORep C B H' x v := by
  rcases h with h | ⟨a, e, h⟩
  · exact .inl (Rep.mv k (fun _ z => z.elim) (fun a z => .inl z) x v h)
  · obtain ⟨o, e1, t, _⟩ := h.some
    exact .inr ⟨a, e, OwnAt.mv k (fun _ z => z.elim) (fun a z => .inl z) ((k a o e1 (fun z => z) t).trans e1.symm) x h⟩
/-! ### isinstance -/
def tyS : Ty → Option Str
  | .int => some "int"
  | .bool => some "bool"
  | .str => some "str"
  | .tuple => some "tuple"
  | .list => some "list"
  | .dict => some "dict"
  | .ve => some "ValueError"
  | _ => none
def gnB (a b : Option Gn) : Bool := decide (a = b)
def tyE (Dt : Dat) (sc : Scope) (t : Ty) (e : Expr) : Bool := match e with
  | .Name x _ => glB sc x && okN x && decide (t ∈ Dt.tys) && match t with
    | .cls c => gnB (Dt.globs.lookup x) (some (.cls c))
    | .xcls c => gnB (Dt.globs.lookup x) (some (.xc c))
    | t => decide (tyS t = some x) && decide (x ∈ Dt.blts)
  | _ => false
theorem ty_boot : ∀ (t : Ty) (x : Str), tyS t = some x → bootBuiltins x = some (tyVal C.T t) ∧ RelV (tyV' C.T t) (tyVal C.T t)
  | .int, _, e => by cases e; exact ⟨by show _ = some (Value.type "int"); decide +kernel, rfl⟩
  | .bool, _, e => by cases e; exact ⟨by show _ = some (Value.type "bool"); decide +kernel, rfl⟩
  | .str, _, e => by cases e; exact ⟨by show _ = some (Value.type "str"); decide +kernel, rfl⟩
  | .tuple, _, e => by cases e; exact ⟨by show _ = some (Value.type "tuple"); decide +kernel, rfl⟩
  | .list, _, e => by cases e; exact ⟨by show _ = some (Value.type "list"); decide +kernel, rfl⟩
  | .dict, _, e => by cases e; exact ⟨by show _ = some (Value.type "dict"); decide +kernel, rfl⟩
  | .ve, _, e => by cases e; exact ⟨by show _ = some (Value.type "ValueError"); decide +kernel, rfl⟩
  | .cls _, _, e => by cases e
  | .xcls _, _, e => by cases e
theorem pe_ty {t : Ty} {e : Expr} (ok : XOk Dt X Γ C T W) (h : tyE Dt X.env.scope t e = true) : PE X e (tC (tyV' C.T t)) ∧ t ∈ Dt.tys ∧ ∀ env rest, starEach (e :: rest) env = (false, eval e env) :: starEach rest env := by
  unfold tyE at h
  split at h
  · rename_i x pos
    rw [Bool.and_eq_true, Bool.and_eq_true, Bool.and_eq_true] at h
    obtain ⟨⟨⟨h1, h2⟩, h3⟩, h4⟩ := h
    refine ⟨?_, of_decide_eq_true h3, fun _ _ => rfl⟩
    split at h4
    · rename_i c
      have e := ok.gl x _ (of_decide_eq_true h4)
      exact pe_glob (glB_ok h1) e.1 rfl (okN_d h2)
    · rename_i c
      have e := ok.gl x _ (of_decide_eq_true h4)
      exact pe_glob (glB_ok h1) e.1 rfl (okN_d h2)
    · rw [Bool.and_eq_true] at h4
      obtain ⟨e1, e2⟩ := ty_boot (C := C) t x (of_decide_eq_true h4.1)
      exact pe_bltn (glB_ok h1) (ok.fr x (of_decide_eq_true h4.2)) e1 e2 (okN_n h2) (okN_d h2)
  · cases h
def tyEs (Dt : Dat) (sc : Scope) : List Ty → List Expr → Bool
  | [], [] => true
  | t :: ts, e :: es => tyE Dt sc t e && tyEs Dt sc ts es
  | _, _ => false
theorem pa_tys (ok : XOk Dt X Γ C T W) : ∀ (ts : List Ty) (es : List Expr), tyEs Dt X.env.scope ts es = true → PA X es (fun σ H Q => Q (ts.map (tyV' C.T)) H) ∧ ∀ t ∈ ts, t ∈ Dt.tys
  | [], [], _ => ⟨pa_nil, fun t h => absurd h (by simp)⟩
  | t :: ts, e :: es, h => by
    unfold tyEs at h
    rw [Bool.and_eq_true] at h
    obtain ⟨h1, h2, h3⟩ := pe_ty ok h.1
    obtain ⟨h4, h5⟩ := pa_tys ok ts es h.2
    refine ⟨(pa_cons h1 h4 (h3 _ _)).imp fun σ H Q q => q, fun u hu => ?_⟩
    rcases List.mem_cons.mp hu with e | e
    · rw [e]; exact h2
    · exact h5 u e
  | [], _ :: _, h => by cases h
  | _ :: _, [], h => by cases h
def isiB (Dt : Dat) (sc : Scope) (ts : List Ty) (e : Expr) : Bool := match e with
  | .Tuple es _ _ => tyEs Dt sc ts es && decide (ts.length ≤ 1000)
  | e => match ts with
    | [t] => tyE Dt sc t e
    | _ => false
theorem boot_isi : bootBuiltins ("isinstance" : Str) = some (.builtin "isinstance") := by decide +kernel
theorem se_isi {ts : List Ty} (ok : XOk Dt X Γ C T W) (hg : Gl X "isinstance") (hx : ("isinstance" : Str) ∈ Dt.blts) (ht : isiB Dt X.env.scope ts B = true) (ha : SE X Γ C T W a A) : SE X Γ C T W (.isi a ts) (.Call (.Name "isinstance" p) [A, B] [] pos) := by
  have ev : ∀ {σ H Q}, tE Γ C T W (.isi a ts) σ H Q → tE Γ C T W a σ H fun v H1 => ∃ M ps st st2 x, Step C T (E.isi a ts).io (Un M ps) st st2 σ H H1 ∧ ORep C (Bn (Un M ps) st2 σ) H1 x v ∧ PostE C T W (E.isi a ts).io M st σ H (match kdP x with | some k => .ok (.sh, .bl (ts.any (k.isa Γ.sub))) st2 | none => .bad) Q :=
    fun h => tE_one (e := .isi a ts) (a := a) (f := fun x st => match kdP x with | some k => .ok (.sh, .bl (ts.any (k.isa Γ.sub))) st | none => .bad) (fun _ => rfl) rfl h
  have fin : ∀ {R : CallR X (.builtin "isinstance") (rSemC X (.builtin "isinstance"))}, True := fun {_} => trivial
  unfold isiB at ht
  split at ht
  · rename_i es n tp
    rw [Bool.and_eq_true] at ht
    obtain ⟨pa, hts⟩ := pa_tys ok ts es ht.1
    have hl := of_decide_eq_true ht.2
    refine .of ((pe_callB callSem hg (ok.fr _ hx) boot_isi (pa_cons ha.pe (pa_cons (pe_tup pa) pa_nil rfl) (ha.st _ _)) (by decide) (by decide) (ha.st _ _) rfl).imp fun σ H Q h => ?_)
    refine (ev h).mono fun v H1 ⟨M, ps, st, st2, x, s, o1, P⟩ => ⟨by rw [List.length_map, ← big_eq]; exact Nat.le_trans hl (by decide), fun q hq => ?_⟩
    cases ek : kdP x with
    | none => rw [ek] at P; exact (show False from P).elim
    | some k =>
      rw [ek] at P
      exact isi_tup ok.kf ok.hK ok.xp hts (o1.grow (Kp.updF hq)) ek upd_same (fin_sh P ((s.weaken un_l fun z => z).upd hq) rfl)
  · split at ht
    · rename_i t
      obtain ⟨h1, h2, h3⟩ := pe_ty ok ht
      refine .of ((pe_callB callSem hg (ok.fr _ hx) boot_isi (pa_cons ha.pe (pa_cons h1 pa_nil (h3 _ _)) (ha.st _ _)) (by decide) (by decide) (ha.st _ _) (by rw [h3]; rfl)).imp fun σ H Q h => ?_)
      refine (ev h).mono fun v H1 ⟨M, ps, st, st2, x, s, o1, P⟩ => ?_
      cases ek : kdP x with
      | none => rw [ek] at P; exact (show False from P).elim
      | some k =>
        rw [ek] at P
        refine isi_one ok.kf ok.hK ok.xp h2 o1 ek ?_
        have P : PostE C T W (E.isi a [t]).io M st σ H (.ok (.sh, .bl (k.isa Γ.sub t || false)) st2) Q := P
        rw [Bool.or_false] at P
        exact fin_sh P (s.weaken un_l fun z => z) rfl
    · cases ht

/-! ### slots written -/
theorem Owns.set {i : Nat} {p p' : PV} (e : st[i]? = some (.ow p)) {b : Addr} : Owns (st.set i (.ow p')) σ b ↔ Owns st σ b := by
  have hl : i < st.length := (List.getElem?_eq_some_iff.mp e).1
  constructor
  · rintro ⟨j, v, e1, e2⟩
    by_cases h : i = j
    · subst h; exact ⟨i, p, e, e2⟩
    · rw [List.getElem?_set_ne h] at e1
      exact ⟨j, v, e1, e2⟩
  · rintro ⟨j, v, e1, e2⟩
    by_cases h : i = j
    · subst h; exact ⟨i, p', by rw [List.getElem?_set_self hl], e2⟩
    · exact ⟨j, v, by rw [List.getElem?_set_ne h]; exact e1, e2⟩
/-- a slot's own object is written -/
theorem Step.own {i : Nat} {p p' : PV} {a : Addr} {o : HO} (r : Rel C M st σ H) (t : Tabs T H) (e : st[i]? = some (.ow p)) (e2 : σ[i]? = some (some (.ref a))) (ho : ∀ ps, o ≠ .tbl ps) (hq : OwnAt C (Bn M st σ) (L2.upd H a o) a p') : Step C T true M st (st.set i (.ow p')) σ H (L2.upd H a o) := by
  have hl : i < st.length := (List.getElem?_eq_some_iff.mp e).1
  obtain ⟨a', q1, q2, n⟩ := r.ow i p e
  rw [e2] at q1
  cases q1
  obtain ⟨u, eu, tu, mu⟩ := q2.some
  have ow : Owns st σ a := ⟨i, p, e, e2⟩
  have k : Kp (fun b => b = a) H (L2.upd H a o) := Kp.write (F := fun b => b = a) rfl
  have bn : ∀ b, Bn M (st.set i (.ow p')) σ b → Bn M st σ b := fun b z => z.elim .inl fun z => .inr ((Owns.set e).mp z)
  have fB : ∀ b, b = a → Bn M st σ b := fun b z => by rw [z]; exact .inr ow
  refine ⟨⟨by rw [List.length_set]; exact r.len, fun j v q => ?_, fun j v q => ?_, fun j l v w b q1 q2 q3 q4 => ?_, fun b m => ?_⟩, fun b u' h1 h2 h3 => ?_, fun b => Mi.upd_al b, fun b => (Owns.set e).mp, t.mv fun b u' h1 h2 => ?_⟩
  · by_cases h : i = j
    · subst h
      rw [List.getElem?_set_self hl] at q
      cases q
    · rw [List.getElem?_set_ne h] at q
      obtain ⟨w, q1, q2⟩ := r.sh j v q
      exact ⟨w, q1, Rep.mv k fB (fun b z => .inl (bn b z)) v w q2⟩
  · by_cases h : i = j
    · subst h
      rw [List.getElem?_set_self hl] at q
      cases q
      exact ⟨a, e2, hq.sub bn, n⟩
    · rw [List.getElem?_set_ne h] at q
      obtain ⟨b, q1, q2, q3⟩ := r.ow j v q
      have ne : b ≠ a := fun z => h (r.inj i j p v a e q e2 (by rw [← z]; exact q1))
      exact ⟨b, q1, OwnAt.mv k fB (fun b z => .inl (bn b z)) (upd_ne ne) v q2, q3⟩
  · have f : ∀ (j : Nat) (v : PV), (st.set i (.ow p'))[j]? = some (.ow v) → ∃ v, st[j]? = some (.ow v) := fun j v q => by
      by_cases h : i = j
      · subst h; exact ⟨p, e⟩
      · rw [List.getElem?_set_ne h] at q; exact ⟨v, q⟩
    obtain ⟨v', z1⟩ := f j v q1
    obtain ⟨w', z2⟩ := f l w q2
    exact r.inj j l v' w' b z1 z2 q3 q4
  · have ne : b ≠ a := fun z => n (by rw [← z]; exact m)
    rw [upd_ne ne]
    exact r.al b m
  · rw [upd_ne (fun z => h2 ⟨rfl, by rw [z]; exact ow⟩)]
    exact h1
  · by_cases z : b = a
    · subst z
      rw [eu] at h1
      cases h1
      rcases h2 with ⟨ps, h2⟩ | ⟨φ, h2⟩
      · exact absurd h2 (tu ps)
      · subst h2
        cases p <;> first | exact q2.elim | (obtain ⟨_, z, _⟩ := q2; rw [eu] at z; cases z) | (obtain ⟨_, _, _, z, _⟩ := q2; rw [eu] at z; cases z)
    · rw [upd_ne z]
      exact h1
theorem RepL.dropLast {B : Addr → Prop} : ∀ {xs : List PV} {ys : List V}, Rep.RepL C B H xs ys → Rep.RepL C B H xs.dropLast ys.dropLast
  | [], _, h => by rw [show _ = [] from h]; rfl
  | [x], _, h => by
    obtain ⟨y, r, e, h1, h2⟩ := h
    rw [e, show r = [] from h2]
    rfl
  | x :: y :: xs, _, h => by
    obtain ⟨v, r, e, h1, h2⟩ := h
    obtain ⟨w, r', e', h3, h4⟩ := h2
    rw [e, e']
    exact ⟨v, (w :: r').dropLast, rfl, h1, RepL.dropLast (xs := y :: xs) ⟨w, r', rfl, h3, h4⟩⟩
theorem RepL.last {B : Addr → Prop} {xs : List PV} {ys : List V} {z : PV} (r : Rep.RepL C B H xs ys) (e : xs.getLast? = some z) : ∃ y, ys[ys.length - 1]? = some y ∧ Rep C B H z y := by
  rw [List.getLast?_eq_getElem?] at e
  rw [RepL.length r]
  exact RepL.get r e
theorem se_pop {i : Nat} {pa pc : Pos} (ok : XOk Dt X Γ C T W) (hN : X.N[i]? = some x) (hv : Vis X.env.scope x) (ho : okN x = true) (hl : (pa.endLine == pc.line) = true) : SE X Γ C T W (.pop i) (.Call (.Attribute (.Name x p) "pop" pa) [] [] pc) := by
  refine .of ((pe_bm0 PySem.F.plainAttrs_list PySem.F.slot_list_pop PySem.F.type_list_pop mt_pop (pe_var hN hv (okN_d ho) (okN_c ho)) rfl hl).imp fun σ H Q h => ?_)
  obtain ⟨M, st, r, t, P⟩ := h
  have P : PostE C T W true M st σ H (match st[i]? with
    | some (.ow (.lst xs)) => match xs.getLast? with
      | some x => .ok (.sh, x) (st.set i (.ow (.lst xs.dropLast)))
      | none => .bad
    | _ => .bad) Q := P
  split at P
  · rename_i xs e
    split at P
    · rename_i z ez
      obtain ⟨a, e1, ⟨ys, e2, q⟩, n⟩ := r.ow i _ e
      obtain ⟨y, e3, ry⟩ := RepL.last q ez
      have ow : Owns st σ a := ⟨i, _, e, e1⟩
      have k : Kp (fun b => b = a) H (upd H a (.lst ys.dropLast)) := Kp.write (F := fun b => b = a) rfl
      have fB : ∀ b, b = a → Bn M st σ b := fun b z => by rw [z]; exact .inr ow
      have s := Step.own (p' := .lst xs.dropLast) r t e e1 (o := .lst ys.dropLast) (fun ps z => by cases z) ⟨ys.dropLast, upd_same, RepL.mv k fB (fun b z => .inl z) _ _ (RepL.dropLast q)⟩
      refine ⟨.ref a, e1, .inl ⟨rfl, ys, SqL.of e2⟩, a, ys, y, rfl, rfl, e2, e3, ?_⟩
      exact fin_sh P s (Rep.mv k fB (fun b z => .inl (z.elim .inl fun z => .inr ((Owns.set e).mp z))) _ _ ry)
    · exact P.elim
  · exact P.elim
/-- d.get(k, x) -/
theorem dicP_some {sl : Option Sl} {kvs : List (DK × PV)} (e : dicP sl = some kvs) : sl = some (.ow (.dic kvs)) ∨ sl = some (.sh (.dic kvs)) := by
  unfold dicP at e
  split at e
  · cases e; exact .inl rfl
  · cases e; exact .inr rfl
  · cases e
theorem dic_at {i : Nat} {kvs : List (DK × PV)} (r : Rel C M st σ H) (e : dicP st[i]? = some kvs) : ∃ w, σ[i]? = some (some w) ∧ ORep C (Bn M st σ) H (.dic kvs) w := by
  rcases dicP_some e with e | e
  · obtain ⟨a, e1, q, _⟩ := r.ow i _ e
    exact ⟨.ref a, e1, .inr ⟨a, rfl, q⟩⟩
  · obtain ⟨w, e1, q⟩ := r.sh i _ e
    exact ⟨w, e1, .inl q⟩
theorem se_get {i : Nat} {pa pc : Pos} (ok : XOk Dt X Γ C T W) (hN : X.N[i]? = some x) (hv : Vis X.env.scope x) (ho : okN x = true) (hl : (pa.endLine == pc.line) = true) (ha : SE X Γ C T W a A) (hb : SE X Γ C T W b B) : SE X Γ C T W (.get i a b) (.Call (.Attribute (.Name x p) "get" pa) [A, B] [] pc) := by
  have hu : X.A.units + 1 < cLine := by have := ok.bi.units; omega
  have sA : ∀ rest env, starEach (A :: rest) env = (false, eval A env) :: starEach rest env := fun rest env => ha.st env rest
  have sB : ∀ rest env, starEach (B :: rest) env = (false, eval B env) :: starEach rest env := fun rest env => hb.st env rest
  have m : M2 X (.Name x p) "get" pa A B pc := ⟨rfl, by rw [sA, sB]; rfl, hl, by rw [sA, sB]; rfl⟩
  refine .of ((pe_dget2 hu (pe_var hN hv (okN_d ho) (okN_c ho)) ha.pe hb.pe m).imp fun σ H Q h => ?_)
  obtain ⟨M, st, r, t, P⟩ := h
  have P : PostE C T W (a.io || b.io) M st σ H (match dicP st[i]? with
    | some _ => (evE Γ a st).bind fun y st => (evE Γ b st).bind fun z st => if wait y.1 b.io then match dicP st[i]?, y.2.atom? with
      | some kvs, some k => if keepV z.1 then .ok (.sh, (dget kvs k).getD z.2) st else .bad
      | _, _ => .bad
      else .bad
    | none => .bad) Q := P
  split at P
  · rename_i kvs e
    obtain ⟨w, e1, o⟩ := dic_at r e
    obtain ⟨d, ks, ew, eH, _⟩ := o.dic
    subst ew
    refine ⟨.ref d, e1, d, rfl, .inl ⟨ks, .inl eH⟩, ?_⟩
    have q := tEs_two (tE_args0 (es := .cons a (.cons b .nil)) (K := fun xs st => match xs with
      | [y, z] => (match dicP st[i]?, y.2.atom? with
        | some kvs, some k => if keepV z.1 then .ok (.sh, (dget kvs k).getD z.2) st else .bad
        | _, _ => .bad)
      | _ => .bad) r t (by rw [ev_two]; exact P) (fun z => by
        have z : (a.io || (b.io || false)) = true := z
        rw [Bool.or_false] at z
        exact z))
    refine q.mono fun v H1 h => h.mono fun u H2 ⟨xs, st2, ps, ln, s, n, f, q, P⟩ => ?_
    dsimp only at P
    split at P
    · rename_i y z
      split at P
      · rename_i kvs2 k e2 e3
        split at P
        · rename_i kz
          have s0 := s.weaken un_l (fun z => z)
          obtain ⟨v', _, _, ev, oy, q2⟩ := RL.one' q
          cases ev
          obtain ⟨w2, e4, o2⟩ := dic_at s.rel e2
          rw [e1] at e4
          cases e4
          obtain ⟨d', o', ed, g, p1, p2⟩ := dic_get o2 oy e3
          cases ed
          have na : ∀ a ∈ ps, ¬ Bn M st2 σ a := fun a ha z => by
            rcases z with z | z
            · exact (f a ha).1 z
            · exact s.rel.notOwn (.inr ha) z
          -- the default, shared from now on
          have rz : Rep C (Bn M st2 σ) H2 z.2 u := by
            obtain ⟨fl, z⟩ := z
            cases q with
            | sh _ q =>
              cases q with
              | sh r _ => exact r.sub fun a => Bn.mono un_l
              | ow r _ => exact r.rep (fun a => Bn.mono un_l) (na _ (by simp)) 
              | bo r _ => cases kz
            | ow _ q =>
              cases q with
              | sh r _ => exact r.sub fun a => Bn.mono un_l
              | ow r _ => exact r.rep (fun a => Bn.mono un_l) (na _ (by simp))
              | bo r _ => cases kz
            | bo _ q =>
              cases q with
              | sh r _ => exact r.sub fun a => Bn.mono un_l
              | ow r _ => exact r.rep (fun a => Bn.mono un_l) (na _ (by simp))
              | bo r _ => cases kz
          refine ⟨o', g, fin_sh P s0 ?_⟩
          cases eg : dget kvs2 k with
          | none => rw [p2 eg]; exact rz
          | some y =>
            obtain ⟨z', e5, r5⟩ := p1 y eg
            rw [e5]
            exact r5.sub fun a => Bn.mono un_l
        · exact P.elim
      · exact P.elim
    · exact P.elim
  · exact P.elim

/-! ### dict displays -/
theorem repK_any {B : Addr → Prop} {k : Key} : ∀ {kvs : List (DK × PV)} {ks : List (Key × V)}, Rep.RepK C B H kvs ks → (ks.any fun kv => decide (kv.1 = k)) = kvs.any fun kv => decide (kv.1 = k)
  | [], _, h => by rw [show _ = [] from h]; rfl
  | (j, x) :: kvs, _, h => by
    obtain ⟨y, r, e, _, h2⟩ := h
    rw [e, List.any_cons, List.any_cons, repK_any h2]
theorem repK_map {B : Addr → Prop} {k : Key} {z : PV} {v : V} (hz : Rep C B H z v) : ∀ {kvs : List (DK × PV)} {ks : List (Key × V)}, Rep.RepK C B H kvs ks → Rep.RepK C B H (kvs.map fun kv => if kv.1 = k then (kv.1, z) else kv) (ks.map fun kv => if kv.1 = k then (kv.1, v) else kv)
  | [], _, h => by rw [show _ = [] from h]; rfl
  | (j, x) :: kvs, _, h => by
    obtain ⟨y, r, e, h1, h2⟩ := h
    rw [e, List.map_cons, List.map_cons]
    dsimp only
    split
    · exact ⟨v, _, rfl, hz, repK_map hz h2⟩
    · exact ⟨y, _, rfl, h1, repK_map hz h2⟩
theorem repK_app {B : Addr → Prop} {k : Key} {z : PV} {v : V} (hz : Rep C B H z v) : ∀ {kvs : List (DK × PV)} {ks : List (Key × V)}, Rep.RepK C B H kvs ks → Rep.RepK C B H (kvs ++ [(k, z)]) (ks ++ [(k, v)])
  | [], _, h => by rw [show _ = [] from h]; exact ⟨v, [], rfl, hz, rfl⟩
  | (j, x) :: kvs, _, h => by
    obtain ⟨y, r, e, h1, h2⟩ := h
    rw [e]
    exact ⟨y, r ++ [(k, v)], rfl, h1, repK_app hz h2⟩
theorem repK_put {B : Addr → Prop} {k : Key} {z : PV} {v : V} {kvs : List (DK × PV)} {ks : List (Key × V)} (hz : Rep C B H z v) (h : Rep.RepK C B H kvs ks) : Rep.RepK C B H (dput kvs k z) (putK ks k v) := by
  unfold dput putK
  rw [repK_any h]
  split
  · exact repK_map hz h
  · exact repK_app hz h
theorem repK_dct {B : Addr → Prop} : ∀ (ks : List DK) (xs : List PV) (vs : List V) (acc : List (DK × PV)) (accV : List (Key × V)) (kvs : List (DK × PV)), Rep.RepL C B H xs vs → Rep.RepK C B H acc accV → dctP ks xs acc = some kvs → Rep.RepK C B H kvs (mergeK accV (ks.zip vs))
  | [], [], vs, acc, accV, kvs, h, q, e => by cases e; rw [show vs = [] from h]; exact q
  | k :: ks, x :: xs, vs, acc, accV, kvs, h, q, e => by
    obtain ⟨y, r, ev, h1, h2⟩ := h
    rw [ev]
    exact repK_dct ks xs r (dput acc k x) (putK accV k y) kvs h2 (repK_put h1 q) e
  | [], _ :: _, _, _, _, _, _, _, e => by cases e
  | _ :: _, [], _, _, _, _, _, _, e => by cases e
theorem tPairs_of : ∀ (ks : List DK) (as : Es) {σ : L2.St} {H : Hp} {Q : List (V × V) → Hp → Prop}, ks.length = as.len → tEs Γ C T W as σ H (fun vs H2 => Q ((ks.zip vs).map fun kv => (kV kv.1, kv.2)) H2) → tPairs (trsOf Γ C T W ks as) σ H Q
  | [], .nil, σ, H, Q, _, h => tEs_nil h
  | k :: ks, .cons a r, σ, H, Q, hl, h => (tEs_cons h).mono fun v H1 h => tPairs_of ks r (by have q : ks.length + 1 = r.len + 1 := hl; omega) h
  | [], .cons _ r, _, _, _, hl, _ => absurd hl (by show ¬ (0 = r.len + 1); omega)
  | _ :: ks, .nil, _, _, _, hl, _ => absurd hl (by show ¬ (ks.length + 1 = 0); omega)
/-- a pending object is written -/
theorem Rel.writeM {a : Addr} {o : HO} (r : Rel C M st σ H) (m : M a) (ho : ∀ ps, o ≠ .tbl ps) : Rel C M st σ (L2.upd H a o) := by
  have k : Kp (fun b => b = a) H (L2.upd H a o) := Kp.write (F := fun b => b = a) rfl
  have fB : ∀ b, b = a → Bn M st σ b := fun b z => by rw [z]; exact .inl m
  refine ⟨r.len, fun j v q => ?_, fun j v q => ?_, r.inj, fun b mb => ?_⟩
  · obtain ⟨w, q1, q2⟩ := r.sh j v q
    exact ⟨w, q1, Rep.mv k fB (fun b z => .inl z) v w q2⟩
  · obtain ⟨b, q1, q2, q3⟩ := r.ow j v q
    have ne : b ≠ a := fun z => q3 (by rw [z]; exact m)
    exact ⟨b, q1, OwnAt.mv k fB (fun b z => .inl z) (upd_ne ne) v q2, q3⟩
  · by_cases z : b = a
    · rw [z]; exact ⟨o, upd_same, ho⟩
    · rw [upd_ne z]; exact r.al b mb
theorem se_dct {ks : List DK} {keys : List (Option Expr)} (hk : mDk ks keys = true) (hl : ks.length = as.len) (hn : decide (as.len ≤ 15) = true) (h : SEs X Γ C T W as As) : SE X Γ C T W (.dct ks as) (.Dict keys As pos) := by
  have len : ∀ (ks : List DK) (keys : List (Option Expr)), mDk ks keys = true → keys.length = ks.length ∧ keys.all (·.isSome) = true := by
    intro ks
    induction ks with
    | nil =>
      intro keys h
      cases keys with
      | nil => exact ⟨rfl, rfl⟩
      | cons _ _ => cases h
    | cons k ks ih =>
      intro keys h
      unfold mDk at h
      split at h
      · rename_i z; cases z
      · rename_i k' ks' c n q es h1
        cases h1
        rw [Bool.and_eq_true] at h
        obtain ⟨i1, i2⟩ := ih es h.2
        exact ⟨by rw [List.length_cons, List.length_cons, i1], by rw [List.all_cons, i2]; rfl⟩
      · cases h
  obtain ⟨l1, l2⟩ := len ks keys hk
  have l15 := of_decide_eq_true hn
  cases as with
  | nil =>
    have e1 : keys = [] := List.length_eq_zero_iff.mp (by rw [l1, hl]; rfl)
    have e2 : As = [] := List.length_eq_zero_iff.mp (by rw [h.len]; rfl)
    have e3 : ks = [] := List.length_eq_zero_iff.mp (by rw [hl]; rfl)
    subst e1 e2 e3
    refine .of (pe_dnewK.imp fun σ H Q h => ?_)
    obtain ⟨M, st, r, t, P⟩ := h
    intro p hp
    exact fin_ow (z := .dic []) P (Step.refl r t) hp (fun ps z => by cases z) (own_dK hp rfl)
  | cons a0 as0 =>
    generalize hA : Es.cons a0 as0 = as at *
    have hpos : 0 < as.len := by rw [← hA]; exact Nat.succ_pos _
    refine .of ((pe_disp (h.pp pos ks keys hk hl) l2 (by rw [l1, hl, h.len]) (fun z => by rw [z] at l1; have : 0 = ks.length := l1; omega) (by rw [l1, hl]; exact l15)).imp fun σ H Q q => ?_)
    obtain ⟨M, st, r, t, P⟩ := q
    intro p hp
    refine tPairs_of ks as hl ?_
    have P : PostE C T W (E.io.ioL as) M st σ H ((evEs Γ as st).bind fun xs st => if keepAll xs then match dctP ks (valsOf xs) [] with
      | some kvs => .ok (.ow, .dic kvs) st
      | none => .bad
    else .bad) Q := P
    have s0 : Step C T false M st st σ H (L2.upd H p (.dK [])) := (Step.refl r t).upd hp
    have P2 := Post.know (Post.upM (Post.after (io2 := E.io.ioL as) s0 (post_bind P) (fun z => by cases z) (fun z => z)) (M1 := Un M [p]) un_l)
    refine ⟨Un M [p], st, r.alloc hp (fun ps z => by cases z), s0.tab, Post.mono P2 fun vs H2 ⟨⟨xs, st2, ps0, ee, _, _, _, _, P⟩, xs', st2', ps, ee', s, n, f, q⟩ => ?_⟩
    rw [ee] at ee'
    cases ee'
    have k := keep_if P
    rw [k, if_pos rfl] at P
    cases ek : dctP ks (valsOf xs) [] with
    | none => rw [ek] at P; exact (show False from P).elim
    | some kvs =>
      rw [ek] at P
      have rp : Rep.RepL C (Bn (Un M [p]) st2 σ) H2 (valsOf xs) vs := keep_reps s f q k
      have hp2 : H2 p = some (.dK []) := s.kp p _ upd_same (fun z => r.bnFree hp (.inr z.2)) (fun ps z => by cases z)
      have kk : Kp (fun b => b = p) H2 (L2.upd H2 p (.dK (mergeK [] (ks.zip vs)))) := Kp.write (F := fun b => b = p) rfl
      have mp : Un M [p] p := .inr (by simp)
      have fB : ∀ b, b = p → Bn (Un M [p]) st2 σ b := fun b z => by rw [z]; exact .inl mp
      have sM : Step C T (E.io.ioL as) (Un M [p]) st st2 σ (L2.upd H p (.dK [])) H2 := s.weaken un_l (fun z => z)
      have rk := repK_dct ks (valsOf xs) vs [] [] kvs rp rfl ek
      refine ⟨hp2, ks.zip vs, rfl, ?_, ?_⟩
      · rw [List.length_zip]
        have : min ks.length vs.length ≤ ks.length := Nat.min_le_left _ _
        omega
      · refine P [.ref p] [p] _ ⟨sM.rel.writeM mp (fun ps z => by cases z), fun b u h1 h2 h3 => ?_, fun b hb => Mi.upd_al b (s.al b (Mi.upd_al b hb)), s.sub, s.tab.write hp2 (fun z => ?_)⟩ (by simp) (fun b hb => ?_) (.ow ⟨_, upd_same, RepK.mv kk fB (fun b z => .inl z) _ _ rk⟩ .nil) _ rfl
        · have nb : b ≠ p := fun z => by rw [z, hp] at h1; cases h1
          rw [upd_ne nb]
          exact s.kp b u (by rw [upd_ne nb]; exact h1) h2 h3
        · rcases z with ⟨_, z⟩ | ⟨_, z⟩ <;> cases z
        · rw [show b = p by simpa using hb]
          exact ⟨fun m => r.bnFree hp (.inl m), .inl hp⟩
end
end Mi

/-! Mi12: targets, iterators. -/
namespace Mi
open PySem PySem.Spec PyProof.Rows L2

section
variable {Dt : Dat} {X : Cx} {Γ : G} {C : Cn} {T : List NdefX.NTab} {W : WX} {a b c : E} {as : Es} {A B D : Expr} {As : List Expr} {pos p : Pos} {x : Str} {σ σ' : L2.St} {H H' H1 H2 : Hp} {Q : VK} {M : Addr → Prop} {st st' st1 st2 : List Sl} {io : Bool}
/-! ### slots set -/
theorem set_get {α : Type} {l : List α} {i j : Nat} {a : α} (h : i < l.length) : (l.set i a)[j]? = if i = j then some a else l[j]? := by
  by_cases e : i = j
  · subst e; rw [List.getElem?_set_self h, if_pos rfl]
  · rw [List.getElem?_set_ne e, if_neg e]
/-- a slot gets a shared value -/
theorem bn_sh {i : Nat} {v : PV} {w : V} (hl : i < st.length) (hs : σ.length = st.length) : ∀ b, Bn M (st.set i (.sh v)) (σ.set i (some w)) b → Bn M st σ b := fun b z => z.elim .inl fun ⟨j, u, e1, e2⟩ => by
  rw [set_get hl] at e1
  rw [set_get (by rw [hs]; exact hl)] at e2
  by_cases h : i = j
  · rw [if_pos h] at e1; cases e1
  · rw [if_neg h] at e1 e2; exact .inr ⟨j, u, e1, e2⟩
theorem Rel.setSh {i : Nat} {v : PV} {w : V} (r : Rel C M st σ H) (hl : i < st.length) (q : Rep C (Bn M st σ) H v w) : Rel C M (st.set i (.sh v)) (σ.set i (some w)) H := by
  have hs := r.len
  have hl' : i < σ.length := by rw [hs]; exact hl
  have bn := bn_sh (M := M) (v := v) (w := w) hl hs
  refine ⟨by rw [List.length_set, List.length_set]; exact hs, fun j u e => ?_, fun j u e => ?_, fun j k u w' b q1 q2 q3 q4 => ?_, r.al⟩
  · rw [set_get hl] at e
    rw [set_get hl']
    by_cases h : i = j
    · rw [if_pos h] at e ⊢
      cases e
      exact ⟨w, rfl, q.sub bn⟩
    · rw [if_neg h] at e ⊢
      obtain ⟨z, e1, e2⟩ := r.sh j u e
      exact ⟨z, e1, e2.sub bn⟩
  · rw [set_get hl] at e
    rw [set_get hl']
    by_cases h : i = j
    · rw [if_pos h] at e; cases e
    · rw [if_neg h] at e ⊢
      obtain ⟨z, e1, e2, e3⟩ := r.ow j u e
      exact ⟨z, e1, e2.sub bn, e3⟩
  · rw [set_get hl] at q1 q2
    rw [set_get hl'] at q3 q4
    by_cases h : i = j
    · rw [if_pos h] at q1; cases q1
    · by_cases h2 : i = k
      · rw [if_pos h2] at q2; cases q2
      · rw [if_neg h] at q1 q3
        rw [if_neg h2] at q2 q4
        exact r.inj j k u w' b q1 q2 q3 q4
/-- a slot gets a pending object -/
theorem Rel.setOw {i : Nat} {v : PV} {a : Addr} (r : Rel C (Un M [a]) st σ H) (hl : i < st.length) (q : OwnAt C (Bn (Un M [a]) st σ) H a v) (n : ¬ M a) : Rel C M (st.set i (.ow v)) (σ.set i (some (.ref a))) H := by
  have hs := r.len
  have hl' : i < σ.length := by rw [hs]; exact hl
  have ma : Un M [a] a := .inr (by simp)
  have bn : ∀ b, Bn M (st.set i (.ow v)) (σ.set i (some (.ref a))) b → Bn (Un M [a]) st σ b := fun b z => by
    rcases z with z | ⟨j, u, e1, e2⟩
    · exact .inl (.inl z)
    · rw [set_get hl] at e1
      rw [set_get hl'] at e2
      by_cases h : i = j
      · rw [if_pos h] at e2
        cases e2
        exact .inl ma
      · rw [if_neg h] at e1 e2
        exact .inr ⟨j, u, e1, e2⟩
  refine ⟨by rw [List.length_set, List.length_set]; exact hs, fun j u e => ?_, fun j u e => ?_, fun j k u w' b q1 q2 q3 q4 => ?_, fun b m => r.al b (.inl m)⟩
  · rw [set_get hl] at e
    rw [set_get hl']
    by_cases h : i = j
    · rw [if_pos h] at e; cases e
    · rw [if_neg h] at e ⊢
      obtain ⟨z, e1, e2⟩ := r.sh j u e
      exact ⟨z, e1, e2.sub bn⟩
  · rw [set_get hl] at e
    rw [set_get hl']
    by_cases h : i = j
    · rw [if_pos h] at e ⊢
      cases e
      exact ⟨a, rfl, q.sub bn, n⟩
    · rw [if_neg h] at e ⊢
      obtain ⟨z, e1, e2, e3⟩ := r.ow j u e
      exact ⟨z, e1, e2.sub bn, fun z => e3 (.inl z)⟩
  · rw [set_get hl] at q1 q2
    rw [set_get hl'] at q3 q4
    by_cases h : i = j
    · by_cases h2 : i = k
      · rw [← h, ← h2]
      · rw [if_pos h] at q3
        rw [if_neg h2] at q2 q4
        cases q3
        exact absurd ⟨k, w', q2, q4⟩ (r.notOwn ma)
    · by_cases h2 : i = k
      · rw [if_pos h2] at q4
        rw [if_neg h] at q1 q3
        cases q4
        exact absurd ⟨j, u, q1, q3⟩ (r.notOwn ma)
      · rw [if_neg h] at q1 q3
        rw [if_neg h2] at q2 q4
        exact r.inj j k u w' b q1 q2 q3 q4

/-! ### targets -/
mutual
theorem tset_len : ∀ (t : Tg) (v : PV) {st st' : Slots}, t.set v st = some st' → st'.length = st.length
  | .n i, v, st, st', h => by
    have h : (if i < st.length then some (st.set i (.sh v)) else none) = some st' := h
    split at h
    · cases h; rw [List.length_set]
    · cases h
  | .t ts, v, st, st', h => by
    have h : (match itemsT v with | some xs => setL ts xs st | none => none) = some st' := h
    split at h
    · exact tsetL_len ts _ h
    · cases h
theorem tsetL_len : ∀ (ts : List Tg) (xs : List PV) {st st' : Slots}, setL ts xs st = some st' → st'.length = st.length
  | [], [], st, st', h => by
    have h : some st = some st' := h
    cases h; rfl
  | t :: ts, x :: xs, st, st', h => by
    have h : (match t.set x st with | some st => setL ts xs st | none => none) = some st' := h
    split at h
    · rename_i s1 e
      rw [tsetL_len ts xs h, tset_len t x e]
    · cases h
  | [], _ :: _, _, _, h => by cases h
  | _ :: _, [], _, _, h => by cases h
end
/-- what a target's store is to give -/
def tG (C : Cn) (t : Tg) : TG := fun v σ H Q => ∃ M st z st', Rel C M st σ H ∧ Rep C (Bn M st σ) H z v ∧ t.set z st = some st' ∧
  ∀ σ', Rel C M st' σ' H → (∀ b, Bn M st' σ' b → Bn M st σ b) → (∀ j, j ∉ t.slots → σ'[j]? = σ[j]?) → Q σ' H
def tGs (C : Cn) (ts : List Tg) : TGs := fun vs σ H Q => ∃ M st zs st', Rel C M st σ H ∧ Rep.RepL C (Bn M st σ) H zs vs ∧ setL ts zs st = some st' ∧
  ∀ σ', Rel C M st' σ' H → (∀ b, Bn M st' σ' b → Bn M st σ b) → (∀ j, j ∉ Tg.slots.slotsL ts → σ'[j]? = σ[j]?) → Q σ' H
theorem _root_.L2.PG.imp {e : Expr} {t t' : TG} (h : PG X e t) (i : ∀ v σ H Q, t' v σ H Q → t v σ H Q) : PG X e t' := ⟨fun pins s σ H v u Q I r q => h.run pins s σ H v u Q I r (i v σ H Q q)⟩
theorem _root_.L2.PGs.imp {e : List Expr} {t t' : TGs} (h : PGs X e t) (i : ∀ v σ H Q, t' v σ H Q → t v σ H Q) : PGs X e t' := ⟨fun pins s σ H v u Q I r q => h.run pins s σ H v u Q I r (i v σ H Q q)⟩
def locB (cel : Bool) (sc : Scope) (x : Str) : Bool := match sc.names.lookup x with
  | some .local => true
  | some .cell => cel
  | _ => false
theorem locB_ok {cel : Bool} {sc : Scope} (h : locB cel sc x = true) : Loc sc x := by
  unfold locB at h
  split at h
  · rename_i e; exact .inl e
  · rename_i e; exact .inr e
  · cases h
mutual
def mTg (cel : Bool) (N : List Str) (sc : Scope) : Tg → Expr → Bool
  | .n i, .Name x _ => decide (N[i]? = some x) && locB cel sc x
  | .t ts, .Tuple es _ _ => mTgs cel N sc ts es
  | _, _ => false
def mTgs (cel : Bool) (N : List Str) (sc : Scope) : List Tg → List Expr → Bool
  | [], [] => true
  | t :: ts, e :: es => mTg cel N sc t e && mTgs cel N sc ts es
  | _, _ => false
end
def fnOk (cel : Bool) (X : Cx) : Prop := cel = true → ∀ x, X.fn x = true
theorem fnOk.at {cel : Bool} (h : fnOk cel X) (q : locB cel X.env.scope x = true) : X.fn x = true ∨ X.env.scope.names.lookup x = some .local := by
  unfold locB at q
  split at q
  · rename_i e; exact .inr e
  · exact .inl (h q x)
  · cases q
theorem setL_len : ∀ (ts : List Tg) (xs : List PV) {st st' : Slots}, setL ts xs st = some st' → xs.length = ts.length
  | [], [], _, _, _ => rfl
  | t :: ts, x :: xs, st, st', h => by
    have h : (match t.set x st with | some st => setL ts xs st | none => none) = some st' := h
    split at h
    · rw [List.length_cons, List.length_cons, setL_len ts xs h]
    · cases h
  | [], _ :: _, _, _, h => by cases h
  | _ :: _, [], _, _, h => by cases h
mutual
theorem pg_t (hK : X.K = C.K) (hc : X.calm = true) (hN : X.N.Nodup) {cel : Bool} (hf : fnOk cel X) : ∀ (t : Tg) (e : Expr), mTg cel X.N X.env.scope t e = true → PG X e (tG C t) ∧ ∀ es env, (assignEach (e :: es) env) = (false, assign e env) :: assignEach es env
  | .n i, e, h => by
    unfold mTg at h
    split at h
    · rename_i j x pos e1
      cases e1
      rw [Bool.and_eq_true] at h
      have hi := of_decide_eq_true h.1
      have hx := locB_ok h.2
      refine ⟨(pg_name hN hi hx (hf.at h.2)).imp fun v σ H Q q => ?_, fun _ _ => rfl⟩
      obtain ⟨M, st, z, st', r, rp, es, k⟩ := q
      have es : (if i < st.length then some (st.set i (.sh z)) else none) = some st' := es
      split at es
      · rename_i hl
        cases es
        refine k _ (r.setSh hl rp) (bn_sh hl r.len) fun j hj => ?_
        rw [List.getElem?_set_ne (fun z => hj (by rw [← z]; simp [Tg.slots]))]
      · cases es
    · rename_i e1; cases e1
    · cases h
  | .t ts, e, h => by
    unfold mTg at h
    split at h
    · rename_i e1; cases e1
    · rename_i ts' es k pos e1
      cases e1
      obtain ⟨h1, h2, h3, h4⟩ := pgs_t hK hc hN hf ts es h
      refine ⟨(pg_tup (n := es.length) hc h1 h2 h3).imp fun v σ H Q q => ?_, fun _ _ => rfl⟩
      obtain ⟨M, st, z, st', r, rp, e, k⟩ := q
      have e : (match itemsT z with | some xs => setL ts xs st | none => none) = some st' := e
      cases z with
      | tup zs =>
        obtain ⟨a, ys, ev, ta, rl⟩ := rp
        exact ⟨a, ys, ev, by rw [hK]; exact ta.sq, by rw [RepL.length rl, setL_len ts zs e, h4], M, st, zs, st', r, rl, e, k⟩
      | _ => cases e
    · cases h
theorem pgs_t (hK : X.K = C.K) (hc : X.calm = true) (hN : X.N.Nodup) {cel : Bool} (hf : fnOk cel X) : ∀ (ts : List Tg) (es : List Expr), mTgs cel X.N X.env.scope ts es = true → PGs X es (tGs C ts) ∧ (assignEach es X.env).length = es.length ∧ (assignEach es X.env).findIdx? (·.1) = none ∧ ts.length = es.length
  | [], [], _ => by
    refine ⟨pgs_nil.imp fun v σ H Q q => ?_, rfl, rfl, rfl⟩
    obtain ⟨M, st, zs, st', r, rp, e, k⟩ := q
    cases zs with
    | nil =>
      have e : some st = some st' := e
      cases e
      exact ⟨rp, k σ r (fun _ z => z) (fun _ _ => rfl)⟩
    | cons _ _ => cases e
  | t :: ts, e :: es, h => by
    unfold mTgs at h
    rw [Bool.and_eq_true] at h
    obtain ⟨h1, h2⟩ := pg_t hK hc hN hf t e h.1
    obtain ⟨h3, h4, h5, h6⟩ := pgs_t hK hc hN hf ts es h.2
    refine ⟨(pgs_cons h1 h3 (by rw [h2]; rfl)).imp fun v σ H Q q => ?_, by rw [h2, List.length_cons, List.length_cons, h4], by rw [h2, List.findIdx?_cons]; simpa using h5, by rw [List.length_cons, List.length_cons, h6]⟩
    obtain ⟨M, st, zs, st', r, rp, e, k⟩ := q
    cases zs with
    | nil => cases e
    | cons z zs =>
      have e : (match t.set z st with | some st => setL ts zs st | none => none) = some st' := e
      obtain ⟨y, r', ev, q1, q2⟩ := rp
      split at e
      · rename_i s1 e1
        refine ⟨y, r', ev, M, st, z, s1, r, q1, e1, fun σ1 r1 b1 j1 => ?_⟩
        refine ⟨M, s1, zs, st', r1, q2.sub b1, e, fun σ2 r2 b2 j2 => k σ2 r2 (fun b z => b1 b (b2 b z)) fun j hj => ?_⟩
        have hj : j ∉ t.slots ++ Tg.slots.slotsL ts := hj
        rw [List.mem_append, not_or] at hj
        rw [j2 j hj.2, j1 j hj.1]
      · cases e
  | [], _ :: _, h => by cases h
  | _ :: _, [], h => by cases h
end
/-! ### iterators -/
/-- J goes over these items -/
def Walk (C : Cn) (B F : Addr → Prop) (J : It) (xs : List PV) (H0 : Hp) : Prop := ∀ H, Kp F H0 H → (∀ a, H0 a ≠ none → H a ≠ none) →
  (∀ (i : Nat) z, xs[i]? = some z → J.go i H ∧ ∀ x H', J.yld i H x H' → Kp (fun _ => False) H H' ∧ (∀ a, H a ≠ none → H' a ≠ none) ∧ (∀ b o, H b = some o → spec o → H' b = some o) ∧ ∀ B' : Addr → Prop, (∀ a, B' a → B a ∨ H0 a = none) → (∀ a, B' a → H a ≠ none) → Rep C B' H' z x) ∧ J.stop xs.length H
/-- what may be written while the items are walked -/
def wr (fl : Fl) (st : Slots) (σ : L2.St) : Addr → Prop := fun a => fl ≠ .bo ∧ Owns st σ a
def PostI (C : Cn) (T : List NdefX.NTab) (W : WX) (io : Bool) (M : Addr → Prop) (st : Slots) (σ : L2.St) (H : Hp) (r : Rs (Fl × List PV)) (R : It → Hp → Prop) : Prop := match r with
  | .ok y st' => ∀ J ps H', Step C T io (Un M ps) st st' σ H H' → Walk C (Bn (Un M ps) st' σ) (wr y.1 st' σ) J y.2 H' → R J H'
  | .ex c fs st' => ∀ cls d H', Step C T true M st st' σ H H' → ExcR C (Bn M st' σ) H' cls d c fs → W cls d σ H'
  | .bad => False
def tI (Γ : G) (C : Cn) (T : List NdefX.NTab) (W : WX) (it : I) : TI := fun σ H R => ∃ M st, Rel C M st σ H ∧ Tabs T H ∧ PostI C T W (E.io.ioI it) M st σ H (evI Γ it st) R
theorem _root_.L2.PI.imp {tg : Expr} {e : Expr} {t t' : TI} (h : PI X tg e t) (i : ∀ σ H R, t' σ H R → t σ H R) : PI X tg e t' := ⟨fun pins s σ H R I q => h.run pins s σ H R I (i σ H R q)⟩
theorem wr_bn {fl : Fl} {ps : List Addr} : ∀ a, wr fl st σ a → Bn (Un M ps) st σ a := fun a z => .inr z.2
/-- a sequence stays while it is walked -/
theorem seq_walk {fl : Fl} {z : PV} {zs : List PV} {v : V} {ps qs : List Addr} (hK : X.K = C.K) (r : Rel C (Un M ps) st σ H) (q : RL C (Bn (Un M ps) st σ) H [(fl, z)] [v] qs) (hp : ∀ a ∈ qs, a ∈ ps) (e : itemsP z = some zs) :
    ∃ a ys, v = .ref a ∧ Rep.RepL C (Bn (Un M ps) st σ) H zs ys ∧ ((z = .tup zs ∧ ∀ H', Kp (wr fl st σ) H H' → SqT X.K H' a ys) ∨ (listP z = some zs ∧ ∀ H', Kp (wr fl st σ) H H' → SqL X.K H' a ys)) := by
  have rep : Rep C (Bn (Un M ps) st σ) H z v → ∃ a ys, v = .ref a ∧ Rep.RepL C (Bn (Un M ps) st σ) H zs ys ∧ ((z = .tup zs ∧ ∀ H', Kp (wr fl st σ) H H' → SqT X.K H' a ys) ∨ (listP z = some zs ∧ ∀ H', Kp (wr fl st σ) H H' → SqL X.K H' a ys)) := fun h => by
    cases z with
    | lst xs =>
      cases e
      obtain ⟨a, ys, e1, e2, n, rl⟩ := h
      exact ⟨a, ys, e1, rl, .inr ⟨rfl, fun H' k => SqL.of (k a _ e2 (fun z => n (wr_bn a z)) (fun ps z => by cases z))⟩⟩
    | klst xs =>
      cases e
      obtain ⟨a, ys, e1, t, rl⟩ := h
      refine ⟨a, ys, e1, rl, .inr ⟨rfl, fun H' k => ?_⟩⟩
      rw [hK]
      rcases t with ⟨t, n⟩ | t
      · exact .inl (Rd.mv (fun ps z => by cases z) t k (fun z => n (wr_bn a z)))
      · exact .inr t
    | tup xs =>
      cases e
      obtain ⟨a, ys, e1, t, rl⟩ := h
      refine ⟨a, ys, e1, rl, .inl ⟨rfl, fun H' k => ?_⟩⟩
      rw [hK]
      rcases t with ⟨t, n⟩ | t
      · exact .inl (Rd.mv (fun ps z => by cases z) t k (fun z => n (wr_bn a z)))
      · exact .inr t
    | _ => cases e
  have own : ∀ a, v = .ref a → OwnAt C (Bn (Un M ps) st σ) H a z → ¬ wr fl st σ a → ∃ a ys, v = .ref a ∧ Rep.RepL C (Bn (Un M ps) st σ) H zs ys ∧ ((z = .tup zs ∧ ∀ H', Kp (wr fl st σ) H H' → SqT X.K H' a ys) ∨ (listP z = some zs ∧ ∀ H', Kp (wr fl st σ) H H' → SqL X.K H' a ys)) := fun a ev h n => by
    cases z with
    | lst xs =>
      cases e
      obtain ⟨ys, e2, rl⟩ := h
      exact ⟨a, ys, ev, rl, .inr ⟨rfl, fun H' k => SqL.of (k a _ e2 n (fun ps z => by cases z))⟩⟩
    | dic _ => cases e
    | ins _ _ => cases e
    | _ => exact (show False from h).elim
  cases q with
  | sh h _ => exact rep h
  | ow h t =>
    refine own _ rfl h fun z => ?_
    exact r.notOwn (.inr (hp _ List.mem_cons_self)) z.2
  | bo h _ => exact own _ rfl h fun z => z.1 rfl
theorem walk_list {B F : Addr → Prop} {zs : List PV} {ys : List V} {a : Addr} (hF : ∀ a, F a → B a) (rl : Rep.RepL C B H zs ys) (k : ∀ H', Kp F H H' → SqL X.K H' a ys) : Walk C B F (Itl X.K a) zs H := fun H1 kp al => by
  refine ⟨fun i z e => ?_, ⟨ys, k H1 kp, by rw [RepL.length rl]; exact Nat.le_refl _⟩⟩
  obtain ⟨y, e1, r1⟩ := RepL.get rl e
  refine ⟨⟨ys, y, k H1 kp, e1⟩, fun x H' h => ?_⟩
  obtain ⟨eh, h⟩ := h
  subst eh
  have e2 := h ys (k _ kp)
  rw [e1] at e2
  cases e2
  exact ⟨Kp.refl _ _, fun _ h => h, fun _ _ h _ => h, fun B' hB _ => Rep.mv kp hF hB z _ r1⟩
theorem walk_tup {B F : Addr → Prop} {zs : List PV} {ys : List V} {a : Addr} (hF : ∀ a, F a → B a) (rl : Rep.RepL C B H zs ys) (k : ∀ H', Kp F H H' → SqT X.K H' a ys) : Walk C B F (Itt X.K a) zs H := fun H1 kp al => by
  refine ⟨fun i z e => ?_, ⟨ys, k H1 kp, by rw [RepL.length rl]; exact Nat.le_refl _⟩⟩
  obtain ⟨y, e1, r1⟩ := RepL.get rl e
  refine ⟨⟨ys, y, k H1 kp, e1⟩, fun x H' h => ?_⟩
  obtain ⟨eh, h⟩ := h
  subst eh
  have e2 := h ys (k _ kp)
  rw [e1] at e2
  cases e2
  exact ⟨Kp.refl _ _, fun _ h => h, fun _ _ h _ => h, fun B' hB _ => Rep.mv kp hF hB z _ r1⟩
theorem pi_seq {tg l : Expr} {tl : TE} (hl : PE X l tl) : PI X tg l (fun σ H R => tl σ H fun x H1 => ∃ a, x = .ref a ∧ ((∃ xs, SqL X.K H1 a xs ∧ R (Itl X.K a) H1) ∨ ∃ xs, SqT X.K H1 a xs ∧ R (Itt X.K a) H1)) := by
  refine ⟨fun pins s σ H R I h => ?_⟩
  refine thn (hl.run pins s σ H _ I h) fun v s1 ⟨x, H1, I1, r1, q1⟩ => ?_
  obtain ⟨a, e, q⟩ := q1
  subst e
  cases r1
  rcases q with ⟨xs, hq, q⟩ | ⟨xs, hq, q⟩
  · obtain ⟨its, rv, p, hz⟩ := I1.list hq
    refine wpAny_pyIter_list p.isList ?_
    refine ⟨s1.heap.objs.size, [s1.heap.objs.size], _, _, H1, rfl, I1.kept (t' := s1.toks) fun b o e => Heap.get?_push_of_some _ e, turn_list a _, ⟨_, Heap.get?_push_size _ rfl, rfl, rfl⟩, fun b hb => ?_, q⟩
    have e : b = s1.heap.objs.size := by simpa using hb
    subst e
    exact I1.fpOk (Nat.le_refl _) (I1.hok.fresh (Nat.le_refl _))
  · obtain ⟨its, rv, p, hz⟩ := I1.tuple hq
    refine wpAny_pyIter_tuple (show s1.heap.IsTuple a its.toArray from p) ?_
    refine ⟨s1.heap.objs.size, [s1.heap.objs.size], _, _, H1, rfl, I1.kept (t' := s1.toks) fun b o e => Heap.get?_push_of_some _ e, turn_tuple a _, ⟨_, Heap.get?_push_size _ rfl, rfl, rfl⟩, fun b hb => ?_, q⟩
    have e : b = s1.heap.objs.size := by simpa using hb
    subst e
    exact I1.fpOk (Nat.le_refl _) (I1.hok.fresh (Nat.le_refl _))
/-- the results of operands, for an iterator -/
theorem tI_args {it : I} {es : Es} {K : List (Fl × PV) → Slots → Rs (Fl × List PV)} {R : It → Hp → Prop} (h : tI Γ C T W it σ H R) (hev : ∀ st, evI Γ it st = (evEs Γ es st).bind K) (hio : E.io.ioL es = E.io.ioI it) :
    tEs Γ C T W es σ H fun vs H2 => ∃ xs st2 ps, ∃ M st, Step C T (E.io.ioI it) (Un M ps) st st2 σ H H2 ∧ RL C (Bn (Un M ps) st2 σ) H2 xs vs ps ∧ PostI C T W (E.io.ioI it) M st σ H (K xs st2) R := by
  obtain ⟨M, st, r, t, P⟩ := h
  rw [hev] at P
  refine ⟨M, st, r, t, ?_⟩
  rw [hio]
  cases e1 : evEs Γ es st with
  | ok xs st2 =>
    rw [e1] at P
    exact fun vs ps H2 s n f q => ⟨xs, st2, ps, M, st, s, q, P⟩
  | ex c fs st1 => rw [e1] at P; exact P
  | bad => rw [e1] at P; exact P
theorem rsI_of {α β : Type} {r : Rs α} {k k' : α → Slots → Rs β} (h : ∀ a st, k a st = k' a st) : r.bind k = r.bind k' := rs_of h
theorem evI_one (K : Fl × PV → Slots → Rs (Fl × List PV)) : (evE Γ a st).bind K = (evEs Γ (.cons a .nil) st).bind fun xs st => match xs with | [x] => K x st | _ => .bad := by
  show _ = ((evE Γ a st).bind fun x st => (evEs Γ .nil st).bind fun xs st => if wait x.1 (E.io.ioL .nil) then Rs.ok (x :: xs) st else .bad).bind _
  rw [rs_assoc]
  refine rs_of fun x st => ?_
  show _ = (if wait x.1 false = true then Rs.ok [x] st else .bad).bind _
  rw [if_pos (wait_f _)]
  rfl
theorem evI_two (K : Fl × PV → Fl × PV → Slots → Rs (Fl × List PV)) : ((evE Γ a st).bind fun x st => (evE Γ b st).bind fun y st => if wait x.1 b.io then K x y st else .bad) = (evEs Γ (.cons a (.cons b .nil)) st).bind fun xs st => match xs with | [x, y] => K x y st | _ => .bad := by
  show _ = ((evE Γ a st).bind fun x st => (evEs Γ (.cons b .nil) st).bind fun xs st => if wait x.1 (E.io.ioL (.cons b .nil)) then Rs.ok (x :: xs) st else .bad).bind _
  rw [rs_assoc]
  refine rs_of fun x st => ?_
  show _ = (((evE Γ b st).bind fun y st => (evEs Γ .nil st).bind fun xs st => if wait y.1 (E.io.ioL .nil) then Rs.ok (y :: xs) st else .bad).bind fun xs st => if wait x.1 (b.io || false) then Rs.ok (x :: xs) st else .bad).bind _
  rw [rs_assoc, rs_assoc, Bool.or_false]
  refine rs_of fun y st => ?_
  show _ = (if wait y.1 false = true then Rs.ok [y] st else .bad).bind _
  rw [if_pos (wait_f _)]
  show _ = (if wait x.1 b.io = true then Rs.ok [x, y] st else .bad).bind _
  split <;> rfl
/-- for x in a -/
theorem pi_e {tg : Expr} (hK : X.K = C.K) (ha : SE X Γ C T W a A) : PI X tg A (tI Γ C T W (.e a)) := (pi_seq ha.pe).imp fun σ H R h => by
  refine (tEs_one (tI_args (es := .cons a .nil) h (fun st => evI_one _) (by show (a.io || false) = a.io; rw [Bool.or_false]))).mono fun v H1 ⟨xs, st2, ps, M, st, s, q, P⟩ => ?_
  split at P
  · rename_i x
    cases e : itemsP x.2 with
    | none => rw [e] at P; exact (show False from P).elim
    | some zs =>
      rw [e] at P
      obtain ⟨fl, z⟩ := x
      obtain ⟨p, ys, ev, rl, hq⟩ := seq_walk hK s.rel q (fun _ h => h) e
      refine ⟨p, ev, ?_⟩
      rcases hq with ⟨_, k⟩ | ⟨_, k⟩
      · exact .inr ⟨ys, k H1 (Kp.refl _ _), P _ ps H1 s (walk_tup (X := X) wr_bn rl k)⟩
      · exact .inl ⟨ys, k H1 (Kp.refl _ _), P _ ps H1 s (walk_list (X := X) wr_bn rl k)⟩
  · exact P.elim
/-- range -/
theorem range_get {n i : Nat} {f : Nat → PV} {z : PV} (e : ((List.range n).map f)[i]? = some z) : i < n ∧ z = f i := by
  rw [List.getElem?_map] at e
  by_cases h : i < n
  · rw [List.getElem?_range h] at e
    cases e
    exact ⟨h, rfl⟩
  · rw [List.getElem?_eq_none (by rw [List.length_range]; omega)] at e
    cases e
theorem walk_range {B F : Addr → Prop} {lo : Int} {n : Nat} : Walk C B F (Itr lo n) ((List.range n).map fun (i : Nat) => PV.int (lo + i)) H := fun H1 kp al => by
  refine ⟨fun i z e => ?_, by rw [List.length_map, List.length_range]; exact Nat.le_refl _⟩
  obtain ⟨h, e⟩ := range_get e
  subst e
  refine ⟨h, fun x H' q => ?_⟩
  obtain ⟨eh, ex⟩ := q
  subst eh ex
  exact ⟨Kp.refl _ _, fun _ h => h, fun _ _ h _ => h, fun _ _ _ => rfl⟩
theorem walk_rangeC {B F : Addr → Prop} {lo c : Int} {n : Nat} : Walk C B F (Itc lo c n) ((List.range n).map fun (i : Nat) => PV.int (lo + i * c)) H := fun H1 kp al => by
  refine ⟨fun i z e => ?_, by rw [List.length_map, List.length_range]; exact Nat.le_refl _⟩
  obtain ⟨h, e⟩ := range_get e
  subst e
  refine ⟨h, fun x H' q => ?_⟩
  obtain ⟨eh, ex⟩ := q
  subst eh ex
  exact ⟨Kp.refl _ _, fun _ h => h, fun _ _ h _ => h, fun _ _ _ => rfl⟩
theorem lim_eq : lim = 2 ^ 62 := by decide
theorem pi_rng1 {tg : Expr} (ok : XOk Dt X Γ C T W) (hg : Gl X "range") (ht : ("range" : Str) ∈ Dt.blts) (ha : SE X Γ C T W a A) : PI X tg (.Call (.Name "range" p) [A] [] pos) (tI Γ C T W (.rng1 a)) :=
  (pi_range1 hg (ok.fr _ ht) (pa_cons ha.pe pa_nil (ha.st _ _)) (ha.st _ _)).imp fun σ H R h => by
    refine (tEs_one (tI_args (es := .cons a .nil) h (fun st => evI_one _) (by show (a.io || false) = a.io; rw [Bool.or_false]))).mono fun v H1 ⟨xs, st2, ps, M, st, s, q, P⟩ => ?_
    split at P
    · rename_i x
      obtain ⟨v', e2, o⟩ := q.ops.one
      cases e2
      obtain ⟨fl, z⟩ := x
      cases z with
      | int n =>
        unfold rangeP at P
        dsimp only [intP] at P
        split at P
        · rename_i zs e
          split at e
          · rename_i hz
            cases e
            rw [lim_eq] at hz
            refine ⟨n, by rw [o.int], hz.2.2.1, hz.2.2.2, P _ ps H1 s ?_⟩
            have := walk_range (C := C) (B := Bn (Un M ps) st2 σ) (F := wr .sh st2 σ) (lo := 0) (n := (n - 0).toNat) (H := H1)
            rw [Int.sub_zero] at this
            simpa using this
          · cases e
        · exact P.elim
      | _ => exact (show False from P).elim
    · exact P.elim
theorem pi_rng2 {tg : Expr} (ok : XOk Dt X Γ C T W) (hg : Gl X "range") (ht : ("range" : Str) ∈ Dt.blts) (ha : SE X Γ C T W a A) (hb : SE X Γ C T W b B) : PI X tg (.Call (.Name "range" p) [A, B] [] pos) (tI Γ C T W (.rng2 a b)) :=
  (pi_range2 hg (ok.fr _ ht) (pa_cons ha.pe (pa_cons hb.pe pa_nil (hb.st _ _)) (ha.st _ _)) (by rw [ha.st, hb.st]; rfl) (hb.st _ _)).imp fun σ H R h => by
    refine (tEs_two (tI_args (es := .cons a (.cons b .nil)) (K := fun xs st => match xs with
      | [x, y] => (match intP x.2, intP y.2 with
        | some m, some n => match rangeP m n with
          | some xs => .ok (.sh, xs) st
          | none => .bad
        | _, _ => .bad)
      | _ => .bad) h (fun st => evI_two _) (by show (a.io || (b.io || false)) = (a.io || b.io); rw [Bool.or_false]))).mono fun v H1 h => h.mono fun w H2 ⟨xs, st2, ps, M, st, s, q, P⟩ => ?_
    · split at P
      · rename_i x y
        obtain ⟨v', w', e2, o1, o2⟩ := q.ops.two
        cases e2
        obtain ⟨fl, z⟩ := x
        obtain ⟨fl2, z2⟩ := y
        cases z with
        | int m =>
          cases z2 with
          | int n =>
            unfold rangeP at P
            dsimp only [intP] at P
            split at P
            · rename_i zs e
              split at e
              · rename_i hz
                cases e
                rw [lim_eq] at hz
                exact ⟨m, n, by rw [o1.int, o2.int], hz, P _ ps H2 s walk_range⟩
              · cases e
            · exact P.elim
          | _ => exact (show False from P).elim
        | _ => exact (show False from P).elim
      · exact P.elim
/-- an int that is written -/
def mInt (c : Int) : Expr → Bool
  | .Constant (.int i) _ _ => c == i
  | .UnaryOp .USub (.Constant (.int i) _ _) _ => c == -i
  | _ => false
theorem mInt_ok {c : Int} {e : Expr} (h : mInt c e = true) : PE X e (tC (.int c)) ∧ ∀ env rest, starEach (e :: rest) env = (false, eval e env) :: starEach rest env := by
  unfold mInt at h
  split at h
  · rw [beq_iff_eq] at h
    subst h
    exact ⟨pe_int, fun _ _ => rfl⟩
  · rw [beq_iff_eq] at h
    subst h
    exact ⟨(pe_un un_neg pe_int).imp fun σ H Q q => ⟨_, rfl, q⟩, fun _ _ => rfl⟩
  · cases h
theorem rgC2 {i j : Int} (ha : -(2 ^ 62) ≤ i) (ha' : i < 2 ^ 62) (hb : -(2 ^ 62) ≤ j) (hb' : j < 2 ^ 62) : RgC i j 2 (if i < j then (j - i - 1) / 2 + 1 else 0).toNat := by
  refine ⟨by decide, by decide, ?_, ?_⟩
  · have hs : Builtin.Range.rangeSize i j 2 = if i < j then (j - i - 1) / 2 + 1 else 0 := by
      unfold Builtin.Range.rangeSize
      rw [if_pos (by decide)]
    unfold Builtin.Range.small
    rw [hs]
    have f : ∀ x : Int, -(2 ^ 63) ≤ x → x < 2 ^ 63 → Builtin.Range.rangeFitsLong x = true := fun x h1 h2 => by
      unfold Builtin.Range.rangeFitsLong
      simp only [Bool.and_eq_true, decide_eq_true_eq]
      omega
    rw [f i (by omega) (by omega), f j (by omega) (by omega), f 2 (by omega) (by omega), f _ (by split <;> omega) (by split <;> omega), if_pos (show (2 : Int) > 0 by decide), f (j + (2 - 1)) (by omega) (by omega), Bool.or_true]
    rfl
  · unfold Builtin.Range.rangeSize
    rw [if_pos (by decide)]
    split <;> omega
theorem pi_rng3 {tg : Expr} {k : Int} (ok : XOk Dt X Γ C T W) (hg : Gl X "range") (ht : ("range" : Str) ∈ Dt.blts) (hk : mInt k D = true) (ha : SE X Γ C T W a A) (hb : SE X Γ C T W b B) : PI X tg (.Call (.Name "range" p) [A, B, D] [] pos) (tI Γ C T W (.rng3 a b k)) := by
  obtain ⟨h1, h2⟩ := mInt_ok (X := X) hk
  refine (pi_range3 hg (ok.fr _ ht) (pa_cons ha.pe (pa_cons hb.pe (pa_cons h1 pa_nil (h2 _ _)) (hb.st _ _)) (ha.st _ _)) (ha.st _ _) (by rw [hb.st, h2]; rfl)).imp fun σ H R h => ?_
  refine (tEs_two (tI_args (es := .cons a (.cons b .nil)) (K := fun xs st => match xs with
      | [x, y] => (match intP x.2, intP y.2 with
        | some m, some n => match rangeP3 m n k with
          | some xs => .ok (.sh, xs) st
          | none => .bad
        | _, _ => .bad)
      | _ => .bad) h (fun st => evI_two _) (by show (a.io || (b.io || false)) = (a.io || b.io); rw [Bool.or_false]))).mono fun v H1 h => h.mono fun w H2 ⟨xs, st2, ps, M, st, s, q, P⟩ => ?_
  split at P
  · rename_i x y
    obtain ⟨v', w', e2, o1, o2⟩ := q.ops.two
    cases e2
    obtain ⟨fl, z⟩ := x
    obtain ⟨fl2, z2⟩ := y
    cases z with
    | int m =>
      cases z2 with
      | int n =>
        dsimp only [intP] at P
        split at P
        · rename_i zs e
          unfold rangeP3 at e
          split at e
          · rename_i hk
            subst hk
            unfold rangeDn at e
            split at e
            · rename_i hz
              cases e
              rw [lim_eq] at hz
              exact ⟨m, n, -1, _, by rw [o1.int, o2.int], RgC.neg hz.1 hz.2.1 hz.2.2.1 hz.2.2.2, P _ ps H2 s walk_rangeC⟩
            · cases e
          · split at e
            · rename_i hk
              subst hk
              unfold rangeP2 at e
              split at e
              · rename_i hz
                cases e
                rw [lim_eq] at hz
                exact ⟨m, n, 2, _, by rw [o1.int, o2.int], rgC2 hz.1 hz.2.1 hz.2.2.1 hz.2.2.2, P _ ps H2 s walk_rangeC⟩
              · cases e
            · cases e
        · exact P.elim
      | _ => exact (show False from P).elim
    | _ => exact (show False from P).elim
  · exact P.elim
/-- a new pair -/
theorem pair_new {B B0 : Addr → Prop} {x y : PV} {v w : V} {q : Addr} (h : ∀ B' : Addr → Prop, (∀ a, B' a → B a ∨ H a = none) → Rep C B' H1 x v ∧ Rep C B' H1 y w) (hq : H1 q = none) :
    Kp (fun _ => False) H1 (L2.upd H1 q (.tup [v, w])) ∧ (∀ a, H1 a ≠ none → L2.upd H1 q (.tup [v, w]) a ≠ none) ∧ (∀ b o, H1 b = some o → spec o → L2.upd H1 q (.tup [v, w]) b = some o) ∧
      ∀ B' : Addr → Prop, (∀ a, B' a → B a ∨ H a = none) → (∀ a, B' a → H1 a ≠ none) → Rep C B' (L2.upd H1 q (.tup [v, w])) (.tup [x, y]) (.ref q) := by
  have k : Kp (fun _ => False) H1 (L2.upd H1 q (.tup [v, w])) := Kp.updF hq
  refine ⟨k, fun a => Mi.upd_al a, fun b o e _ => by rw [upd_ne (ne_of_none e hq)]; exact e, fun B' hB hA => ⟨q, [v, w], rfl, .inl ⟨.inl upd_same, fun z => hA q z hq⟩, ?_⟩⟩
  obtain ⟨h1, h2⟩ := h B' hB
  exact ⟨v, [w], rfl, Rep.mv k (fun _ z => z.elim) (fun a z => .inl z) x v h1, w, [], rfl, Rep.mv k (fun _ z => z.elim) (fun a z => .inl z) y w h2, rfl⟩
theorem bn_al {ps : List Addr} (r : Rel C (Un M ps) st σ H) : ∀ a, Bn (Un M ps) st σ a → H a ≠ none := fun a z => by
  obtain ⟨o, e, _⟩ := r.bnSome z
  rw [e]
  exact fun z => by cases z
theorem boot_enum' : True := trivial
/-- enumerate -/
theorem pi_en {es : List Expr} {k : Nat} {tp : Pos} (ok : XOk Dt X Γ C T W) (hg : Gl X "enumerate") (ht : ("enumerate" : Str) ∈ Dt.blts) (ha : SE X Γ C T W a A) : PI X (.Tuple es k tp) (.Call (.Name "enumerate" p) [A] [] pos) (tI Γ C T W (.enum a)) :=
  (pi_enum hg (ok.fr _ ht) (pa_cons ha.pe pa_nil (ha.st _ _)) (ha.st _ _)).imp fun σ H R h => by
    refine (tEs_one (tI_args (es := .cons a .nil) h (fun st => evI_one _) (by show (a.io || false) = a.io; rw [Bool.or_false]))).mono fun v H1 ⟨xs, st2, ps, M, st, s, q, P⟩ => ?_
    split at P
    · rename_i x
      obtain ⟨fl, z⟩ := x
      cases e : listP z with
      | none => dsimp only at P; rw [e] at P; exact (show False from P).elim
      | some zs =>
        dsimp only at P
        rw [e] at P
        have ei : itemsP z = some zs := by
          cases z <;> first | exact e | cases e
        obtain ⟨p, ys, ev, rl, hq⟩ := seq_walk ok.hK s.rel q (fun _ h => h) ei
        rcases hq with ⟨ez, _⟩ | ⟨_, k⟩
        · subst ez; cases e
        · refine ⟨p, ys, by rw [ev], k H1 (Kp.refl _ _), P _ ps H1 s fun H2 kp al => ⟨fun i z e => ?_, ⟨ys, k H2 kp, by simp [RepL.length rl]⟩⟩⟩
          rw [List.getElem?_map, List.getElem?_zipIdx] at e
          cases eg : zs[i]? with
          | none => rw [eg] at e; cases e
          | some u =>
            rw [eg] at e
            cases e
            obtain ⟨y, e1, r1⟩ := RepL.get rl eg
            refine ⟨⟨ys, y, k H2 kp, e1⟩, fun x H' h => ?_⟩
            obtain ⟨t, y', e2, e3, e4, h⟩ := h
            have e5 := h ys (k _ kp)
            rw [e1] at e5
            cases e5
            subst e2 e4
            have := pair_new (B0 := fun _ => False) (B := Bn (Un M ps) st2 σ) (H := H1) (x := .int (i : Nat)) (y := u) (v := .int (i : Nat)) (fun B' hB => ⟨rfl, Rep.mv kp wr_bn hB u _ r1⟩) e3
            simpa using this
    · exact P.elim
/-- zip -/
theorem zipP_some {x y : PV} {zs : List PV} (e : zipP x y = some zs) : ∃ xs ys, zs = ((xs.zip ys).map fun p => .tup [p.1, p.2]) ∧ ((listP x = some xs ∧ listP y = some ys) ∨ (x = .tup xs ∧ y = .tup ys)) := by
  unfold zipP at e
  split at e
  · rename_i xs ys h1 h2
    cases e
    exact ⟨xs, ys, rfl, .inl ⟨h1, h2⟩⟩
  · split at e
    · cases e
      exact ⟨_, _, rfl, .inr ⟨rfl, rfl⟩⟩
    · cases e
theorem list_items {z : PV} {zs : List PV} (e : listP z = some zs) : itemsP z = some zs := by
  cases z <;> first | exact e | cases e
theorem wr_le {f g h : Fl} (hf : h ≠ .bo → f ≠ .bo) : ∀ a, wr h st σ a → wr f st σ a := fun a z => ⟨hf z.1, z.2⟩
theorem RL.two' {B : Addr → Prop} {x y : Fl × PV} {v w : V} {ps : List Addr} (h : RL C B H [x, y] [v, w] ps) : ∃ qs rs, RL C B H [x] [v] qs ∧ RL C B H [y] [w] rs ∧ (∀ a ∈ qs, a ∈ ps) ∧ (∀ a ∈ rs, a ∈ ps) := by
  cases h with
  | sh r t => exact ⟨_, _, .sh r .nil, t, fun _ z => absurd z (by simp), fun _ z => z⟩
  | ow r t => exact ⟨_, _, .ow r .nil, t, fun b z => by rw [List.mem_singleton.mp z]; exact List.mem_cons_self, fun _ z => List.mem_cons_of_mem _ z⟩
  | bo r t => exact ⟨_, _, .bo r .nil, t, fun _ z => absurd z (by simp), fun _ z => z⟩
theorem zip_get {xs ys : List PV} {vs ws : List V} {B : Addr → Prop} {i : Nat} {z : PV} (r1 : Rep.RepL C B H xs vs) (r2 : Rep.RepL C B H ys ws) (e : ((xs.zip ys).map fun p => PV.tup [p.1, p.2])[i]? = some z) : ∃ x y v w, z = .tup [x, y] ∧ vs[i]? = some v ∧ ws[i]? = some w ∧ Rep C B H x v ∧ Rep C B H y w := by
  rw [List.getElem?_map] at e
  cases eg : (xs.zip ys)[i]? with
  | none => rw [eg] at e; cases e
  | some p =>
    rw [eg] at e
    cases e
    obtain ⟨e1, e2⟩ := List.getElem?_zip_eq_some.mp eg
    obtain ⟨v, q1, q2⟩ := RepL.get r1 e1
    obtain ⟨w, q3, q4⟩ := RepL.get r2 e2
    exact ⟨_, _, v, w, rfl, q1, q3, q2, q4⟩
theorem pi_zp {es : List Expr} {k : Nat} {tp : Pos} (ok : XOk Dt X Γ C T W) (hg : Gl X "zip") (ht : ("zip" : Str) ∈ Dt.blts) (ha : SE X Γ C T W a A) (hb : SE X Γ C T W b B) : PI X (.Tuple es k tp) (.Call (.Name "zip" p) [A, B] [] pos) (tI Γ C T W (.zip2 a b)) :=
  (RZ.pi_zipA hg (ok.fr _ ht) (pa_cons ha.pe (pa_cons hb.pe pa_nil (hb.st _ _)) (ha.st _ _)) (ha.st _ _) (by rw [hb.st]; rfl)).imp fun σ H R h => by
    refine (tEs_two (tI_args (es := .cons a (.cons b .nil)) (K := fun xs st => match xs with
      | [x, y] => (match zipP x.2 y.2 with
        | some zs => .ok (if x.1 = .bo ∨ y.1 = .bo then .bo else .sh, zs) st
        | none => .bad)
      | _ => .bad) h (fun st => evI_two _) (by show (a.io || (b.io || false)) = (a.io || b.io); rw [Bool.or_false]))).mono fun v H1 h => h.mono fun w H2 ⟨xs, st2, ps, M, st, s, q, P⟩ => ?_
    split at P
    · rename_i x y
      cases e : zipP x.2 y.2 with
      | none => rw [e] at P; exact (show False from P).elim
      | some zs =>
        rw [e] at P
        obtain ⟨fx, x⟩ := x
        obtain ⟨fy, y⟩ := y
        obtain ⟨us, ws, ez, hc⟩ := zipP_some e
        subst ez
        obtain ⟨qs, rs, q1, q2, i1, i2⟩ := q.two'
        have ex : itemsP x = some us ∧ itemsP y = some ws := by
          rcases hc with ⟨h1, h2⟩ | ⟨h1, h2⟩
          · exact ⟨list_items h1, list_items h2⟩
          · subst h1 h2; exact ⟨rfl, rfl⟩
        obtain ⟨p1, y1, ev1, rl1, k1⟩ := seq_walk ok.hK s.rel q1 i1 ex.1
        obtain ⟨p2, y2, ev2, rl2, k2⟩ := seq_walk ok.hK s.rel q2 i2 ex.2
        have w1 : ∀ a, wr (if fx = .bo ∨ fy = .bo then .bo else .sh) st2 σ a → wr fx st2 σ a := fun a z => ⟨fun h => z.1 (by rw [if_pos (.inl h)]), z.2⟩
        have w2 : ∀ a, wr (if fx = .bo ∨ fy = .bo then .bo else .sh) st2 σ a → wr fy st2 σ a := fun a z => ⟨fun h => z.1 (by rw [if_pos (.inr h)]), z.2⟩
        have len : ∀ {vs' : List V} {ws' : List V}, vs'.length = us.length → ws'.length = ws.length → vs'.length ≤ ((us.zip ws).map fun p => PV.tup [p.1, p.2]).length ∨ ws'.length ≤ ((us.zip ws).map fun p => PV.tup [p.1, p.2]).length := fun h1 h2 => by
          rw [List.length_map, List.length_zip, h1, h2]
          omega
        have kL : listP x = some us → listP y = some ws → (∀ H', Kp (wr fx st2 σ) H2 H' → SqL X.K H' p1 y1) ∧ ∀ H', Kp (wr fy st2 σ) H2 H' → SqL X.K H' p2 y2 := fun h1 h2 => by
          refine ⟨k1.elim (fun z => ?_) (fun z => z.2), k2.elim (fun z => ?_) (fun z => z.2)⟩
          · rw [z.1] at h1; cases h1
          · rw [z.1] at h2; cases h2
        refine ⟨p1, p2, y1, y2, by rw [ev1, ev2], ?_⟩
        rcases hc with ⟨h1, h2⟩ | ⟨h1, h2⟩
        · obtain ⟨k1, k2⟩ := kL h1 h2
          refine .inl ⟨k1 _ (Kp.refl _ _), k2 _ (Kp.refl _ _), P _ ps H2 s fun H3 kp al => ?_⟩
          have ka := k1 H3 (kp.mono w1)
          have kb := k2 H3 (kp.mono w2)
          refine ⟨fun i z e => ?_, y1, y2, ka, kb, len (RepL.length rl1) (RepL.length rl2)⟩
          obtain ⟨x', y', v', w', ez, e1, e2, r1, r2⟩ := zip_get rl1 rl2 e
          subst ez
          refine ⟨⟨y1, y2, v', w', ka, kb, e1, e2⟩, fun u H' hy => ?_⟩
          obtain ⟨t, a', b', e3, e4, e5, e6, e7⟩ := hy
          have e6 := e6 y1 ka
          have e7 := e7 y2 kb
          rw [e1] at e6
          rw [e2] at e7
          cases e6
          cases e7
          subst e3 e5
          exact pair_new (B0 := fun _ => False) (H := H2) (fun B' hB => ⟨Rep.mv kp wr_bn hB _ _ r1, Rep.mv kp wr_bn hB _ _ r2⟩) e4
        · have h1 : x = .tup us := h1
          have h2 : y = .tup ws := h2
          have k1 : ∀ H', Kp (wr fx st2 σ) H2 H' → SqT X.K H' p1 y1 := k1.elim (fun z => z.2) (fun z => by rw [h1] at z; cases z.1)
          have k2 : ∀ H', Kp (wr fy st2 σ) H2 H' → SqT X.K H' p2 y2 := k2.elim (fun z => z.2) (fun z => by rw [h2] at z; cases z.1)
          refine .inr ⟨k1 _ (Kp.refl _ _), k2 _ (Kp.refl _ _), P _ ps H2 s fun H3 kp al => ?_⟩
          have ka := k1 H3 (kp.mono w1)
          have kb := k2 H3 (kp.mono w2)
          refine ⟨fun i z e => ?_, y1, y2, ka, kb, len (RepL.length rl1) (RepL.length rl2)⟩
          obtain ⟨x', y', v', w', ez, e1, e2, r1, r2⟩ := zip_get rl1 rl2 e
          subst ez
          refine ⟨⟨y1, y2, v', w', ka, kb, e1, e2⟩, fun u H' hy => ?_⟩
          obtain ⟨t, a', b', e3, e4, e5, e6, e7⟩ := hy
          have e6 := e6 y1 ka
          have e7 := e7 y2 kb
          rw [e1] at e6
          rw [e2] at e7
          cases e6
          cases e7
          subst e3 e5
          exact pair_new (B0 := fun _ => False) (H := H2) (fun B' hB => ⟨Rep.mv kp wr_bn hB _ _ r1, Rep.mv kp wr_bn hB _ _ r2⟩) e4
    · exact P.elim
end
end Mi

/-! Mi13: list comprehensions. -/
namespace Mi
open PySem PySem.Spec PyProof.Rows L2

section
variable {Dt : Dat} {X : Cx} {Γ : G} {C : Cn} {T : List NdefX.NTab} {W : WX} {a b c : E} {as : Es} {A B D : Expr} {As : List Expr} {pos p : Pos} {x : Str} {σ σ' : L2.St} {H H' H1 H2 : Hp} {Q : VK} {M : Addr → Prop} {st st' st1 st2 : Slots} {io : Bool}
theorem wipeS_at : ∀ (is : List Nat) (st : Slots) (j : Nat), (wipeS st is)[j]? = if j ∈ is then st[j]?.map (fun _ => Sl.no) else st[j]?
  | [], st, j => by simp [wipeS]
  | i :: is, st, j => by
    unfold wipeS
    rw [List.getElem?_set, wipeS_at is st j]
    by_cases h : i = j
    · subst h
      have hl : (wipeS st is).length = st.length := by
        have : ∀ is : List Nat, (wipeS st is).length = st.length := fun is => by
          induction is with
          | nil => rfl
          | cons i is ih => unfold wipeS; rw [List.length_set, ih]
        exact this is
      rw [if_pos rfl, if_pos List.mem_cons_self, hl]
      by_cases h2 : i < st.length
      · rw [if_pos h2, List.getElem?_eq_getElem h2]; rfl
      · rw [if_neg h2, List.getElem?_eq_none (by omega)]; rfl
    · rw [if_neg h]
      have : j ∈ i :: is ↔ j ∈ is := ⟨fun z => (List.mem_cons.mp z).elim (fun z => absurd z.symm h) id, List.mem_cons_of_mem _⟩
      simp only [this]
theorem wipe_at : ∀ (is : List Nat) (σ : L2.St) (j : Nat), (wipe σ is)[j]? = if j ∈ is then σ[j]?.map (fun _ => none) else σ[j]?
  | [], σ, j => by simp [wipe]
  | i :: is, σ, j => by
    unfold wipe
    rw [List.getElem?_set, wipe_at is σ j]
    by_cases h : i = j
    · subst h
      rw [if_pos rfl, if_pos List.mem_cons_self, wipe_length]
      by_cases h2 : i < σ.length
      · rw [if_pos h2, List.getElem?_eq_getElem h2]; rfl
      · rw [if_neg h2, List.getElem?_eq_none (by omega)]; rfl
    · rw [if_neg h]
      have : j ∈ i :: is ↔ j ∈ is := ⟨fun z => (List.mem_cons.mp z).elim (fun z => absurd z.symm h) id, List.mem_cons_of_mem _⟩
      simp only [this]
theorem backS_at (st0 : Slots) : ∀ (is : List Nat) (st : Slots) (j : Nat), (backS st0 st is)[j]? = if j ∈ is then st[j]?.map (fun _ => st0[j]?.getD .no) else st[j]?
  | [], st, j => by simp [backS]
  | i :: is, st, j => by
    unfold backS
    rw [List.getElem?_set, backS_at st0 is st j]
    have hl : (backS st0 st is).length = st.length := by
      have : ∀ is : List Nat, (backS st0 st is).length = st.length := fun is => by
        induction is with
        | nil => rfl
        | cons i is ih => unfold backS; rw [List.length_set, ih]
      exact this is
    by_cases h : i = j
    · subst h
      rw [if_pos rfl, if_pos List.mem_cons_self, hl]
      by_cases h2 : i < st.length
      · rw [if_pos h2, List.getElem?_eq_getElem (l := st) h2]; rfl
      · rw [if_neg h2, List.getElem?_eq_none (l := st) (by omega)]; rfl
    · rw [if_neg h]
      have : j ∈ i :: is ↔ j ∈ is := ⟨fun z => (List.mem_cons.mp z).elim (fun z => absurd z.symm h) id, List.mem_cons_of_mem _⟩
      simp only [this]
theorem len_of_at {α β : Type} {l : List α} {m : List β} (h : ∀ j : Nat, l[j]? = none ↔ m[j]? = none) : l.length = m.length := by
  have h1 : m.length ≤ l.length := by
    have := (h l.length).mp (List.getElem?_eq_none (Nat.le_refl _))
    exact List.getElem?_eq_none_iff.mp this
  have h2 : l.length ≤ m.length := by
    have := (h m.length).mpr (List.getElem?_eq_none (Nat.le_refl _))
    exact List.getElem?_eq_none_iff.mp this
  omega
theorem wipeS_len (is : List Nat) (st : Slots) : (wipeS st is).length = st.length := len_of_at fun j => by
  rw [wipeS_at]
  split
  · rw [Option.map_eq_none_iff]
  · exact Iff.rfl
theorem backS_len (st0 : Slots) (is : List Nat) (st : Slots) : (backS st0 st is).length = st.length := len_of_at fun j => by
  rw [backS_at]
  split
  · rw [Option.map_eq_none_iff]
  · exact Iff.rfl
theorem wipeS_idem (is : List Nat) (st : Slots) : wipeS (wipeS st is) is = wipeS st is := List.ext_getElem? fun j => by
  rw [wipeS_at, wipeS_at]
  split
  · cases st[j]? <;> rfl
  · rfl
theorem wipe_idem (is : List Nat) (σ : L2.St) : wipe (wipe σ is) is = wipe σ is := List.ext_getElem? fun j => by
  rw [wipe_at, wipe_at]
  split
  · cases σ[j]? <;> rfl
  · rfl
theorem wipe_eq {is : List Nat} {σ σ' : L2.St} (h : ∀ j, j ∉ is → σ'[j]? = σ[j]?) (hl : σ'.length = σ.length) : wipe σ' is = wipe σ is := List.ext_getElem? fun j => by
  rw [wipe_at, wipe_at]
  split
  · by_cases h2 : j < σ.length
    · rw [List.getElem?_eq_getElem h2, List.getElem?_eq_getElem (by rw [hl]; exact h2)]; rfl
    · rw [List.getElem?_eq_none (l := σ') (by omega), List.getElem?_eq_none (l := σ) (by omega)]
  · rename_i n
    exact h j n
theorem owns_wipe {is : List Nat} {b : Addr} (o : Owns (wipeS st is) (wipe σ is) b) : ∃ j v, j ∉ is ∧ st[j]? = some (.ow v) ∧ σ[j]? = some (some (.ref b)) := by
  obtain ⟨j, v, e1, e2⟩ := o
  rw [wipeS_at] at e1
  rw [wipe_at] at e2
  by_cases h : j ∈ is
  · rw [if_pos h] at e1
    cases e : st[j]? with
    | none => rw [e] at e1; cases e1
    | some s => rw [e] at e1; cases e1
  · rw [if_neg h] at e1 e2
    exact ⟨j, v, h, e1, e2⟩
theorem bn_wipe {is : List Nat} : ∀ b, Bn M (wipeS st is) (wipe σ is) b → Bn M st σ b := fun b z => z.elim .inl fun z => by
  obtain ⟨j, v, _, e1, e2⟩ := owns_wipe z
  exact .inr ⟨j, v, e1, e2⟩
theorem Rel.wipeR (r : Rel C M st σ H) (is : List Nat) : Rel C M (wipeS st is) (wipe σ is) H := by
  have at1 : ∀ (j : Nat) (s : Sl), (wipeS st is)[j]? = some s → s ≠ .no → j ∉ is ∧ st[j]? = some s ∧ (wipe σ is)[j]? = σ[j]? := fun j s e ne => by
    rw [wipeS_at] at e
    by_cases h : j ∈ is
    · rw [if_pos h] at e
      cases q : st[j]? with
      | none => rw [q] at e; cases e
      | some u => rw [q] at e; cases e; exact absurd rfl ne
    · rw [if_neg h] at e
      exact ⟨h, e, by rw [wipe_at, if_neg h]⟩
  refine ⟨by rw [wipeS_len, wipe_length]; exact r.len, fun j v e => ?_, fun j v e => ?_, fun j k v u b q1 q2 q3 q4 => ?_, r.al⟩
  · obtain ⟨_, e1, e2⟩ := at1 j _ e (fun z => by cases z)
    rw [e2]
    obtain ⟨w, q1, q2⟩ := r.sh j v e1
    exact ⟨w, q1, q2.sub bn_wipe⟩
  · obtain ⟨_, e1, e2⟩ := at1 j _ e (fun z => by cases z)
    rw [e2]
    obtain ⟨w, q1, q2, q3⟩ := r.ow j v e1
    exact ⟨w, q1, q2.sub bn_wipe, q3⟩
  · obtain ⟨_, e1, e2⟩ := at1 j _ q1 (fun z => by cases z)
    obtain ⟨_, e3, e4⟩ := at1 k _ q2 (fun z => by cases z)
    rw [e2] at q3
    rw [e4] at q4
    exact r.inj j k v u b e1 e3 q3 q4

/-- the tests of a comprehension -/
def tCs (Γ : G) (C : Cn) (T : List NdefX.NTab) (W : WX) (c : Es) : TT := fun σ H Q => tEs Γ C T W c σ H fun vs H' => (vs = [] ∧ Q true H') ∨ ∃ k, vs = [.bl k] ∧ Q k H'
theorem pts_c0 : PTs X [] (tCs Γ C T W .nil) := ⟨fun pins s σ H Q I h => pts_nil.run pins s σ H Q I (by
  rcases tEs_nil h with ⟨_, q⟩ | ⟨k, e, _⟩
  · exact q
  · cases e)⟩
theorem pts_c1 (h : SE X Γ C T W a A) : PTs X [A] (tCs Γ C T W (.cons a .nil)) := ⟨fun pins s σ H Q I q => (pts_one h.pt).run pins s σ H Q I ((tEs_one q).mono fun v H1 h => by
  rcases h with ⟨e, _⟩ | ⟨k, e, q⟩
  · cases e
  · cases e; exact ⟨k, rfl, q⟩)⟩
/-- one turn, by values -/
def lcStep (Γ : G) (t : Tg) (c : Es) (e : E) (x : PV) (st : Slots) : Rs (Option PV) := match t.set x (wipeS st t.slots) with
  | some st => (evEs Γ c st).bind fun b st => match valsOf b with
    | [] | [.bl true] => (evE Γ e st).bind fun y st => if keepV y.1 then .ok (some y.2) (wipeS st t.slots) else .bad
    | [.bl false] => .ok none (wipeS st t.slots)
    | _ => .bad
  | none => .bad
def WF : WX := fun _ _ _ _ => False
theorem rs_ok {α β : Type} {r : Rs α} {k : α → Slots → Rs β} {y : β} {s : Slots} (h : r.bind k = .ok y s) : ∃ a s1, r = .ok a s1 ∧ k a s1 = .ok y s := by
  cases r with
  | ok a s1 => exact ⟨a, s1, rfl, h⟩
  | ex c fs s1 => cases h
  | bad => cases h
theorem spec_tabs (t : Tabs T H) (h : ∀ b o, H b = some o → spec o → H' b = some o) : Tabs T H' := t.mv h
/-- the turns -/
structure LcI (Γ : G) (C : Cn) (T : List NdefX.NTab) (t : Tg) (c : Es) (e : E) (zs : List PV) (M1 F : Addr → Prop) (st1 : Slots) (σ : L2.St) (H1 : Hp) (L : Addr) (ys : List PV) (stf : Slots) (i : Nat) (H : Hp) : Prop where
  ex : ∃ (sti : Slots) (accP : List PV) (accV : List V) (ysr : List PV), Rel C (Un M1 [L]) (wipeS sti t.slots) (wipe σ t.slots) H ∧ H L = some (.lst accV) ∧ Rep.RepL C (Bn (Un M1 [L]) (wipeS sti t.slots) (wipe σ t.slots)) H accP accV ∧
    lcRun (lcStep Γ t c e) (zs.drop i) sti = .ok ysr stf ∧ accP ++ ysr = ys ∧ accP.length ≤ i ∧ (∀ a, Owns (wipeS sti t.slots) (wipe σ t.slots) a → Owns st1 σ a)
  kp : Kp F H1 H
  al : ∀ a, H1 a ≠ none → H a ≠ none
  tab : Tabs T H
theorem lc_turn {t : Tg} {c : Es} {e : E} {zs : List PV} {M1 F B0 : Addr → Prop} {L : Addr} {ys : List PV} {stf : Slots} {i : Nat} {z : PV} {J : It} {R : Hp → Prop} (hz : zs[i]? = some z) (hbig : zs.length ≤ big) (I : LcI Γ C T t c e zs M1 F st1 σ H1 L ys stf i H)
    (hF : ∀ a, (E.io.ioL c || e.io) = true → Owns st1 σ a → F a) (hL : H1 L = none) (hB : ∀ a, Bn M1 st1 σ a → B0 a)
    {x : V} (k1 : Kp (fun _ => False) H H') (k2 : ∀ a, H a ≠ none → H' a ≠ none) (k3 : ∀ b o, H b = some o → spec o → H' b = some o) (k4 : ∀ B' : Addr → Prop, (∀ a, B' a → B0 a ∨ H1 a = none) → (∀ a, B' a → H a ≠ none) → Rep C B' H' z x) :
    tG C t x (wipe σ t.slots) H' fun σ2 H2 => wipe σ2 t.slots = wipe σ t.slots ∧ tCs Γ C T WF c σ2 H2 fun b H3 =>
      if b = true then tE Γ C T WF e σ2 H3 fun y H4 => ∃ acc, H4 L = some (.lst acc) ∧ acc.length < sizeLine ∧ LcI Γ C T t c e zs M1 F st1 σ H1 L ys stf (i + 1) (L2.upd H4 L (.lst (acc ++ [y]))) else LcI Γ C T t c e zs M1 F st1 σ H1 L ys stf (i + 1) H3 := by
  obtain ⟨⟨sti, accP, accV, ysr, r, hLa, racc, run, eys, lacc, sub⟩, kp, al, tab⟩ := I
  have hi : i < zs.length := (List.getElem?_eq_some_iff.mp hz).1
  have ed : zs.drop i = z :: zs.drop (i + 1) := by
    rw [List.drop_eq_getElem_cons hi]
    congr 1
    rw [List.getElem?_eq_getElem hi] at hz
    exact Option.some.inj hz
  rw [ed] at run
  obtain ⟨o, s1, run1, run2⟩ := rs_ok (show (lcStep Γ t c e z sti).bind (fun o st => (lcRun (lcStep Γ t c e) (zs.drop (i + 1)) st).bind fun ys st => .ok (consO o ys) st) = .ok ysr stf from run)
  obtain ⟨ys', s2, run3, run4⟩ := rs_ok run2
  have e2 : consO o ys' = ysr ∧ s2 = stf := by cases run4; exact ⟨rfl, rfl⟩
  obtain ⟨e3, e4⟩ := e2
  rw [e4] at run3
  unfold lcStep at run1
  cases et : t.set z (wipeS sti t.slots) with
  | none => rw [et] at run1; cases run1
  | some stA =>
    rw [et] at run1
    obtain ⟨bs, stB, run5, run6⟩ := rs_ok run1
    have r' := r.grow k1
    have bnal : ∀ a, Bn (Un M1 [L]) (wipeS sti t.slots) (wipe σ t.slots) a → H a ≠ none := fun a z => by
      obtain ⟨u, e, _⟩ := r.bnSome z
      rw [e]; exact fun z => by cases z
    have bnB : ∀ a, Bn (Un M1 [L]) (wipeS sti t.slots) (wipe σ t.slots) a → B0 a ∨ H1 a = none := fun a z => by
      rcases z with (z | z) | z
      · exact .inl (hB a (.inl z))
      · exact .inr (by rw [show a = L by simpa using z]; exact hL)
      · exact .inl (hB a (.inr (sub a z)))
    refine ⟨Un M1 [L], wipeS sti t.slots, z, stA, r', k4 _ bnB bnal, et, fun σ2 r2 bn2 pos2 => ?_⟩
    have hlen : σ2.length = (wipe σ t.slots).length := by rw [r2.len, tset_len t z et, r.len]
    have ew : wipe σ2 t.slots = wipe σ t.slots := by rw [wipe_eq pos2 hlen, wipe_idem]
    have tab' := spec_tabs tab k3
    have ke : Kp F H1 H' := kp.trans (k1.mono fun _ z => z.elim)
    refine ⟨ew, Un M1 [L], stA, r2, tab', ?_⟩
    have sub2 : ∀ a, Owns stA σ2 a → Owns st1 σ a := fun a z => by
      rcases bn2 a (.inr z) with z2 | z2
      · exact absurd z (r2.notOwn z2)
      · exact sub a z2
    have mL : Un M1 [L] L := .inr (by simp)
    -- the list stands
    have hL' : H' L = some (.lst accV) := k1 L _ hLa (fun z => z) (fun ps z => by cases z)
    rw [run5]
    intro vs ps H3 s n f rl
    have hL3 : H3 L = some (.lst accV) := s.kp L _ hL' (fun z => r2.notOwn mL z.2) (fun ps z => by cases z)
    have io1 : ∀ {io : Bool}, (io = true → (E.io.ioL c || e.io) = true) → ∀ a, io = true ∧ Owns stA σ2 a → F a := fun h a z => hF a (h z.1) (sub2 a z.2)
    have ke3 : Kp F H1 H3 := ke.trans (s.kp.mono fun a z => io1 (fun h => by rw [h]; rfl) a z)
    have al3 : ∀ a, H1 a ≠ none → H3 a ≠ none := fun a h => s.al a (k2 a (al a h))
    have s0 := s.weaken un_l (fun z => z)
    -- what is collected, behind a step
    have racc' : Rep.RepL C (Bn (Un M1 [L]) stA σ2) H' accP accV := RepL.mv k1 (fun _ z => z.elim) (fun a z => .inl (bn2 a z)) _ _ racc
    have fin0 : ∀ {stC : Slots} {H4 : Hp} {accP' : List PV} {accV' : List V}, Rel C (Un M1 [L]) stC σ2 H4 → H4 L = some (.lst accV') → Rep.RepL C (Bn (Un M1 [L]) stC σ2) H4 accP' accV' → lcRun (lcStep Γ t c e) (zs.drop (i + 1)) (wipeS stC t.slots) = .ok ys' stf → accP' ++ ys' = ys → accP'.length ≤ i + 1 →
        (∀ a, Owns stC σ2 a → Owns st1 σ a) → Kp F H1 H4 → (∀ a, H1 a ≠ none → H4 a ≠ none) → Tabs T H4 → LcI Γ C T t c e zs M1 F st1 σ H1 L ys stf (i + 1) H4 := fun {stC H4 accP' accV'} q1 q2 q3 q4 q5 q6 q7 q8 q9 q10 => by
      have rw1 := q1.wipeR t.slots
      rw [ew] at rw1
      have bw : ∀ a, Bn (Un M1 [L]) (wipeS stC t.slots) (wipe σ t.slots) a → Bn (Un M1 [L]) stC σ2 a := fun a z => by
        rw [← ew] at z
        exact bn_wipe a z
      refine ⟨⟨wipeS stC t.slots, accP', accV', ys', by rw [wipeS_idem]; exact rw1, q2, by rw [wipeS_idem]; exact q3.sub bw, q4, q5, q6, fun a z => ?_⟩, q8, q9, q10⟩
      rw [wipeS_idem, ← ew] at z
      obtain ⟨j, v, _, e1, e2⟩ := owns_wipe z
      exact q7 a ⟨j, v, e1, e2⟩
    -- the branch that collects
    have yes : (evE Γ e stB).bind (fun y st => if keepV y.1 then .ok (some y.2) (wipeS st t.slots) else .bad) = .ok o s1 → tE Γ C T WF e σ2 H3 fun y H4 => ∃ acc, H4 L = some (.lst acc) ∧ acc.length < sizeLine ∧ LcI Γ C T t c e zs M1 F st1 σ H1 L ys stf (i + 1) (L2.upd H4 L (.lst (acc ++ [y]))) := fun h => by
      obtain ⟨y, stC, h1, h2⟩ := rs_ok h
      refine ⟨Un M1 [L], stB, s0.rel, s0.tab, ?_⟩
      unfold PostE one
      rw [h1]
      intro vs2 ps2 H4 s4 n4 f4 r4 v ev
      subst ev
      cases ky : keepV y.1 with
      | false => rw [ky] at h2; cases h2
      | true =>
        rw [ky, if_pos rfl] at h2
        have e5 : some y.2 = o ∧ wipeS stC t.slots = s1 := by cases h2; exact ⟨rfl, rfl⟩
        obtain ⟨e5, e6⟩ := e5
        rw [← e5] at e3
        rw [← e6] at run3
        have hL4 : H4 L = some (.lst accV) := s4.kp L _ hL3 (fun z => s0.rel.notOwn mL z.2) (fun ps z => by cases z)
        have s5 := s4.weaken un_l (fun z => z)
        have ry : Rep.RepL C (Bn (Un M1 [L]) stC σ2) H4 (valsOf [y]) [v] := keep_reps s4 f4 r4 (by show (keepV y.1 && true) = true; rw [ky]; rfl)
        have racc3 : Rep.RepL C (Bn (Un M1 [L]) stB σ2) H3 accP accV := RepL.mv s0.kp (fun a z => .inr z.2) (fun a z => .inl (z.elim .inl fun o => .inr (s0.sub a o))) _ _ racc'
        have racc4 : Rep.RepL C (Bn (Un M1 [L]) stC σ2) H4 accP accV := RepL.mv s5.kp (fun a z => .inr z.2) (fun a z => .inl (z.elim .inl fun o => .inr (s5.sub a o))) _ _ racc3
        have kw : Kp (fun b => b = L) H4 (L2.upd H4 L (.lst (accV ++ [v]))) := Kp.write (F := fun b => b = L) rfl
        have fB : ∀ b, b = L → Bn (Un M1 [L]) stC σ2 b := fun b z => by rw [z]; exact .inl mL
        refine ⟨accV, hL4, ?_, ?_⟩
        · rw [RepL.length racc, ← big_eq]
          exact Nat.lt_of_le_of_lt lacc (Nat.lt_of_lt_of_le hi hbig)
        · refine fin0 (accP' := accP ++ [y.2]) (s5.rel.writeM mL (fun ps z => by cases z)) upd_same (RepL.mv kw fB (fun a z => .inl z) _ _ (RepL.append racc4 ry)) run3 (by rw [← eys, ← e3, List.append_assoc]; rfl) (by rw [List.length_append, List.length_singleton]; omega) (fun a z => sub2 a (s0.sub a (s5.sub a z))) ?_ (fun a h => Mi.upd_al a (s4.al a (al3 a h))) (s5.tab.write hL4 (fun z => by rcases z with ⟨_, z⟩ | ⟨_, z⟩ <;> cases z))
          intro b u h1 h2 h3
          have nb : b ≠ L := fun z => by rw [z, hL] at h1; cases h1
          rw [upd_ne nb]
          exact s4.kp b u (ke3 b u h1 h2 h3) (fun z => h2 (hF b (by rw [z.1]; cases E.io.ioL c <;> rfl) (sub2 b (s0.sub b z.2)))) h3
    have oo := rl.ops
    cases bs with
    | nil =>
      cases oo
      exact .inl ⟨rfl, yes run6⟩
    | cons b1 br =>
      cases br with
      | cons _ _ =>
        obtain ⟨fb, b1⟩ := b1
        cases b1 with
        | bl k => cases k <;> cases run6
        | _ => cases run6
      | nil =>
        obtain ⟨v, ev, ob⟩ := oo.one
        obtain ⟨fb, b1⟩ := b1
        cases b1 with
        | bl k =>
          refine .inr ⟨k, by rw [ev, ob.bl], ?_⟩
          cases k with
          | true => exact yes run6
          | false =>
            have e5 : none = o ∧ wipeS stB t.slots = s1 := by cases run6; exact ⟨rfl, rfl⟩
            obtain ⟨e5, e6⟩ := e5
            rw [← e5] at e3
            rw [← e6] at run3
            exact fin0 s0.rel hL3 (RepL.mv s0.kp (fun a z => .inr z.2) (fun a z => .inl (z.elim .inl fun o => .inr (s0.sub a o))) _ _ racc') run3 (by rw [← eys, ← e3]; rfl) (by omega) (fun a z => sub2 a (s0.sub a z)) ke3 al3 s0.tab
        | _ => cases run6
/-- what stood at the target's slots is back -/
theorem Rel.back {M1 : Addr → Prop} {stf : Slots} {is : List Nat} (r : Rel C M (wipeS stf is) (wipe σ is) H) (r1 : Rel C M1 st1 σ H1) (no : ∀ i ∈ is, isOw st1[i]? = false) (k : ∀ B', (∀ a, B' a → Bn M1 st1 σ a ∨ H1 a = none) → ∀ v w, Rep C (Bn M1 st1 σ) H1 v w → Rep C B' H v w)
    (hM : ∀ a, M a → Bn M1 st1 σ a ∨ H1 a = none) (sub : ∀ a, Owns (wipeS stf is) (wipe σ is) a → Owns st1 σ a) : Rel C M (backS st1 stf is) σ H ∧ ∀ a, Owns (backS st1 stf is) σ a → Owns (wipeS stf is) (wipe σ is) a := by
  have hlen : stf.length = σ.length := by
    have := r.len
    rw [wipe_length, wipeS_len] at this
    exact this.symm
  have at1 : ∀ (j : Nat) (s : Sl), (backS st1 stf is)[j]? = some s → s ≠ .no → (j ∈ is ∧ st1[j]? = some s) ∨ (j ∉ is ∧ (wipeS stf is)[j]? = some s ∧ (wipe σ is)[j]? = σ[j]?) := fun j s e ne => by
    rw [backS_at] at e
    by_cases h : j ∈ is
    · rw [if_pos h] at e
      cases q : stf[j]? with
      | none => rw [q] at e; cases e
      | some u =>
        rw [q] at e
        have e : some (st1[j]?.getD .no) = some s := e
        cases q2 : st1[j]? with
        | none => rw [q2] at e; cases e; exact absurd rfl ne
        | some u2 => rw [q2] at e; cases e; exact .inl ⟨h, rfl⟩
    · rw [if_neg h] at e
      exact .inr ⟨h, by rw [wipeS_at, if_neg h]; exact e, by rw [wipe_at, if_neg h]⟩
  have ow1 : ∀ (j : Nat) (v : PV), (backS st1 stf is)[j]? = some (.ow v) → (wipeS stf is)[j]? = some (.ow v) ∧ (wipe σ is)[j]? = σ[j]? := fun j v e => by
    rcases at1 j _ e (fun z => by cases z) with ⟨h1, h2⟩ | ⟨_, h2, h3⟩
    · have := no j h1
      rw [h2] at this
      cases this
    · exact ⟨h2, h3⟩
  have own : ∀ a, Owns (backS st1 stf is) σ a → Owns (wipeS stf is) (wipe σ is) a := fun a ⟨j, v, e1, e2⟩ => by
    obtain ⟨h1, h2⟩ := ow1 j v e1
    exact ⟨j, v, h1, by rw [h2]; exact e2⟩
  have bn : ∀ a, Bn M (backS st1 stf is) σ a → Bn M (wipeS stf is) (wipe σ is) a := fun a z => z.elim .inl fun z => .inr (own a z)
  refine ⟨⟨by rw [backS_len]; exact hlen.symm, fun j v e => ?_, fun j v e => ?_, fun j l v u b q1 q2 q3 q4 => ?_, r.al⟩, own⟩
  · rcases at1 j _ e (fun z => by cases z) with ⟨h1, h2⟩ | ⟨_, h2, h3⟩
    · obtain ⟨w, e1, e2⟩ := r1.sh j v h2
      exact ⟨w, e1, k _ (fun a z => z.elim (hM a) fun z => .inl (.inr (sub a (own a z)))) v w e2⟩
    · obtain ⟨w, e1, e2⟩ := r.sh j v h2
      exact ⟨w, by rw [← h3]; exact e1, e2.sub bn⟩
  · obtain ⟨h1, h2⟩ := ow1 j v e
    obtain ⟨a, e1, e2, e3⟩ := r.ow j v h1
    exact ⟨a, by rw [← h2]; exact e1, e2.sub bn, e3⟩
  · obtain ⟨h1, h2⟩ := ow1 j v q1
    obtain ⟨h3, h4⟩ := ow1 l u q2
    exact r.inj j l v u b h1 h3 (by rw [h2]; exact q3) (by rw [h4]; exact q4)
theorem lc_imp {t : Tg} {it : I} {c : Es} {e : E} (h : tE Γ C T W (.lc t it c e) σ H Q) : tLc (tI Γ C T W it) (tG C t) (tCs Γ C T WF c) (tE Γ C T WF e) t.slots σ H Q := by
  obtain ⟨M, st, r, tb, P⟩ := h
  have P : PostE C T W (E.io.ioI it || E.io.ioL c || e.io) M st σ H ((evI Γ it st).bind fun xs st => if xs.2.length ≤ big ∧ (t.slots.all fun i => !isOw st[i]?) = true ∧ wait xs.1 (E.io.ioL c || e.io) = true then
      lcEnd st t.slots (lcRun (lcStep Γ t c e) xs.2 st) else .bad) Q := P
  refine ⟨M, st, r, tb, ?_⟩
  cases e1 : evI Γ it st with
  | bad => rw [e1] at P; exact P
  | ex k fs st1 => rw [e1] at P; exact P
  | ok y st1 =>
    rw [e1] at P
    have P : PostE C T W (E.io.ioI it || E.io.ioL c || e.io) M st σ H (if y.2.length ≤ big ∧ (t.slots.all fun i => !isOw st1[i]?) = true ∧ wait y.1 (E.io.ioL c || e.io) = true then
      lcEnd st1 t.slots (lcRun (lcStep Γ t c e) y.2 st1) else .bad) Q := P
    intro J ps H1 s w
    split at P
    · rename_i hz
      obtain ⟨hbig, hno, hw⟩ := hz
      cases e2 : lcRun (lcStep Γ t c e) y.2 st1 with
      | bad => rw [e2] at P; exact (show False from P).elim
      | ex k fs st2 => rw [e2] at P; exact (show False from P).elim
      | ok ys stf =>
        rw [e2] at P
        have P : PostE C T W (E.io.ioI it || E.io.ioL c || e.io) M st σ H (.ok (.ow, .lst ys) (backS st1 stf t.slots)) Q := P
        intro L hL
        generalize hF : (fun a => (E.io.ioL c || e.io) = true ∧ Owns st1 σ a) = F
        have F1 : ∀ a, (E.io.ioL c || e.io) = true → Owns st1 σ a → F a := fun a h1 h2 => by rw [← hF]; exact ⟨h1, h2⟩
        have F2 : ∀ a, F a → wr y.1 st1 σ a := fun a z => by
          rw [← hF] at z
          refine ⟨fun e => ?_, z.2⟩
          rw [e, z.1] at hw
          exact absurd hw (by decide)
        have F3 : ∀ a, F a → Bn (Un M ps) st1 σ a := fun a z => wr_bn a (F2 a z)
        have kL : Kp (fun _ => False) H1 (L2.upd H1 L (.lst [])) := Kp.updF hL
        have r1 := s.rel
        have rA := r1.alloc (o := .lst []) hL (fun ps z => by cases z)
        have aL : Un (Un M ps) [L] L := .inr (by simp)
        refine ⟨fun i m H => m = y.2.length - i ∧ i ≤ y.2.length ∧ LcI Γ C T t c e y.2 (Un M ps) F st1 σ H1 L ys stf i H, ⟨y.2.length, by simp, Nat.zero_le _, ⟨⟨st1, [], [], ys, rA.wipeR t.slots, upd_same, rfl, e2, rfl, Nat.le_refl _, fun a z => ?_⟩, kL.mono (fun _ z => z.elim), fun a => Mi.upd_al a, s.tab.upd hL⟩⟩, ?_⟩
        · obtain ⟨j, v, _, q1, q2⟩ := owns_wipe z
          exact ⟨j, v, q1, q2⟩
        · rintro i m H2 ⟨rfl, hi, I⟩
          obtain ⟨wk, wstop⟩ := w H2 (I.kp.mono F2) I.al
          by_cases hlt : i < y.2.length
          · obtain ⟨go, yl⟩ := wk i y.2[i] (List.getElem?_eq_getElem hlt)
            refine .inr ⟨go, LcI Γ C T t c e y.2 (Un M ps) F st1 σ H1 L ys stf (i + 1), fun H' I' => ⟨y.2.length - (i + 1), by omega, rfl, hlt, I'⟩, fun x H' hy => ?_⟩
            obtain ⟨k1, k2, k3, k4⟩ := yl x H' hy
            exact lc_turn (J := J) (R := fun _ => True) (List.getElem?_eq_getElem hlt) hbig I F1 hL (fun a z => z) k1 k2 k3 k4
          · have ei : i = y.2.length := by omega
            subst ei
            refine .inl ⟨wstop, ?_⟩
            obtain ⟨⟨sti, accP, accV, ysr, r2, hL2, racc, run, eys, lacc, sub⟩, kp, al, tab⟩ := I
            rw [List.drop_length] at run
            have e3 : ysr = [] ∧ sti = stf := by
              have run : Rs.ok [] sti = .ok ysr stf := run
              cases run; exact ⟨rfl, rfl⟩
            obtain ⟨e3, e4⟩ := e3
            subst e3 e4
            rw [List.append_nil] at eys
            subst eys
            have kRep : ∀ B' : Addr → Prop, (∀ a, B' a → Bn (Un M ps) st1 σ a ∨ H1 a = none) → ∀ v w, Rep C (Bn (Un M ps) st1 σ) H1 v w → Rep C B' H2 v w := fun B' hB v w q => Rep.mv kp F3 hB v w q
            obtain ⟨rb, ob⟩ := r2.back r1 (fun i hi => by
              have := List.all_eq_true.mp hno i hi
              simpa using this) kRep (fun a m => m.elim (fun m => .inl (.inl m)) (fun m => .inr (by rw [show a = L by simpa using m]; exact hL))) sub
            have hL0 : H L = none := by
              cases e5 : H L with
              | none => rfl
              | some o => exact absurd hL (s.al L (by rw [e5]; exact fun z => by cases z))
            have bn : ∀ a, Bn (Un M [L]) (backS st1 sti t.slots) σ a → Bn (Un (Un M ps) [L]) (wipeS sti t.slots) (wipe σ t.slots) a := fun a z => by
              rcases z with (z | z) | z
              · exact .inl (.inl (.inl z))
              · exact .inl (.inr z)
              · exact .inr (ob a z)
            refine P [.ref L] [L] H2 ⟨rb.weaken (fun a z => z.elim (fun z => .inl (.inl z)) (fun z => .inr z)), ?_, fun a h => al a (s.al a h), fun a z => s.sub a (sub a (ob a z)), tab⟩ (by simp) (fun a ha => ?_) (.ow ⟨accV, hL2, racc.sub bn⟩ .nil) _ rfl
            · refine (s.kp.mono fun a z => ⟨by rw [z.1]; rfl, z.2⟩).trans (kp.mono fun a z => ?_)
              rw [← hF] at z
              exact ⟨by rw [Bool.or_assoc, z.1]; cases E.io.ioI it <;> rfl, s.sub a z.2⟩
            · rw [show a = L by simpa using ha]
              exact ⟨fun m => r.bnFree hL0 (.inl m), .inl hL0⟩
    · exact P.elim
theorem se_lc {t : Tg} {it : I} {c : Es} {e : E} {tg iter elt : Expr} {ifs : List Expr} {scope : Scope} {own : List (Str × Nat)} (hK : X.K = C.K) (hc : X.calm = true) (hN : X.N.Nodup) (ok : BlkOk X.N X.env.scope scope own) (ho : own.map (·.2) = t.slots)
    (hi : PI X tg iter (tI Γ C T W it)) (hg : ∀ (s : Shared) (H : Hp) (Cc : Addr) (cl : List (Str × Addr)) (fp : List Addr), PG (X.blk s H scope (compEnvC scope cl Cc X.env) fp) tg (tG C t))
    (ht : ∀ (s : Shared) (H : Hp) (Cc : Addr) (cl : List (Str × Addr)) (fp : List Addr), PTs (X.blk s H scope (compEnvC scope cl Cc X.env) fp) ifs (tCs Γ C T WF c))
    (he : ∀ (s : Shared) (H : Hp) (Cc : Addr) (cl : List (Str × Addr)) (fp : List Addr), PE (X.blk s H scope (compEnvC scope cl Cc X.env) fp) elt (tE Γ C T WF e))
    (hs : ∀ x, foldedSetIterable iter X.env x = pure x) : SE X Γ C T W (.lc t it c e) (.ListComp elt [⟨tg, iter, ifs, 0⟩] scope pos) := by
  refine .of ((pe_lc hc hN hi ok hg ht he hs).imp fun σ H Q h => ?_)
  rw [ho]
  exact lc_imp h
end
end Mi

/-! Mi14: statements. -/
namespace Mi
open PySem PySem.Spec PyProof.Rows L2

/-- the state between statements: H0 the heap at the def's entry, E0 what may be written of it -/
structure SI (C : Cn) (T : List NdefX.NTab) (H0 : Hp) (E0 P0 M : Addr → Prop) (st : Slots) (σ : L2.St) (H : Hp) : Prop where
  rel : Rel C M st σ H
  kp : Kp E0 H0 H
  al : ∀ a, H0 a ≠ none → H a ≠ none
  own : ∀ a, Owns st σ a → E0 a ∨ H0 a = none
  tab : Tabs T H
  pin : ∀ a, P0 a → σ[0]? = some (some (.ref a))
def PostS (C : Cn) (T : List NdefX.NTab) (W : WX) (H0 : Hp) (E0 P0 M : Addr → Prop) (r : Rs Fw) (D : Ends) : Prop := match r with
  | .ok .nx st' => ∀ σ' H', SI C T H0 E0 P0 M st' σ' H' → D.nx σ' H'
  | .ok .bk st' => ∀ σ' H', SI C T H0 E0 P0 M st' σ' H' → D.bk σ' H'
  | .ok .ct st' => ∀ σ' H', SI C T H0 E0 P0 M st' σ' H' → D.ct σ' H'
  | .ok (.rt f v) st' => ∀ w ps σ' H', SI C T H0 E0 P0 (Un M ps) st' σ' H' → ps.Nodup → (∀ a ∈ ps, ¬ M a ∧ (E0 a ∨ H0 a = none)) → RL C (Bn (Un M ps) st' σ') H' [(f, v)] [w] ps → D.rt w H'
  | .ex c fs st' => ∀ cls d σ' H', SI C T H0 E0 P0 M st' σ' H' → ExcR C (Bn M st' σ') H' cls d c fs → W cls d σ' H'
  | .bad => False
/-- zf: the first slot is in-out: it is not set anew -/
def tS (Γ : G) (C : Cn) (T : List NdefX.NTab) (W : WX) (zf : Bool) (s : S) : TS := fun D σ H => ∃ H0 E0 P0 M st, (zf = false → ∀ a, ¬ P0 a) ∧ SI C T H0 E0 P0 M st σ H ∧ PostS C T W H0 E0 P0 M (evS Γ s st) D
def tSs (Γ : G) (C : Cn) (T : List NdefX.NTab) (W : WX) (zf : Bool) (s : Ss) : TS := fun D σ H => ∃ H0 E0 P0 M st, (zf = false → ∀ a, ¬ P0 a) ∧ SI C T H0 E0 P0 M st σ H ∧ PostS C T W H0 E0 P0 M (evSs Γ s st) D

theorem _root_.L2.PS.imp {X : Cx} {e : Stmt} {t t' : TS} (h : PS X e t) (i : ∀ D σ H, t' D σ H → t D σ H) : PS X e t' := ⟨fun pins s σ H D I q => h.run pins s σ H D I (i D σ H q)⟩
theorem _root_.L2.PSs.imp {X : Cx} {e : List Stmt} {t t' : TS} (h : PSs X e t) (i : ∀ D σ H, t' D σ H → t D σ H) : PSs X e t' := ⟨fun pins s σ H D I q => h.run pins s σ H D I (i D σ H q)⟩

section
variable {Dt : Dat} {X : Cx} {Γ : G} {C : Cn} {T : List NdefX.NTab} {W : WX} {a b c : E} {as : Es} {A B : Expr} {As : List Expr} {pos p : Pos} {x : Str} {σ σ' : L2.St} {H H' H0 H1 H2 : Hp} {Q : VK} {M M' E0 P0 : Addr → Prop} {st st' st1 st2 : Slots} {io : Bool} {D : Ends} {zf : Bool}
theorem SI.step (s : SI C T H0 E0 P0 M st σ H) (q : Step C T io M' st st2 σ H H2) : SI C T H0 E0 P0 M' st2 σ H2 :=
  ⟨q.rel, fun a o h n t => q.kp a o (s.kp a o h n t) (fun z => (s.own a z.2).elim n fun z => by rw [h] at z; cases z) t, fun a h => q.al a (s.al a h), fun a o => s.own a (q.sub a o), q.tab, s.pin⟩
theorem SI.weaken (s : SI C T H0 E0 P0 M' st σ H) (h : ∀ a, M a → M' a) : SI C T H0 E0 P0 M st σ H := ⟨s.rel.weaken h, s.kp, s.al, s.own, s.tab, s.pin⟩
/-- a result -/
structure SR (C : Cn) (T : List NdefX.NTab) (H0 : Hp) (E0 P0 M : Addr → Prop) (σ : L2.St) (H1 : Hp) (xs : List (Fl × PV)) (vs : List V) (st1 : Slots) (ps : List Addr) : Prop where
  si : SI C T H0 E0 P0 (Un M ps) st1 σ H1
  nd : ps.Nodup
  fr : ∀ a ∈ ps, ¬ M a ∧ (E0 a ∨ H0 a = none)
  rl : RL C (Bn (Un M ps) st1 σ) H1 xs vs ps
theorem tS_exp {K : Fl × PV → Slots → Rs Fw} (s : SI C T H0 E0 P0 M st σ H) (P : PostS C T W H0 E0 P0 M ((evE Γ a st).bind K) D) : tE Γ C T W a σ H fun v H1 => ∃ x st1 ps, SR C T H0 E0 P0 M σ H1 [x] [v] st1 ps ∧ PostS C T W H0 E0 P0 M (K x st1) D := by
  refine ⟨M, st, s.rel, s.tab, ?_⟩
  unfold PostE one
  cases e : evE Γ a st with
  | bad => rw [e] at P; exact P
  | ex c fs st1 =>
    rw [e] at P
    exact fun cls d H' q x => P cls d σ H' (s.step q) x
  | ok x st1 =>
    rw [e] at P
    intro vs ps H1 q n f r v ev
    subst ev
    exact ⟨x, st1, ps, ⟨s.step q, n, fun a ha => ⟨(f a ha).1, (f a ha).2.elim (fun z => .inr (by
      cases e0 : H0 a with
      | none => rfl
      | some o => exact absurd z (s.al a (by rw [e0]; exact fun z => by cases z)))) (s.own a)⟩, r⟩, P⟩
theorem tS_exps {K : List (Fl × PV) → Slots → Rs Fw} (s : SI C T H0 E0 P0 M st σ H) (P : PostS C T W H0 E0 P0 M ((evEs Γ as st).bind K) D) : tEs Γ C T W as σ H fun vs H1 => ∃ xs st1 ps, SR C T H0 E0 P0 M σ H1 xs vs st1 ps ∧ PostS C T W H0 E0 P0 M (K xs st1) D := by
  refine ⟨M, st, s.rel, s.tab, ?_⟩
  cases e : evEs Γ as st with
  | bad => rw [e] at P; exact P
  | ex c fs st1 =>
    rw [e] at P
    exact fun cls d H' q x => P cls d σ H' (s.step q) x
  | ok xs st1 =>
    rw [e] at P
    intro vs ps H1 q n f r
    exact ⟨xs, st1, ps, ⟨s.step q, n, fun a ha => ⟨(f a ha).1, (f a ha).2.elim (fun z => .inr (by
      cases e0 : H0 a with
      | none => rfl
      | some o => exact absurd z (s.al a (by rw [e0]; exact fun z => by cases z)))) (s.own a)⟩, r⟩, P⟩
/-- what is kept becomes shared -/
theorem SR.reps {xs : List (Fl × PV)} {vs : List V} {ps : List Addr} (r : SR C T H0 E0 P0 M σ H1 xs vs st1 ps) (k : keepAll xs = true) : Rep.RepL C (Bn M st1 σ) H1 (valsOf xs) vs :=
  r.rl.reps (fun a => Bn.mono un_l) (fun a ha z => by
    rcases z with z | z
    · exact (r.fr a ha).1 z
    · exact r.si.rel.notOwn (.inr ha) z) k
theorem SR.rep {x : Fl × PV} {v : V} {ps : List Addr} (r : SR C T H0 E0 P0 M σ H1 [x] [v] st1 ps) (k : keepV x.1 = true) : Rep C (Bn M st1 σ) H1 x.2 v := by
  obtain ⟨y, t, e, h, _⟩ := r.reps (by show (keepV x.1 && true) = true; rw [k]; rfl)
  cases e
  exact h
theorem SR.base {xs : List (Fl × PV)} {vs : List V} {ps : List Addr} (r : SR C T H0 E0 P0 M σ H1 xs vs st1 ps) : SI C T H0 E0 P0 M st1 σ H1 := r.si.weaken un_l
/-- a slot is set -/
theorem pin_set {i : Nat} {v : Option V} (hz : (zf = false → ∀ a, ¬ P0 a)) (h0 : zf = true → i ≠ 0) (p : ∀ a, P0 a → σ[0]? = some (some (.ref a))) : ∀ a, P0 a → (σ.set i v)[0]? = some (some (.ref a)) := fun a h => by
  cases zf with
  | false => exact absurd h (hz rfl a)
  | true => rw [List.getElem?_set_ne (h0 rfl)]; exact p a h
theorem SR.set {x : Fl × PV} {v : V} {ps : List Addr} {i : Nat} (r : SR C T H0 E0 P0 M σ H1 [x] [v] st1 ps) (hz : zf = false → ∀ a, ¬ P0 a) (h0 : zf = true → i ≠ 0) (P : PostS C T W H0 E0 P0 M (setOwn i x st1) D) : D.nx (σ.set i (some v)) H1 := by
  obtain ⟨f, z⟩ := x
  unfold setOwn at P
  cases f with
  | bo => exact (show False from P).elim
  | sh =>
    dsimp only at P
    split at P
    · rename_i hl
      have rp : Rep C (Bn M st1 σ) H1 z v := r.rep rfl
      have b := r.base
      exact P _ _ ⟨b.rel.setSh hl rp, b.kp, b.al, fun a o => by
        rcases bn_sh (M := fun _ => False) hl b.rel.len a (.inr o) with z | z
        · exact z.elim
        · exact b.own a z, b.tab, pin_set hz h0 b.pin⟩
    · exact (show False from P).elim
  | ow =>
    dsimp only at P
    split at P
    · rename_i hl
      obtain ⟨si, nd, fr, rl⟩ := r
      cases rl with
      | ow h t =>
        cases t
        rename_i p
        refine P _ _ ⟨si.rel.setOw hl h (fr p (by simp)).1, si.kp, si.al, fun a o => ?_, si.tab, pin_set hz h0 si.pin⟩
        obtain ⟨j, u, e1, e2⟩ := o
        rw [set_get hl] at e1
        rw [set_get (by rw [si.rel.len]; exact hl)] at e2
        by_cases hj : i = j
        · rw [if_pos hj] at e2
          cases e2
          exact (fr p (by simp)).2
        · rw [if_neg hj] at e1 e2
          exact si.own a ⟨j, u, e1, e2⟩
    · exact (show False from P).elim
/-- what stands at the right of an assignment -/
def lcB : Expr → Bool
  | .ListComp _ _ _ _ => true
  | .SetComp _ _ _ _ => true
  | .DictComp _ _ _ _ _ => true
  | _ => false
theorem swap_no {e : Expr} {t : Option Expr} {l : Nat} {env : Env} (h : lcB e = false) : swapsWith e t l env = pure false := by
  cases e <;> first | rfl | cases h
theorem s_set {i : Nat} {py : Pos} {cel : Bool} (hN : X.N.Nodup) (hf : fnOk cel X) (hi : X.N[i]? = some x) (hx : locB cel X.env.scope x = true) (hl : lcB A = false) (h0 : zf = true → i ≠ 0) (ha : SE X Γ C T W a A) : PS X (.Assign [.Name x py] A pos) (tS Γ C T W zf (.set i a)) :=
  (ps_set hN hi (locB_ok hx) ha.pe (swap_no hl) (hf.at hx)).imp fun D σ H ⟨H0, E0, P0, M, st, hz, s, P⟩ => (tS_exp s P).mono fun v H1 ⟨x, st1, ps, r, P⟩ => r.set hz h0 P
/-- an expression alone -/
theorem s_ex (hl : lcB A = false) (ha : SE X Γ C T W a A) : PS X (.Expr A pos) (tS Γ C T W zf (.ex a)) :=
  (ps_expr ha.pe (swap_no hl)).imp fun D σ H ⟨H0, E0, P0, M, st, hz, s, P⟩ => (tS_exp s P).mono fun v H1 ⟨x, st1, ps, r, P⟩ => P _ _ r.base
theorem s_ret (ha : SE X Γ C T W a A) : PS X (.Return (some A) pos) (tS Γ C T W zf (.ret a)) :=
  (ps_ret ha.pe).imp fun D σ H ⟨H0, E0, P0, M, st, hz, s, P⟩ => (tS_exp s P).mono fun v H1 ⟨x, st1, ps, r, P⟩ => by
    split at P
    · exact P v ps σ H1 r.si r.nd r.fr r.rl
    · exact P.elim
theorem s_retN : PS X (.Return none pos) (tS Γ C T W zf .retN) :=
  ps_retN.imp fun D σ H ⟨H0, E0, P0, M, st, hz, s, P⟩ => P .non [] σ H (s.weaken fun a m => un_nil.mp m) List.nodup_nil (fun a z => absurd z (by simp)) (.sh rfl .nil)
theorem s_pass : PS X (.Pass pos) (tS Γ C T W zf .pass) := ps_pass.imp fun D σ H ⟨H0, E0, P0, M, st, hz, s, P⟩ => P σ H s
theorem s_brk : PS X (.Break pos) (tS Γ C T W zf .brk) := ps_break.imp fun D σ H ⟨H0, E0, P0, M, st, hz, s, P⟩ => P σ H s
theorem s_cont : PS X (.Continue pos) (tS Γ C T W zf .cont) := ps_continue.imp fun D σ H ⟨H0, E0, P0, M, st, hz, s, P⟩ => P σ H s
theorem s_nil : PSs X [] (tSs Γ C T W zf .nil) := pss_nil.imp fun D σ H ⟨H0, E0, P0, M, st, hz, s, P⟩ => P σ H s
theorem s_cons {s : S} {r : Ss} {S1 : Stmt} {R : List Stmt} (h1 : PS X S1 (tS Γ C T W zf s)) (h2 : PSs X R (tSs Γ C T W zf r)) : PSs X (S1 :: R) (tSs Γ C T W zf (.cons s r)) :=
  (pss_cons h1 h2).imp fun D σ H ⟨H0, E0, P0, M, st, hz, si, P⟩ => by
    have P : PostS C T W H0 E0 P0 M ((evS Γ s st).bind fun w st => match w with | .nx => evSs Γ r st | w => .ok w st) D := P
    refine ⟨H0, E0, P0, M, st, hz, si, ?_⟩
    cases e : evS Γ s st with
    | bad => rw [e] at P; exact P
    | ex c fs st1 => rw [e] at P; exact P
    | ok w st1 =>
      rw [e] at P
      cases w with
      | nx => exact fun σ' H' si' => ⟨H0, E0, P0, M, st1, hz, si', P⟩
      | rt f v => exact P
      | bk => exact P
      | ct => exact P
/-- a docstring ahead -/
theorem s_doc {d : Str} {k : Nat} {p2 : Pos} {r : Ss} {R : List Stmt} (h2 : PSs X R (tSs Γ C T W zf r)) : PSs X (.Expr (.Constant (.str d) k p) p2 :: R) (tSs Γ C T W zf r) :=
  (pss_cons ps_doc h2).imp fun D σ H h => h
theorem s_if {u v : Ss} {U V : List Stmt} (ha : SE X Γ C T W a A) (hu : PSs X U (tSs Γ C T W zf u)) (hv : PSs X V (tSs Γ C T W zf v)) : PS X (.If A U V pos) (tS Γ C T W zf (.ifs a u v)) :=
  (ps_if ha.pt hu hv).imp fun D σ H ⟨H0, E0, P0, M, st, hz, s, P⟩ => (tS_exp s P).mono fun w H1 ⟨x, st1, ps, r, P⟩ => by
    obtain ⟨w', ew, o⟩ := r.rl.ops.one
    cases ew
    obtain ⟨f, z⟩ := x
    cases z with
    | bl k =>
      refine ⟨k, o.bl, ?_⟩
      cases k with
      | true => exact ⟨H0, E0, P0, M, st1, hz, r.base, P⟩
      | false => exact ⟨H0, E0, P0, M, st1, hz, r.base, P⟩
    | _ => exact (show False from P).elim
/-- a, b = e -/
theorem s_unp {t : Tg} {tg : Expr} {cel : Bool} (hK : X.K = C.K) (hc : X.calm = true) (hN : X.N.Nodup) (hf : fnOk cel X) (ht : mTg cel X.N X.env.scope t tg = true) (hl : lcB A = false) (hw : swappedStores [tg] A X.env = pure none) (h0 : zf = true → 0 ∉ t.slots) (ha : SE X Γ C T W a A) :
    PS X (.Assign [tg] A pos) (tS Γ C T W zf (.unp t a)) := by
  obtain ⟨h1, h2⟩ := pg_t hK hc hN hf t tg ht
  refine (ps_asg ha.pe h1 (swap_no hl) hw (by rw [h2]; rfl)).imp fun D σ H ⟨H0, E0, P0, M, st, hz, s, P⟩ => (tS_exp s P).mono fun v H1 ⟨x, st1, ps, r, P⟩ => ?_
  split at P
  · rename_i k
    split at P
    · rename_i st2 e
      have b := r.base
      refine ⟨M, st1, x.2, st2, b.rel, r.rep k, e, fun σ' r' bn ps' => P σ' H1 ⟨r', b.kp, b.al, fun a o => ?_, b.tab, fun a h => ?_⟩⟩
      rcases bn a (.inr o) with z | z
      · exact absurd o (r'.notOwn z)
      · exact b.own a z
      · cases zf with
        | false => exact absurd h (hz rfl a)
        | true => rw [ps' 0 (h0 rfl)]; exact b.pin a h
    · exact P.elim
  · exact P.elim
end
end Mi

/-! Mi15: statements that write. -/
namespace Mi
open PySem PySem.Spec PyProof.Rows L2

section
variable {Dt : Dat} {X : Cx} {Γ : G} {C : Cn} {T : List NdefX.NTab} {W : WX} {a b c : E} {as : Es} {A B : Expr} {As : List Expr} {pos p : Pos} {x : Str} {σ σ' : L2.St} {H H' H0 H1 H2 : Hp} {Q : VK} {M M' E0 P0 : Addr → Prop} {st st' st1 st2 : Slots} {io : Bool} {D : Ends} {zf : Bool}
/-- a slot's own object is written, with a value that was kept -/
theorem SI.own' {i : Nat} {q q' : PV} {l : Addr} {o : HO} (s : SI C T H0 E0 P0 M st σ H) (e : st[i]? = some (.ow q)) (e2 : σ[i]? = some (some (.ref l))) (ho : ∀ ps, o ≠ .tbl ps) (hq : OwnAt C (Bn M st σ) (L2.upd H l o) l q') : SI C T H0 E0 P0 M (st.set i (.ow q')) σ (L2.upd H l o) :=
  s.step (Step.own s.rel s.tab e e2 ho hq)
theorem owB {i : Nat} {q : PV} {l : Addr} (e : st[i]? = some (.ow q)) (e2 : σ[i]? = some (some (.ref l))) : ∀ b, b = l → Bn M st σ b := fun b z => by rw [z]; exact .inr ⟨i, q, e, e2⟩
theorem ev_twoK {β : Type} (K : Fl × PV → Fl × PV → Slots → Rs β) : ((evE Γ a st).bind fun x st => (evE Γ b st).bind fun y st => if wait x.1 b.io then K x y st else .bad) = (evEs Γ (.cons a (.cons b .nil)) st).bind fun xs st => match xs with | [x, y] => K x y st | _ => .bad := by
  show _ = ((evE Γ a st).bind fun x st => (evEs Γ (.cons b .nil) st).bind fun xs st => if wait x.1 (E.io.ioL (.cons b .nil)) then Rs.ok (x :: xs) st else .bad).bind _
  rw [rs_assoc]
  refine rs_of fun x st => ?_
  show _ = (((evE Γ b st).bind fun y st => (evEs Γ .nil st).bind fun xs st => if wait y.1 (E.io.ioL .nil) then Rs.ok (y :: xs) st else .bad).bind fun xs st => if wait x.1 (b.io || false) then Rs.ok (x :: xs) st else .bad).bind _
  rw [rs_assoc, rs_assoc, Bool.or_false]
  refine rs_of fun y st => ?_
  show _ = (if wait y.1 false = true then Rs.ok [y] st else .bad).bind _
  rw [if_pos (wait_f _)]
  show _ = (if wait x.1 b.io = true then Rs.ok [x, y] st else .bad).bind _
  split <;> rfl
theorem tS_two {K : Fl × PV → Fl × PV → Slots → Rs Fw} (s : SI C T H0 E0 P0 M st σ H) (P : PostS C T W H0 E0 P0 M ((evE Γ a st).bind fun x st => (evE Γ b st).bind fun y st => if wait x.1 b.io then K x y st else .bad) D) :
    tEs Γ C T W (.cons a (.cons b .nil)) σ H fun vs H1 => ∃ x y st1 ps, SR C T H0 E0 P0 M σ H1 [x, y] vs st1 ps ∧ PostS C T W H0 E0 P0 M (K x y st1) D := by
  rw [ev_twoK] at P
  refine tEs.mono (tS_exps s P) fun vs H1 ⟨xs, st1, ps, r, P⟩ => ?_
  split at P
  · exact ⟨_, _, st1, ps, r, P⟩
  · exact P.elim
theorem rl_keep {B B' : Addr → Prop} {x : Fl × PV} {v : V} {ps : List Addr} (q : RL C B H [x] [v] ps) (k : keepV x.1 = true) (hB : ∀ a, B' a → B a) (hp : ∀ a ∈ ps, ¬ B' a) : Rep C B' H x.2 v := by
  obtain ⟨y, t, e, h, _⟩ := q.reps hB hp (by show (keepV x.1 && true) = true; rw [k]; rfl)
  cases e
  exact h
theorem SR.notB {xs : List (Fl × PV)} {vs : List V} {ps : List Addr} (r : SR C T H0 E0 P0 M σ H1 xs vs st1 ps) : ∀ a ∈ ps, ¬ Bn M st1 σ a := fun a ha z => by
  rcases z with z | z
  · exact (r.fr a ha).1 z
  · exact r.si.rel.notOwn (.inr ha) z
theorem set_any (hu : X.A.units + 1 < cLine) : PSet X (fun o i v H Q => rSetL o i v H Q ∨ rSetD o i v H Q) := by
  intro pins s σ H o i v ov iv u Q I ro ri rv h
  rcases h with h | h
  · exact set_list pins s σ H o i v ov iv u Q I ro ri rv h
  · exact set_dict hu pins s σ H o i v ov iv u Q I ro ri rv h
theorem RepL.set {B : Addr → Prop} {z : PV} {v : V} (hz : Rep C B H z v) : ∀ {xs : List PV} {ys : List V} (j : Nat), Rep.RepL C B H xs ys → Rep.RepL C B H (xs.set j z) (ys.set j v)
  | [], _, j, h => by rw [show _ = [] from h]; rfl
  | x :: xs, _, 0, h => by
    obtain ⟨y, r, e, h1, h2⟩ := h
    rw [e]
    exact ⟨v, r, rfl, hz, h2⟩
  | x :: xs, _, j + 1, h => by
    obtain ⟨y, r, e, h1, h2⟩ := h
    rw [e]
    exact ⟨y, r.set j v, rfl, h1, RepL.set hz j h2⟩
theorem s_setix {i : Nat} {py ps : Pos} (hu : X.A.units + 1 < cLine) (hi : X.N[i]? = some x) (hv : Vis X.env.scope x) (ho : okN x = true) (hl : lcB A = false) (hb : ixB B = true) (hA : SE X Γ C T W a A) (hB : SE X Γ C T W b B) : PS X (.Assign [.Subscript (.Name x py) B ps] A pos) (tS Γ C T W zf (.setix i b a)) := by
  have hs : ∀ v, assign (.Subscript (.Name x py) B ps) X.env v = (do
      let ov ← holding [v] (eval (.Name x py) X.env)
      let iv ← holding [v, ov] (eval B X.env)
      standAt ps
      holding [v, ov, iv] (setItem ov iv v)
      release [v, ov, iv] []) := fun v => by cases B <;> first | rfl | cases hb
  refine (ps_asg hA.pe (pg_sub (pe_var hi hv (okN_d ho) (okN_c ho)) hB.pe (set_any hu) hs) (by show swapsWith A (some (.Subscript (.Name x py) B ps)) pos.line X.env = pure false; exact swap_no hl) (by cases A <;> rfl) rfl).imp fun D σ H ⟨H0, E0, P0, M, st, hz, s, P⟩ => ?_
  have P : PostS C T W H0 E0 P0 M (if isOw st[i]? then (evE Γ a st).bind fun x st => (evE Γ b st).bind fun y st => if wait x.1 b.io then if keepV x.1 then match st[i]? with
      | some (.ow p) => match storeP p y.2 x.2 with
        | some q => .ok .nx (st.set i (.ow q))
        | none => .bad
      | _ => .bad
    else .bad
    else .bad
    else .bad) D := P
  cases ei : isOw st[i]? with
  | false => rw [ei] at P; exact P.elim
  | true =>
    rw [ei, if_pos rfl] at P
    obtain ⟨p0, e0⟩ : ∃ p, st[i]? = some (.ow p) := by
      unfold isOw at ei
      split at ei
      · rename_i p e; exact ⟨p, e⟩
      · cases ei
    obtain ⟨w, e1, _, _⟩ := s.rel.ow i p0 e0
    have q := tS_two (K := fun x y st => if keepV x.1 then match st[i]? with
        | some (.ow p) => match storeP p y.2 x.2 with
          | some q => .ok .nx (st.set i (.ow q))
          | none => .bad
        | _ => .bad
        else .bad) s P
    refine (tEs_two q).mono fun v H1 h => ⟨.ref w, e1, h.mono fun u H2 ⟨x, y, st1, ps, r, P⟩ => ?_⟩
    split at P
    · rename_i k
      split at P
      · rename_i q e3
        split at P
        · rename_i q' e4
          · skip
            have b := r.base
            obtain ⟨l, e5, o5, n5⟩ := b.rel.ow i q e3
            rw [e1] at e5
            cases e5
            obtain ⟨_, _, _, ev, _, r2⟩ := RL.one' r.rl
            cases ev
            obtain ⟨_, _, _, ev, oy, _⟩ := RL.one' r2
            cases ev
            have rx : Rep C (Bn M st1 σ) H2 x.2 v := by
              obtain ⟨qs, rs, q1, q2, i1, i2⟩ := r.rl.two'
              exact rl_keep q1 k (fun a => Bn.mono un_l) (fun a ha => r.notB a (i1 a ha))
            have fB := owB (M := M) e3 e1
            unfold storeP at e4
            split at e4
            · rename_i kvs
              split at e4
              · rename_i key ek
                split at e4
                · rename_i hz
                  cases e4
                  obtain ⟨ks, eH, rk⟩ := o5
                  have kk : Kp (fun b => b = w) H2 (L2.upd H2 w (.dK (putK ks key v))) := Kp.write (F := fun b => b = w) rfl
                  refine .inr ⟨w, _, rfl, .inl ⟨ks, key, eH, atom_kV oy ek, by rw [RepK.length rk, ← big_eq]; exact hz, rfl⟩, P _ _ ?_⟩
                  exact b.own' e3 e1 (fun ps z => by cases z) ⟨_, upd_same, RepK.mv kk fB (fun b z => .inl z) _ _ (repK_put rx rk)⟩
                · cases e4
              · cases e4
            · rename_i zs
              split at e4
              · rename_i n en
                split at e4
                · rename_i j ej
                  cases e4
                  obtain ⟨ys, eH, rl⟩ := o5
                  have kk : Kp (fun b => b = w) H2 (L2.upd H2 w (.lst (ys.set j v))) := Kp.write (F := fun b => b = w) rfl
                  refine .inl ⟨w, ys, n, j, rfl, ?_, eH, by rw [RepL.length rl, ← place_ixN]; exact ej, P _ _ ?_⟩
                  · rw [en] at oy
                    exact oy.int
                  · exact b.own' e3 e1 (fun ps z => by cases z) ⟨_, upd_same, RepL.mv kk fB (fun b z => .inl z) _ _ (RepL.set rx j rl)⟩
                · cases e4
              · cases e4
            · cases e4
        · exact P.elim
      · exact P.elim
    · exact P.elim
/-- a name op= int -/
theorem s_aug {i : Nat} {py : Pos} {cel : Bool} (hN : X.N.Nodup) (hf : fnOk cel X) (hi : X.N[i]? = some x) (hx : locB cel X.env.scope x = true) (h0 : zf = true → i ≠ 0) (hA : SE X Γ C T W a A) : PS X (.AugAssign (.Name x py) .Add A pos) (tS Γ C T W zf (.aug i .add a)) :=
  (ps_aug hN hi (locB_ok hx) hA.pe ip_add (hf.at hx)).imp fun D σ H ⟨H0, E0, P0, M, st, hz0, s, P⟩ => by
    have P : PostS C T W H0 E0 P0 M (match st[i]? with
      | some (.sh (.int a')) => (evE Γ a st).bind fun y st => match Op.add, y.2 with
        | .add, .int b => if i < st.length then .ok .nx (st.set i (.sh (.int (a' + b)))) else .bad
        | _, _ => .bad
      | _ => .bad) D := P
    split at P
    · rename_i n e
      obtain ⟨w, e1, e2⟩ := s.rel.sh i _ e
      have e2 : w = .int n := e2
      subst e2
      refine ⟨.int n, e1, (tS_exp s P).mono fun v H1 ⟨x, st1, ps, r, P⟩ => ?_⟩
      obtain ⟨v', ev, o⟩ := r.rl.ops.one
      cases ev
      obtain ⟨f, z⟩ := x
      cases z with
      | int m =>
        dsimp only at P
        split at P
        · rename_i hl
          have b := r.base
          refine ⟨n, m, rfl, o.int, P _ _ ⟨b.rel.setSh hl rfl, b.kp, b.al, fun a o => ?_, b.tab, pin_set hz0 h0 b.pin⟩⟩
          rcases bn_sh (M := fun _ => False) hl b.rel.len a (.inr o) with z | z
          · exact z.elim
          · exact b.own a z
        · exact P.elim
      | _ => exact (show False from P).elim
    · exact P.elim
theorem lstO_some {o : Option Sl} {xs : List PV} (h : lstO o = some xs) : o = some (.ow (.lst xs)) := by
  unfold lstO at h
  split at h
  · cases h; rfl
  · cases h
/-- o.append(e) -/
theorem s_app {i : Nat} {py pa pc : Pos} (hi : X.N[i]? = some x) (hv : Vis X.env.scope x) (ho : okN x = true) (hl : (pa.endLine == pc.line) = true) (hA : SE X Γ C T W a A) : PS X (.Expr (.Call (.Attribute (.Name x py) "append" pa) [A] [] pc) pos) (tS Γ C T W zf (.app i a)) := by
  have pe := pe_bm (cpos := pc) PySem.F.plainAttrs_list PySem.F.slot_list_append PySem.F.type_list_append mt_append (pe_var (pos := py) hi hv (okN_d ho) (okN_c ho)) (pa_cons hA.pe pa_nil (hA.st _ _)) rfl (by rw [hA.st]; rfl) hl (hA.st _ _) rfl
  refine (ps_expr pe rfl).imp fun D σ H ⟨H0, E0, P0, M, st, hz, s, P⟩ => ?_
  have P : PostS C T W H0 E0 P0 M (if (lstO st[i]?).isSome then (evE Γ a st).bind fun x st => if keepV x.1 then match lstO st[i]? with
      | some xs => if xs.length < big then .ok .nx (st.set i (.ow (.lst (xs ++ [x.2])))) else .bad
      | none => .bad
    else .bad
    else .bad) D := P
  cases e0 : lstO st[i]? with
  | none => rw [e0] at P; exact P.elim
  | some xs0 =>
    rw [e0] at P
    obtain ⟨l, e1, ⟨ys0, eH0, _⟩, _⟩ := s.rel.ow i _ (lstO_some e0)
    refine ⟨.ref l, e1, .inl ⟨rfl, ys0, SqL.of eH0⟩, (tS_exp s P).mono fun v H1 ⟨x, st1, ps, r, P⟩ => ?_⟩
    split at P
    · rename_i k
      split at P
      · rename_i xs e2
        split at P
        · rename_i hz
          have b := r.base
          have e2 := lstO_some e2
          obtain ⟨l', e3, ⟨ys, eH, rl⟩, _⟩ := b.rel.ow i _ e2
          rw [e1] at e3
          cases e3
          have kk : Kp (fun b => b = l) H1 (L2.upd H1 l (.lst (ys ++ [v]))) := Kp.write (F := fun b => b = l) rfl
          refine ⟨l, ys, v, rfl, rfl, eH, by rw [RepL.length rl, ← big_eq]; exact hz, P _ _ ?_⟩
          exact b.own' e2 e1 (fun ps z => by cases z) ⟨_, upd_same, RepL.mv kk (owB e2 e1) (fun b z => .inl z) _ _ (RepL.append rl ⟨v, [], rfl, r.rep k, rfl⟩)⟩
        · exact P.elim
      · exact P.elim
    · exact P.elim
/-- o.extend(e) -/
theorem s_ext {i : Nat} {py pa pc : Pos} (hi : X.N[i]? = some x) (hv : Vis X.env.scope x) (ho : okN x = true) (hl : (pa.endLine == pc.line) = true) (hA : SE X Γ C T W a A) : PS X (.Expr (.Call (.Attribute (.Name x py) "extend" pa) [A] [] pc) pos) (tS Γ C T W zf (.ext i a)) := by
  have pe := pe_bm (cpos := pc) PySem.F.plainAttrs_list PySem.F.slot_list_extend PySem.F.type_list_extend mt_extend (pe_var (pos := py) hi hv (okN_d ho) (okN_c ho)) (pa_cons hA.pe pa_nil (hA.st _ _)) rfl (by rw [hA.st]; rfl) hl (hA.st _ _) rfl
  refine (ps_expr pe rfl).imp fun D σ H ⟨H0, E0, P0, M, st, hz, s, P⟩ => ?_
  have P : PostS C T W H0 E0 P0 M (if (lstO st[i]?).isSome then (evE Γ a st).bind fun x st => match lstO st[i]?, x.2 with
      | some xs, .lst ys => if xs.length + ys.length ≤ big ∧ x.1 ≠ .bo then .ok .nx (st.set i (.ow (.lst (xs ++ ys)))) else .bad
      | _, _ => .bad
    else .bad) D := P
  cases e0 : lstO st[i]? with
  | none => rw [e0] at P; exact P.elim
  | some xs0 =>
    rw [e0] at P
    obtain ⟨l, e1, ⟨ys0, eH0, _⟩, _⟩ := s.rel.ow i _ (lstO_some e0)
    refine ⟨.ref l, e1, .inl ⟨rfl, ys0, SqL.of eH0⟩, (tS_exp s P).mono fun v H1 ⟨x, st1, ps, r, P⟩ => ?_⟩
    split at P
    · rename_i xs zs e2 e4
      split at P
      · rename_i hz
        have b := r.base
        have e2 := lstO_some e2
        obtain ⟨l', e3, ⟨ys, eH, rl⟩, _⟩ := b.rel.ow i _ e2
        rw [e1] at e3
        cases e3
        have k : keepV x.1 = true := by
          unfold keepV
          cases hx : x.1 with
          | bo => exact absurd hx hz.2
          | sh => rfl
          | ow => rfl
        have rp := r.rep k
        rw [e4] at rp
        obtain ⟨p, ws, ev, eP, _, rw'⟩ := rp
        subst ev
        have kk : Kp (fun b => b = l) H1 (L2.upd H1 l (.lst (ys ++ ws))) := Kp.write (F := fun b => b = l) rfl
        refine ⟨l, p, ys, ws, rfl, rfl, eH, eP, by rw [RepL.length rl, RepL.length rw', ← big_eq]; exact hz.1, P _ _ ?_⟩
        exact b.own' e2 e1 (fun ps z => by cases z) ⟨_, upd_same, RepL.mv kk (owB e2 e1) (fun b z => .inl z) _ _ (RepL.append rl rw')⟩
      · exact P.elim
    · exact P.elim
/-- o.f = e -/
theorem lookF_put {B : Addr → Prop} {f : Str} {z : PV} {v : V} (hz : Rep C B H z v) : ∀ {fs : List (Str × PV)} {ys : List (Str × V)}, Rep.RepF C B H fs ys → Rep.RepF C B H (Mi.putF f z fs) (L2.putF f v ys)
  | [], _, h => by rw [show _ = [] from h]; exact ⟨v, [], rfl, hz, rfl⟩
  | (g, u) :: fs, _, h => by
    obtain ⟨y, r, e, h1, h2⟩ := h
    rw [e]
    unfold Mi.putF L2.putF
    split
    · exact ⟨v, r, rfl, hz, h2⟩
    · exact ⟨y, _, rfl, h1, lookF_put hz h2⟩
theorem RepF.length {B : Addr → Prop} : ∀ {xs : List (Str × PV)} {vs : List (Str × V)}, Rep.RepF C B H xs vs → vs.length = xs.length
  | [], _, h => by rw [show _ = [] from h]; rfl
  | (k, x) :: xs, _, h => by
    obtain ⟨y, r, e, _, h2⟩ := h
    rw [e, List.length_cons, List.length_cons, RepF.length h2]
theorem s_setat {i : Nat} {py ps : Pos} {f : Str} (ok : XOk Dt X Γ C T W) (hi : X.N[i]? = some x) (hv : Vis X.env.scope x) (ho : okN x = true) (hl : lcB A = false) (hf : f ∈ Dt.atts) (hA : SE X Γ C T W a A) : PS X (.Assign [.Attribute (.Name x py) f ps] A pos) (tS Γ C T W zf (.setat i f a)) :=
  (ps_fld (pe_var hi hv (okN_d ho) (okN_c ho)) hA.pe (swap_no hl)).imp fun D σ H ⟨H0, E0, P0, M, st, hz, s, P⟩ => (tS_exp s P).mono fun v H1 ⟨x, st1, ps, r, P⟩ => by
    split at P
    · rename_i k
      split at P
      · rename_i c fs e
        split at P
        · rename_i hz
          have b := r.base
          obtain ⟨l, e1, ⟨dx, ys, ic, eH, rf⟩, _⟩ := b.rel.ow i _ e
          have kk : Kp (fun b => b = l) H1 (L2.upd H1 l (.ins (C.T.ca c) dx (L2.putF f v ys))) := Kp.write (F := fun b => b = l) rfl
          refine ⟨.ref l, e1, l, C.T.ca c, dx, ys, rfl, eH, (ok.kf.ins c ic).1.cl, (ok.kf.ins c ic).2 f hf, by rw [RepF.length rf]; exact hz, P _ _ ?_⟩
          exact b.own' e e1 (fun ps z => by cases z) ⟨dx, _, ic, upd_same, RepF.mv kk (owB e e1) (fun b z => .inl z) _ _ (lookF_put (r.rep k) rf)⟩
        · exact P.elim
      · exact P.elim
    · exact P.elim
/-! ### a, b = x, y -/
/-- what the machine makes of it: stores from the right, or a tuple -/
def isStarE : Expr → Bool
  | .Starred _ _ => true
  | _ => false
def nmE (sc : Scope) (line : Nat) : Expr → Option Str
  | .Name id pos => if (sc.names.lookup id == some .local && pos.line == line) = true then some id else none
  | _ => none
def swapC (sc : Scope) (ts vs : List Expr) : Option (Option (List Str)) :=
  if (!(ts.length == 2 || ts.length == 3) || vs.length != ts.length) = true then some none else
  if (vs.any isStarE) = true then some none else
  if ((ts.filterMap (nmE sc ((ts.head?.map (·.pos.line)).getD 0))).length != ts.length || (ts.filterMap (nmE sc ((ts.head?.map (·.pos.line)).getD 0))).eraseDups.length != (ts.filterMap (nmE sc ((ts.head?.map (·.pos.line)).getD 0))).length) = true then some none else
  if vs.all (foldedForSure 8) = true then some none else
  if vs.all (constantsAlone 8) = true then none else some (some (ts.filterMap (nmE sc ((ts.head?.map (·.pos.line)).getD 0))))
theorem swapC_ok {env : Env} {ts vs : List Expr} {k k2 : Nat} {p p2 : Pos} {r : Option (List Str)} (hk : env.scope.kind = .function) (h : swapC env.scope ts vs = some r) : swappedStores [.Tuple ts k p] (.Tuple vs k2 p2) env = pure r := by
  have hb : (env.blockKind != .function) = false := by unfold Env.blockKind; rw [hk]; rfl
  unfold swapC at h
  have e1 : ∀ (x y : Sem (Option (List Str))), (if (vs.any fun | .Starred .. => true | _ => false) = true then x else y) = if (vs.any isStarE) = true then x else y := fun x y => rfl
  have e2 : (ts.filterMap fun
    | .Name id pos => if (env.kindOf id == some .local && pos.line == (ts.head?.map (·.pos.line)).getD 0) = true then some id else none
    | _ => none) = ts.filterMap (nmE env.scope ((ts.head?.map (·.pos.line)).getD 0)) := rfl
  generalize hn : ts.filterMap (nmE env.scope ((ts.head?.map (·.pos.line)).getD 0)) = ns at h e2
  have main : swappedStores [.Tuple ts k p] (.Tuple vs k2 p2) env = (if (!(ts.length == 2 || ts.length == 3) || vs.length != ts.length || env.blockKind != .function) = true then pure none else
      if (vs.any isStarE) = true then pure none else if (ns.length != ts.length || ns.eraseDups.length != ns.length) = true then pure none else if vs.all (foldedForSure 8) = true then pure none else
      if vs.all (constantsAlone 8) = true then (do unsupported "assign.tuple-of-constant-expressions:order-of-the-stores"; pure (some ns)) else pure (some ns)) := by
    rw [← hn]
    rfl
  rw [main, hb, Bool.or_false]
  split at h
  · rename_i h1; cases h; rw [if_pos h1]
  · rename_i h1
    rw [if_neg h1]
    split at h
    · rename_i h2; cases h; rw [if_pos h2]
    · rename_i h2
      rw [if_neg h2]
      split at h
      · rename_i h3; cases h; rw [if_pos h3]
      · rename_i h3
        rw [if_neg h3]
        split at h
        · rename_i h4; cases h; rw [if_pos h4]
        · rename_i h4
          rw [if_neg h4]
          split at h
          · cases h
          · rename_i h5; cases h; rw [if_neg h5]
def setAllV : L2.St → List Nat → List V → L2.St
  | σ, i :: is, v :: vs => setAllV (σ.set i (some v)) is vs
  | σ, _, _ => σ
theorem SR.setOne {y : Fl × PV} {ys : List (Fl × PV)} {v : V} {vs : List V} {ps : List Addr} {i : Nat} (hz : zf = false → ∀ a, ¬ P0 a) (h0 : zf = true → i ≠ 0) (r : SR C T H0 E0 P0 M σ H1 (y :: ys) (v :: vs) st1 ps) {K : Slots → Rs Fw} (P : PostS C T W H0 E0 P0 M ((setOwn i y st1).bind fun _ st => K st) D) :
    ∃ st2 ps', SR C T H0 E0 P0 M (σ.set i (some v)) H1 ys vs st2 ps' ∧ PostS C T W H0 E0 P0 M (K st2) D := by
  obtain ⟨f, z⟩ := y
  obtain ⟨si, nd, fr, rl⟩ := r
  unfold setOwn at P
  cases f with
  | bo => exact (show False from P).elim
  | sh =>
    dsimp only at P
    split at P
    · rename_i hl
      cases rl with
      | sh h t =>
        have bn := bn_sh (M := Un M ps) (v := z) (w := v) hl si.rel.len
        refine ⟨_, ps, ⟨⟨si.rel.setSh hl h, si.kp, si.al, fun a o => ?_, si.tab, pin_set hz h0 si.pin⟩, nd, fr, ?_⟩, P⟩
        · rcases bn_sh (M := fun _ => False) hl si.rel.len a (.inr o) with z | z
          · exact z.elim
          · exact si.own a z
        · exact RL.mv (Kp.refl (fun _ => False) H1) (fun _ z => z.elim) (fun b z => .inl (bn b z)) t (fun _ _ => rfl) (fun _ _ z => z)
    · exact (show False from P).elim
  | ow =>
    dsimp only at P
    split at P
    · rename_i hl
      cases rl with
      | @ow _ p _ _ ps' h t =>
        have hp : p ∉ ps' := (List.nodup_cons.mp nd).1
        have up : ∀ a, Un (Un M ps') [p] a → Un M (p :: ps') a := fun a z => z.elim (fun z => z.elim .inl fun z => .inr (List.mem_cons_of_mem _ z)) fun z => .inr (by rw [List.mem_singleton.mp z]; exact List.mem_cons_self)
        have up2 : ∀ a, Un M (p :: ps') a → Un (Un M ps') [p] a := fun a z => z.elim (fun z => .inl (.inl z)) fun z => (List.mem_cons.mp z).elim (fun z => .inr (by rw [z]; simp)) (fun z => .inl (.inr z))
        have r1 := si.rel.weaken up
        have h1 : OwnAt C (Bn (Un (Un M ps') [p]) st1 σ) H1 p z := h.sub fun a => Bn.mono up
        have np : ¬ Un M ps' p := fun z => z.elim (fr p List.mem_cons_self).1 hp
        have r2 := r1.setOw hl h1 np
        have hl' : i < σ.length := by rw [si.rel.len]; exact hl
        have own : ∀ a, Owns (st1.set i (.ow z)) (σ.set i (some (.ref p))) a → a = p ∨ Owns st1 σ a := fun a ⟨j, u, e1, e2⟩ => by
          rw [set_get hl] at e1
          rw [set_get hl'] at e2
          by_cases hj : i = j
          · rw [if_pos hj] at e2
            cases e2
            exact .inl rfl
          · rw [if_neg hj] at e1 e2
            exact .inr ⟨j, u, e1, e2⟩
        have bn : ∀ b, Bn (Un M ps') (st1.set i (.ow z)) (σ.set i (some (.ref p))) b → Bn (Un M (p :: ps')) st1 σ b := fun b z => by
          rcases z with z | z
          · exact .inl (z.elim .inl fun z => .inr (List.mem_cons_of_mem _ z))
          · rcases own b z with z | z
            · exact .inl (.inr (by rw [z]; exact List.mem_cons_self))
            · exact .inr z
        refine ⟨_, ps', ⟨⟨r2, si.kp, si.al, fun a o => ?_, si.tab, pin_set hz h0 si.pin⟩, (List.nodup_cons.mp nd).2, fun a ha => fr a (List.mem_cons_of_mem _ ha), ?_⟩, P⟩
        · rcases own a o with z | z
          · rw [z]; exact (fr p List.mem_cons_self).2
          · exact si.own a z
        · exact RL.mv (Kp.refl (fun _ => False) H1) (fun _ z => z.elim) (fun b z => .inl (bn b z)) t (fun _ _ => rfl) (fun _ _ z => z)
    · exact (show False from P).elim
theorem SR.setAll (hz : zf = false → ∀ a, ¬ P0 a) : ∀ (is : List Nat) (h0 : zf = true → 0 ∉ is) (xs : List (Fl × PV)) (vs : List V) {σ : L2.St} {st1 : Slots} {ps : List Addr}, SR C T H0 E0 P0 M σ H1 xs vs st1 ps → PostS C T W H0 E0 P0 M (setAll is xs st1) D → vs.length = is.length ∧ D.nx (setAllV σ is vs) H1
  | [], _, [], vs, σ, st1, ps, r, P => by
    have e : vs = [] := by
      have := wlen r.rl
      exact List.length_eq_zero_iff.mp this
    subst e
    exact ⟨rfl, P _ _ r.base⟩
  | i :: is, h0, x :: xs, vs, σ, st1, ps, r, P => by
    have hl := wlen r.rl
    cases vs with
    | nil => cases hl
    | cons v vs =>
      obtain ⟨st2, ps', r', P'⟩ := SR.setOne hz (fun z e => h0 z (by rw [e]; exact List.mem_cons_self)) r (K := fun st => Mi.setAll is xs st) P
      obtain ⟨h1, h2⟩ := SR.setAll hz is (fun z e => h0 z (List.mem_cons_of_mem _ e)) xs vs r' P'
      exact ⟨by rw [List.length_cons, List.length_cons, h1], h2⟩
  | [], _, _ :: _, _, _, _, _, _, P => P.elim
  | _ :: _, _, [], _, _, _, _, _, P => P.elim
/-- targets that are names -/
def mNames (cel : Bool) (N : List Str) (sc : Scope) : List Nat → List Expr → Bool
  | [], [] => true
  | i :: is, .Name x _ :: es => decide (N[i]? = some x) && locB cel sc x && mNames cel N sc is es
  | _, _ => false
def gNs (is : List Nat) : TGs := fun vs σ H Q => vs.length = is.length ∧ Q (setAllV σ is vs) H
theorem pgs_names (hN : X.N.Nodup) {cel : Bool} (hf : fnOk cel X) : ∀ (is : List Nat) (es : List Expr), mNames cel X.N X.env.scope is es = true → PGs X es (gNs is) ∧ (assignEach es X.env).length = es.length ∧ (assignEach es X.env).findIdx? (·.1) = none ∧ is.length = es.length
  | [], [], _ => ⟨pgs_nil.imp fun v σ H Q q => by
      obtain ⟨h1, h2⟩ := q
      have e : v = [] := List.length_eq_zero_iff.mp h1
      subst e
      exact ⟨rfl, h2⟩, rfl, rfl, rfl⟩
  | i :: is, e :: es, h => by
    unfold mNames at h
    split at h
    · rename_i e1 _; cases e1
    · rename_i i' is' x pos es' e1 e2
      cases e1
      cases e2
      rw [Bool.and_eq_true, Bool.and_eq_true] at h
      obtain ⟨h1, h2, h3, h4⟩ := pgs_names hN hf is es h.2
      refine ⟨(pgs_cons (pg_name hN (of_decide_eq_true h.1.1) (locB_ok h.1.2) (hf.at h.1.2)) h1 rfl).imp fun v σ H Q q => ?_, ?_, ?_, by rw [List.length_cons, List.length_cons, h4]⟩
      · obtain ⟨q1, q2⟩ := q
        cases v with
        | nil => cases q1
        | cons v vs => exact ⟨v, vs, rfl, by rw [List.length_cons, List.length_cons] at q1; omega, q2⟩
      · show ((false, _) :: assignEach es X.env).length = _
        rw [List.length_cons, List.length_cons, h2]
      · show ((false, _) :: assignEach es X.env).findIdx? (·.1) = none
        rw [List.findIdx?_cons]
        simpa using h3
    · cases h
  | [], _ :: _, h => by cases h
  | _ :: _, [], h => by cases h
theorem SR.grow {xs : List (Fl × PV)} {vs : List V} {ps : List Addr} {q : Addr} {o : HO} (r : SR C T H0 E0 P0 M σ H1 xs vs st1 ps) (hq : H1 q = none) : SR C T H0 E0 P0 M σ (L2.upd H1 q o) xs vs st1 ps := by
  have k : Kp (fun _ => False) H1 (L2.upd H1 q o) := Kp.updF hq
  refine ⟨⟨r.si.rel.grow k, fun a u h n t => by rw [upd_ne (ne_of_none (r.si.kp a u h n t) hq)]; exact r.si.kp a u h n t, fun a h => Mi.upd_al a (r.si.al a h), r.si.own, r.si.tab.upd hq, r.si.pin⟩, r.nd, r.fr, ?_⟩
  refine RL.mv k (fun _ z => z.elim) (fun b z => .inl z) r.rl (fun a ha => ?_) (fun _ _ z => z)
  obtain ⟨u, e, _⟩ := r.si.rel.al a (.inr ha)
  rw [upd_ne (ne_of_none e hq)]
def nmsOf : List Expr → List Str
  | .Name x _ :: es => x :: nmsOf es
  | _ => []
/-- a, b = x, y : through a tuple -/
theorem s_parT {is : List Nat} {ts : List Expr} {k k2 : Nat} {p2 : Pos} {cel : Bool} (hc : X.calm = true) (hk : X.env.scope.kind = .function) (hN : X.N.Nodup) (hf : fnOk cel X) (ht : mNames cel X.N X.env.scope is ts = true) (hw : swapC X.env.scope ts As = some none) (hn : decide (is.length ≤ 10000) = true) (h0 : zf = true → 0 ∉ is) (h : SEs X Γ C T W as As) :
    PS X (.Assign [.Tuple ts k p] (.Tuple As k2 p2) pos) (tS Γ C T W zf (.par is as)) := by
  obtain ⟨h1, h2, h3, h4⟩ := pgs_names hN hf is ts ht
  refine (ps_asg (pe_tup h.pa) (pg_tup (n := ts.length) hc h1 h2 h3) rfl (swapC_ok hk hw) rfl).imp fun D σ H ⟨H0, E0, P0, M, st, hz, s, P⟩ => tEs.mono (tS_exps s P) fun vs H1 ⟨xs, st1, ps, r, P⟩ => ?_
  have z := of_decide_eq_true hn
  obtain ⟨hl, _⟩ := SR.setAll hz is h0 xs vs r P
  refine ⟨?_, fun q hq => ⟨q, vs, rfl, SqT.of upd_same, by rw [hl, h4], ?_⟩⟩
  · rw [hl, ← big_eq]; exact Nat.le_trans z (by decide)
  · exact SR.setAll hz is h0 xs vs (r.grow hq) P
def lclB (sc : Scope) (x : Str) : Bool := sc.names.lookup x == some .local
theorem s_par2 {i j : Nat} {x y : Str} {px py : Pos} {k k2 : Nat} {p2 : Pos} (hc : X.calm = true) (hk : X.env.scope.kind = .function) (hN : X.N.Nodup) (hi : X.N[i]? = some x) (hj : X.N[j]? = some y) (hij : i ≠ j) (hx : lclB X.env.scope x = true) (hy : lclB X.env.scope y = true)
    (hw : swapC X.env.scope [.Name x px, .Name y py] [A, B] = some (some [x, y])) (h0 : zf = true → 0 ∉ [i, j]) (h : SEs X Γ C T W as [A, B]) : PS X (.Assign [.Tuple [.Name x px, .Name y py] k p] (.Tuple [A, B] k2 p2) pos) (tS Γ C T W zf (.par [i, j] as)) :=
  (ps_par hc hN hi hj hij (beq_iff_eq.mp hx) (beq_iff_eq.mp hy) h.pa (swapC_ok hk hw) rfl).imp fun D σ H ⟨H0, E0, P0, M, st, hz, s, P⟩ => tEs.mono (tS_exps s P) fun vs H1 ⟨xs, st1, ps, r, P⟩ => by
    obtain ⟨hl, q⟩ := SR.setAll hz [i, j] h0 xs vs r P
    match vs, hl with
    | [v, w], _ => exact ⟨v, w, rfl, q⟩
theorem s_par3 {i j l : Nat} {x y z : Str} {px py pz : Pos} {k k2 : Nat} {p2 : Pos} {Z : Expr} (hc : X.calm = true) (hk : X.env.scope.kind = .function) (hN : X.N.Nodup) (hi : X.N[i]? = some x) (hj : X.N[j]? = some y) (hl : X.N[l]? = some z) (hij : i ≠ j) (hil : i ≠ l) (hjl : j ≠ l) (hx : lclB X.env.scope x = true) (hy : lclB X.env.scope y = true) (hz : lclB X.env.scope z = true)
    (hw : swapC X.env.scope [.Name x px, .Name y py, .Name z pz] [A, B, Z] = some (some [x, y, z])) (h0 : zf = true → 0 ∉ [i, j, l]) (h : SEs X Γ C T W as [A, B, Z]) : PS X (.Assign [.Tuple [.Name x px, .Name y py, .Name z pz] k p] (.Tuple [A, B, Z] k2 p2) pos) (tS Γ C T W zf (.par [i, j, l] as)) :=
  (ps_par3 hc hN hi hj hl hij hil hjl (beq_iff_eq.mp hx) (beq_iff_eq.mp hy) (beq_iff_eq.mp hz) h.pa (swapC_ok hk hw) rfl).imp fun D σ H ⟨H0, E0, P0, M, st, hz, s, P⟩ => tEs.mono (tS_exps s P) fun vs H1 ⟨xs, st1, ps, r, P⟩ => by
    obtain ⟨hl, q⟩ := SR.setAll hz [i, j, l] h0 xs vs r P
    match vs, hl with
    | [u, v, w], _ => exact ⟨u, v, w, rfl, q⟩
end
end Mi

/-! Mi16: loops; a name set to a comprehension. -/
namespace Mi
open PySem PySem.Spec PyProof.Rows L2

def whileN {σ ρ : Type} (step : σ → Option (σ ⊕ ρ)) : Nat → σ → Option ρ
  | 0, _ => none
  | n + 1, s => match step s with
    | none => none
    | some (.inl s') => whileN step n s'
    | some (.inr r) => some r
theorem whileM_N {σ ρ : Type} {step : σ → Option (σ ⊕ ρ)} {s : σ} {r : ρ} (h : whileM step s = some r) : ∃ n, whileN step n s = some r := by
  refine whileM.partial_correctness step (fun s r => ∃ n, whileN step n s = some r) (fun rec ih s r e => ?_) s r h
  cases q : step s with
  | none => rw [q] at e; cases e
  | some y =>
    rw [q] at e
    cases y with
    | inl s' =>
      obtain ⟨n, hn⟩ := ih s' r e
      exact ⟨n + 1, by show (match step s with | none => none | some (.inl s') => whileN step n s' | some (.inr r) => some r) = some r; rw [q]; exact hn⟩
    | inr r' =>
      cases e
      exact ⟨1, by show (match step s with | none => none | some (.inl s') => whileN step 0 s' | some (.inr r) => some r) = some r; rw [q]⟩
section
variable {Dt : Dat} {X : Cx} {Γ : G} {C : Cn} {T : List NdefX.NTab} {W : WX} {a b c : E} {as : Es} {A B : Expr} {As : List Expr} {pos p : Pos} {x : Str} {σ σ' : L2.St} {H H' H0 H1 H2 : Hp} {Q : VK} {M M' E0 P0 : Addr → Prop} {st st' st1 st2 : Slots} {io : Bool} {D : Ends} {zf : Bool}
theorem s_whl {u : Ss} {U : List Stmt} (hp : PassesOwn (model X.prog X.w) X.A X.env X.xe) (ha : SE X Γ C T W a A) (hu : PSs X U (tSs Γ C T W zf u)) : PS X (.While A U [] pos) (tS Γ C T W zf (.whl a u)) :=
  (ps_while hp ha.pt hu).imp fun D σ H ⟨H0, E0, P0, M, st, hz, s, P⟩ => by
    have P : PostS C T W H0 E0 P0 M ((whileM (whlStep (evE Γ a) (evSs Γ u)) st).getD .bad) D := P
    cases e : whileM (whlStep (evE Γ a) (evSs Γ u)) st with
    | none => rw [e] at P; exact P.elim
    | some r =>
      rw [e] at P
      have P : PostS C T W H0 E0 P0 M r D := P
      obtain ⟨n, hn⟩ := whileM_N e
      refine ⟨fun m σ H => ∃ st, SI C T H0 E0 P0 M st σ H ∧ whileN (whlStep (evE Γ a) (evSs Γ u)) m st = some r, ⟨n, st, s, hn⟩, ?_⟩
      rintro m σ1 H1 ⟨st1, s1, h1⟩
      cases m with
      | zero => cases h1
      | succ m =>
        unfold whileN at h1
        refine ⟨M, st1, s1.rel, s1.tab, ?_⟩
        unfold PostE one
        cases ea : evE Γ a st1 with
        | bad => unfold whlStep at h1; rw [ea] at h1; cases h1
        | ex k fs st2 =>
          unfold whlStep at h1
          rw [ea] at h1
          cases h1
          exact fun cls d H' q x => P cls d σ1 H' (s1.step q) x
        | ok y st2 =>
          intro vs ps H2 q nd f rl v ev
          subst ev
          obtain ⟨v', e2, o⟩ := rl.ops.one
          cases e2
          obtain ⟨fl, z⟩ := y
          have s2 : SI C T H0 E0 P0 M st2 σ1 H2 := (s1.step q).weaken un_l
          cases z with
          | bl k =>
            refine ⟨k, o.bl, ?_⟩
            unfold whlStep at h1
            rw [ea] at h1
            cases k with
            | false =>
              rw [if_neg (by decide)]
              cases h1
              exact P _ _ s2
            | true =>
              rw [if_pos rfl]
              refine ⟨fun σ' H' => ∃ st, SI C T H0 E0 P0 M st σ' H' ∧ whileN (whlStep (evE Γ a) (evSs Γ u)) m st = some r, fun σ' H' h => ⟨m, Nat.lt_succ_self m, h⟩, H0, E0, P0, M, st2, hz, s2, ?_⟩
              dsimp only [boolP] at h1
              cases eb : evSs Γ u st2 with
              | bad => rw [eb] at h1; cases h1; exact P.elim
              | ex k fs st3 => rw [eb] at h1; cases h1; exact P
              | ok w st3 =>
                rw [eb] at h1
                cases w with
                | nx => exact fun σ' H' s3 => ⟨st3, s3, h1⟩
                | ct => exact fun σ' H' s3 => ⟨st3, s3, h1⟩
                | bk => cases h1; exact fun σ' H' s3 => P _ _ s3
                | rt f v => cases h1; exact P
          | _ => unfold whlStep at h1; rw [ea] at h1; cases h1

/-! ### for -/
theorem SI.unbase {F M1 : Addr → Prop} (hF : ∀ a, F a → E0 a ∨ H0 a = none) (k : Kp E0 H0 H1) (al : ∀ a, H0 a ≠ none → H1 a ≠ none) (hM : ∀ a, M a → M1 a) (s : SI C T H1 F P0 M1 st σ H) : SI C T H0 E0 P0 M st σ H :=
  ⟨s.rel.weaken hM, fun a o h n t => s.kp a o (k a o h n t) (fun z => (hF a z).elim n fun z => by rw [h] at z; cases z) t, fun a h => s.al a (al a h), fun a o => (s.own a o).elim (hF a) fun z => .inr (by
    cases e : H0 a with
    | none => rfl
    | some o => exact absurd z (al a (by rw [e]; exact fun z => by cases z))), s.tab, s.pin⟩
theorem PostS.rebase {F M1 : Addr → Prop} {r : Rs Fw} (hF : ∀ a, F a → E0 a ∨ H0 a = none) (k : Kp E0 H0 H1) (al : ∀ a, H0 a ≠ none → H1 a ≠ none) (hM : ∀ a, M a → M1 a) (P : PostS C T W H0 E0 P0 M r D) : PostS C T W H1 F P0 M1 r D := by
  have none_of : ∀ a, H1 a = none → H0 a = none := fun a z => by
    cases e : H0 a with
    | none => rfl
    | some o => exact absurd z (al a (by rw [e]; exact fun z => by cases z))
  cases r with
  | bad => exact P
  | ex c fs st1 => exact fun cls d σ' H' s x => P cls d σ' H' (s.unbase hF k al hM) ⟨x.1, x.2.1, x.2.2.elim .inl fun ⟨dd, ys, e1, e2, e3, e4⟩ => .inr ⟨dd, ys, e1, e2, fun z => e3 (Bn.mono hM z), RepF.mv (Kp.refl (fun _ => False) H') (fun _ z => z.elim) (fun a z => .inl (Bn.mono hM z)) fs ys e4⟩⟩
  | ok w st1 =>
    cases w with
    | nx => exact fun σ' H' s => P σ' H' (s.unbase hF k al hM)
    | bk => exact fun σ' H' s => P σ' H' (s.unbase hF k al hM)
    | ct => exact fun σ' H' s => P σ' H' (s.unbase hF k al hM)
    | rt f v =>
      intro w ps σ' H' s nd fr rl
      have hu : ∀ a, Un M ps a → Un M1 ps a := fun a z => z.elim (fun z => .inl (hM a z)) .inr
      refine P w ps σ' H' (s.unbase hF k al hu) nd (fun a ha => ⟨fun z => (fr a ha).1 (hM a z), (fr a ha).2.elim (hF a) fun z => .inr (none_of a z)⟩) ?_
      exact RL.mv (Kp.refl (fun _ => False) H') (fun _ z => z.elim) (fun b z => .inl (Bn.mono hu z)) rl (fun _ _ => rfl) (fun _ _ z => z)
def forStep (Γ : G) (t : Tg) (u : Ss) (x : PV) (st : Slots) : Rs Fw := match t.set x st with
  | some st => evSs Γ u st
  | none => .bad
theorem s_for {t : Tg} {tg : Expr} {it : I} {u : Ss} {iter : Expr} {U : List Stmt} (hp : PassesOwn (model X.prog X.w) X.A X.env X.xe) (hc : X.calm = true) (hi : PI X tg iter (tI Γ C T W it)) (hg : PG X tg (tG C t)) (hu : PSs X U (tSs Γ C T W zf u)) (hs : ∀ x, foldedSetIterable iter X.env x = pure x) (h0 : zf = true → 0 ∉ t.slots) :
    PS X (.For tg iter U [] pos) (tS Γ C T W zf (.for t it u)) :=
  (ps_for hp hc hi hg hu hs).imp fun D σ H ⟨H0, E0, P0, M, st, hz, s, P⟩ => by
    have P : PostS C T W H0 E0 P0 M ((evI Γ it st).bind fun xs st => if xs.1 ≠ .bo then forRun (forStep Γ t u) xs.2 st else .bad) D := P
    refine ⟨M, st, s.rel, s.tab, ?_⟩
    cases ei : evI Γ it st with
    | bad => rw [ei] at P; exact P
    | ex k fs st1 => rw [ei] at P; exact fun cls d H' q x => P cls d σ H' (s.step q) x
    | ok y st1 =>
      rw [ei] at P
      have P : PostS C T W H0 E0 P0 M (if y.1 ≠ .bo then forRun (forStep Γ t u) y.2 st1 else .bad) D := P
      intro J ps H1 q w
      split at P
      · rename_i hy
        have s1 := s.step q
        generalize hF : wr y.1 st1 σ = F at w
        have F1 : ∀ a, Owns st1 σ a → F a := fun a o => by rw [← hF]; exact ⟨hy, o⟩
        have F2 : ∀ a, F a → Owns st1 σ a := fun a o => by rw [← hF] at o; exact o.2
        have FE : ∀ a, F a → E0 a ∨ H0 a = none := fun a z => s1.own a (F2 a z)
        have base : SI C T H1 F P0 (Un M ps) st1 σ H1 := ⟨s1.rel, Kp.refl _ _, fun _ h => h, fun a o => .inl (F1 a o), s1.tab, s1.pin⟩
        refine ⟨fun i m σ' H' => m = y.2.length - i ∧ i ≤ y.2.length ∧ ∃ sti, SI C T H1 F P0 (Un M ps) sti σ' H' ∧ PostS C T W H0 E0 P0 M (forRun (forStep Γ t u) (y.2.drop i) sti) D, ⟨y.2.length, by simp, Nat.zero_le _, st1, base, P⟩, ?_⟩
        rintro i m σ2 H2 ⟨rfl, hi, sti, si, Pi⟩
        obtain ⟨wk, wstop⟩ := w H2 si.kp si.al
        by_cases hlt : i < y.2.length
        · obtain ⟨go, yl⟩ := wk i y.2[i] (List.getElem?_eq_getElem hlt)
          rw [List.drop_eq_getElem_cons hlt] at Pi
          have Pi : PostS C T W H0 E0 P0 M ((forStep Γ t u y.2[i] sti).bind fun w st => match w with
            | .nx => forRun (forStep Γ t u) (y.2.drop (i + 1)) st
            | .ct => forRun (forStep Γ t u) (y.2.drop (i + 1)) st
            | .bk => .ok .nx st
            | .rt f v => .ok (.rt f v) st) D := Pi
          refine .inr ⟨go, fun σ' H' => ∃ sti, SI C T H1 F P0 (Un M ps) sti σ' H' ∧ PostS C T W H0 E0 P0 M (forRun (forStep Γ t u) (y.2.drop (i + 1)) sti) D, fun σ' H' h => ⟨y.2.length - (i + 1), by omega, rfl, hlt, h⟩, fun x H3 hy3 => ?_⟩
          obtain ⟨k1, k2, k3, k4⟩ := yl x H3 hy3
          have bnB : ∀ a, Bn (Un M ps) sti σ2 a → Bn (Un M ps) st1 σ a ∨ H1 a = none := fun a z => z.elim (fun z => .inl (.inl z)) fun z => (si.own a z).elim (fun z => .inl (.inr (F2 a z))) .inr
          have bnA : ∀ a, Bn (Un M ps) sti σ2 a → H2 a ≠ none := fun a z => by
            obtain ⟨o, e, _⟩ := si.rel.bnSome z
            rw [e]; exact fun z => by cases z
          have si3 : SI C T H1 F P0 (Un M ps) sti σ2 H3 := ⟨si.rel.grow k1, fun a o h n t => k1 a o (si.kp a o h n t) (fun z => z) t, fun a h => k2 a (si.al a h), si.own, spec_tabs si.tab k3, si.pin⟩
          unfold forStep at Pi
          cases et : t.set y.2[i] sti with
          | none => rw [et] at Pi; exact (show False from Pi).elim
          | some stA =>
            rw [et] at Pi
            refine ⟨Un M ps, sti, y.2[i], stA, si3.rel, k4 _ bnB bnA, et, fun σ4 r4 bn4 ps4 => ?_⟩
            have si4 : SI C T H1 F P0 (Un M ps) stA σ4 H3 := ⟨r4, si3.kp, si3.al, fun a o => by
              rcases bn4 a (.inr o) with z | z
              · exact absurd o (r4.notOwn z)
              · exact si3.own a z, si3.tab, fun a h => by
              cases zf with
              | false => exact absurd h (hz rfl a)
              | true => rw [ps4 0 (h0 rfl)]; exact si3.pin a h⟩
            refine ⟨H1, F, P0, Un M ps, stA, hz, si4, ?_⟩
            have Pi : PostS C T W H0 E0 P0 M ((evSs Γ u stA).bind fun w st => match w with
              | .nx => forRun (forStep Γ t u) (y.2.drop (i + 1)) st
              | .ct => forRun (forStep Γ t u) (y.2.drop (i + 1)) st
              | .bk => .ok .nx st
              | .rt f v => .ok (.rt f v) st) D := Pi
            cases eb : evSs Γ u stA with
            | bad => rw [eb] at Pi; exact Pi
            | ex k fs st5 =>
              rw [eb] at Pi
              have Pi : PostS C T W H0 E0 P0 M (.ex k fs st5) D := Pi
              exact PostS.rebase (D := D) FE s1.kp s1.al (fun a m => .inl m) Pi
            | ok w5 st5 =>
              rw [eb] at Pi
              cases w5 with
              | nx => exact fun σ' H' s5 => ⟨st5, s5, Pi⟩
              | ct => exact fun σ' H' s5 => ⟨st5, s5, Pi⟩
              | bk => exact fun σ' H' s5 => Pi _ _ (s5.unbase FE s1.kp s1.al fun a m => .inl m)
              | rt f v =>
                have Pi : PostS C T W H0 E0 P0 M (.ok (.rt f v) st5) D := Pi
                exact PostS.rebase (D := D) FE s1.kp s1.al (fun a m => .inl m) Pi
        · have ei : i = y.2.length := by omega
          subst ei
          rw [List.drop_length] at Pi
          exact .inl ⟨wstop, Pi _ _ (si.unbase FE s1.kp s1.al fun a m => .inl m)⟩
      · exact P.elim
/-! ### a name set to a comprehension -/
theorem swap_cell {elt : Expr} {gs : List Comprehension} {scope : Scope} {pos py : Pos} {y : Str} {l : Nat} {env : Env} (hy : env.scope.names.lookup y = some .cell) : swapsWith (.ListComp elt gs scope pos) (some (.Name y py)) l env = pure false := by
  have ky : env.kindOf y = some .cell := hy
  unfold swapsWith
  simp only [ky]
  have : ((some NameKind.cell == some NameKind.local) = false) := by decide
  simp [this]
theorem s_setLcC {i : Nat} {elt : Expr} {gs : List Comprehension} {scope : Scope} {cpos py : Pos} (hN : X.N.Nodup) (hf : ∀ x, X.fn x = true) (hi : X.N[i]? = some x) (hx : X.env.scope.names.lookup x = some .cell) (h0 : zf = true → i ≠ 0) (ha : SE X Γ C T W a (.ListComp elt gs scope cpos)) : PS X (.Assign [.Name x py] (.ListComp elt gs scope cpos) pos) (tS Γ C T W zf (.set i a)) :=
  (ps_set hN hi (.inr hx) ha.pe (swap_cell hx) (.inl (hf x))).imp fun D σ H ⟨H0, E0, P0, M, st, hz, s, P⟩ => (tS_exp s P).mono fun v H1 ⟨x, st1, ps, r, P⟩ => r.set hz h0 P
theorem s_setLc {i : Nat} {t : Tg} {it : I} {cc : Es} {e : E} {tg iter elt : Expr} {ifs : List Expr} {scope : Scope} {own : List (Str × Nat)} {cpos py : Pos} (hc : X.calm = true) (hk : X.env.scope.kind = .function) (hN : X.N.Nodup) (hx : X.N[i]? = some x) (hl : X.env.scope.names.lookup x = some .local) (hline : (py.line == cpos.line) = true)
    (hno : (scope.names.any fun (n, k) => n == x && (k == .local || k == .cell)) = false) (ok : BlkOk X.N X.env.scope scope own) (ho : own.map (·.2) = t.slots)
    (hi : PI X tg iter (tI Γ C T W it)) (hg : ∀ (s : Shared) (H : Hp) (Cc : Addr) (cl : List (Str × Addr)) (fp : List Addr), PG (X.blk s H scope (compEnvC scope cl Cc X.env) fp) tg (tG C t))
    (ht : ∀ (s : Shared) (H : Hp) (Cc : Addr) (cl : List (Str × Addr)) (fp : List Addr), PTs (X.blk s H scope (compEnvC scope cl Cc X.env) fp) ifs (tCs Γ C T WF cc))
    (he : ∀ (s : Shared) (H : Hp) (Cc : Addr) (cl : List (Str × Addr)) (fp : List Addr), PE (X.blk s H scope (compEnvC scope cl Cc X.env) fp) elt (tE Γ C T WF e))
    (hs : ∀ x, foldedSetIterable iter X.env x = pure x) (h0 : zf = true → i ≠ 0) : PS X (.Assign [.Name x py] (.ListComp elt [⟨tg, iter, ifs, 0⟩] scope cpos) pos) (tS Γ C T W zf (.set i (.lc t it cc e))) :=
  (ps_setLc hc hN hx hl (sw_true hk hl hline hno) hi ok hg ht he hs).imp fun D σ H ⟨H0, E0, P0, M, st, hz, s, P⟩ => by
    rw [ho]
    exact lc_imp ((tS_exp s P).mono fun v H1 ⟨x, st1, ps, r, P⟩ => r.set hz h0 P)
end
end Mi

/-! Mi17: the checker of expressions, and its soundness. -/
namespace Mi
open PySem PySem.Spec PyProof.Rows L2

/-- a block within -/
inductive Blk : Cx → Cx → Prop
  | one {X : Cx} (s : Shared) (H : Hp) (scope : Scope) (env : Env) (fp : List Addr) : Blk X (X.blk s H scope env fp)
  | more {X X' : Cx} (s : Shared) (H : Hp) (scope : Scope) (env : Env) (fp : List Addr) : Blk X X' → Blk X (X'.blk s H scope env fp)
theorem Blk.in {X X' : Cx} {s : Shared} {H : Hp} {scope : Scope} {env : Env} {fp : List Addr} (b : Blk (X.blk s H scope env fp) X') : Blk X X' := by
  generalize e : X.blk s H scope env fp = Y at b
  induction b with
  | one s' H' scope' env' fp' => subst e; exact .more _ _ _ _ _ (.one ..)
  | more s' H' scope' env' fp' _ ih => subst e; exact .more _ _ _ _ _ ih
/-- the context, and that of every block within -/
structure XAll (Dt : Dat) (cb : Bool) (X : Cx) (Γ : G) (C : Cn) (T : List NdefX.NTab) (W : WX) : Prop where
  core : XOk Dt X Γ C T W
  blk : cb = true → ∀ X', Blk X X' → XOk Dt X' Γ C T WF
theorem XAll.sub {Dt : Dat} {cb : Bool} {X : Cx} {Γ : G} {C : Cn} {T : List NdefX.NTab} {W : WX} (h : XAll Dt cb X Γ C T W) (hb : cb = true) (s : Shared) (H : Hp) (scope : Scope) (env : Env) (fp : List Addr) : XAll Dt cb (X.blk s H scope env fp) Γ C T WF :=
  ⟨h.blk hb _ (.one ..), fun hb X' b => h.blk hb X' b.in⟩

abbrev ML := E → Expr → Bool
def noML : ML := fun _ _ => false
def unB (op : BoolOp) (B : Expr) (rest : List Expr) (pos : Pos) : Expr := match rest with
  | [] => B
  | r => .BoolOp op (B :: r) pos
def slB (N : List Str) (sc : Scope) (i : Nat) (x : Str) : Bool := decide (N[i]? = some x) && visB sc x && okN x
def gB (D : Dat) (sc : Scope) (x : Str) (g : Gn) : Bool := glB sc x && okN x && gnB (D.globs.lookup x) (some g)
def biB (D : Dat) (sc : Scope) (k : Bi) (x : Str) : Bool := glB sc x && okN x && (gnB (D.globs.lookup x) (some (.imp k)) || (decide (x = biN k) && decide (k ≠ .gcd) && decide (k ≠ .isqrt) && decide (x ∈ D.blts)))
def bltB (D : Dat) (sc : Scope) (n x : Str) : Bool := decide (x = n) && glB sc x && decide (x ∈ D.blts)
/-- the target's names with their slots -/
def ownOf (N : List Str) (is : List Nat) : List (Str × Nat) := is.map fun i => ((N[i]?).getD "", i)
def setB : Expr → Bool
  | .Set _ _ _ => true
  | _ => false
def tupB : Expr → Bool
  | .Tuple _ _ _ => true
  | _ => false
mutual
def mE (D : Dat) (cb : Bool) (N : List Str) (ml : ML) (sc : Scope) : E → Expr → Bool
  | .k x, e => match e with
    | .Constant c _ _ => constB x c
    | _ => false
  | .gl n, e => match e with
    | .Name x _ => gB D sc x (.con n)
    | _ => false
  | .fn f, e => match e with
    | .Name x _ => gB D sc x (.fn f)
    | _ => false
  | .sv i, e => match e with
    | .Name x _ => slB N sc i x
    | _ => false
  | .mv i, e => match e with
    | .Name x _ => slB N sc i x
    | _ => false
  | .bw i, e => match e with
    | .Name x _ => slB N sc i x
    | _ => false
  | .bin o a b, e => match e with
    | .BinOp A op B _ => opB o op && (mE D cb N ml sc a A && mE D cb N ml sc b B)
    | _ => false
  | .neg a, e => match e with
    | .UnaryOp .USub A _ => mE D cb N ml sc a A
    | _ => false
  | .not a, e => match e with
    | .UnaryOp .Not A _ => mE D cb N ml sc a A
    | _ => false
  | .cmp o a b, e => match e with
    | .Compare A [op] [B] _ => (cpB o op && !(behindInMarks op B)) && (mE D cb N ml sc a A && mE D cb N ml sc b B)
    | _ => false
  | .chain o p a b c, e => match e with
    | .Compare A [op, op'] [B, F] _ => (cpB o op && cpB p op' && !(lastMarks [op, op'] [B, F])) && (mE D cb N ml sc a A && mE D cb N ml sc b B && mE D cb N ml sc c F)
    | _ => false
  | .and a b, e => match e with
    | .BoolOp .And (A :: B :: rest) pos => mE D cb N ml sc a A && mE D cb N ml sc b (unB .And B rest pos)
    | _ => false
  | .or a b, e => match e with
    | .BoolOp .Or (A :: B :: rest) pos => mE D cb N ml sc a A && mE D cb N ml sc b (unB .Or B rest pos)
    | _ => false
  | .ite c a b, e => match e with
    | .IfExp F A B _ => mE D cb N ml sc c F && mE D cb N ml sc a A && mE D cb N ml sc b B
    | _ => false
  | .call f as, e => match e with
    | .Call (.Name x p) es [] pos => ml (.call f as) (.Call (.Name x p) es [] pos) || ((!D.hot || D.hots f) && (!D.clo || D.nocs f) && gB D sc x (.fn f) && mEs D cb N ml sc as es)
    | _ => false
  | .calli f i as, e => match e with
    | .Call (.Name x _) (.Name y _ :: es) [] _ => (!D.hot || D.hots f) && (!D.clo || D.nocs f) && gB D sc x (.fn f) && slB N sc i y && mEs D cb N ml sc as es
    | _ => false
  | .callv i as, e => match e with
    | .Call (.Name x _) es [] _ => !D.hot && slB N sc i x && mEs D cb N ml sc as es
    | _ => false
  | .mk c as, e => match e with
    | .Call (.Name x _) es [] _ => !D.hot && !D.clo && gB D sc x (.cls c) && mEs D cb N ml sc as es
    | _ => false
  | .bi k as, e => match e with
    | .Call (.Name x _) es [] _ => (!D.hot || hotBi k) && biB D sc k x && !es.isEmpty && mEs D cb N ml sc as es
    | _ => false
  | .isi a ts, e => match e with
    | .Call (.Name x _) [A, B] [] _ => bltB D sc "isinstance" x && isiB D sc ts B && mE D cb N ml sc a A
    | _ => false
  | .tup as, e => match e with
    | .Tuple es _ _ => decide (as.len ≤ 10000) && mEs D cb N ml sc as es
    | _ => false
  | .lst as, e => match e with
    | .List es _ => decide (as.len ≤ 10000) && mEs D cb N ml sc as es
    | _ => false
  | .dct ks as, e => match e with
    | .Dict keys es _ => mDk ks keys && decide (ks.length = as.len) && decide (as.len ≤ 15) && mEs D cb N ml sc as es
    | _ => false
  | .ix a b, e => match e with
    | .Subscript A B _ => ixB B && (mE D cb N ml sc a A && mE D cb N ml sc b B)
    | _ => false
  | .sl a lo hi, e => match e with
    | .Subscript A (.Slice none none none _) _ => decide (lo.len = 0) && decide (hi.len = 0) && mE D cb N ml sc a A
    | .Subscript A (.Slice (some L) none none _) _ => decide (hi.len = 0) && mE D cb N ml sc a A && mEs D cb N ml sc lo [L]
    | .Subscript A (.Slice none (some R) none _) _ => decide (lo.len = 0) && mE D cb N ml sc a A && mEs D cb N ml sc hi [R]
    | .Subscript A (.Slice (some L) (some R) none _) _ => mE D cb N ml sc a A && mEs D cb N ml sc lo [L] && mEs D cb N ml sc hi [R]
    | _ => false
  | .rev a, e => match e with
    | .Subscript A (.Slice none none (some (.UnaryOp .USub (.Constant (.int 1) _ _) _)) _) _ => mE D cb N ml sc a A
    | _ => false
  | .at a f, e => match e with
    | .Attribute A g _ => decide (f = g) && decide (f ∈ D.atts) && atB A && mE D cb N ml sc a A
    | _ => false
  | .lc t it c el, e => match e with
    | .ListComp elt [⟨tg, iter, ifs, 0⟩] scope _ => !D.hot && !D.clo && cb && blkC N sc scope (ownOf N t.slots) && mTg false N (relS scope sc) t tg && !(setB iter) && mI D cb N ml sc it tg iter && mEs D cb N noML (relS scope sc) c ifs && decide (c.len ≤ 1) && mE D cb N noML (relS scope sc) el elt
    | _ => false
  | .lam _ _, _ => false
  | .pop i, e => match e with
    | .Call (.Attribute (.Name x _) m pa) [] [] pc => decide (m = "pop") && slB N sc i x && (pa.endLine == pc.line)
    | _ => false
  | .get i k d, e => match e with
    | .Call (.Attribute (.Name x _) m pa) [A, B] [] pc => decide (m = "get") && slB N sc i x && (pa.endLine == pc.line) && (mE D cb N ml sc k A && mE D cb N ml sc d B)
    | _ => false
def mEs (D : Dat) (cb : Bool) (N : List Str) (ml : ML) (sc : Scope) : Es → List Expr → Bool
  | .nil, es => match es with
    | [] => true
    | _ => false
  | .cons a r, es => match es with
    | e :: es => mE D cb N ml sc a e && mEs D cb N ml sc r es
    | [] => false
def mI (D : Dat) (cb : Bool) (N : List Str) (ml : ML) (sc : Scope) : I → Expr → Expr → Bool
  | .e a, _, e => mE D cb N ml sc a e
  | .rng1 a, _, e => match e with
    | .Call (.Name x _) [A] [] _ => bltB D sc "range" x && mE D cb N ml sc a A
    | _ => false
  | .rng2 a b, _, e => match e with
    | .Call (.Name x _) [A, B] [] _ => bltB D sc "range" x && (mE D cb N ml sc a A && mE D cb N ml sc b B)
    | _ => false
  | .rng3 a b k, _, e => match e with
    | .Call (.Name x _) [A, B, F] [] _ => bltB D sc "range" x && mInt k F && (mE D cb N ml sc a A && mE D cb N ml sc b B)
    | _ => false
  | .zip2 a b, tg, e => match e with
    | .Call (.Name x _) [A, B] [] _ => bltB D sc "zip" x && tupB tg && (mE D cb N ml sc a A && mE D cb N ml sc b B)
    | _ => false
  | .enum a, tg, e => match e with
    | .Call (.Name x _) [A] [] _ => bltB D sc "enumerate" x && tupB tg && mE D cb N ml sc a A
    | _ => false
end

section
variable {Dt : Dat} {cb : Bool} {Γ : G} {C : Cn} {T : List NdefX.NTab}
theorem slB_ok {X : Cx} {i : Nat} {x : Str} (h : slB X.N X.env.scope i x = true) : X.N[i]? = some x ∧ Vis X.env.scope x ∧ okN x = true := by
  unfold slB at h
  rw [Bool.and_eq_true, Bool.and_eq_true] at h
  exact ⟨of_decide_eq_true h.1.1, visB_ok h.1.2, h.2⟩
theorem gB_ok {X : Cx} {x : Str} {g : Gn} (h : gB Dt X.env.scope x g = true) : Gl X x ∧ okN x = true ∧ Dt.globs.lookup x = some g := by
  unfold gB at h
  rw [Bool.and_eq_true, Bool.and_eq_true] at h
  exact ⟨glB_ok h.1.1, h.1.2, of_decide_eq_true h.2⟩
theorem biB_ok {X : Cx} {x : Str} {k : Bi} (h : biB Dt X.env.scope k x = true) : Gl X x ∧ okN x = true ∧ BiAt Dt X.env.scope k x := by
  unfold biB at h
  rw [Bool.and_eq_true, Bool.and_eq_true, Bool.or_eq_true] at h
  refine ⟨glB_ok h.1.1, h.1.2, h.2.elim (fun z => .inl (of_decide_eq_true z)) fun z => .inr ?_⟩
  rw [Bool.and_eq_true, Bool.and_eq_true, Bool.and_eq_true] at z
  exact ⟨of_decide_eq_true z.1.1.1, of_decide_eq_true z.1.1.2, of_decide_eq_true z.1.2, of_decide_eq_true z.2⟩
theorem bltB_ok {X : Cx} {n x : Str} (h : bltB Dt X.env.scope n x = true) : x = n ∧ Gl X n ∧ n ∈ Dt.blts := by
  unfold bltB at h
  rw [Bool.and_eq_true, Bool.and_eq_true] at h
  have e := of_decide_eq_true h.1.1
  subst e
  exact ⟨rfl, glB_ok h.1.2, of_decide_eq_true h.2⟩
theorem setB_ok {X : Cx} {iter : Expr} (h : setB iter = false) : ∀ x, foldedSetIterable iter X.env x = pure x := by
  intro x
  cases iter <;> first | rfl | cases h
theorem and2 {a b : Bool} (h : (a && b) = true) : a = true ∧ b = true := Bool.and_eq_true_iff.mp h
theorem notT {a : Bool} (h : (!a) = true) : a = false := by cases a <;> first | rfl | cases h
theorem hotIf {a b : Bool} (h : (!a || b) = true) : a = true → b = true := fun e => by subst e; exact h
theorem hotOr {a b : Bool} (h : (!a || b) = true) : a = false ∨ b = true := by cases a <;> first | exact .inl rfl | exact .inr h
theorem len0 {as : Es} (h : as.len = 0) : as = .nil := by
  cases as with
  | nil => rfl
  | cons a r => exact absurd h (by show ¬ (r.len + 1 = 0); omega)
theorem mEs_one {N : List Str} {ml : ML} {sc : Scope} {as : Es} {L : Expr} (h : mEs Dt cb N ml sc as [L] = true) : ∃ a, as = .cons a .nil ∧ mE Dt cb N ml sc a L = true := by
  cases as with
  | nil => cases h
  | cons a r =>
    have h : (mE Dt cb N ml sc a L && mEs Dt cb N ml sc r []) = true := h
    obtain ⟨h1, h2⟩ := and2 h
    cases r with
    | nil => exact ⟨a, rfl, h1⟩
    | cons b r => cases h2
theorem own_map (N : List Str) (is : List Nat) : (ownOf N is).map (·.2) = is := by
  unfold ownOf
  rw [List.map_map]
  exact List.map_id' is
theorem se_bool {X : Cx} {W : WX} {op : BoolOp} {b : E} {B : Expr} {rest : List Expr} {pos : Pos} (h : SE X Γ C T W b (unB op B rest pos)) : PE X (.BoolOp op (B :: rest) pos) (tE Γ C T W b) ∧ PW X (.BoolOp op (B :: rest) pos) (tT Γ C T W b) := by
  cases rest with
  | nil => exact se_one h
  | cons r rs => exact ⟨h.pe, h.pw op _ pos rfl⟩
mutual
theorem sE : ∀ (a : E) {X : Cx} {W : WX} {ml : ML} {e : Expr}, XAll Dt cb X Γ C T W → (∀ a e, ml a e = true → SE X Γ C T W a e) → mE Dt cb X.N ml X.env.scope a e = true → SE X Γ C T W a e
  | .k x, X, W, ml, e, XA, hm, h => by
    unfold mE at h; split at h
    · exact se_k h
    · cases h
  | .gl n, X, W, ml, e, XA, hm, h => by
    unfold mE at h; split at h
    · obtain ⟨h1, h2, h3⟩ := gB_ok h; exact se_gl XA.core h1 h2 h3
    · cases h
  | .fn n, X, W, ml, e, XA, hm, h => by
    unfold mE at h; split at h
    · obtain ⟨h1, h2, h3⟩ := gB_ok h; exact se_fn XA.core h1 h2 h3
    · cases h
  | .sv i, X, W, ml, e, XA, hm, h => by
    unfold mE at h; split at h
    · obtain ⟨h1, h2, h3⟩ := slB_ok h; exact se_slot tE_sv h1 h2 h3
    · cases h
  | .mv i, X, W, ml, e, XA, hm, h => by
    unfold mE at h; split at h
    · obtain ⟨h1, h2, h3⟩ := slB_ok h; exact se_slot tE_mv h1 h2 h3
    · cases h
  | .bw i, X, W, ml, e, XA, hm, h => by
    unfold mE at h; split at h
    · obtain ⟨h1, h2, h3⟩ := slB_ok h; exact se_slot tE_bw h1 h2 h3
    · cases h
  | .bin o a b, X, W, ml, e, XA, hm, h => by
    unfold mE at h; split at h
    · obtain ⟨h1, h2⟩ := and2 h
      obtain ⟨h2, h3⟩ := and2 h2
      exact se_bin XA.core.hK h1 (sE a XA hm h2) (sE b XA hm h3)
    · cases h
  | .neg a, X, W, ml, e, XA, hm, h => by
    unfold mE at h; split at h
    · exact se_neg (sE a XA hm h)
    · cases h
  | .not a, X, W, ml, e, XA, hm, h => by
    unfold mE at h; split at h
    · exact se_not (sE a XA hm h)
    · cases h
  | .cmp o a b, X, W, ml, e, XA, hm, h => by
    unfold mE at h; split at h
    · obtain ⟨h1, h2⟩ := and2 h
      obtain ⟨h2, h3⟩ := and2 h2
      obtain ⟨h4, h5⟩ := and2 h1
      exact se_cmp XA.core.hK XA.core.bi.units h4 (notT h5) (sE a XA hm h2) (sE b XA hm h3)
    · cases h
  | .chain o p a b c, X, W, ml, e, XA, hm, h => by
    unfold mE at h; split at h
    · obtain ⟨h1, h2⟩ := and2 h
      obtain ⟨h1, h5⟩ := and2 h1
      obtain ⟨h1, h6⟩ := and2 h1
      obtain ⟨h2, h4⟩ := and2 h2
      obtain ⟨h2, h3⟩ := and2 h2
      exact se_chain XA.core.hK XA.core.bi.units h1 h6 (notT h5) (sE a XA hm h2) (sE b XA hm h3) (sE c XA hm h4)
    · cases h
  | .and a b, X, W, ml, e, XA, hm, h => by
    unfold mE at h; split at h
    · obtain ⟨h1, h2⟩ := and2 h
      obtain ⟨h3, h4⟩ := se_bool (sE b XA hm h2)
      exact se_and (sE a XA hm h1) h3 h4
    · cases h
  | .or a b, X, W, ml, e, XA, hm, h => by
    unfold mE at h; split at h
    · obtain ⟨h1, h2⟩ := and2 h
      obtain ⟨h3, h4⟩ := se_bool (sE b XA hm h2)
      exact se_or (sE a XA hm h1) h3 h4
    · cases h
  | .ite c a b, X, W, ml, e, XA, hm, h => by
    unfold mE at h; split at h
    · obtain ⟨h1, h3⟩ := and2 h
      obtain ⟨h1, h2⟩ := and2 h1
      exact se_ite (sE c XA hm h1) (sE a XA hm h2) (sE b XA hm h3)
    · cases h
  | .call f as, X, W, ml, e, XA, hm, h => by
    unfold mE at h; split at h
    · rcases (Bool.or_eq_true ..).mp h with h | h
      · exact hm _ _ h
      · obtain ⟨h1, h2⟩ := and2 h
        obtain ⟨h0, h1⟩ := and2 h1
        obtain ⟨h3, h4, h5⟩ := gB_ok h1
        exact se_call XA.core (hotIf (and2 h0).1) (hotIf (and2 h0).2) h3 h4 h5 (sEs as XA hm h2)
    · cases h
  | .calli f i as, X, W, ml, e, XA, hm, h => by
    unfold mE at h; split at h
    · obtain ⟨h1, h2⟩ := and2 h
      obtain ⟨h1, h6⟩ := and2 h1
      obtain ⟨h0, h1⟩ := and2 h1
      obtain ⟨h3, h4, h5⟩ := gB_ok h1
      obtain ⟨h7, h8, h9⟩ := slB_ok h6
      exact se_calli XA.core (hotIf (and2 h0).1) (hotIf (and2 h0).2) h3 h4 h5 h7 h8 h9 (sEs as XA hm h2)
    · cases h
  | .callv i as, X, W, ml, e, XA, hm, h => by
    unfold mE at h; split at h
    · obtain ⟨h1, h2⟩ := and2 h
      obtain ⟨h0, h1⟩ := and2 h1
      obtain ⟨h7, h8, h9⟩ := slB_ok h1
      exact se_callv XA.core (notT h0) h7 h8 h9 (sEs as XA hm h2)
    · cases h
  | .mk c as, X, W, ml, e, XA, hm, h => by
    unfold mE at h; split at h
    · obtain ⟨h1, h2⟩ := and2 h
      obtain ⟨h0, h1⟩ := and2 h1
      obtain ⟨h3, h4, h5⟩ := gB_ok h1
      exact se_mk XA.core (notT (and2 h0).1) (notT (and2 h0).2) h3 h4 h5 (sEs as XA hm h2)
    · cases h
  | .bi k as, X, W, ml, e, XA, hm, h => by
    unfold mE at h; split at h
    · obtain ⟨h1, h2⟩ := and2 h
      obtain ⟨h1, h6⟩ := and2 h1
      obtain ⟨h0, h1⟩ := and2 h1
      obtain ⟨h3, h4, h5⟩ := biB_ok h1
      refine se_bi XA.core (hotOr h0) h3 h4 h5 (fun z => ?_) (sEs as XA hm h2)
      rw [z] at h6
      cases h6
    · cases h
  | .isi a ts, X, W, ml, e, XA, hm, h => by
    unfold mE at h; split at h
    · obtain ⟨h1, h3⟩ := and2 h
      obtain ⟨h1, h2⟩ := and2 h1
      obtain ⟨e1, h4, h5⟩ := bltB_ok h1
      subst e1
      exact se_isi XA.core h4 h5 h2 (sE a XA hm h3)
    · cases h
  | .tup as, X, W, ml, e, XA, hm, h => by
    unfold mE at h; split at h
    · obtain ⟨h1, h2⟩ := and2 h
      exact se_tup h1 (sEs as XA hm h2)
    · cases h
  | .lst as, X, W, ml, e, XA, hm, h => by
    unfold mE at h; split at h
    · obtain ⟨h1, h2⟩ := and2 h
      exact se_lst h1 (sEs as XA hm h2)
    · cases h
  | .dct ks as, X, W, ml, e, XA, hm, h => by
    unfold mE at h; split at h
    · obtain ⟨h1, h4⟩ := and2 h
      obtain ⟨h1, h3⟩ := and2 h1
      obtain ⟨h1, h2⟩ := and2 h1
      exact se_dct h1 (of_decide_eq_true h2) h3 (sEs as XA hm h4)
    · cases h
  | .ix a b, X, W, ml, e, XA, hm, h => by
    unfold mE at h; split at h
    · obtain ⟨h1, h2⟩ := and2 h
      obtain ⟨h2, h3⟩ := and2 h2
      exact se_ix XA.core.hK (by have := XA.core.bi.units; omega) h1 (sE a XA hm h2) (sE b XA hm h3)
    · cases h
  | .sl a lo hi, X, W, ml, e, XA, hm, h => by
    unfold mE at h; split at h
    · obtain ⟨h1, h3⟩ := and2 h
      obtain ⟨h1, h2⟩ := and2 h1
      rw [len0 (of_decide_eq_true h1), len0 (of_decide_eq_true h2)]
      exact se_sl0 XA.core.hK (sE a XA hm h3)
    · obtain ⟨h1, h3⟩ := and2 h
      obtain ⟨h1, h2⟩ := and2 h1
      have q := sEs lo XA hm h3
      rw [len0 (of_decide_eq_true h1)]
      obtain ⟨l, el, hl⟩ := mEs_one h3
      have sl := sEs1 lo XA hm h3 l el
      rw [el]
      exact se_sl1 XA.core.hK (sE a XA hm h2) sl
    · obtain ⟨h1, h3⟩ := and2 h
      obtain ⟨h1, h2⟩ := and2 h1
      rw [len0 (of_decide_eq_true h1)]
      obtain ⟨l, el, hl⟩ := mEs_one h3
      have sl := sEs1 hi XA hm h3 l el
      rw [el]
      exact se_sl2 XA.core.hK (sE a XA hm h2) sl
    · obtain ⟨h1, h3⟩ := and2 h
      obtain ⟨h1, h2⟩ := and2 h1
      obtain ⟨l, el, hl⟩ := mEs_one h2
      obtain ⟨r, er, hr⟩ := mEs_one h3
      have sl := sEs1 lo XA hm h2 l el
      have sr := sEs1 hi XA hm h3 r er
      rw [el, er]
      exact se_sl3 XA.core.hK (sE a XA hm h1) sl sr
    · cases h
  | .rev a, X, W, ml, e, XA, hm, h => by
    unfold mE at h; split at h
    · exact se_rev XA.core.hK (sE a XA hm h)
    · cases h
  | .at a f, X, W, ml, e, XA, hm, h => by
    unfold mE at h; split at h
    · obtain ⟨h1, h4⟩ := and2 h
      obtain ⟨h1, h3⟩ := and2 h1
      obtain ⟨h1, h2⟩ := and2 h1
      have e1 := of_decide_eq_true h1
      subst e1
      exact se_at XA.core.kf XA.core.xp (of_decide_eq_true h2) h3 (sE a XA hm h4)
    · cases h
  | .lc t it c el, X, W, ml, e, XA, hm, h => by
    unfold mE at h; split at h
    · rename_i elt tg iter ifs scope pos
      obtain ⟨h, h8⟩ := and2 h
      obtain ⟨h, h7⟩ := and2 h
      obtain ⟨h, h6⟩ := and2 h
      obtain ⟨h, h5⟩ := and2 h
      obtain ⟨h, h4⟩ := and2 h
      obtain ⟨h, h3⟩ := and2 h
      obtain ⟨h1, h2⟩ := and2 h
      obtain ⟨h0, h1⟩ := and2 h1
      obtain ⟨h0, hcl⟩ := and2 h0
      have sub := fun (s : Shared) (H : Hp) (Cc : Addr) (cl : List (Str × Addr)) (fp : List Addr) => XA.sub h1 s H scope (compEnvC scope cl Cc X.env) fp
      have no : ∀ {X' : Cx}, ∀ a e, noML a e = true → SE X' Γ C T WF a e := fun a e z => by cases z
      refine se_lc XA.core.hK (XA.core.bi.calm (notT h0)) XA.core.N (blkOk_by h2) (own_map _ _) (sI it XA hm h5) (fun s H Cc cl fp => ?_) (fun s H Cc cl fp => ?_) (fun s H Cc cl fp => ?_) (setB_ok (notT h4))
      · exact (pg_t (cel := false) (sub s H Cc cl fp).core.hK ((sub s H Cc cl fp).core.bi.calm (notT h0)) (sub s H Cc cl fp).core.N (fun z => by cases z) t tg h3).1
      · have XB := sub s H Cc cl fp
        cases c with
        | nil =>
          cases ifs with
          | nil => exact pts_c0
          | cons _ _ => cases h6
        | cons a r =>
          have hr : r.len = 0 := by
            have := of_decide_eq_true h7
            have e : (Es.cons a r).len = r.len + 1 := rfl
            omega
          have hr := len0 hr
          subst hr
          cases ifs with
          | nil => cases h6
          | cons i is =>
            have h6 : (mE Dt cb X.N noML (relS scope X.env.scope) a i && mEs Dt cb X.N noML (relS scope X.env.scope) .nil is) = true := h6
            obtain ⟨h9, h10⟩ := and2 h6
            cases is with
            | cons _ _ => cases h10
            | nil => exact pts_c1 (sE a XB no h9)
      · exact (sE el (sub s H Cc cl fp) no h8).pe
    · cases h
  | .lam _ _, X, W, ml, e, XA, hm, h => by
    unfold mE at h; cases h
  | .pop i, X, W, ml, e, XA, hm, h => by
    unfold mE at h; split at h
    · obtain ⟨h1, h3⟩ := and2 h
      obtain ⟨h1, h2⟩ := and2 h1
      obtain ⟨h7, h8, h9⟩ := slB_ok h2
      rw [of_decide_eq_true h1]
      exact se_pop XA.core h7 h8 h9 h3
    · cases h
  | .get i k d, X, W, ml, e, XA, hm, h => by
    unfold mE at h; split at h
    · obtain ⟨h1, h4⟩ := and2 h
      obtain ⟨h1, h3⟩ := and2 h1
      obtain ⟨h1, h2⟩ := and2 h1
      obtain ⟨h5, h6⟩ := and2 h4
      obtain ⟨h7, h8, h9⟩ := slB_ok h2
      rw [of_decide_eq_true h1]
      exact se_get XA.core h7 h8 h9 h3 (sE k XA hm h5) (sE d XA hm h6)
    · cases h
theorem sEs : ∀ (as : Es) {X : Cx} {W : WX} {ml : ML} {es : List Expr}, XAll Dt cb X Γ C T W → (∀ a e, ml a e = true → SE X Γ C T W a e) → mEs Dt cb X.N ml X.env.scope as es = true → SEs X Γ C T W as es
  | .nil, X, W, ml, es, XA, hm, h => by
    cases es with
    | nil => exact ses_nil
    | cons _ _ => unfold mEs at h; cases h
  | .cons a r, X, W, ml, es, XA, hm, h => by
    cases es with
    | nil => unfold mEs at h; cases h
    | cons e es =>
      have h : (mE Dt cb X.N ml X.env.scope a e && mEs Dt cb X.N ml X.env.scope r es) = true := by unfold mEs at h; exact h
      obtain ⟨h1, h2⟩ := and2 h
      exact ses_cons (sE a XA hm h1) (sEs r XA hm h2)
theorem sEs1 : ∀ (as : Es) {X : Cx} {W : WX} {ml : ML} {e : Expr}, XAll Dt cb X Γ C T W → (∀ a e, ml a e = true → SE X Γ C T W a e) → mEs Dt cb X.N ml X.env.scope as [e] = true → ∀ a, as = .cons a .nil → SE X Γ C T W a e
  | .nil, X, W, ml, e, XA, hm, h, a, ea => by cases ea
  | .cons b r, X, W, ml, e, XA, hm, h, a, ea => by
    have h : (mE Dt cb X.N ml X.env.scope b e && mEs Dt cb X.N ml X.env.scope r []) = true := by unfold mEs at h; exact h
    have := sE b XA hm (and2 h).1
    cases ea
    exact this
theorem sI : ∀ (it : I) {X : Cx} {W : WX} {ml : ML} {tg e : Expr}, XAll Dt cb X Γ C T W → (∀ a e, ml a e = true → SE X Γ C T W a e) → mI Dt cb X.N ml X.env.scope it tg e = true → PI X tg e (tI Γ C T W it)
  | .e a, X, W, ml, tg, e, XA, hm, h => pi_e XA.core.hK (sE a XA hm (by unfold mI at h; exact h))
  | .rng1 a, X, W, ml, tg, e, XA, hm, h => by
    unfold mI at h; split at h
    · obtain ⟨h1, h2⟩ := and2 h
      obtain ⟨e1, h4, h5⟩ := bltB_ok h1
      subst e1
      exact pi_rng1 XA.core h4 h5 (sE a XA hm h2)
    · cases h
  | .rng2 a b, X, W, ml, tg, e, XA, hm, h => by
    unfold mI at h; split at h
    · obtain ⟨h1, h2⟩ := and2 h
      obtain ⟨e1, h4, h5⟩ := bltB_ok h1
      subst e1
      exact pi_rng2 XA.core h4 h5 (sE a XA hm (and2 h2).1) (sE b XA hm (and2 h2).2)
    · cases h
  | .rng3 a b k, X, W, ml, tg, e, XA, hm, h => by
    unfold mI at h; split at h
    · obtain ⟨h1, h2⟩ := and2 h
      obtain ⟨h1, h3⟩ := and2 h1
      obtain ⟨e1, h4, h5⟩ := bltB_ok h1
      subst e1
      exact pi_rng3 XA.core h4 h5 h3 (sE a XA hm (and2 h2).1) (sE b XA hm (and2 h2).2)
    · cases h
  | .zip2 a b, X, W, ml, tg, e, XA, hm, h => by
    unfold mI at h; split at h
    · obtain ⟨h1, h2⟩ := and2 h
      obtain ⟨h1, h3⟩ := and2 h1
      obtain ⟨e1, h4, h5⟩ := bltB_ok h1
      subst e1
      unfold tupB at h3
      split at h3
      · exact pi_zp XA.core h4 h5 (sE a XA hm (and2 h2).1) (sE b XA hm (and2 h2).2)
      · cases h3
    · cases h
  | .enum a, X, W, ml, tg, e, XA, hm, h => by
    unfold mI at h; split at h
    · obtain ⟨h1, h2⟩ := and2 h
      obtain ⟨h1, h3⟩ := and2 h1
      obtain ⟨e1, h4, h5⟩ := bltB_ok h1
      subst e1
      unfold tupB at h3
      split at h3
      · exact pi_en XA.core h4 h5 (sE a XA hm h2)
      · cases h3
    · cases h
end
end
end Mi

/-! Mi18: the checker of statements, and its soundness (no exceptions yet). -/
namespace Mi
open PySem PySem.Spec PyProof.Rows L2

abbrev MS := S → Stmt → Bool
def cellB (sc : Scope) (x : Str) : Bool := sc.names.lookup x == some .cell
def setLcB (cel : Bool) (sc : Scope) (x : Str) (py : Pos) : Expr → Bool
  | .ListComp _ [⟨_, _, _, 0⟩] scope cpos => (cel && cellB sc x) || (lclB sc x && (py.line == cpos.line) && !(scope.names.any fun (n, k) => n == x && (k == .local || k == .cell)))
  | A => !(lcB A)
def nmB (cel : Bool) (N : List Str) (sc : Scope) (i : Nat) (x : Str) : Bool := decide (N[i]? = some x) && locB cel sc x
def parB (cel : Bool) (N : List Str) (sc : Scope) (is : List Nat) (ts As : List Expr) : Bool := match swapC sc ts As with
  | none => false
  | some none => mNames cel N sc is ts && decide (is.length ≤ 10000)
  | some (some nms) => match is, ts, As with
    | [i, j], [.Name x _, .Name y _], [_, _] => decide (nms = [x, y]) && decide (i ≠ j) && decide (N[i]? = some x) && decide (N[j]? = some y) && lclB sc x && lclB sc y
    | [i, j, l], [.Name x _, .Name y _, .Name z _], [_, _, _] => decide (nms = [x, y, z]) && decide (i ≠ j) && decide (i ≠ l) && decide (j ≠ l) && decide (N[i]? = some x) && decide (N[j]? = some y) && decide (N[l]? = some z) && lclB sc x && lclB sc y && lclB sc z
    | _, _, _ => false
def z0 (zf : Bool) (i : Nat) : Bool := !(zf && decide (i = 0))
def zL (zf : Bool) (is : List Nat) : Bool := !(zf && decide (0 ∈ is))
theorem z0_ok {zf : Bool} {i : Nat} (h : z0 zf i = true) : zf = true → i ≠ 0 := fun z e => by
  subst z e
  cases h
theorem zL_ok {zf : Bool} {is : List Nat} (h : zL zf is = true) : zf = true → 0 ∉ is := fun z e => by
  subst z
  unfold zL at h
  rw [decide_eq_true e] at h
  cases h
mutual
def mS (D : Dat) (cb cel zf : Bool) (N : List Str) (ml : ML) (ms : MS) (sc : Scope) : S → Stmt → Bool
  | .set i a, s => match s with
    | .Assign [.Name x py] A _ => z0 zf i && nmB cel N sc i x && setLcB cel sc x py A && mE D cb N ml sc a A
    | _ => false
  | .unp t a, s => match s with
    | .Assign [tg] A _ => !D.hot && zL zf t.slots && mTg cel N sc t tg && !(lcB A) && !(tupB A) && mE D cb N ml sc a A
    | _ => false
  | .par is as, s => match s with
    | .Assign [.Tuple ts _ _] (.Tuple As _ _) _ => !D.hot && zL zf is && parB cel N sc is ts As && mEs D cb N ml sc as As
    | _ => false
  | .setix i b a, s => match s with
    | .Assign [.Subscript (.Name x _) B _] A _ => slB N sc i x && !(lcB A) && ixB B && mE D cb N ml sc a A && mE D cb N ml sc b B
    | _ => false
  | .setat i f a, s => match s with
    | .Assign [.Attribute (.Name x _) g _] A _ => decide (f = g) && decide (f ∈ D.atts) && slB N sc i x && !(lcB A) && mE D cb N ml sc a A
    | _ => false
  | .aug i o a, s => match s with
    | .AugAssign (.Name x _) .Add A _ => z0 zf i && decide (o = .add) && nmB cel N sc i x && mE D cb N ml sc a A
    | _ => false
  | .app i a, s => match s with
    | .Expr (.Call (.Attribute (.Name x _) m pa) [A] [] pc) _ => decide (m = "append") && slB N sc i x && (pa.endLine == pc.line) && mE D cb N ml sc a A
    | _ => false
  | .ext i a, s => match s with
    | .Expr (.Call (.Attribute (.Name x _) m pa) [A] [] pc) _ => decide (m = "extend") && slB N sc i x && (pa.endLine == pc.line) && mE D cb N ml sc a A
    | _ => false
  | .ex a, s => match s with
    | .Expr A _ => !(lcB A) && mE D cb N ml sc a A
    | _ => false
  | .ret a, s => match s with
    | .Return (some A) _ => mE D cb N ml sc a A
    | _ => false
  | .retN, s => match s with
    | .Return none _ => true
    | _ => false
  | .ifs a u v, s => match s with
    | .If A U V _ => mE D cb N ml sc a A && mSs D cb cel zf N ml ms sc u U && mSs D cb cel zf N ml ms sc v V
    | _ => false
  | .whl a u, s => match s with
    | .While A U [] _ => mE D cb N ml sc a A && mSs D cb cel zf N ml ms sc u U
    | _ => false
  | .for t it u, s => match s with
    | .For tg iter U [] _ => !D.hot && zL zf t.slots && mTg cel N sc t tg && !(setB iter) && mI D cb N ml sc it tg iter && mSs D cb cel zf N ml ms sc u U
    | _ => false
  | .rais c as, s => ms (.rais c as) s
  | .tr b hs, s => ms (.tr b hs) s
  | .pass, s => match s with
    | .Pass _ => true
    | _ => false
  | .brk, s => match s with
    | .Break _ => true
    | _ => false
  | .cont, s => match s with
    | .Continue _ => true
    | _ => false
def mSs (D : Dat) (cb cel zf : Bool) (N : List Str) (ml : ML) (ms : MS) (sc : Scope) : Ss → List Stmt → Bool
  | .nil, es => match es with
    | [] => true
    | _ => false
  | .cons a r, es => match es with
    | e :: es => mS D cb cel zf N ml ms sc a e && mSs D cb cel zf N ml ms sc r es
    | [] => false
end
/-- the context of the statements -/
structure SAll (Dt : Dat) (cb cel : Bool) (X : Cx) (Γ : G) (C : Cn) (T : List NdefX.NTab) (W : WX) : Prop where
  xa : XAll Dt cb X Γ C T W
  pass : PassesOwn (model X.prog X.w) X.A X.env X.xe
  fn : fnOk cel X
  kind : X.env.scope.kind = .function
section
variable {Dt : Dat} {cb cel zf : Bool} {Γ : G} {C : Cn} {T : List NdefX.NTab}
theorem nmB_ok {X : Cx} {i : Nat} {x : Str} (h : nmB cel X.N X.env.scope i x = true) : X.N[i]? = some x ∧ locB cel X.env.scope x = true := by
  unfold nmB at h
  exact ⟨of_decide_eq_true (and2 h).1, (and2 h).2⟩
theorem lcParts {X : Cx} {W : WX} {ml : ML} {t : Tg} {it : I} {c : Es} {el : E} {elt tg iter : Expr} {ifs : List Expr} {scope : Scope} {pos : Pos} (XA : XAll Dt cb X Γ C T W) (hm : ∀ a e, ml a e = true → SE X Γ C T W a e) (h : mE Dt cb X.N ml X.env.scope (.lc t it c el) (.ListComp elt [⟨tg, iter, ifs, 0⟩] scope pos) = true) :
    BlkOk X.N X.env.scope scope (ownOf X.N t.slots) ∧ PI X tg iter (tI Γ C T W it) ∧ (∀ (s : Shared) (H : Hp) (Cc : Addr) (cl : List (Str × Addr)) (fp : List Addr), PG (X.blk s H scope (compEnvC scope cl Cc X.env) fp) tg (tG C t)) ∧
    (∀ (s : Shared) (H : Hp) (Cc : Addr) (cl : List (Str × Addr)) (fp : List Addr), PTs (X.blk s H scope (compEnvC scope cl Cc X.env) fp) ifs (tCs Γ C T WF c)) ∧
    (∀ (s : Shared) (H : Hp) (Cc : Addr) (cl : List (Str × Addr)) (fp : List Addr), PE (X.blk s H scope (compEnvC scope cl Cc X.env) fp) elt (tE Γ C T WF el)) ∧ setB iter = false ∧ Dt.hot = false := by
  unfold mE at h
  have h : (!Dt.hot && !Dt.clo && cb && blkC X.N X.env.scope scope (ownOf X.N t.slots) && mTg false X.N (relS scope X.env.scope) t tg && !(setB iter) && mI Dt cb X.N ml X.env.scope it tg iter && mEs Dt cb X.N noML (relS scope X.env.scope) c ifs && decide (c.len ≤ 1) && mE Dt cb X.N noML (relS scope X.env.scope) el elt) = true := h
  obtain ⟨h, h8⟩ := and2 h
  obtain ⟨h, h7⟩ := and2 h
  obtain ⟨h, h6⟩ := and2 h
  obtain ⟨h, h5⟩ := and2 h
  obtain ⟨h, h4⟩ := and2 h
  obtain ⟨h, h3⟩ := and2 h
  obtain ⟨h1, h2⟩ := and2 h
  obtain ⟨h0, h1⟩ := and2 h1
  obtain ⟨h0, hcl⟩ := and2 h0
  have sub := fun (s : Shared) (H : Hp) (Cc : Addr) (cl : List (Str × Addr)) (fp : List Addr) => XA.sub h1 s H scope (compEnvC scope cl Cc X.env) fp
  have no : ∀ {X' : Cx}, ∀ a e, noML a e = true → SE X' Γ C T WF a e := fun a e z => by cases z
  refine ⟨blkOk_by h2, sI it XA hm h5, fun s H Cc cl fp => ?_, fun s H Cc cl fp => ?_, fun s H Cc cl fp => (sE el (sub s H Cc cl fp) no h8).pe, notT h4, notT h0⟩
  · exact (pg_t (cel := false) (sub s H Cc cl fp).core.hK ((sub s H Cc cl fp).core.bi.calm (notT h0)) (sub s H Cc cl fp).core.N (fun z => by cases z) t tg h3).1
  · have XB := sub s H Cc cl fp
    cases c with
    | nil =>
      cases ifs with
      | nil => exact pts_c0
      | cons _ _ => cases h6
    | cons a r =>
      have hr : r.len = 0 := by
        have := of_decide_eq_true h7
        have e : (Es.cons a r).len = r.len + 1 := rfl
        omega
      have hr := len0 hr
      subst hr
      cases ifs with
      | nil => cases h6
      | cons i is =>
        have h6 : (mE Dt cb X.N noML (relS scope X.env.scope) a i && mEs Dt cb X.N noML (relS scope X.env.scope) .nil is) = true := h6
        obtain ⟨h9, h10⟩ := and2 h6
        cases is with
        | cons _ _ => cases h10
        | nil => exact pts_c1 (sE a XB no h9)
theorem s_setA {X : Cx} {W : WX} {ml : ML} {i : Nat} {a : E} {x : Str} {py pos : Pos} {A : Expr} (SA : SAll Dt cb cel X Γ C T W) (hm : ∀ a e, ml a e = true → SE X Γ C T W a e) (h0 : z0 zf i = true) (h1 : nmB cel X.N X.env.scope i x = true) (h2 : setLcB cel X.env.scope x py A = true) (h3 : mE Dt cb X.N ml X.env.scope a A = true) :
    PS X (.Assign [.Name x py] A pos) (tS Γ C T W zf (.set i a)) := by
  obtain ⟨hi, hx⟩ := nmB_ok h1
  have ok := SA.xa.core
  unfold setLcB at h2
  split at h2
  · rename_i elt tg iter ifs scope cpos
    rcases (Bool.or_eq_true ..).mp h2 with h2 | h2
    · obtain ⟨h4, h5⟩ := and2 h2
      exact s_setLcC ok.N (SA.fn h4) hi (beq_iff_eq.mp h5) (z0_ok h0) (sE a SA.xa hm h3)
    · obtain ⟨h4, h6⟩ := and2 h2
      obtain ⟨h4, h5⟩ := and2 h4
      cases a with
      | lc t it c el =>
        obtain ⟨p1, p2, p3, p4, p5, p6, p7⟩ := lcParts SA.xa hm h3
        exact s_setLc (ok.bi.calm p7) SA.kind ok.N hi (beq_iff_eq.mp h4) h5 (notT h6) p1 (own_map _ _) p2 p3 p4 p5 (setB_ok p6) (z0_ok h0)
      | _ => unfold mE at h3; cases h3
  · exact s_set ok.N SA.fn hi hx (notT h2) (z0_ok h0) (sE a SA.xa hm h3)
mutual
theorem sS : ∀ (u : S) {X : Cx} {W : WX} {ml : ML} {ms : MS} {s : Stmt}, SAll Dt cb cel X Γ C T W → (∀ a e, ml a e = true → SE X Γ C T W a e) → (∀ u s, ms u s = true → PS X s (tS Γ C T W zf u)) → mS Dt cb cel zf X.N ml ms X.env.scope u s = true → PS X s (tS Γ C T W zf u)
  | .set i a, X, W, ml, ms, s, SA, hm, hs, h => by
    unfold mS at h; split at h
    · obtain ⟨h1, h3⟩ := and2 h
      obtain ⟨h1, h2⟩ := and2 h1
      obtain ⟨h0, h1⟩ := and2 h1
      exact s_setA SA hm h0 h1 h2 h3
    · cases h
  | .unp t a, X, W, ml, ms, s, SA, hm, hs, h => by
    unfold mS at h; split at h
    · rename_i tg A pos
      obtain ⟨h1, h4⟩ := and2 h
      obtain ⟨h1, h3⟩ := and2 h1
      obtain ⟨h1, h2⟩ := and2 h1
      obtain ⟨h0, h1⟩ := and2 h1
      obtain ⟨hh, h0⟩ := and2 h0
      have ok := SA.xa.core
      refine s_unp ok.hK (ok.bi.calm (notT hh)) ok.N SA.fn h1 (notT h2) ?_ (zL_ok h0) (sE a SA.xa hm h4)
      have h3 := notT h3
      cases A <;> first | (cases tg <;> rfl) | cases h3
    · cases h
  | .par is as, X, W, ml, ms, s, SA, hm, hs, h => by
    unfold mS at h; split at h
    · rename_i ts k p As k2 p2 pos
      obtain ⟨h1, h2⟩ := and2 h
      obtain ⟨h0, h1⟩ := and2 h1
      obtain ⟨hh, h0⟩ := and2 h0
      have ok := SA.xa.core
      have q := sEs as SA.xa hm h2
      unfold parB at h1
      split at h1
      · cases h1
      · rename_i e
        obtain ⟨h3, h4⟩ := and2 h1
        exact s_parT (ok.bi.calm (notT hh)) SA.kind ok.N SA.fn h3 e h4 (zL_ok h0) q
      · rename_i nms e
        split at h1
        · obtain ⟨h1, b6⟩ := and2 h1
          obtain ⟨h1, b5⟩ := and2 h1
          obtain ⟨h1, b4⟩ := and2 h1
          obtain ⟨h1, b3⟩ := and2 h1
          obtain ⟨b1, b2⟩ := and2 h1
          rw [of_decide_eq_true b1] at e
          exact s_par2 (ok.bi.calm (notT hh)) SA.kind ok.N (of_decide_eq_true b3) (of_decide_eq_true b4) (of_decide_eq_true b2) b5 b6 e (zL_ok h0) q
        · obtain ⟨h1, b10⟩ := and2 h1
          obtain ⟨h1, b9⟩ := and2 h1
          obtain ⟨h1, b8⟩ := and2 h1
          obtain ⟨h1, b7⟩ := and2 h1
          obtain ⟨h1, b6⟩ := and2 h1
          obtain ⟨h1, b5⟩ := and2 h1
          obtain ⟨h1, b4⟩ := and2 h1
          obtain ⟨h1, b3⟩ := and2 h1
          obtain ⟨b1, b2⟩ := and2 h1
          rw [of_decide_eq_true b1] at e
          exact s_par3 (ok.bi.calm (notT hh)) SA.kind ok.N (of_decide_eq_true b5) (of_decide_eq_true b6) (of_decide_eq_true b7) (of_decide_eq_true b2) (of_decide_eq_true b3) (of_decide_eq_true b4) b8 b9 b10 e (zL_ok h0) q
        · cases h1
    · cases h
  | .setix i b a, X, W, ml, ms, s, SA, hm, hs, h => by
    unfold mS at h; split at h
    · obtain ⟨h1, h5⟩ := and2 h
      obtain ⟨h1, h4⟩ := and2 h1
      obtain ⟨h1, h3⟩ := and2 h1
      obtain ⟨h1, h2⟩ := and2 h1
      obtain ⟨h7, h8, h9⟩ := slB_ok h1
      exact s_setix (by have := SA.xa.core.bi.units; omega) h7 h8 h9 (notT h2) h3 (sE a SA.xa hm h4) (sE b SA.xa hm h5)
    · cases h
  | .setat i f a, X, W, ml, ms, s, SA, hm, hs, h => by
    unfold mS at h; split at h
    · obtain ⟨h1, h5⟩ := and2 h
      obtain ⟨h1, h4⟩ := and2 h1
      obtain ⟨h1, h3⟩ := and2 h1
      obtain ⟨h1, h2⟩ := and2 h1
      obtain ⟨h7, h8, h9⟩ := slB_ok h3
      have e := of_decide_eq_true h1
      subst e
      exact s_setat SA.xa.core h7 h8 h9 (notT h4) (of_decide_eq_true h2) (sE a SA.xa hm h5)
    · cases h
  | .aug i o a, X, W, ml, ms, s, SA, hm, hs, h => by
    unfold mS at h; split at h
    · obtain ⟨h1, h3⟩ := and2 h
      obtain ⟨h1, h2⟩ := and2 h1
      obtain ⟨h0, h1⟩ := and2 h1
      obtain ⟨h4, h5⟩ := nmB_ok h2
      rw [of_decide_eq_true h1]
      exact s_aug SA.xa.core.N SA.fn h4 h5 (z0_ok h0) (sE a SA.xa hm h3)
    · cases h
  | .app i a, X, W, ml, ms, s, SA, hm, hs, h => by
    unfold mS at h; split at h
    · obtain ⟨h1, h4⟩ := and2 h
      obtain ⟨h1, h3⟩ := and2 h1
      obtain ⟨h1, h2⟩ := and2 h1
      obtain ⟨h7, h8, h9⟩ := slB_ok h2
      rw [of_decide_eq_true h1]
      exact s_app h7 h8 h9 h3 (sE a SA.xa hm h4)
    · cases h
  | .ext i a, X, W, ml, ms, s, SA, hm, hs, h => by
    unfold mS at h; split at h
    · obtain ⟨h1, h4⟩ := and2 h
      obtain ⟨h1, h3⟩ := and2 h1
      obtain ⟨h1, h2⟩ := and2 h1
      obtain ⟨h7, h8, h9⟩ := slB_ok h2
      rw [of_decide_eq_true h1]
      exact s_ext h7 h8 h9 h3 (sE a SA.xa hm h4)
    · cases h
  | .ex a, X, W, ml, ms, s, SA, hm, hs, h => by
    unfold mS at h; split at h
    · obtain ⟨h1, h2⟩ := and2 h
      exact s_ex (notT h1) (sE a SA.xa hm h2)
    · cases h
  | .ret a, X, W, ml, ms, s, SA, hm, hs, h => by
    unfold mS at h; split at h
    · exact s_ret (sE a SA.xa hm h)
    · cases h
  | .retN, X, W, ml, ms, s, SA, hm, hs, h => by
    unfold mS at h; split at h
    · exact s_retN
    · cases h
  | .ifs a u v, X, W, ml, ms, s, SA, hm, hs, h => by
    unfold mS at h; split at h
    · obtain ⟨h1, h3⟩ := and2 h
      obtain ⟨h1, h2⟩ := and2 h1
      exact s_if (sE a SA.xa hm h1) (sSs u SA hm hs h2) (sSs v SA hm hs h3)
    · cases h
  | .whl a u, X, W, ml, ms, s, SA, hm, hs, h => by
    unfold mS at h; split at h
    · obtain ⟨h1, h2⟩ := and2 h
      exact s_whl SA.pass (sE a SA.xa hm h1) (sSs u SA hm hs h2)
    · cases h
  | .for t it u, X, W, ml, ms, s, SA, hm, hs, h => by
    unfold mS at h; split at h
    · obtain ⟨h1, h4⟩ := and2 h
      obtain ⟨h1, h3⟩ := and2 h1
      obtain ⟨h1, h2⟩ := and2 h1
      obtain ⟨h0, h1⟩ := and2 h1
      obtain ⟨hh, h0⟩ := and2 h0
      have ok := SA.xa.core
      exact s_for SA.pass (ok.bi.calm (notT hh)) (sI it SA.xa hm h3) (pg_t ok.hK (ok.bi.calm (notT hh)) ok.N SA.fn t _ h1).1 (sSs u SA hm hs h4) (setB_ok (notT h2)) (zL_ok h0)
    · cases h
  | .rais c as, X, W, ml, ms, s, SA, hm, hs, h => by
    unfold mS at h; exact hs _ _ h
  | .tr b hd, X, W, ml, ms, s, SA, hm, hs, h => by
    unfold mS at h; exact hs _ _ h
  | .pass, X, W, ml, ms, s, SA, hm, hs, h => by
    unfold mS at h; split at h
    · exact s_pass
    · cases h
  | .brk, X, W, ml, ms, s, SA, hm, hs, h => by
    unfold mS at h; split at h
    · exact s_brk
    · cases h
  | .cont, X, W, ml, ms, s, SA, hm, hs, h => by
    unfold mS at h; split at h
    · exact s_cont
    · cases h
theorem sSs : ∀ (u : Ss) {X : Cx} {W : WX} {ml : ML} {ms : MS} {s : List Stmt}, SAll Dt cb cel X Γ C T W → (∀ a e, ml a e = true → SE X Γ C T W a e) → (∀ u s, ms u s = true → PS X s (tS Γ C T W zf u)) → mSs Dt cb cel zf X.N ml ms X.env.scope u s = true → PSs X s (tSs Γ C T W zf u)
  | .nil, X, W, ml, ms, s, SA, hm, hs, h => by
    cases s with
    | nil => exact s_nil
    | cons _ _ => unfold mSs at h; cases h
  | .cons u r, X, W, ml, ms, s, SA, hm, hs, h => by
    cases s with
    | nil => unfold mSs at h; cases h
    | cons s ss =>
      have h : (mS Dt cb cel zf X.N ml ms X.env.scope u s && mSs Dt cb cel zf X.N ml ms X.env.scope r ss) = true := by unfold mSs at h; exact h
      obtain ⟨h1, h2⟩ := and2 h
      exact s_cons (sS u SA hm hs h1) (sSs r SA hm hs h2)
end
end
end Mi

/-! Mi19: defs: what a def promises by pure values; its body keeps it. -/
namespace Mi
open PySem PySem.Spec PyProof.Rows L2

/-- no closures, no pinned exceptions -/
def C0 (T : Tb) (K : PySem.W.Frag) : Cn := ⟨T, K, fun _ _ _ => False, fun _ _ _ => False⟩
def BI (B : Addr → Prop) (io : Option Addr) (ps : List Addr) : Addr → Prop := fun a => B a ∨ io = some a ∨ a ∈ ps
def IoOk (C : Cn) (B : Addr → Prop) (H : Hp) : Option Addr → Option PV → Prop
  | none, none => True
  | some a, some q => OwnAt C B H a q
  | _, _ => False
/-- what stands behind a call -/
structure Aft (T : List NdefX.NTab) (io : Option Addr) (H H' : Hp) : Prop where
  kp : Kp (fun a => io = some a) H H'
  al : ∀ a, H a ≠ none → H' a ≠ none
  tab : Tabs T H'
def OutOk (C : Cn) (T : List NdefX.NTab) (B : Addr → Prop) (io : Option Addr) (H : Hp) (r : Out) (Q : VK) (E : XK) : Prop := match r with
  | .val own v p => ∀ w ps H', Aft T io H H' → ps.Nodup → (∀ a ∈ ps, ¬ B a ∧ H a = none) → RL C (BI B io ps) H' [(flOf own, v)] [w] ps → IoOk C (BI B io ps) H' io p → Q w H'
  | .exc c fs p => ∀ cls d H', Aft T io H H' → ExcR C (BI B io []) H' cls d c fs → IoOk C (BI B io []) H' io p → E cls d H'
  | .bad => False
/-- the arguments -/
def ArgsOk (C : Cn) (B : Addr → Prop) (io : Option Addr) (H : Hp) (f : Bool) (args : List PV) (vs : List V) : Prop := match f with
  | false => io = none ∧ Rep.RepL C B H args vs
  | true => ∃ p as a vr, args = p :: as ∧ vs = .ref a :: vr ∧ io = some a ∧ ¬ B a ∧ OwnAt C (BI B io []) H a p ∧ Rep.RepL C (BI B io []) H as vr
/-- the promise of a def -/
def spF (C : Cn) (T : List NdefX.NTab) (Γ : G) (F : Fn) : Sp := fun vs H Q E => vs.length = F.np ∧ ∃ (args : List PV) (B : Addr → Prop) (io : Option Addr), (∀ a, BI B io [] a → ∃ o, H a = some o ∧ ∀ ps, o ≠ .tbl ps) ∧ Tabs T H ∧ ArgsOk C B io H F.io args vs ∧ OutOk C T B io H (F.run Γ args) Q E

section
variable {C : Cn} {T : List NdefX.NTab} {Γ : G} {H : Hp} {B : Addr → Prop} {io : Option Addr}
theorem start_at (F : Fn) {args : List PV} (j : Nat) (s : Sl) (h : (F.start args)[j]? = some s) (ns : s ≠ .no) : ((F.io = false ∧ ∃ v, args[j]? = some v ∧ s = .sh v) ∨ (F.io = true ∧ ((j = 0 ∧ ∃ v, args[0]? = some v ∧ s = .ow v) ∨ (0 < j ∧ ∃ v, args[j]? = some v ∧ s = .sh v)))) := by
  unfold Fn.start at h
  have rep : ∀ (l : List Sl), (l ++ List.replicate (F.ns - F.np) Sl.no)[j]? = some s → l[j]? = some s := fun l h => by
    by_cases hj : j < l.length
    · rw [List.getElem?_append_left hj] at h
      exact h
    · rw [List.getElem?_append_right (by omega), List.getElem?_replicate] at h
      split at h
      · cases h; exact absurd rfl ns
      · cases h
  have h := rep _ h
  cases hio : F.io with
  | false =>
    rw [hio] at h
    have h : (args.map Sl.sh)[j]? = some s := by
      cases args <;> exact h
    rw [List.getElem?_map] at h
    cases e : args[j]? with
    | none => rw [e] at h; cases h
    | some v => rw [e] at h; cases h; exact .inl ⟨rfl, v, rfl, rfl⟩
  | true =>
    rw [hio] at h
    cases args with
    | nil => cases j <;> cases h
    | cons p r =>
      have h : (Sl.ow p :: r.map Sl.sh)[j]? = some s := h
      cases j with
      | zero => cases h; exact .inr ⟨rfl, .inl ⟨rfl, p, rfl, rfl⟩⟩
      | succ j =>
        have h : (r.map Sl.sh)[j]? = some s := h
        rw [List.getElem?_map] at h
        cases e : r[j]? with
        | none => rw [e] at h; cases h
        | some v => rw [e] at h; cases h; exact .inr ⟨rfl, .inr ⟨Nat.succ_pos _, v, e, rfl⟩⟩
theorem startV_at {N : List Str} {vs : List V} {j : Nat} {v : V} (h : vs[j]? = some v) : (L2.start N vs)[j]? = some (some v) := by
  unfold L2.start
  have hj : j < vs.length := (List.getElem?_eq_some_iff.mp h).1
  rw [List.getElem?_append_left (by simpa using hj), List.getElem?_map, h]
  rfl
theorem start_len (F : Fn) {args : List PV} (h : args.length = F.np) : (F.start args).length = F.np + (F.ns - F.np) := by
  unfold Fn.start
  rw [List.length_append, List.length_replicate]
  congr 1
  cases F.io <;> cases args <;> simp_all
/-- the state at the entry -/
theorem start_rel (F : Fn) {N : List Str} {args : List PV} {vs : List V} (hl : args.length = F.np) (hv : vs.length = F.np) (hN : N.length = F.ns) (hns : F.np ≤ F.ns) (al : ∀ a, BI B io [] a → ∃ o, H a = some o ∧ ∀ ps, o ≠ .tbl ps) (ar : ArgsOk C B io H F.io args vs) :
    Rel C B (F.start args) (L2.start N vs) H ∧ (∀ a, Owns (F.start args) (L2.start N vs) a → io = some a) ∧ (∀ a, io = some a → (L2.start N vs)[0]? = some (some (.ref a))) ∧ (F.io = false → io = none) := by
  have len : (L2.start N vs).length = (F.start args).length := by
    rw [start_len F hl]
    unfold L2.start
    rw [List.length_append, List.length_map, List.length_replicate, hv, hN]
  cases hio : F.io with
  | false =>
    rw [hio] at ar
    obtain ⟨e, rl⟩ := (show io = none ∧ Rep.RepL C B H args vs from ar)
    have own : ∀ (j : Nat) (v : PV), (F.start args)[j]? = some (.ow v) → False := fun j v h => by
      rcases start_at F j _ h (fun z => by cases z) with ⟨_, v', _, e⟩ | ⟨e, _⟩
      · cases e
      · rw [hio] at e; cases e
    have bn : ∀ a, Bn B (F.start args) (L2.start N vs) a → B a := fun a z => z.elim id fun ⟨j, v, e1, _⟩ => (own j v e1).elim
    refine ⟨⟨len, fun j v h => ?_, fun j v h => (own j v h).elim, fun i j v u a h => (own i v h).elim, fun a m => al a (.inl m)⟩, fun a ⟨j, v, e1, _⟩ => (own j v e1).elim, fun a h => by (rw [e] at h; cases h), fun _ => e⟩
    rcases start_at F j _ h (fun z => by cases z) with ⟨_, v', e1, e2⟩ | ⟨e, _⟩
    · cases e2
      obtain ⟨w, q1, q2⟩ := RepL.get rl e1
      exact ⟨w, startV_at q1, q2.sub bn⟩
    · rw [hio] at e; cases e
  | true =>
    rw [hio] at ar
    obtain ⟨p, as, a, vr, ea, ev, ei, nb, ow, rl⟩ := (show ∃ p as a vr, args = p :: as ∧ vs = .ref a :: vr ∧ io = some a ∧ ¬ B a ∧ OwnAt C (BI B io []) H a p ∧ Rep.RepL C (BI B io []) H as vr from ar)
    subst ea ev ei
    have own : ∀ (j : Nat) (v : PV), (F.start (p :: as))[j]? = some (.ow v) → j = 0 ∧ v = p := fun j v h => by
      rcases start_at F j _ h (fun z => by cases z) with ⟨e, _⟩ | ⟨_, ⟨e, v', e1, e2⟩ | ⟨_, v', _, e2⟩⟩
      · rw [hio] at e; cases e
      · cases e1; cases e2; exact ⟨e, rfl⟩
      · cases e2
    have z0 : (L2.start N (V.ref a :: vr))[0]? = some (some (V.ref a)) := startV_at rfl
    have owns : ∀ b, Owns (F.start (p :: as)) (L2.start N (.ref a :: vr)) b → b = a := fun b ⟨j, v, e1, e2⟩ => by
      obtain ⟨e, _⟩ := own j v e1
      subst e
      rw [z0] at e2
      cases e2
      rfl
    have bn : ∀ b, Bn B (F.start (p :: as)) (L2.start N (.ref a :: vr)) b → BI B (some a) [] b := fun b z => z.elim .inl fun z => .inr (.inl (by rw [owns b z]))
    refine ⟨⟨len, fun j v h => ?_, fun j v h => ?_, fun i j v u b q1 q2 _ _ => ?_, fun b m => al b (.inl m)⟩, fun b z => by rw [owns b z], fun b h => by cases h; exact z0, fun z => by cases z⟩
    · rcases start_at F j _ h (fun z => by cases z) with ⟨e, _⟩ | ⟨_, ⟨_, v', _, e2⟩ | ⟨hj, v', e1, e2⟩⟩
      · rw [hio] at e; cases e
      · cases e2
      · cases e2
        cases j with
        | zero => exact absurd hj (Nat.lt_irrefl _)
        | succ j =>
          obtain ⟨w, q1, q2⟩ := RepL.get rl (show as[j]? = some v from e1)
          exact ⟨w, startV_at (show (V.ref a :: vr)[j + 1]? = some w from q1), q2.sub bn⟩
    · obtain ⟨e, ev⟩ := own j v h
      subst e ev
      exact ⟨a, z0, ow.sub bn, nb⟩
    · rw [(own i v q1).1, (own j u q2).1]
/-- behind the body -/
theorem out_post {F : Fn} {Q : VK} {E : XK} {r : Rs Fw} (hio : F.io = false → io = none) (hio2 : F.io = true → ∃ a, io = some a) (O : OutOk C T B io H (F.fin r) Q E) :
    PostS C T (fun cls d _ H' => E cls d H') H (fun a => io = some a) (fun a => io = some a) B r { nx := fun _ H' => Q .non H', rt := Q } := by
  have bn : ∀ {M : Addr → Prop} {ps : List Addr} {st : Slots} {σ : L2.St}, (∀ a, io = some a → Owns st σ a) → ∀ a, BI B io ps a → Bn (Un B ps) st σ a := fun h a z => z.elim (fun z => .inl (.inl z)) fun z => z.elim (fun z => .inr (h a z)) fun z => .inl (.inr z)
  -- the in-out slot
  have ioS : ∀ {st : Slots} {p : Option PV} {M : Addr → Prop} {σ : L2.St} {H' : Hp}, F.ioOf st = some p → SI C T H (fun a => io = some a) (fun a => io = some a) M st σ H' → (∀ a, io = some a → Owns st σ a) ∧ IoOk C (Bn M st σ) H' io p := fun {st p M σ H'} e s => by
    unfold Fn.ioOf at e
    cases hf : F.io with
    | false =>
      rw [hf] at e
      have e : some none = some p := e
      cases e
      rw [hio hf]
      exact ⟨fun a z => (by cases z), True.intro⟩
    | true =>
      rw [hf] at e
      obtain ⟨a, ea⟩ := hio2 hf
      have e : ownAt0 st[0]? = some p := e
      unfold ownAt0 at e
      split at e
      · rename_i q eq
        cases e
        obtain ⟨b, e1, e2, _⟩ := s.rel.ow 0 q eq
        have e3 := s.pin a ea
        rw [e1] at e3
        cases e3
        refine ⟨fun c hc => ?_, by rw [ea]; exact e2⟩
        rw [ea] at hc
        cases hc
        exact ⟨0, q, eq, e1⟩
      · cases e
  have ioM : ∀ {B1 B2 : Addr → Prop} {H' : Hp} {p : Option PV}, IoOk C B1 H' io p → (∀ a, B2 a → B1 a) → IoOk C B2 H' io p := fun {B1 B2 H' p} h hb => by
    cases hi : io with
    | none => rw [hi] at h; cases p <;> exact h
    | some a =>
      rw [hi] at h
      cases p with
      | none => exact h
      | some q => exact OwnAt.sub h hb
  cases r with
  | bad => exact O
  | ex c fs st =>
    intro cls d σ' H' s x
    have O : OutOk C T B io H (match F.ioOf st with | some p => if (PV.noClo.noCloF fs && cloO p) = true then .exc c fs p else .bad | none => .bad) Q E := O
    cases e : F.ioOf st with
    | none => rw [e] at O; exact (show False from O).elim
    | some p =>
      rw [e] at O
      dsimp only at O
      have hk : (PV.noClo.noCloF fs && cloO p) = true := by
        cases h : (PV.noClo.noCloF fs && cloO p) with
        | true => rfl
        | false => rw [h] at O; exact (show False from O).elim
      rw [if_pos hk] at O
      obtain ⟨h1, h2⟩ := ioS e s
      have b0 : ∀ a, BI B io [] a → Bn B st σ' a := fun a z => z.elim .inl fun z => z.elim (fun z => .inr (h1 a z)) fun z => absurd z (by simp)
      exact O cls d H' ⟨s.kp, s.al, s.tab⟩ ⟨x.1, x.2.1, x.2.2.elim .inl fun ⟨dd, ys, e1, e2, e3, e4⟩ => .inr ⟨dd, ys, e1, e2, fun z => e3 (b0 _ z), RepF.mv (Kp.refl (fun _ => False) H') (fun _ z => z.elim) (fun a z => .inl (b0 a z)) fs ys e4⟩⟩ (ioM h2 b0)
  | ok w st =>
    cases w with
    | bk => exact (show False from O).elim
    | ct => exact (show False from O).elim
    | nx =>
      intro σ' H' s
      have O : OutOk C T B io H (match F.ioOf st with | some p => if cloO p = true then .val false .non p else .bad | none => .bad) Q E := O
      cases e : F.ioOf st with
      | none => rw [e] at O; exact (show False from O).elim
      | some p =>
        rw [e] at O
        dsimp only at O
        have hk : cloO p = true := by
          cases h : cloO p with
          | true => rfl
          | false => rw [h] at O; exact (show False from O).elim
        rw [if_pos hk] at O
        obtain ⟨h1, h2⟩ := ioS e s
        have b0 : ∀ a, BI B io [] a → Bn B st σ' a := fun a z => z.elim .inl fun z => z.elim (fun z => .inr (h1 a z)) fun z => absurd z (by simp)
        exact O .non [] H' ⟨s.kp, s.al, s.tab⟩ List.nodup_nil (fun a z => absurd z (by simp)) (.sh rfl .nil) (ioM h2 b0)
    | rt f v =>
      intro w ps σ' H' s nd fr rl
      have O : OutOk C T B io H (match F.ioOf st with | some p => if (v.noClo && keepV f && cloO p) = true then .val (f == .ow) v p else .bad | none => .bad) Q E := O
      cases e : F.ioOf st with
      | none => rw [e] at O; exact (show False from O).elim
      | some p =>
        rw [e] at O
        dsimp only at O
        split at O
        · rename_i hk
          obtain ⟨h1, h2⟩ := ioS e s
          have hf : flOf (f == .ow) = f := by
            cases f with
            | sh => rfl
            | ow => rfl
            | bo => rw [Bool.and_eq_true, Bool.and_eq_true] at hk; cases hk.1.2
          have b1 : ∀ a, BI B io ps a → Bn (Un B ps) st σ' a := bn (M := B) h1
          refine O w ps H' ⟨s.kp, s.al, s.tab⟩ nd (fun a ha => ⟨(fr a ha).1, (fr a ha).2.elim (fun z => absurd (h1 a z) (s.rel.notOwn (.inr ha))) id⟩) ?_ (ioM h2 b1)
          rw [hf]
          exact RL.mv (Kp.refl (fun _ => False) H') (fun _ z => z.elim) (fun b z => .inl (b1 b z)) rl (fun _ _ => rfl) (fun _ _ z => z)
        · exact (show False from O).elim
end
end Mi

/-! Mi20: defs that run with no guards held (repr of containers asks it); calls by values. -/
namespace Mi
open PySem PySem.Spec PyProof.Rows L2

/-- an entry: the frames, the state, the exception that is handled (if within an except suite) -/
structure Ent where
  outer : List Env
  s : Shared
  hot : Option (Addr × Obj)
def ModeOk (e : Ent) (A : Around) (H : Hp) : Prop := match e.hot with
  | none => A.handled = none
  | some p => L2H.Hot1 A p ∧ L2H.PinOk e.outer H e.s p
/-- a def's promise, where no guard is held, at an entry -/
structure FnM (P : Program) (w : World) (K : PySem.W.Frag) (mg : Str → Option Value) (base : Heap) (CX : CXT) (k : Nat) (f : Addr) (fd : FuncData) (ps : List Str) (sp : Ent → Sp) : Prop where
  len : ∀ e vs H Q E, sp e vs H Q E → vs.length = ps.length
  run : ∀ (e : Ent) (A : Around) (H : Hp) (args : Args) (us : List Value) (vs : List V) (Q : VK) (E : XK), L2H.RoomH k A → A.guards = some [] → ModeOk e A H → Env0 P w K mg base A e.outer e.s H → BindsTo e.s fd args (ps.zip us) → Vals vs us → sp e vs H Q E →
    codeAny (model P w) A (.call (.ref f) args) (CR CX e.outer P w H e.s Q E) e.s
theorem FnM.mono {P : Program} {w : World} {K : PySem.W.Frag} {mg : Str → Option Value} {base : Heap} {CX : CXT} {j k : Nat} {f : Addr} {fd : FuncData} {ps : List Str} {sp : Ent → Sp} (F : FnM P w K mg base CX j f fd ps sp) (h : j ≤ k) : FnM P w K mg base CX k f fd ps sp :=
  ⟨F.len, fun e A H args us vs Q E hr => F.run e A H args us vs Q E (hr.mono h)⟩
/-- the context of a def's body -/
def cxM (CX : CXT) (P : Program) (w : World) (K : PySem.W.Frag) (mg : Str → Option Value) (base : Heap) (N : List Str) (qual : Str) (scope : Scope) (f : Addr) (cd : Value) (A : Around) (e : Ent) (H : Hp) (E : XK) : Cx := match e.hot with
  | none => cxOf CX P w K mg base N qual scope f cd A e.outer e.s H E
  | some p => L2H.cxH CX P w K mg base N qual scope f cd A e.outer e.s H E p
/-- how a context stands -/
def XMode (X : Cx) (m : Option (Addr × Obj)) : Prop := match m with
  | none => X.calm = true ∧ X.A.handled = none
  | some p => L2H.Hot1 X.A p ∧ p ∈ X.pn
theorem modeOk_at {X : Cx} {m : Option (Addr × Obj)} {pins : List (Addr × Obj)} {σ : L2.St} {H : Hp} {s : Shared} (h : XMode X m) (I : Inv X pins σ H s) : ModeOk ⟨X.stack, s, m⟩ X.A H := by
  cases m with
  | none => exact h.2
  | some p =>
    have P1 := I.pin p (List.mem_append_left _ h.2)
    exact ⟨h.1, ⟨P1.1, P1.2.1, fun hm => (List.mem_cons.mp (I.stkSub p.1 hm)).elim P1.2.2.1 P1.2.2.2.1, P1.2.2.2.2⟩⟩
theorem inv_startM {CX : CXT} {P : Program} {w : World} {K : PySem.W.Frag} {mg : Str → Option Value} {base : Heap} {N ps : List Str} {qual : Str} {scope : Scope} {f : Addr} {cd : Value} {A : Around} {e : Ent} {s1 : Shared} {H : Hp} {E : XK} {us : List Value} {vs : List V}
    (S : FnScope N ps scope) (hm : ModeOk e A H) (e0 : Env0 P w K mg base A e.outer e.s H) (hl : vs.length = ps.length) (r : Vals vs us)
    (x : InCallC e.s e.s.heap.objs.size (bindL (envOfC qual scope e.s.heap.objs.size f cd).kindOf (ps.zip us) fun _ => none) (cellsFrom (e.s.heap.objs.size + 1) scope.names []) (bindC (envOfC qual scope e.s.heap.objs.size f cd).kindOf (ps.zip us) fun _ => none) s1) :
    Inv (cxM CX P w K mg base N qual scope f cd A e H E) [] (L2.start N vs) H s1 := by
  obtain ⟨outer, s, hot⟩ := e
  cases hot with
  | none => exact inv_start S hm e0 hl r x
  | some p => exact L2H.inv_startH S hm.2 e0 hl r x
/-- a def by its body -/
theorem fnM_of {CX : CXT} {P : Program} {w : World} {K : PySem.W.Frag} {mg : Str → Option Value} {base : Heap} {k : Nat} {f : Addr} {name qual : Str} {params : Arguments} {body : List Stmt} {scope : Scope} {dV kV doc pm cdv ct oc : Value} {an od : Option Addr}
    {osl : Array (Option Value)} {N ps : List Str} {sp : Ent → Sp} (lk : K.lookup f = some ⟨oc, od, .func (PySem.W.fnOf name qual params body scope dV kV doc pm an cdv ct), osl⟩) (hcd : PySem.W.codeIn K cdv qual = true) (S : FnScope N ps scope)
    (len : ∀ e vs H Q E, sp e vs H Q E → vs.length = ps.length)
    (hbody : ∀ (e : Ent) (A : Around) (H : Hp) (vs : List V) (Q : VK) (E : XK), L2H.RoomH k (A.deeper (envOfC qual scope e.s.heap.objs.size f cdv)) → (A.deeper (envOfC qual scope e.s.heap.objs.size f cdv)).guards = some [] → ModeOk e A H → sp e vs H Q E →
      ∃ t, PSs (cxM CX P w K mg base N qual scope f cdv A e H E) body t ∧ t { nx := fun _ H' => Q .non H', rt := Q } (L2.start N vs) H) :
    FnM P w K mg base CX (k + 1) f (PySem.W.fnOf name qual params body scope dV kV doc pm an cdv ct) ps sp := by
  refine ⟨len, fun e A H args us vs Q E hr hgd hm e0 hb r hsp => ?_⟩
  have hl := len _ _ _ _ _ hsp
  have KX : K.In e.s.heap := e0.mod.kin.keeps fun b o q => (e0.bs b o q).1
  have lim : e.s.heap.NoLimit := e0.mod.nolimit.keeps fun b o q => (e0.bs b o q).1
  have hkind : ∀ y ∈ ps.zip us, scope.names.lookup y.1 = some .local ∨ (scope.names.lookup y.1 = some .cell ∧ ((cellsFrom (e.s.heap.objs.size + 1) scope.names []).lookup y.1).isSome = true) := fun ⟨n, v⟩ hy => by
    rcases S.par n (List.of_mem_zip hy).1 with q | q
    · exact .inl q
    · exact .inr ⟨q, PySem.W.cellsFrom_some _ _ _ (.inl q)⟩
  refine codeAny_call_function hr.depth (KX _ _ lk) rfl S.co S.gen rfl (PySem.W.codeRec_of KX hcd) (hb _ _ _ _ ?_)
  refine wpAny_newFunctionEnv_cells S.kind hkind fun env he s1 x => ?_
  subst he
  refine ⟨lim.keeps x.toInCall.keep, codeAny_func ?_⟩
  obtain ⟨t, ht, hq⟩ := hbody e A H vs Q E (hr.deeper _) (by first | exact hgd | (show (A.deeper _).guards = some []; simpa [Around.deeper] using hgd)) hm hsp
  have I : Inv (cxM CX P w K mg base N qual scope f cdv A e H E) [] (L2.start N vs) H s1 := inv_startM S hm e0 hl r x
  have ht1 := ht.run [] s1 (L2.start N vs) H _ I hq
  obtain ⟨outer, s, hot⟩ := e
  cases hot with
  | none =>
    refine wpAny_mono ht1 (fun fl s' hs => ?_) fun e s' hs => hs
    have fin : ∀ {σ' : L2.St} {H' : Hp} {v : V} {u : Value}, Inv (cxOf CX P w K mg base N qual scope f cdv A outer s H E) [] σ' H' s' → RelV v u → Q v H' → CE outer P w H s Q u s' :=
      fun {σ' H' v u} J rv q => ⟨v, H', J.os, J.bare, J.base, J.hok, rv, q⟩
    cases fl with
    | ret u =>
      obtain ⟨v, σ', H', J, rv, q⟩ := hs
      exact fin J rv q
    | next =>
      obtain ⟨σ', H', J, q⟩ := hs
      exact fin (v := V.non) (u := Value.none) J rfl q
    | brk =>
      obtain ⟨_, _, _, q⟩ := hs
      exact False.elim q
    | cont =>
      obtain ⟨_, _, _, q⟩ := hs
      exact False.elim q
  | some p =>
    refine wpAny_mono ht1 (fun fl s' hs => ?_) fun e s' hs => hs
    have fin : ∀ {σ' : L2.St} {H' : Hp} {v : V} {u : Value}, Inv (L2H.cxH CX P w K mg base N qual scope f cdv A outer s H E p) [] σ' H' s' → RelV v u → Q v H' → CE outer P w H s Q u s' :=
      fun {σ' H' v u} J rv q => ⟨v, H', J.os, J.bare, J.base, J.hok, rv, q⟩
    cases fl with
    | ret u =>
      obtain ⟨v, σ', H', J, rv, q⟩ := hs
      exact fin J rv q
    | next =>
      obtain ⟨σ', H', J, q⟩ := hs
      exact fin (v := V.non) (u := Value.none) J rfl q
    | brk =>
      obtain ⟨_, _, _, q⟩ := hs
      exact False.elim q
    | cont =>
      obtain ⟨_, _, _, q⟩ := hs
      exact False.elim q
section
variable {X : Cx} {CX : CXT} {k : Nat} {f C : Addr} {fd : FuncData} {ps : List Str} {sp : Ent → Sp} {m : Option (Addr × Obj)}
theorem run_fnM {E : L2.St → XK} {pins : List (Addr × Obj)} {σ : L2.St} {H : Hp} {s : Shared} {Q : VK} {us : List Value} {vs : List V} (F : FnM X.prog X.w X.K X.mg X.base CX k f fd ps sp) (hr : L2H.RoomH k X.A) (hgd : X.A.guards = some []) (hm : XMode X m) (hb : Binds X.K fd ps []) (hx : PassesAt CX X σ (E σ))
    (I : Inv X pins σ H s) (r : Vals vs us) (h : sp ⟨X.stack, s, m⟩ vs H Q (E σ)) : wpAny (model X.prog X.w) X.A (call (.ref f) us) (EP X pins σ Q) X.xe s := by
  have hl : us.length = ps.length := by rw [← r.length]; exact F.len _ _ _ _ _ h
  have b := hb s us I.kIn (by rw [List.append_nil]; exact hl)
  rw [List.append_nil] at b
  refine wpAny_call (codeAny_mono (F.run ⟨X.stack, s, m⟩ X.A H ⟨us, []⟩ us vs Q (E σ) hr hgd (modeOk_at hm I) I.env0 b r h) fun r s' hq => ?_)
  cases r with
  | error e => exact hx pins H s e s' I hq
  | ok fl =>
    cases fl with
    | ret u => exact I.after hq
    | next => exact False.elim hq
    | brk => exact False.elim hq
    | cont => exact False.elim hq
end
/-- the exception that is handled is known -/
def XPof : Option (Addr × Obj) → Addr → Value → Option Addr → Prop
  | none => fun _ _ _ => False
  | some p => fun a c d => a = p.1 ∧ p.2.cls = c ∧ p.2.dict = d ∧ ∃ vs, p.2.data = .fields vs
/-- the surroundings of a def's body: CL: the closures that it got -/
def CnM (T : Tb) (K : PySem.W.Frag) (CL : Addr → Nat → List V → Prop) (m : Option (Addr × Obj)) : Cn := ⟨T, K, CL, XPof m⟩
/-- no closures -/
def noCL : Addr → Nat → List V → Prop := fun _ _ _ => False
/-- closures that are known at an entry -/
abbrev CLT := List Env → Shared → Hp → Addr → Nat → List V → Prop
/-- what may be called: within an except suite, by one who holds closures -/
structure Cal where
  hots : Nat → Bool
  nocs : Nat → Bool
/-- the promise of def f at an entry -/
def spM (T : Tb) (K : PySem.W.Frag) (NT : List NdefX.NTab) (cal : Cal) (CLp : CLT) (Γ : G) (f : Nat) (F : Fn) (e : Ent) : Sp := fun vs H Q E =>
  ∃ CL, (CL = noCL ∨ (cal.nocs f = true ∧ CL = CLp e.outer e.s H)) ∧ (e.hot.isSome = true → cal.hots f = true) ∧ spF (CnM T K CL e.hot) NT Γ F vs H Q E
/-- all defs of the table, at a level -/
def FnAll (P : Program) (w : World) (K : PySem.W.Frag) (mg : Str → Option Value) (base : Heap) (T : Tb) (NT : List NdefX.NTab) (cal : Cal) (CLp : CLT) (Γ : G) (tab : Nat → Option Fn) (room : Nat) : Prop :=
  ∀ f F, tab f = some F → ∃ fd ps, FnM P w K mg base (L2N.CX P w) room (T.fa f) fd ps (spM T K NT cal CLp Γ f F) ∧ Binds K fd ps [] ∧ ps.length = F.np
section
variable {C : Cn} {NT : List NdefX.NTab} {W : WX} {M : Addr → Prop} {st : Slots} {σ : L2.St} {H H' : Hp} {ps : List Addr}
theorem Rel.grow2 (r : Rel C M st σ H) (k : Kp (fun _ => False) H H') (hp : ∀ a ∈ ps, H a = none ∧ ∃ o, H' a = some o ∧ ∀ qs, o ≠ .tbl qs) : Rel C (Un M ps) st σ H' := by
  have bn : ∀ a, Bn (Un M ps) st σ a → Bn M st σ a ∨ H a = none := fun a z => by
    rcases z with (z | z) | z
    · exact .inl (.inl z)
    · exact .inr (hp a z).1
    · exact .inl (.inr z)
  refine ⟨r.len, fun i v e => ?_, fun i v e => ?_, r.inj, fun a m => ?_⟩
  · obtain ⟨w, e1, e2⟩ := r.sh i v e
    exact ⟨w, e1, Rep.mv k (fun _ z => z.elim) bn v w e2⟩
  · obtain ⟨a, e1, e2, n⟩ := r.ow i v e
    obtain ⟨o, e3, t, _⟩ := e2.some
    refine ⟨a, e1, OwnAt.mv k (fun _ z => z.elim) bn ((k a o e3 (fun z => z) t).trans e3.symm) v e2, fun z => z.elim n fun z => ?_⟩
    rw [(hp a z).1] at e3
    cases e3
  · rcases m with m | m
    · obtain ⟨o, e, t⟩ := r.al a m
      exact ⟨o, k a o e (fun z => z) t, t⟩
    · exact (hp a m).2
theorem RL.there {B : Addr → Prop} {f : Bool} {v : PV} {w : V} (q : RL C B H [(flOf f, v)] [w] ps) : ∀ a ∈ ps, ∃ o, H a = some o ∧ ∀ qs, o ≠ .tbl qs := by
  cases f with
  | false =>
    cases q with
    | sh _ t => cases t; exact fun a h => absurd h (by simp)
  | true =>
    cases q with
    | ow h t =>
      cases t
      intro b hb
      obtain ⟨o, e, t, _⟩ := h.some
      rw [show b = _ by simpa using hb]
      exact ⟨o, e, t⟩
/-- a call with shared arguments: from what is wanted behind it -/
theorem out_call {r : Out} {Q : VK} (rel : Rel C M st σ H) (P : PostE C NT W false M st σ H (outR r st) Q) : OutOk C NT (Bn M st σ) none H r Q (fun cls d H' => W cls d σ H') := by
  have kp : ∀ {H'}, Aft NT none H H' → Kp (fun _ => False) H H' := fun a => a.kp.mono fun _ z => by cases z
  cases r with
  | bad => exact P
  | val own v p =>
    cases p with
    | some p => exact (show False from P).elim
    | none =>
      intro w ps H' af nd fr rl _
      have bI : ∀ a, Bn (Un M ps) st σ a → BI (Bn M st σ) none ps a := fun a z => by
        rcases z with (z | z) | z
        · exact .inl (.inl z)
        · exact .inr (.inr z)
        · exact .inl (.inr z)
      exact P [w] ps H' ⟨rel.grow2 (kp af) fun a ha => ⟨(fr a ha).2, rl.there a ha⟩, (kp af).mono fun _ z => z.elim, af.al, fun _ z => z, af.tab⟩ nd (fun a ha => ⟨fun m => (fr a ha).1 (.inl m), .inl (fr a ha).2⟩) (RL.mv (Kp.refl (fun _ => False) H') (fun _ z => z.elim) (fun b z => .inl (bI b z)) rl (fun _ _ => rfl) (fun _ _ z => z)) w rfl
  | exc c fs p =>
    cases p with
    | some p => exact (show False from P).elim
    | none =>
      intro cls d H' af x _
      have bI : ∀ a, Bn M st σ a → BI (Bn M st σ) none [] a := fun a z => .inl z
      exact P cls d H' ⟨rel.grow (kp af), (kp af).mono fun _ z => z.elim, af.al, fun _ z => z, af.tab⟩ ⟨x.1, x.2.1, x.2.2.elim .inl fun ⟨dd, ys, e1, e2, e3, e4⟩ => .inr ⟨dd, ys, e1, e2, fun z => e3 (bI _ z), RepF.mv (Kp.refl (fun _ => False) H') (fun _ z => z.elim) (fun a z => .inl (bI a z)) fs ys e4⟩⟩
theorem RL.cn {C C' : Cn} {b e : Bool} {B : Addr → Prop} {xs : List (Fl × PV)} {vs : List V} (c : CnLe C C' b e) (h1 : ∀ x ∈ xs, (b || x.2.noClo) = true) (h2 : ∀ x ∈ xs, (e || x.2.noExc) = true) (r : RL C B H xs vs ps) : RL C' B H xs vs ps := by
  induction r with
  | nil => exact .nil
  | sh r _ ih => exact .sh (Rep.cn c _ _ (h1 _ List.mem_cons_self) (h2 _ List.mem_cons_self) r) (ih (fun x m => h1 x (List.mem_cons_of_mem _ m)) fun x m => h2 x (List.mem_cons_of_mem _ m))
  | ow r _ ih => exact .ow (OwnAt.cn c _ (h1 _ List.mem_cons_self) (h2 _ List.mem_cons_self) r) (ih (fun x m => h1 x (List.mem_cons_of_mem _ m)) fun x m => h2 x (List.mem_cons_of_mem _ m))
  | bo r _ ih => exact .bo (OwnAt.cn c _ (h1 _ List.mem_cons_self) (h2 _ List.mem_cons_self) r) (ih (fun x m => h1 x (List.mem_cons_of_mem _ m)) fun x m => h2 x (List.mem_cons_of_mem _ m))
/-- what a call gives holds no closure -/
def Out.plain : Out → Bool
  | .val _ v p => v.noClo && cloO p
  | .exc _ fs p => PV.noClo.noCloF fs && cloO p
  | .bad => true
theorem fin_plain {F : Fn} {r : Rs Fw} : (F.fin r).plain = true := by
  unfold Fn.fin
  split
  · split
    · split
      · rename_i h
        rw [Bool.and_eq_true, Bool.and_eq_true] at h
        show (_ && _) = true
        rw [h.1.1, h.2]; rfl
      · rfl
    · rfl
  · split
    · split
      · rename_i h
        exact Bool.and_eq_true_iff.mpr ⟨rfl, h⟩
      · rfl
    · rfl
  · split
    · split
      · rename_i h; exact h
      · rfl
    · rfl
  · rfl
theorem run_plain {F : Fn} {Γ : G} {args : List PV} : (F.run Γ args).plain = true := by
  unfold Fn.run
  split
  · exact fin_plain
  · rfl
theorem IoOk.cn {C C' : Cn} {B : Addr → Prop} {io : Option Addr} {p : Option PV} (c : CnLe C C' false true) (h : cloO p = true) (i : IoOk C B H io p) : IoOk C' B H io p := by
  cases io with
  | none => cases p <;> exact i
  | some a =>
    cases p with
    | none => exact i
    | some q => exact OwnAt.cn c q h rfl i
theorem OutOk.cn {C C' : Cn} {B : Addr → Prop} {io : Option Addr} {r : Out} {Q : VK} {E : XK} (c : CnLe C' C false true) (hr : r.plain = true) (O : OutOk C NT B io H r Q E) : OutOk C' NT B io H r Q E := by
  cases r with
  | bad => exact O
  | val own v p =>
    obtain ⟨h1, h2⟩ := Bool.and_eq_true_iff.mp (show (v.noClo && cloO p) = true from hr)
    exact fun w ps H' af nd fr rl io => O w ps H' af nd fr (RL.cn c (fun x m => by rw [List.mem_singleton] at m; subst m; exact h1) (fun x m => rfl) rl) (IoOk.cn c h2 io)
  | exc k fs p =>
    obtain ⟨h1, h2⟩ := Bool.and_eq_true_iff.mp (show (PV.noClo.noCloF fs && cloO p) = true from hr)
    refine fun cls d H' af x io => O cls d H' af ⟨by rw [c.T]; exact x.1, by rw [c.T]; exact x.2.1, x.2.2.elim .inl fun ⟨dd, ys, e1, e2, e3, e4⟩ => .inr ⟨dd, ys, e1, e2, e3, RepF.cn c fs ys h1 rfl e4⟩⟩ (IoOk.cn c h2 io)
end
end Mi

/-! Mi21: CallsOk from the defs' promises. -/
namespace Mi
open PySem PySem.Spec PyProof.Rows L2

section
variable {C : Cn} {NT : List NdefX.NTab} {W : WX} {M : Addr → Prop} {st : Slots} {σ : L2.St} {H H' : Hp} {ps : List Addr}
/-- an in-out call has changed the slot's own object -/
theorem Rel.io {i : Nat} {p q : PV} {a : Addr} (r : Rel C M st σ H) (e : st[i]? = some (.ow p)) (e2 : σ[i]? = some (some (.ref a))) (k : Kp (fun b => some a = some b) H H') (hp : ∀ b ∈ ps, H b = none ∧ ∃ o, H' b = some o ∧ ∀ qs, o ≠ .tbl qs)
    (ho : OwnAt C (Bn (Un M ps) st σ) H' a q) : Rel C (Un M ps) (st.set i (.ow q)) σ H' := by
  have hl : i < st.length := (List.getElem?_eq_some_iff.mp e).1
  obtain ⟨a', q1, q2, n⟩ := r.ow i p e
  rw [e2] at q1
  cases q1
  obtain ⟨u, eu, tu, _⟩ := q2.some
  have ow : Owns st σ a := ⟨i, p, e, e2⟩
  have bn : ∀ b, Bn (Un M ps) (st.set i (.ow q)) σ b → Bn (Un M ps) st σ b := fun b z => z.elim .inl fun z => .inr ((Owns.set e).mp z)
  have bn2 : ∀ b, Bn (Un M ps) (st.set i (.ow q)) σ b → Bn M st σ b ∨ H b = none := fun b z => by
    rcases bn b z with (z | z) | z
    · exact .inl (.inl z)
    · exact .inr (hp b z).1
    · exact .inl (.inr z)
  have fB : ∀ b, some a = some b → Bn M st σ b := fun b z => by cases z; exact .inr ow
  refine ⟨by rw [List.length_set]; exact r.len, fun j v h => ?_, fun j v h => ?_, fun j l v w b h1 h2 h3 h4 => ?_, fun b m => ?_⟩
  · rw [set_get hl] at h
    by_cases hj : i = j
    · rw [if_pos hj] at h; cases h
    · rw [if_neg hj] at h
      obtain ⟨w, e3, e4⟩ := r.sh j v h
      exact ⟨w, e3, Rep.mv k fB bn2 v w e4⟩
  · rw [set_get hl] at h
    by_cases hj : i = j
    · rw [if_pos hj] at h
      cases h
      subst hj
      refine ⟨a, e2, ho.sub bn, fun z => z.elim n fun z => ?_⟩
      rw [(hp a z).1] at eu
      cases eu
    · rw [if_neg hj] at h
      obtain ⟨b, e3, e4, n4⟩ := r.ow j v h
      obtain ⟨o, e5, t5, _⟩ := e4.some
      have nb : ¬ (some a = some b) := fun z => by
        cases z
        exact hj (r.inj i j p v a e h e2 e3)
      refine ⟨b, e3, OwnAt.mv k fB bn2 ((k b o e5 nb t5).trans e5.symm) v e4, fun z => z.elim n4 fun z => ?_⟩
      rw [(hp b z).1] at e5
      cases e5
  · have f : ∀ (j : Nat) (v : PV), (st.set i (.ow q))[j]? = some (.ow v) → ∃ v, st[j]? = some (.ow v) := fun j v h => by
      rw [set_get hl] at h
      by_cases hj : i = j
      · subst hj; exact ⟨p, e⟩
      · rw [if_neg hj] at h; exact ⟨v, h⟩
    obtain ⟨v', z1⟩ := f j v h1
    obtain ⟨w', z2⟩ := f l w h2
    exact r.inj j l v' w' b z1 z2 h3 h4
  · rcases m with m | m
    · obtain ⟨o, e3, t⟩ := r.al b m
      exact ⟨o, k b o e3 (fun z => by cases z; exact n m) t, t⟩
    · exact (hp b m).2
/-- a call with an in-out argument -/
theorem out_callI {r : Out} {Q : VK} {i : Nat} {p : PV} {a : Addr} (rel : Rel C M st σ H) (e : st[i]? = some (.ow p)) (e2 : σ[i]? = some (some (.ref a))) (P : PostE C NT W true M st σ H (outI r i st) Q) : OutOk C NT (fun b => Bn M st σ b ∧ b ≠ a) (some a) H r Q (fun cls d H' => W cls d σ H') := by
  have ow : Owns st σ a := ⟨i, p, e, e2⟩
  have kF : ∀ {H'}, Aft NT (some a) H H' → Kp (fun b => true = true ∧ Owns st σ b) H H' := fun af => af.kp.mono fun b z => ⟨rfl, by cases z; exact ow⟩
  have bI : ∀ (ps : List Addr) b, Bn (Un M ps) st σ b → BI (fun b => Bn M st σ b ∧ b ≠ a) (some a) ps b := fun ps b z => by
    by_cases hb : b = a
    · exact .inr (.inl (by rw [hb]))
    · rcases z with (z | z) | z
      · exact .inl ⟨.inl z, hb⟩
      · exact .inr (.inr z)
      · exact .inl ⟨.inr z, hb⟩
  cases r with
  | bad => exact P
  | val own v p' =>
    cases p' with
    | none => exact (show False from P).elim
    | some q =>
      intro w ps H' af nd fr rl io
      have io : OwnAt C (BI (fun b => Bn M st σ b ∧ b ≠ a) (some a) ps) H' a q := io
      have hp : ∀ b ∈ ps, H b = none ∧ ∃ o, H' b = some o ∧ ∀ qs, o ≠ .tbl qs := fun b hb => ⟨(fr b hb).2, rl.there b hb⟩
      have bn : ∀ b, Bn (Un M ps) (st.set i (.ow q)) σ b → Bn (Un M ps) st σ b := fun b z => z.elim .inl fun z => .inr ((Owns.set e).mp z)
      refine P [w] ps H' ⟨rel.io e e2 af.kp hp (io.sub (bI ps)), kF af, af.al, fun b => (Owns.set e).mp, af.tab⟩ nd (fun b hb => ⟨fun m => ?_, .inl (fr b hb).2⟩) (RL.mv (Kp.refl (fun _ => False) H') (fun _ z => z.elim) (fun b z => .inl (bI ps b (bn b z))) rl (fun _ _ => rfl) (fun _ _ z => z)) w rfl
      obtain ⟨o, e3, _⟩ := rel.al b m
      rw [(fr b hb).2] at e3
      cases e3
  | exc c fs p' =>
    cases p' with
    | none => exact (show False from P).elim
    | some q =>
      intro cls d H' af x io
      have io : OwnAt C (BI (fun b => Bn M st σ b ∧ b ≠ a) (some a) []) H' a q := io
      have b0 : ∀ b, Bn M (st.set i (.ow q)) σ b → BI (fun b => Bn M st σ b ∧ b ≠ a) (some a) [] b := fun b z => bI [] b (z.elim (fun z => .inl (.inl z)) fun z => .inr ((Owns.set e).mp z))
      have rl := rel.io (ps := []) e e2 af.kp (fun b z => absurd z (by simp)) (io.sub (bI []))
      exact P cls d H' ⟨rl.weaken un_l, kF af, af.al, fun b => (Owns.set e).mp, af.tab⟩ ⟨x.1, x.2.1, x.2.2.elim .inl fun ⟨dd, ys, e1, e2, e3, e4⟩ => .inr ⟨dd, ys, e1, e2, fun z => e3 (b0 _ z), RepF.mv (Kp.refl (fun _ => False) H') (fun _ z => z.elim) (fun a z => .inl (b0 a z)) fs ys e4⟩⟩
end
section
variable {X : Cx} {T : Tb} {NT : List NdefX.NTab} {W : WX} {Γ : G} {tab : Nat → Option Fn} {room k : Nat} {cal : Cal} {CLp : CLT} {CL : Addr → Nat → List V → Prop}
theorem call_some {f : Nat} {F : Fn} {args : List PV} (h : tab f = some F) : callAt Γ tab (k + 1) f args = F.run { Γ with call := callAt Γ tab k } args := by
  show (match tab f with | some F => F.run { Γ with call := callAt Γ tab k } args | none => .bad) = _
  rw [h]
theorem call_none {f : Nat} {args : List PV} (h : tab f = none) : callAt Γ tab (k + 1) f args = .bad := by
  show (match tab f with | some F => F.run { Γ with call := callAt Γ tab k } args | none => .bad) = _
  rw [h]
/-- what a run gives of the in-out parameter -/
theorem run_io {F : Fn} {args : List PV} : (F.io = false → (∀ o v p, F.run Γ args ≠ .val o v (some p)) ∧ ∀ c fs p, F.run Γ args ≠ .exc c fs (some p)) ∧ (F.io = true → (∀ o v, F.run Γ args ≠ .val o v none) ∧ ∀ c fs, F.run Γ args ≠ .exc c fs none) := by
  have key : ∀ r : Rs Fw, (F.io = false → (∀ o v p, F.fin r ≠ .val o v (some p)) ∧ ∀ c fs p, F.fin r ≠ .exc c fs (some p)) ∧ (F.io = true → (∀ o v, F.fin r ≠ .val o v none) ∧ ∀ c fs, F.fin r ≠ .exc c fs none) := fun r => by
    have i1 : F.io = false → ∀ st p, F.ioOf st ≠ some (some p) := fun h st p z => by
      unfold Fn.ioOf at z
      rw [h] at z
      cases z
    have i2 : F.io = true → ∀ st, F.ioOf st ≠ some none := fun h st z => by
      unfold Fn.ioOf ownAt0 at z
      rw [h, if_pos rfl] at z
      split at z <;> cases z
    refine ⟨fun h => ⟨fun o v p z => ?_, fun c fs p z => ?_⟩, fun h => ⟨fun o v z => ?_, fun c fs z => ?_⟩⟩
    all_goals
      unfold Fn.fin at z
      split at z
      all_goals first
        | cases z
        | skip
      all_goals
        split at z
        all_goals first
          | cases z
          | skip
      all_goals first
        | (split at z <;> cases z <;> first | exact i1 h _ _ (by assumption) | exact i2 h _ (by assumption))
        | exact i1 h _ _ (by assumption)
        | exact i2 h _ (by assumption)
  unfold Fn.run
  split
  · exact key _
  · exact ⟨fun _ => ⟨fun o v p z => (by cases z), fun c fs p z => (by cases z)⟩, fun _ => ⟨fun o v z => (by cases z), fun c fs z => (by cases z)⟩⟩
theorem run_len {F : Fn} {args : List PV} (h : F.run Γ args ≠ .bad) : args.length = F.np := by
  unfold Fn.run at h
  split at h
  · assumption
  · exact absurd rfl h
/-- the closures of a caller are known at its callee's entry -/
def CLof (cal : Cal) (f : Nat) (CLp : CLT) (CL : Addr → Nat → List V → Prop) (X : Cx) : Prop := ∀ pins σ H s, Inv X pins σ H s → ∃ CL', (CL' = noCL ∨ (cal.nocs f = true ∧ CL' = CLp X.stack s H)) ∧ ∀ a l ws, CL a l ws → CL' a l ws
theorem clof_no {cal : Cal} {f : Nat} {CLp : CLT} {X : Cx} : CLof cal f CLp noCL X := fun _ _ _ _ _ => ⟨noCL, .inl rfl, fun _ _ _ z => z⟩
theorem callsOk_cf {f : Nat} (hr : L2H.RoomH room X.A) (hgd : X.A.guards = some []) {m : Option (Addr × Obj)} (hm : XMode X m) (hhot : m.isSome = true → cal.hots f = true) (tk : L2N.Takes X W) (FA : FnAll X.prog X.w X.K X.mg X.base T NT cal CLp { Γ with call := callAt Γ tab k } tab room) (args : List PV) (hcl : PV.noClo.noCloL args = true ∨ CLof cal f CLp CL X) (vs : List V) (M : Addr → Prop) (st : Slots) (σ : L2.St) (H : Hp) (Q : VK)
    (rel : Rel (CnM T X.K CL m) M st σ H) (tb : Tabs NT H) (rl : Rep.RepL (CnM T X.K CL m) (Bn M st σ) H args vs) (P : PostE (CnM T X.K CL m) NT W false M st σ H (outR (callAt Γ tab (k + 1) f args) st) Q) (pins : List (Addr × Obj)) (s : Shared) (us : List Value) (I : Inv X pins σ H s) (r : Vals vs us) :
    wpAny (model X.prog X.w) X.A (call (.ref (T.fa f)) us) (EP X pins σ Q) X.xe s := by
  cases ht : tab f with
  | none => rw [call_none ht] at P; exact (show False from P).elim
  | some F =>
    rw [call_some ht] at P
    have O := out_call rel P
    have hl : args.length = F.np := run_len (Γ := { Γ with call := callAt Γ tab k }) fun z => by rw [z] at P; exact P
    have hio : F.io = false := by
      cases h : F.io with
      | false => rfl
      | true =>
        obtain ⟨h1, h2⟩ := (run_io (Γ := { Γ with call := callAt Γ tab k }) (F := F) (args := args)).2 h
        cases e : F.run { Γ with call := callAt Γ tab k } args with
        | bad => rw [e] at P; exact (show False from P).elim
        | val o v p =>
          cases p with
          | none => exact absurd e (h1 o v)
          | some p => rw [e] at P; exact (show False from P).elim
        | exc c fs p =>
          cases p with
          | none => exact absurd e (h2 c fs)
          | some p => rw [e] at P; exact (show False from P).elim
    obtain ⟨fd, ps, F1, hb, _⟩ := FA f F ht
    obtain ⟨CL', hc1, ra⟩ : ∃ CL', (CL' = noCL ∨ (cal.nocs f = true ∧ CL' = CLp X.stack s H)) ∧ Rep.RepL (CnM T X.K CL' m) (Bn M st σ) H args vs := by
      rcases hcl with hcl | hcl
      · exact ⟨noCL, .inl rfl, RepL.cn (C := CnM T X.K CL m) (C' := CnM T X.K noCL m) (b := false) (e := true) ⟨rfl, rfl, fun z => Bool.noConfusion z, fun _ _ _ _ z => z⟩ args vs hcl rfl rl⟩
      · obtain ⟨CL', hc1, hc2⟩ := hcl pins σ H s I
        exact ⟨CL', hc1, RepL.cn (C := CnM T X.K CL m) (C' := CnM T X.K CL' m) (b := true) (e := true) ⟨rfl, rfl, fun _ => hc2, fun _ _ _ _ z => z⟩ args vs rfl rfl rl⟩
    have c2 : CnLe (CnM T X.K CL' m) (CnM T X.K CL m) false true := ⟨rfl, rfl, fun z => Bool.noConfusion z, fun _ _ _ _ z => z⟩
    refine run_fnM (E := L2.WE W) F1 hr hgd hm hb (L2N.passAt tk σ) I r ⟨CL', hc1, hhot, by rw [RepL.length rl, hl], args, Bn M st σ, none, fun a z => ?_, tb, ?_, O.cn c2 run_plain⟩
    · rcases z with z | z | z
      · exact rel.bnSome z
      · cases z
      · exact absurd z (by simp)
    · rw [hio]
      exact ⟨rfl, ra⟩
theorem callsOk_ci {f : Nat} (hr : L2H.RoomH room X.A) (hgd : X.A.guards = some []) {m : Option (Addr × Obj)} (hm : XMode X m) (hcl : CLof cal f CLp CL X) (hhot : m.isSome = true → cal.hots f = true) (tk : L2N.Takes X W) (FA : FnAll X.prog X.w X.K X.mg X.base T NT cal CLp { Γ with call := callAt Γ tab k } tab room) (i : Nat) (p : PV) (a : Addr) (args : List PV) (vs : List V) (M : Addr → Prop) (st : Slots) (σ : L2.St) (H : Hp) (Q : VK)
    (rel : Rel (CnM T X.K CL m) M st σ H) (tb : Tabs NT H) (e : st[i]? = some (.ow p)) (e2 : σ[i]? = some (some (.ref a))) (rl : Rep.RepL (CnM T X.K CL m) (Bn M st σ) H args vs) (P : PostE (CnM T X.K CL m) NT W true M st σ H (outI (callAt Γ tab (k + 1) f (p :: args)) i st) Q) (pins : List (Addr × Obj)) (s : Shared) (us : List Value) (I : Inv X pins σ H s) (r : Vals vs us) :
    wpAny (model X.prog X.w) X.A (call (.ref (T.fa f)) (.ref a :: us)) (EP X pins σ Q) X.xe s := by
  cases ht : tab f with
  | none => rw [call_none ht] at P; exact (show False from P).elim
  | some F =>
    rw [call_some ht] at P
    have O := out_callI rel e e2 P
    have hl : (p :: args).length = F.np := run_len (Γ := { Γ with call := callAt Γ tab k }) fun z => by rw [z] at P; exact P
    have hio : F.io = true := by
      cases h : F.io with
      | true => rfl
      | false =>
        obtain ⟨h1, h2⟩ := (run_io (Γ := { Γ with call := callAt Γ tab k }) (F := F) (args := p :: args)).1 h
        cases e : F.run { Γ with call := callAt Γ tab k } (p :: args) with
        | bad => rw [e] at P; exact (show False from P).elim
        | val o v q =>
          cases q with
          | some q => exact absurd e (h1 o v q)
          | none => rw [e] at P; exact (show False from P).elim
        | exc c fs q =>
          cases q with
          | some q => exact absurd e (h2 c fs q)
          | none => rw [e] at P; exact (show False from P).elim
    obtain ⟨fd, ps, F1, hb, _⟩ := FA f F ht
    have ow : Owns st σ a := ⟨i, p, e, e2⟩
    obtain ⟨a', q1, q2, n⟩ := rel.ow i p e
    rw [e2] at q1
    cases q1
    have bI : ∀ b, BI (fun b => Bn M st σ b ∧ b ≠ a) (some a) [] b → Bn M st σ b := fun b z => by
      rcases z with z | z | z
      · exact z.1
      · cases z; exact .inr ow
      · exact absurd z (by simp)
    have r2 : Vals (V.ref a :: vs) (Value.ref a :: us) := .cons rfl r
    obtain ⟨CL', hc1, hc2⟩ := hcl pins σ H s I
    have c1 : CnLe (CnM T X.K CL m) (CnM T X.K CL' m) true true := ⟨rfl, rfl, fun _ => hc2, fun _ _ _ _ z => z⟩
    have c2 : CnLe (CnM T X.K CL' m) (CnM T X.K CL m) false true := ⟨rfl, rfl, fun z => Bool.noConfusion z, fun _ _ _ _ z => z⟩
    refine run_fnM (E := L2.WE W) F1 hr hgd hm hb (L2N.passAt tk σ) I r2 ⟨CL', hc1, hhot, by rw [← hl, List.length_cons, List.length_cons, RepL.length rl], p :: args, fun b => Bn M st σ b ∧ b ≠ a, some a, fun b z => rel.bnSome (bI b z), tb, ?_, O.cn c2 run_plain⟩
    rw [hio]
    exact ⟨p, args, a, vs, rfl, rfl, rfl, fun z => z.2 rfl, OwnAt.cn c1 p rfl rfl (q2.sub bI), RepL.cn c1 args vs rfl rfl (Rep.RepL.sub rl bI)⟩
/-- an instance made -/
theorem run_makeG {CX : CXT} {j : Nat} {f Cc : Addr} {fd : FuncData} {ps : List Str} {sp : Ent → Sp} {E : L2.St → XK} {pins : List (Addr × Obj)} {σ : L2.St} {H : Hp} {s : Shared} {Q : VK} {us : List Value} {vs : List V} (M : Mk X.K Cc f) (F : FnM X.prog X.w X.K X.mg X.base CX j f fd ps sp) (hr : Room (j + 1) X.A) (hgd : X.A.guards = some []) (hb : Binds X.K fd ps [])
    (hx : PassesAt CX X σ (E σ)) (I : Inv X pins σ H s) (r : Vals vs us)
    (h : ∀ x dx, H x = none → H dx = none → dx ≠ x → (∀ s, sp ⟨X.stack, s, none⟩ (.ref x :: vs) (L2.upd (L2.upd H dx (.own x)) x (.ins Cc dx [])) (fun v H2 => v = .non ∧ Q (.ref x) H2) (E σ))) :
    wpAny (model X.prog X.w) X.A (call (.ref Cc) us) (EP X pins σ Q) X.xe s := by
  have hq := h (s.heap.objs.size + 1) s.heap.objs.size (I.hok.fresh (Nat.le_succ _)) (I.hok.fresh (Nat.le_refl _)) (Nat.ne_of_lt (Nat.lt_succ_self _))
  have I2 := Inv.made (C := Cc) I
  have r2 : Vals (V.ref (s.heap.objs.size + 1) :: vs) (Value.ref (s.heap.objs.size + 1) :: us) := .cons rfl r
  have hl : (Value.ref (s.heap.objs.size + 1) :: us ++ []).length = ps.length := by
    have e := r2.length
    rw [F.len _ _ _ _ _ (hq s)] at e
    rw [List.append_nil]
    exact e.symm
  have b := hb _ (Value.ref (s.heap.objs.size + 1) :: us) I2.kIn hl
  rw [List.append_nil] at b
  refine wpAny_call (make_map (f := f) I.kIn M.makes M.init (beq_iff_eq.mp M.fn) (codeAny_mono (F.run ⟨X.stack, _, none⟩ _ _ ⟨Value.ref (s.heap.objs.size + 1) :: us, []⟩ (Value.ref (s.heap.objs.size + 1) :: us) _ _ (E σ) (L2H.roomH_of (hr.make Cc us []))
    (by first | exact hgd | (simpa [Around.under] using hgd)) (hr.make Cc us []).hd (I2.env0.make Cc us []) b r2 (hq _)) fun r s' hq' => ?_))
  cases r with
  | error e => exact hx pins _ _ e s' I2 hq'
  | ok fl =>
    cases fl with
    | ret u =>
      obtain ⟨v, H', I3, rv, ev, q3⟩ := I2.after hq'
      subst ev
      exact ⟨rv, ⟨V.ref (s.heap.objs.size + 1), H', I3, rfl, q3⟩⟩
    | next => exact False.elim hq'
    | brk => exact False.elim hq'
    | cont => exact False.elim hq'
theorem callsOk_cm (hr : Room (room + 1) X.A) (hgd : X.A.guards = some []) (tk : L2N.Takes X W) (FA : FnAll X.prog X.w X.K X.mg X.base T NT cal CLp { Γ with call := callAt Γ tab k } tab room) (c : Nat) (mk : Mk X.K (T.ca c) (T.fa (Γ.init c))) (args : List PV) (vs : List V) (M : Addr → Prop) (st : Slots) (σ : L2.St) (H : Hp) (Q : VK)
    (ic : T.ic c) (rel : Rel (CnM T X.K noCL none) M st σ H) (tb : Tabs NT H) (rl : Rep.RepL (CnM T X.K noCL none) (Bn M st σ) H args vs) (P : PostE (CnM T X.K noCL none) NT W false M st σ H (outM (callAt Γ tab (k + 1) (Γ.init c) (.ins c [] :: args)) st) Q) (pins : List (Addr × Obj)) (s : Shared) (us : List Value) (I : Inv X pins σ H s) (r : Vals vs us) :
    wpAny (model X.prog X.w) X.A (call (.ref (T.ca c)) us) (EP X pins σ Q) X.xe s := by
  cases ht : tab (Γ.init c) with
  | none => rw [call_none ht] at P; exact (show False from P).elim
  | some F =>
    rw [call_some ht] at P
    have hl : (PV.ins c [] :: args).length = F.np := run_len (Γ := { Γ with call := callAt Γ tab k }) fun z => by rw [z] at P; exact P
    have hio : F.io = true := by
      cases h : F.io with
      | true => rfl
      | false =>
        obtain ⟨h1, h2⟩ := (run_io (Γ := { Γ with call := callAt Γ tab k }) (F := F) (args := PV.ins c [] :: args)).1 h
        cases e : F.run { Γ with call := callAt Γ tab k } (PV.ins c [] :: args) with
        | bad => rw [e] at P; exact (show False from P).elim
        | val o v q =>
          cases q with
          | some q => exact absurd e (h1 o v q)
          | none => rw [e] at P; cases v <;> exact (show False from P).elim
        | exc c fs q =>
          cases q with
          | some q => exact absurd e (h2 c fs q)
          | none => rw [e] at P; exact (show False from P).elim
    obtain ⟨fd, ps, F1, hb, _⟩ := FA _ F ht
    refine run_makeG (E := L2.WE W) mk F1 hr hgd hb (L2N.passAt tk σ) I r fun x dx hx hdx hne => ?_
    generalize hH : L2.upd (L2.upd H dx (.own x)) x (.ins (T.ca c) dx []) = Hn
    have hx1 : L2.upd H dx (.own x) x = none := by rw [upd_ne (Ne.symm hne)]; exact hx
    have kn : Kp (fun _ => False) H Hn := by
      rw [← hH]
      exact (Kp.updF hdx).trans (Kp.updF hx1)
    have aln : ∀ b, H b ≠ none → Hn b ≠ none := fun b h => by
      rw [← hH]
      exact Mi.upd_al b (Mi.upd_al b h)
    have tbn : Tabs NT Hn := by
      rw [← hH]
      exact (tb.upd hdx).upd hx1
    have hxn : Hn x = some (.ins (T.ca c) dx []) := by rw [← hH]; exact upd_same
    have nB : ¬ Bn M st σ x := fun z => rel.bnFree hx z
    have bI : ∀ b, BI (Bn M st σ) (some x) [] b → Bn M st σ b ∨ H b = none := fun b z => by
      rcases z with z | z | z
      · exact .inl z
      · cases z; exact .inr hx
      · exact absurd z (by simp)
    have r2 : Rep.RepL (CnM T X.K noCL none) (BI (Bn M st σ) (some x) []) Hn args vs := RepL.mv kn (fun _ z => z.elim) bI args vs rl
    have k2 : ∀ {H2}, Aft NT (some x) Hn H2 → Kp (fun _ => False) H H2 := fun af b o h n t => af.kp b o (kn b o h n t) (fun z => by cases z; rw [hx] at h; cases h) t
    intro sM
    refine ⟨noCL, .inl rfl, (fun z => by cases z), by rw [← hl, List.length_cons, List.length_cons, RepL.length rl], PV.ins c [] :: args, Bn M st σ, some x, fun b z => ?_, tbn, ?_, ?_⟩
    · rcases z with z | z | z
      · obtain ⟨o, e, t⟩ := rel.bnSome z
        exact ⟨o, kn b o e (fun z => z) t, t⟩
      · cases z; exact ⟨_, hxn, fun ps z => by cases z⟩
      · exact absurd z (by simp)
    · rw [hio]
      exact ⟨.ins c [], args, x, vs, rfl, rfl, rfl, nB, ⟨dx, [], ic, hxn, rfl⟩, r2⟩
    · cases e : F.run { Γ with call := callAt Γ tab k } (PV.ins c [] :: args) with
      | bad => rw [e] at P; exact (show False from P).elim
      | val own v q =>
        rw [e] at P
        cases q with
        | none => cases v <;> exact (show False from P).elim
        | some q =>
          cases v with
          | non =>
            intro w ps H2 af nd fr rlw io
            have P : PostE (CnM T X.K noCL none) NT W false M st σ H (.ok (.ow, q) st) Q := P
            have io : OwnAt (CnM T X.K noCL none) (BI (Bn M st σ) (some x) ps) H2 x q := io
            have ew : w = .non := by
              cases own with
              | false =>
                cases rlw with
                | sh h _ => exact h
              | true =>
                cases rlw with
                | ow h _ => exact h.elim
            refine ⟨ew, P [.ref x] [x] H2 ⟨rel.grow2 (k2 af) fun b hb => ?_, (k2 af).mono fun _ z => z.elim, fun b h => af.al b (aln b h), fun _ z => z, af.tab⟩ (by simp) (fun b hb => ?_) (.ow (io.sub fun b z => ?_) .nil) _ rfl⟩
            · rw [show b = x by simpa using hb]
              obtain ⟨o, e, t, _⟩ := io.some
              exact ⟨hx, o, e, t⟩
            · rw [show b = x by simpa using hb]
              exact ⟨fun m => nB (.inl m), .inl hx⟩
            · rcases z with (z | z) | z
              · exact .inl (.inl z)
              · exact .inr (.inl (by rw [show b = x by simpa using z]))
              · exact .inl (.inr z)
          | _ => exact (show False from P).elim
      | exc c fs q =>
        rw [e] at P
        cases q with
        | none => exact (show False from P).elim
        | some q =>
          intro cls d H2 af xr io
          have P : PostE (CnM T X.K noCL none) NT W false M st σ H (.ex c fs st) Q := P
          have b0 : ∀ b, Bn M st σ b → BI (Bn M st σ) (some x) [] b := fun b z => .inl z
          exact P cls d H2 ⟨rel.grow (k2 af), (k2 af).mono fun _ z => z.elim, fun b h => af.al b (aln b h), fun _ z => z, af.tab⟩ ⟨xr.1, xr.2.1, xr.2.2.elim .inl fun ⟨dd, ys, e1, e2, e3, e4⟩ => .inr ⟨dd, ys, e1, e2, fun z => e3 (b0 _ z), RepF.mv (Kp.refl (fun _ => False) H2) (fun _ z => z.elim) (fun a z => .inl (b0 a z)) fs ys e4⟩⟩
end
end Mi

/-! Mi22: the context of a def's body from the facts of the module. -/
namespace Mi
open PySem PySem.Spec PyProof.Rows L2

/-- facts of the law's module -/
structure Wd (K : PySem.W.Frag) (mg : Str → Option Value) (T : Tb) (Dt : Dat) (Γ : G) : Prop where
  kf : KOk K T Γ.sub Dt.atts Dt.tys
  gl : ∀ X : Cx, X.mg = mg → ∀ C : Cn, C.T = T → C.K = K → ∀ x g, Dt.globs.lookup x = some g → GnOk X C Γ x g
  fr : ∀ x, x ∈ Dt.blts → mg x = none
  kpf : ∀ f, PySem.W.keepIn K (.ref (T.fa f)) = true
  kpc : ∀ c, T.ic c → PySem.W.keepIn K (.ref (T.ca c)) = true
  mkf : ∀ c, T.ic c → Mk K (T.ca c) (T.fa (Γ.init c))
/-- the mode of a context in the checker's data -/
def Dat.mode (D : Dat) (hot clo : Bool) (cal : Cal) : Dat := { D with hot := hot, hots := cal.hots, clo := clo, nocs := cal.nocs }
theorem takesF (X : Cx) : L2N.Takes X WF := fun u s' ⟨_, _, _, _, _, _, _, _, _, _, _, _, _, _, _, _, w⟩ => w.elim
/-- closures may be called from the context -/
structure CcOk (X : Cx) (Γ : G) (C : Cn) (NT : List NdefX.NTab) (W : WX) : Prop where
  cc : ∀ (l : Nat) (a : Addr) (cs args : List PV) (ws vs : List V) (M : Addr → Prop) (st : Slots) (σ : L2.St) (H : Hp) (Q : VK), C.CL a l ws → Rep.RepL C.clean (Bn M st σ) H cs ws → Rel C M st σ H → Tabs NT H → Rep.RepL C (Bn M st σ) H args vs →
    PostE C NT W false M st σ H (outR (Γ.call l (args ++ cs)) st) Q → ∀ pins s us, Inv X pins σ H s → Vals vs us → wpAny (model X.prog X.w) X.A (call (.ref a) us) (EP X pins σ Q) X.xe s
  cloAt : ∀ a l ws, C.CL a l ws → ∀ pins σ H s, Inv X pins σ H s → PySem.W.FnAt a s.heap
theorem ccOk_no {X : Cx} {Γ : G} {T : Tb} {m : Option (Addr × Obj)} {NT : List NdefX.NTab} {W : WX} : CcOk X Γ (CnM T X.K noCL m) NT W := ⟨fun l a cs args ws vs M st σ H Q cl => cl.elim, fun a l ws cl => cl.elim⟩
theorem xok_of {X : Cx} {T : Tb} {Dt : Dat} {NT : List NdefX.NTab} {W : WX} {Γ : G} {tab : Nat → Option Fn} {k room : Nat} {cal : Cal} {CLp : CLT} {CL : Addr → Nat → List V → Prop} {m : Option (Addr × Obj)} {hot clo : Bool} (Wd1 : Wd X.K X.mg T Dt Γ) (hr : L2H.RoomH room X.A) (hgd : X.A.guards = some []) (hsys : ∃ o, X.base.get? sysModules = some o)
    (hm : XMode X m) (hh : m.isSome = hot) (hcl : clo = false → CL = noCL) (htr : ∀ j, k = j + 1 → ∀ pins σ H s, Inv X pins σ H s → ∀ a l ws, CL a l ws → CLp X.stack s H a l ws) (hcc : hot = false → CcOk X { Γ with call := callAt Γ tab k } (CnM T X.K CL m) NT W) (hN : X.N.Nodup) (tk : L2N.Takes X W)
    (FA : ∀ j, k = j + 1 → ∃ r, r + 1 ≤ room ∧ FnAll X.prog X.w X.K X.mg X.base T NT cal CLp { Γ with call := callAt Γ tab j } tab r) : XOk (Dt.mode hot clo cal) X { Γ with call := callAt Γ tab k } (CnM T X.K CL m) NT W where
  hK := rfl
  bi := ⟨fun e => by
    cases m with
    | none => exact hm.1
    | some p =>
      have hh : true = hot := hh
      have e : hot = false := e
      exact Bool.noConfusion (hh.trans e), by have := hr.un; omega, hgd, hsys⟩
  N := hN
  kf := Wd1.kf
  xp := fun a cls d h => by
    cases m with
    | none => exact h.elim
    | some p =>
      obtain ⟨e1, e2, e3, vs, e4⟩ := (show a = p.1 ∧ p.2.cls = cls ∧ p.2.dict = d ∧ ∃ vs, p.2.data = .fields vs from h)
      subst e1
      exact ⟨p.2, vs, hm.2, e2, e3, e4⟩
  gl := fun x g h => Wd1.gl X rfl _ rfl rfl x g h
  fr := Wd1.fr
  cs := by
    cases k with
    | zero => exact ⟨fun f _ args _ vs M st σ H Q _ _ _ P => (show False from P).elim, fun f i _ _ p a args vs M st σ H Q _ _ _ _ _ P => (show False from P).elim, fun c _ _ args vs M st σ H Q _ _ _ _ P => (show False from P).elim, fun l hh a cs args ws vs M st σ H Q cl => (hcc hh).cc l a cs args ws vs M st σ H Q cl, fun hh => (hcc hh).cloAt, Wd1.kpf, Wd1.kpc⟩
    | succ j =>
      obtain ⟨r, hr2, FA⟩ := FA j rfl
      have h1 : L2H.RoomH r X.A := hr.mono (by omega)
      have hot' : ∀ {f : Nat}, (hot = true → cal.hots f = true) → m.isSome = true → cal.hots f = true := fun h z => h (by rw [← hh]; exact z)
      have clf : ∀ {f : Nat}, (clo = true → cal.nocs f = true) → CLof cal f CLp CL X := fun {f} h => by
        cases clo with
        | false => rw [hcl rfl]; exact clof_no
        | true => exact fun pins σ H s I => ⟨CLp X.stack s H, .inr ⟨h rfl, rfl⟩, htr j rfl pins σ H s I⟩
      refine ⟨fun f hf args hn vs M st σ H Q rel tb rl P pins s us I q => ?_,
        fun f i hf hn p a args vs M st σ H Q rel tb e e2 rl P pins s us I q => callsOk_ci (Γ := Γ) (k := j) h1 hgd hm (clf hn) (hot' hf) tk FA i p a args vs M st σ H Q rel tb e e2 rl P pins s us I q,
        fun c hh0 hn0 args vs M st σ H Q ic rel tb rl P pins s us I q => ?_,
        fun l hh a cs args ws vs M st σ H Q cl => (hcc hh).cc l a cs args ws vs M st σ H Q cl, fun hh => (hcc hh).cloAt, Wd1.kpf, Wd1.kpc⟩
      · by_cases hc : noCloAll args = true
        · have ncl : ∀ xs : List PV, noCloAll xs = true → PV.noClo.noCloL xs = true := fun xs => by
            induction xs with
            | nil => exact fun _ => rfl
            | cons x xs ih => exact fun h => Bool.and_eq_true_iff.mpr ⟨(Bool.and_eq_true_iff.mp h).1, ih (Bool.and_eq_true_iff.mp h).2⟩
          exact callsOk_cf (Γ := Γ) (k := j) h1 hgd hm (hot' hf) tk FA args (.inl (ncl args hc)) vs M st σ H Q rel tb rl P pins s us I q
        · exact callsOk_cf (Γ := Γ) (k := j) h1 hgd hm (hot' hf) tk FA args (.inr (clf fun z => (hn z).resolve_right hc)) vs M st σ H Q rel tb rl P pins s us I q
      · have eh : m = none := by
          cases m with
          | none => rfl
          | some p => rw [show hot = false from hh0] at hh; cases hh
        subst eh
        have ec : CL = noCL := hcl hn0
        subst ec
        have h2 : Room (r + 1) X.A := ⟨hm.2, (hr.mono hr2).dp, (hr.mono hr2).un⟩
        exact callsOk_cm (Γ := Γ) (k := j) h2 hgd tk FA c (Wd1.mkf c ic) args vs M st σ H Q ic rel tb rl P pins s us I q
theorem Blk.same {X X' : Cx} (b : Blk X X') : X'.prog = X.prog ∧ X'.w = X.w ∧ X'.K = X.K ∧ X'.mg = X.mg ∧ X'.base = X.base ∧ X'.A = X.A ∧ X'.N = X.N ∧ X'.calm = X.calm := by
  induction b with
  | one s H scope env fp => exact ⟨rfl, rfl, rfl, rfl, rfl, rfl, rfl, rfl⟩
  | more s H scope env fp _ ih => exact ih
end Mi

/-! Mi23: raise: an exception of an own class with its own __init__. -/
namespace Mi
open PySem PySem.Spec PyProof.Rows L2

section
variable {X : Cx} {ta : TA} {e : Expr} {es : List Expr} {p pos : Pos}
/-- C(e, ..), C's __init__ stores fields (as HandS.ExcInit.pmk_oex, for the try rules that let suites call) -/
theorem pmkG {CX : CXT} {x : Str} {C fI : Addr} {k : Nat} {fd : FuncData} {ps : List Str} {sp : Ent → Sp} {sp0 : Sp} (T : OexC X.K C) (iC : PySem.W.findIn X.K (.ref C) "__init__" = some (some (.ref fI))) (tI : PySem.W.typeIn X.K (.ref fI) = some (.type "function"))
    (F1 : FnM X.prog X.w X.K X.mg X.base CX k fI fd ps sp) (hsp : ∀ e vs H Q E, sp0 vs H Q E → e.hot = none → sp e vs H Q E) (hr : Room (k + 1) X.A) (hgd : X.A.guards = some []) (hb : Binds X.K fd ps []) (hx : Passes CX X (fun _ _ _ => False)) (hg : Gl X x) (hm : X.mg x = some (.ref C)) (ha : PA X (e :: es) ta)
    (hdb : (x == ("__debug__" : Str)) = false) (he : starEach (e :: es) X.env = (false, eval e X.env) :: starEach es X.env) (hpl : (backTo pos (starEach es X.env)).any (·.1) = false) :
    L2N.PMk X (.Call (.Name x p) (e :: es) [] pos) (tMkO C sp0 [] ta) := by
  intro pins s σ H Q I h
  obtain ⟨nm, q, N, bs, bm, sn, sub, ab, col, dd, k0, k1, k2, k3, k5, hC, hbm⟩ := T.cls
  refine wpAny_Call_Name_kw (ld_glob I hg hm ?_ hdb)
  refine PySem.W.callWith_K (h₀ := X.base) I.ok.mod.kin T.kC (thn (ha.run pos pins s σ H _ I h) fun us s1 ⟨vs, H1, I1, r1, hz, q1⟩ => ⟨I1.kIn, ?_⟩) he hpl
  show wpAny _ _ (call (.ref C) us) _ _ _
  obtain ⟨hp, g, dr, tk, os⟩ := s1
  have hsz : hp.objs.size ≤ hp.objs.size + 1 := Nat.le_succ _
  have hn : H1 (hp.objs.size + 1) = none := I1.hok.fresh hsz
  have hq := q1 (hp.objs.size + 1) hn
  rw [List.append_nil] at hq
  have kk : ∀ b o, hp.get? b = some o → ((hp.push (PySem.W.kdv_tup us)).push (PySem.HandSPX.excO C hp.objs.size)).get? b = some o := fun b o e => Heap.get?_push_of_some _ (Heap.get?_push_of_some _ e)
  have hget : ((hp.push (PySem.W.kdv_tup us)).push (PySem.HandSPX.excO C hp.objs.size)).get? (hp.objs.size + 1) = some (PySem.HandSPX.excO C hp.objs.size) := by heap_get
  have I2 : Inv X pins σ (L2.upd H1 (hp.objs.size + 1) (L2.exo (hp.objs.size + 1) C none)) ⟨(hp.push (PySem.W.kdv_tup us)).push (PySem.HandSPX.excO C hp.objs.size), g, dr, tk, os⟩ :=
    I1.laid (t' := tk) (a := hp.objs.size + 1) (o := L2.exo (hp.objs.size + 1) C none) (h' := (hp.push (PySem.W.kdv_tup us)).push (PySem.HandSPX.excO C hp.objs.size)) kk hsz (exo_ok hget)
  have r2 : Vals (V.ref (hp.objs.size + 1) :: vs) (Value.ref (hp.objs.size + 1) :: us) := .cons rfl r1
  have hl : (Value.ref (hp.objs.size + 1) :: us ++ []).length = ps.length := by
    have e := r2.length
    rw [F1.len ⟨X.stack, ⟨hp, g, dr, tk, os⟩, none⟩ _ _ _ _ (hsp _ _ _ _ _ hq rfl)] at e
    rw [List.append_nil]
    exact e.symm
  have hus : us.length ≤ sizeLine := by
    rw [← Paired.length r1, sizeLine_eq]
    omega
  have b := hb _ (Value.ref (hp.objs.size + 1) :: us) I2.kIn hl
  rw [List.append_nil] at b
  refine wpAny_call (PySem.HandSPX.call_own F.excBase_ValueError (fun Y => PySem.HandSPX.refsVE_contains Y bm hbm) (I1.kIn _ _ hC) (PySem.W.looks_findIn I1.kIn iC) (fun self => PySem.W.bind_fn I1.kIn self tI) hus
    (codeAny_mono (F1.run ⟨X.stack, _, none⟩ _ _ ⟨Value.ref (hp.objs.size + 1) :: us, []⟩ (Value.ref (hp.objs.size + 1) :: us) _ _ (fun _ _ _ => False) (L2H.roomH_of (hr.make C us [])) (by first | exact hgd | (simpa [Around.under] using hgd)) (hr.make C us []).hd (I2.env0.make C us []) b r2 (hsp _ _ _ _ _ hq rfl)) fun r s' hq' => ?_))
  cases r with
  | error er => exact hx pins σ _ _ er s' I2 hq'
  | ok fl =>
    cases fl with
    | ret u =>
      obtain ⟨v, H2, os2, bare2, un2, hok2, rv, ev, d, fs, ea, ed, hd1, q2⟩ := hq'
      subst ev
      obtain ⟨h2, g2, d2, t2, os'⟩ := s'
      obtain ⟨t0, G, J, kG, ge, hoe, na⟩ := mk_end0 (d2 := d2) (t2 := t2) I1 hsz kk un2 hok2 os2 bare2 ea ed hd1
      exact ⟨rv, ⟨_, _, _, ⟨G, g2, d2, t2, os'⟩, _, .ref C, some d, rfl, J, kG, ge, hoe, ⟨rfl, rfl, fun vs e => by cases e; rfl⟩, rfl, rfl, na, rfl, bare2, raises_own T.exC T.tyC, q2⟩⟩
    | next => exact False.elim hq'
    | brk => exact False.elim hq'
    | cont => exact False.elim hq'
/-- C(), C without own __init__ -/
theorem pmk_own0 {bmB : List Value} {B newId initId : String} {x : Str} {C : Addr} {p pos : Pos} (F : ExcBaseFacts B newId initId bmB) (q : PySem.W.excIn X.K C bmB newId = true) (gC : X.mg x = some (.ref C)) (kC : PySem.W.keepIn X.K (.ref C) = true) (r : Raises X (.ref C)) (hg : Gl X x)
    (hdb : (x == ("__debug__" : Str)) = false) : L2N.PMk X (.Call (.Name x p) [] [] pos) (fun _ H Q => Q (.ref C) none H) := by
  intro pins s σ H Q I h
  refine wpAny_Call_Name_kw (ld_glob I hg gC ?_ hdb)
  refine PySem.W.callWith_K0 I.kIn kC ?_
  obtain ⟨bm, N, nm, qn, bs, hdct, sn, sub, ab, col, dd, k0, k1, k2, k3, k5, mN, hC, hN, hni, T⟩ := exc_obj I.kIn q
  refine wpAny_call_exc_subT F T hC hN hni (fun h' e hm => ?_) (by show 0 ≤ sizeLine; omega)
  exact L2N.mk_of I hm r h (I.hok.gone hm.new)
end
end Mi

/-! Mi24: an exception class's __init__ that stores its parameters, one by one. -/
namespace Mi
open PySem PySem.Spec PyProof.Rows L2

/-- self.f = v, .. : the fields in the order of the stores; slot 0 is self, slot i + 1 the i-th parameter -/
def mInit (N : List Str) (sc : Scope) : Nat → List Str → List Stmt → Bool
  | _, [], [] => true
  | i, f :: fl, .Assign [.Attribute (.Name x _) g _] (.Name y _) _ :: r => decide (f = g) && slB N sc 0 x && slB N sc i y && mInit N sc (i + 1) fl r
  | _, _, _ => false
/-- behind some stores -/
structure IniI (C a : Addr) (H0 : Hp) (fs : List (Str × V)) (H : Hp) : Prop where
  ob : (fs = [] ∧ H = H0 ∧ H0 a = some (L2.exo a C none)) ∨ ∃ dx, H0 dx = none ∧ dx ≠ a ∧ H a = some (L2.exo a C (some dx)) ∧ H dx = some (L2.exd dx fs) ∧ ∀ b, b ≠ a → b ≠ dx → H b = H0 b
theorem ini_run {X : Cx} {C a : Addr} (T : OexC X.K C) : ∀ (fl : List Str) (body : List Stmt) (i : Nat), (∀ f ∈ fl, PySem.W.findIn X.K (.ref C) f = some none) → mInit X.N X.env.scope i fl body = true →
    PSs X body (fun D σ H => ∃ (H0 : Hp) (fs : List (Str × V)) (ws : List V), IniI C a H0 fs H ∧ fs.length + fl.length ≤ 900 ∧ ws.length = fl.length ∧ σ[0]? = some (some (.ref a)) ∧ (∀ (j : Nat) w, ws[j]? = some w → σ[i + j]? = some (some w)) ∧
      ∀ H', IniI C a H0 ((fl.zip ws).reverse ++ fs) H' → D.nx σ H')
  | [], [], i, _, _ => pss_nil.imp fun D σ H ⟨H0, fs, ws, I, _, hw, _, _, k⟩ => by
    have e : ws = [] := List.length_eq_zero_iff.mp hw
    subst e
    exact k H I
  | f :: fl, s :: r, i, hf, h => by
    unfold mInit at h
    split at h
    · rename_i z _; cases z
    · rename_i i' i1 i2 i3 f' fl' x px g pg y py pos r' e1 e2
      cases e1
      cases e2
      obtain ⟨h, h4⟩ := and2 h
      obtain ⟨h, h3⟩ := and2 h
      obtain ⟨h1, h2⟩ := and2 h
      obtain ⟨a1, a2, a3⟩ := slB_ok h2
      obtain ⟨b1, b2, b3⟩ := slB_ok h3
      have eg := of_decide_eq_true h1
      subst eg
      refine (pss_cons (ps_ost (pe_var a1 a2 (okN_d a3) (okN_c a3)) (pe_var b1 b2 (okN_d b3) (okN_c b3)) rfl) (ini_run (a := a) T fl r (i' + 1) (fun g hg => hf g (List.mem_cons_of_mem _ hg)) h4)).imp fun D σ H ⟨H0, fs, ws, I, hl, hw, s0, sj, k⟩ => ?_
      cases ws with
      | nil => cases hw
      | cons w ws =>
        have hj : σ[i']? = some (some w) := sj 0 w rfl
        refine ⟨w, hj, .ref a, s0, a, C, rfl, T, hf f List.mem_cons_self, ?_⟩
        have nxt : ∀ H1, IniI C a H0 ((f, w) :: fs) H1 → ∃ (H0 : Hp) (fs : List (Str × V)) (ws : List V), IniI C a H0 fs H1 ∧ fs.length + fl.length ≤ 900 ∧ ws.length = fl.length ∧ σ[0]? = some (some (.ref a)) ∧ (∀ (j : Nat) w, ws[j]? = some w → σ[i' + 1 + j]? = some (some w)) ∧ ∀ H', IniI C a H0 ((fl.zip ws).reverse ++ fs) H' → D.nx σ H' := fun H1 I1 =>
          ⟨H0, (f, w) :: fs, ws, I1, by rw [List.length_cons] at hl ⊢; omega, by rw [List.length_cons, List.length_cons] at hw; omega, s0, fun j u hu => by
            have := sj (j + 1) u hu
            rw [show i' + 1 + j = i' + (j + 1) by omega]; exact this, fun H' I' => k H' (by
            have e : ((f :: fl).zip (w :: ws)).reverse ++ fs = (fl.zip ws).reverse ++ (f, w) :: fs := by
              rw [List.zip_cons_cons, List.reverse_cons, List.append_assoc]; rfl
            rw [e]; exact I')⟩
        rcases I.ob with ⟨e1, e2, e3⟩ | ⟨dx, n1, n2, q1, q2, q3⟩
        · subst e1 e2
          refine .inl ⟨e3, fun dx hn ne => nxt _ ⟨.inr ⟨dx, hn, ne, upd_same, by rw [upd_ne ne]; exact upd_same, fun b hb hd => by rw [upd_ne hb, upd_ne hd]⟩⟩⟩
        · refine .inr ⟨dx, fs, q1, q2, by rw [List.length_cons] at hl; omega, nxt _ ⟨.inr ⟨dx, n1, n2, by rw [upd_ne (Ne.symm n2)]; exact q1, upd_same, fun b hb hd => by rw [upd_ne hd]; exact q3 b hb hd⟩⟩⟩
    · cases h
  | [], _ :: _, _, _, h => by cases h
  | _ :: _, [], _, _, h => by cases h
end Mi

/-! Mi25: raise. -/
namespace Mi
open PySem PySem.Spec PyProof.Rows L2

/-- what an exception's __init__ promises -/
def spI (C : Addr) (fl : List Str) : Sp := fun vs H Q E => ∃ a ws, vs = .ref a :: ws ∧ ws.length = fl.length ∧ H a = some (L2.exo a C none) ∧ ∀ H', IniI C a H (fl.zip ws).reverse H' → Q .non H'
/-- an exception class with an own __init__, which stores the fields fl -/
structure XIni (K : PySem.W.Frag) (C : Addr) (fl : List Str) : Prop where
  ne : fl ≠ []
  le : fl.length ≤ 900
  cl : OexC K C
  free : ∀ f ∈ fl, PySem.W.findIn K (.ref C) f = some none
  ex : ∃ (fI : Addr) (oc : Value) (od : Option Addr) (name qual : Str) (params : Arguments) (body : List Stmt) (scope : Scope) (dV kV doc pm cdv ct : Value) (an : Option Addr) (osl : Array (Option Value)) (N ps : List Str),
    PySem.W.findIn K (.ref C) "__init__" = some (some (.ref fI)) ∧ PySem.W.typeIn K (.ref fI) = some (.type "function") ∧
    K.lookup fI = some ⟨oc, od, .func (PySem.W.fnOf name qual params body scope dV kV doc pm an cdv ct), osl⟩ ∧ PySem.W.codeIn K cdv qual = true ∧ FnScope N ps scope ∧ Binds K (PySem.W.fnOf name qual params body scope dV kV doc pm an cdv ct) ps [] ∧
      ps.length = fl.length + 1 ∧ mInit N scope 1 fl body = true
/-- an exception class without an own __init__ -/
structure XNon (K : PySem.W.Frag) (C : Addr) : Prop where
  ex : ∃ (B newId initId : String) (bmB : List Value), ExcBaseFacts B newId initId bmB ∧ PySem.W.excIn K C bmB newId = true
  kC : PySem.W.keepIn K (.ref C) = true
  exC : PySem.W.subIn K (.ref C) (.type "BaseException") = some true
  tyC : PySem.W.typeIn K (.ref C) = some (.type "type")
def XFact (K : PySem.W.Frag) (C : Addr) (fl : List Str) : Prop := (fl = [] ∧ XNon K C) ∨ XIni K C fl
section
variable {P : Program} {w : World} {K : PySem.W.Frag} {mg : Str → Option Value} {base : Heap} {C : Addr} {fl : List Str}
theorem fnM_ini {CX : CXT} {fI : Addr} {oc : Value} {od : Option Addr} {name qual : Str} {params : Arguments} {body : List Stmt} {scope : Scope} {dV kV doc pm cdv ct : Value} {an : Option Addr} {osl : Array (Option Value)} {N ps : List Str} (T : OexC K C) (hf : ∀ f ∈ fl, PySem.W.findIn K (.ref C) f = some none) (hl : fl.length ≤ 900)
    (lk : K.lookup fI = some ⟨oc, od, .func (PySem.W.fnOf name qual params body scope dV kV doc pm an cdv ct), osl⟩) (hcd : PySem.W.codeIn K cdv qual = true) (S : FnScope N ps scope) (hp : ps.length = fl.length + 1) (h : mInit N scope 1 fl body = true) :
    FnM P w K mg base CX 1 fI (PySem.W.fnOf name qual params body scope dV kV doc pm an cdv ct) ps (fun _ => spI C fl) := by
  refine fnM_of (N := N) lk hcd S (fun e vs H Q E q => ?_) fun e A H vs Q E hr hgd hm q => ?_
  · obtain ⟨a, ws, ev, hw, _⟩ := q
    rw [ev, List.length_cons, hw, hp]
  · obtain ⟨a, ws, ev, hw, he, k⟩ := q
    subst ev
    have fin : ∃ (H0 : Hp) (fs : List (Str × V)) (ws' : List V), IniI C a H0 fs H ∧ fs.length + fl.length ≤ 900 ∧ ws'.length = fl.length ∧ (L2.start N (.ref a :: ws))[0]? = some (some (.ref a)) ∧ (∀ (j : Nat) w, ws'[j]? = some w → (L2.start N (.ref a :: ws))[1 + j]? = some (some w)) ∧
        ∀ H', IniI C a H0 ((fl.zip ws').reverse ++ fs) H' → Q .non H' := ⟨H, [], ws, ⟨.inl ⟨rfl, rfl, he⟩⟩, by rw [List.length_nil]; omega, hw, startV_at rfl, fun j w hj => startV_at (by rw [Nat.add_comm]; exact hj), fun H' I => k H' (by rw [List.append_nil] at I; exact I)⟩
    obtain ⟨outer, s, hot⟩ := e
    cases hot with
    | none => exact ⟨_, ini_run (X := cxOf CX P w K mg base N qual scope fI cdv A outer s H E) (a := a) T fl body 1 hf h, fin⟩
    | some p => exact ⟨_, ini_run (X := L2H.cxH CX P w K mg base N qual scope fI cdv A outer s H E p) (a := a) T fl body 1 hf h, fin⟩
end
theorem repF_app {C : Cn} {B : Addr → Prop} {H : Hp} : ∀ {xs ys : List (Str × PV)} {vs ws : List (Str × V)}, Rep.RepF C B H xs vs → Rep.RepF C B H ys ws → Rep.RepF C B H (xs ++ ys) (vs ++ ws)
  | [], ys, vs, ws, h, q => by rw [show vs = [] from h]; exact q
  | (f, x) :: xs, ys, vs, ws, h, q => by
    obtain ⟨y, r, e, h1, h2⟩ := h
    exact ⟨y, r ++ ws, by rw [e]; rfl, h1, repF_app h2 q⟩
theorem repF_zip {C : Cn} {B : Addr → Prop} {H : Hp} : ∀ {fl : List Str} {xs : List PV} {vs : List V}, Rep.RepL C B H xs vs → Rep.RepF C B H (fl.zip xs).reverse (fl.zip vs).reverse
  | [], xs, vs, h => rfl
  | f :: fl, [], vs, h => by rw [show vs = [] from h]; rfl
  | f :: fl, x :: xs, vs, h => by
    obtain ⟨y, r, e, h1, h2⟩ := h
    rw [e, List.zip_cons_cons, List.zip_cons_cons, List.reverse_cons, List.reverse_cons]
    exact repF_app (repF_zip h2) ⟨y, [], rfl, h1, rfl⟩
/-- what raise asks of a context -/
structure RaisOk (X : Cx) (Γ : G) (C : Cn) (W : WX) : Prop where
  room : Room 2 X.A
  guards : X.A.guards = some []
  tk : L2N.Takes X W
  fact : ∀ c, C.T.ec c → XFact X.K (C.T.ca c) (Γ.flds c)
section
variable {Dt : Dat} {X : Cx} {Γ : G} {C : Cn} {T : List NdefX.NTab} {W : WX} {as : Es} {As : List Expr} {pos p pos' : Pos} {x : Str} {zf : Bool}
theorem rais_pre {σ : L2.St} {H : Hp} {D : Ends} {c : Nat} {M E0 P0 : Addr → Prop} {H0 : Hp} {st : Slots} (si : SI C T H0 E0 P0 M st σ H) (P : PostS C T W H0 E0 P0 M (evS Γ (.rais c as) st) D) :
    tEs Γ C T W as σ H fun vs H1 => vs.length = (Γ.flds c).length ∧ ∃ st1, SI C T H0 E0 P0 M st1 σ H1 ∧ ∃ xs, xs.length = vs.length ∧ Rep.RepL C (Bn M st1 σ) H1 xs vs ∧ PostS C T W H0 E0 P0 M (.ex c ((Γ.flds c).zip xs).reverse st1) D := by
  refine tEs.mono (tS_exps si P) fun vs H1 ⟨xs, st1, ps, r, P⟩ => ?_
  split at P
  · rename_i h
    obtain ⟨h1, h2⟩ := h
    have k := (Bool.and_eq_true_iff.mp h1).1
    have rp := r.reps k
    have hl : vs.length = xs.length := by rw [RepL.length rp]; unfold valsOf; rw [List.length_map]
    exact ⟨hl.trans h2, st1, r.base, valsOf xs, (RepL.length rp).symm, rp, P⟩
  · exact P.elim
theorem s_rais {c : Nat} (ok : XOk Dt X Γ C T W) (hh : Dt.hot = false) (R : RaisOk X Γ C W) (hg : Gl X x) (ho : okN x = true) (hx : Dt.globs.lookup x = some (.xc c)) (hlen : as.len = (Γ.flds c).length) (h : SEs X Γ C T W as As) :
    PS X (.Raise (some (.Call (.Name x p) As [] pos)) none pos') (tS Γ C T W zf (.rais c as)) := by
  obtain ⟨gm, hec⟩ := ok.gl x _ hx
  have calm := ok.bi.calm hh
  cases As with
  | nil =>
    have e : as = .nil := by
      cases as with
      | nil => rfl
      | cons a r => exact absurd h.len (by show ¬ (0 = r.len + 1); omega)
    subst e
    rcases R.fact c hec with ⟨fe, N⟩ | I
    · obtain ⟨B, newId, initId, bmB, F, q⟩ := N.ex
      refine (L2N.ps_raise calm R.tk (pmk_own0 F q gm N.kC (raises_own N.exC N.tyC) hg (okN_d ho))).imp fun D σ H ⟨H0, E0, P0, M, st, hz, si, P⟩ => ?_
      have P : PostS C T W H0 E0 P0 M (if (keepAll [] && noCloAll (valsOf [])) = true ∧ ([] : List (Fl × PV)).length = (Γ.flds c).length then .ex c ((Γ.flds c).zip (valsOf [])).reverse st else .bad) D := P
      rw [fe, if_pos ⟨rfl, rfl⟩] at P
      exact P _ none σ H si ⟨hec, rfl, .inl ⟨rfl, rfl⟩⟩
    · refine ⟨fun pins s σ H D _ ⟨H0, E0, P0, M, st, hz, si, P⟩ => ?_⟩
      have P : PostS C T W H0 E0 P0 M (if (keepAll [] && noCloAll (valsOf [])) = true ∧ ([] : List (Fl × PV)).length = (Γ.flds c).length then .ex c ((Γ.flds c).zip (valsOf [])).reverse st else .bad) D := P
      rw [if_neg (fun z => I.ne (List.length_eq_zero_iff.mp z.2.symm))] at P
      exact P.elim
  | cons e es =>
    rcases R.fact c hec with ⟨fe, N⟩ | I
    · rw [fe, ← h.len] at hlen
      exact absurd hlen (by show ¬ (es.length + 1 = 0); omega)
    · obtain ⟨fI, oc, od, name, qual, params, body, scope, dV, kV, doc, pm, cdv, ct, an, osl, N, ps, iC, tI, lk, hcd, S, hb, hp, hi⟩ := I.ex
      have F1 : FnM X.prog X.w X.K X.mg X.base (L2N.CX X.prog X.w) 1 fI _ ps (fun _ => spI (C.T.ca c) (Γ.flds c)) := fnM_ini I.cl I.free I.le lk hcd S hp hi
      refine (L2N.ps_raise calm R.tk (pmkG (sp0 := spI (C.T.ca c) (Γ.flds c)) I.cl iC tI F1 (fun _ _ _ _ _ q _ => q) R.room R.guards hb (fun pins σ H s e s' _ z => ?_) hg gm h.pa (okN_d ho) (h.hd _ _ rfl _) (h.tl _ _ rfl _ _))).imp fun D σ H ⟨H0, E0, P0, M, st, hz, si, P⟩ => ?_
      · obtain ⟨_, _, _, _, _, _, _, _, _, _, _, _, z⟩ := z
        exact z.elim
      · refine tEs.mono (rais_pre si P) fun vs H1 ⟨hl, st1, si1, xs, hxs, rp, P⟩ => ⟨by rw [hl]; have := I.le; omega, fun a ha => ⟨a, vs, by rw [List.append_nil], hl, upd_same, fun H' J => ⟨rfl, ?_⟩⟩⟩
        rcases J.ob with ⟨z, _⟩ | ⟨dx, n1, n2, q1, q2, q3⟩
        · have z2 := congrArg List.length z
          rw [List.length_reverse, List.length_zip, hl, Nat.min_self] at z2
          exact absurd (List.length_eq_zero_iff.mp z2) I.ne
        · rw [upd_ne n2] at n1
          refine ⟨dx, _, q1, q2, n1, ?_⟩
          have eH : L2.upd (L2.del H' a) dx (.xd ((Γ.flds c).zip vs).reverse) = L2.upd H1 dx (.xd ((Γ.flds c).zip vs).reverse) := funext fun b => by
            by_cases hd : b = dx
            · subst hd; rw [upd_same, upd_same]
            · rw [upd_ne hd, upd_ne hd]
              by_cases hb : b = a
              · subst hb; rw [del_same, ha]
              · rw [del_ne hb, q3 b hb hd, upd_ne hb]
          rw [eH]
          have kp : Kp (fun _ => False) H1 (L2.upd H1 dx (.xd ((Γ.flds c).zip vs).reverse)) := Kp.updF n1
          refine P _ (some dx) σ _ (si1.step (io := false) (M' := M) ⟨si1.rel.grow kp, kp.mono fun _ z => z.elim, fun b hb => Mi.upd_al b hb, fun _ z => z, si1.tab.upd n1⟩) ⟨hec, rfl, .inr ⟨dx, _, rfl, upd_same, fun z => si1.rel.bnFree n1 z, ?_⟩⟩
          exact RepF.mv kp (fun _ z => z.elim) (fun a z => .inl z) _ _ (repF_zip rp)
end
end Mi

/-! Mi26: try: .. except C as e: .. -/
namespace Mi
open PySem PySem.Spec PyProof.Rows L2

section
variable {C C' : Cn} {T : List NdefX.NTab} {M E0 P0 : Addr → Prop} {st : Slots} {σ : L2.St} {H H0 : Hp}
theorem SI.cn {b e : Bool} (c : CnLe C C' b e) (h1 : (b || st.all Sl.noClo) = true) (h2 : (e || st.all Sl.noExc) = true) (s : SI C T H0 E0 P0 M st σ H) : SI C' T H0 E0 P0 M st σ H :=
  ⟨s.rel.cn c h1 h2, s.kp, s.al, s.own, s.tab, s.pin⟩
theorem owns_no {i : Nat} {b : Addr} (o : Owns (st.set i .no) (σ.set i none) b) : Owns st σ b := by
  obtain ⟨j, v, e1, e2⟩ := o
  by_cases h : i = j
  · subst h
    by_cases hl : i < st.length
    · rw [List.getElem?_set_self hl] at e1; cases e1
    · rw [List.getElem?_eq_none (by rw [List.length_set]; omega)] at e1; cases e1
  · rw [List.getElem?_set_ne h] at e1 e2
    exact ⟨j, v, e1, e2⟩
theorem bn_no {i : Nat} {b : Addr} (o : Bn M (st.set i .no) (σ.set i none) b) : Bn M st σ b := o.elim .inl fun o => .inr (owns_no o)
theorem Rel.drop (r : Rel C M st σ H) (i : Nat) : Rel C M (st.set i .no) (σ.set i none) H := by
  have key : ∀ {j : Nat} {s : Sl}, (st.set i .no)[j]? = some s → s ≠ .no → i ≠ j ∧ st[j]? = some s := fun {j s} h n => by
    by_cases hj : i = j
    · subst hj
      by_cases hl : i < st.length
      · rw [List.getElem?_set_self hl] at h; cases h; exact absurd rfl n
      · rw [List.getElem?_eq_none (by rw [List.length_set]; omega)] at h; cases h
    · rw [List.getElem?_set_ne hj] at h; exact ⟨hj, h⟩
  refine ⟨by rw [List.length_set, List.length_set]; exact r.len, fun j v h => ?_, fun j v h => ?_, fun j k v u a h1 h2 h3 h4 => ?_, r.al⟩
  · obtain ⟨hj, h⟩ := key h (fun z => by cases z)
    obtain ⟨w, e1, e2⟩ := r.sh j v h
    exact ⟨w, by rw [List.getElem?_set_ne hj]; exact e1, e2.sub fun a => bn_no⟩
  · obtain ⟨hj, h⟩ := key h (fun z => by cases z)
    obtain ⟨a, e1, e2, n⟩ := r.ow j v h
    exact ⟨a, by rw [List.getElem?_set_ne hj]; exact e1, e2.sub fun a => bn_no, n⟩
  · obtain ⟨hj, h1⟩ := key h1 (fun z => by cases z)
    obtain ⟨hk, h2⟩ := key h2 (fun z => by cases z)
    rw [List.getElem?_set_ne hj] at h3
    rw [List.getElem?_set_ne hk] at h4
    exact r.inj j k v u a h1 h2 h3 h4
theorem SI.drop {zf : Bool} {i : Nat} (hz : zf = false → ∀ a, ¬ P0 a) (h0 : zf = true → i ≠ 0) (s : SI C T H0 E0 P0 M st σ H) : SI C T H0 E0 P0 M (st.set i .no) (σ.set i none) H :=
  ⟨s.rel.drop i, s.kp, s.al, fun a o => s.own a (owns_no o), s.tab, pin_set hz h0 s.pin⟩
theorem all_set {α : Type} {p : α → Bool} {x : α} : ∀ {l : List α} {i : Nat}, p x = true → (l.set i x).all p = true → ∀ {y : α}, p y = true → (l.set i y).all p = true
  | [], _, _, h, y, hy => h
  | z :: l, 0, _, h, y, hy => by
    have h : (p x && l.all p) = true := h
    show (p y && l.all p) = true
    rw [hy, (Bool.and_eq_true_iff.mp h).2]; rfl
  | z :: l, i + 1, hx, h, y, hy => by
    have h : (p z && (l.set i x).all p) = true := h
    show (p z && (l.set i y).all p) = true
    rw [(Bool.and_eq_true_iff.mp h).1, all_set hx (Bool.and_eq_true_iff.mp h).2 hy]; rfl
end
section
variable {Γ : G} {T0 : Tb} {X : Cx} {CL : Addr → Nat → List V → Prop} {NT : List NdefX.NTab} {W : WX} {zf : Bool}
theorem s_try_as {c i : Nat} {b u : Ss} {x n : Str} {np pos pos' : Pos} {body suite : List Stmt} {b₀ : Stmt} (hs : X.stack = X.env :: X.outer) (hf : X.env.frame = some X.env.locals) (hN : X.N.Nodup) (hi : X.N[i]? = some n) (hln : X.env.kindOf n = some .local)
    (hc : Names X x (.ref (T0.ca c))) (hx : ∀ k, T0.ec k → PySem.W.exmOne X.K (.ref (T0.ca k)) (.ref (T0.ca c)) = some (Γ.sub k c)) (h0 : zf = true → i ≠ 0) (tk : L2N.Takes X W)
    (hb : ∀ (W' : WX) (pn : List (Addr × Obj)) (xe : Value → Shared → Prop), L2N.Takes (X.tr pn xe) W' → PassesOwn (model X.prog X.w) X.A X.env xe → PSs (X.tr pn xe) body (tSs Γ (CnM T0 X.K CL none) NT W' zf b))
    (hsu : ∀ (a : Addr) (oe : Obj) (cls : Value) (d : Option Addr) (pn : List (Addr × Obj)), L2N.Zn cls d oe → (∃ vs, oe.data = .fields vs) → PSs (X.suite a ((a, oe) :: pn)) (b₀ :: suite) (tSs Γ (CnM T0 X.K CL (some (a, oe))) NT WF zf u)) :
    PS X (.Try body [.ExceptHandler (some (.Name x np)) (some n) (b₀ :: suite) pos'] [] [] pos) (tS Γ (CnM T0 X.K CL none) NT W zf (.tr b (.cons [c] (some i) u .nil))) := by
  refine (L2N.ps_try_as (tb := fun W' => tSs Γ (CnM T0 X.K CL none) NT W' zf b) (ts := fun a cls d D σ H => ∀ oe, L2N.Zn cls d oe → (∃ vs, oe.data = .fields vs) → tSs Γ (CnM T0 X.K CL (some (a, oe))) NT WF zf u D σ H) hs hf hN hi hln hc tk hb
    (fun a oe cls d pn hz hv => (hsu a oe cls d pn hz hv).imp fun D σ H h => h oe hz hv)).imp fun D σ H ⟨H0, E0, P0, M, st, hz, s, P⟩ => ?_
  refine ⟨H0, E0, P0, M, st, hz, s, ?_⟩
  have P : PostS (CnM T0 X.K CL none) NT W H0 E0 P0 M (match evSs Γ b st with
    | .ex k fs st => evHs Γ (.cons [c] (some i) u .nil) k fs st
    | r => r) D := P
  cases e : evSs Γ b st with
  | bad => rw [e] at P; exact P
  | ok w st1 => rw [e] at P; cases w <;> exact P
  | ex k fs st1 =>
    rw [e] at P
    intro cls d σ1 H1 s1 xr
    obtain ⟨hec, ecls, xr⟩ := xr
    have P : PostS (CnM T0 X.K CL none) NT W H0 E0 P0 M (if (([c] : List Nat).any (Γ.sub k)) = true then (if i < st1.length then (match evSs Γ u (st1.set i (.sh (.exc k fs))) with
        | .ok w st => if (w.noExc && (st.set i .no).all Sl.noExc) = true then .ok w (st.set i .no) else .bad
        | _ => .bad) else .bad) else .ex k fs st1) D := P
    refine ⟨Γ.sub k c, by rw [ecls]; exact hx k hec, fun hy a ha oe hz1 hv => ?_, fun hn => ?_⟩
    · rw [if_pos (by rw [List.any_cons, hy]; rfl)] at P
      split at P
      · rename_i hl
        have up : CnLe (CnM T0 X.K CL none) (CnM T0 X.K CL (some (a, oe))) true true := ⟨rfl, rfl, fun _ _ _ _ z => z, fun _ _ _ _ z => z.elim⟩
        have dn : CnLe (CnM T0 X.K CL (some (a, oe))) (CnM T0 X.K CL none) true false := ⟨rfl, rfl, fun _ _ _ _ z => z, fun z => Bool.noConfusion z⟩
        have s2 := s1.cn up rfl rfl
        have rp : Rep (CnM T0 X.K CL (some (a, oe))) (Bn M st1 σ1) H1 (.exc k fs) (.ref a) := by
          rcases xr with ⟨z1, z2⟩ | ⟨dd, ys, z1, z2, z3, z4⟩
          · exact ⟨a, d, [], rfl, hec, .inl ⟨rfl, hz1.1.trans ecls, hz1.2.1, hv⟩, .inl ⟨z1, z2⟩⟩
          · exact ⟨a, d, ys, rfl, hec, .inl ⟨rfl, hz1.1.trans ecls, hz1.2.1, hv⟩, .inr ⟨dd, z1, z2, z3, RepF.cn up fs ys rfl rfl z4⟩⟩
        have s3 : SI (CnM T0 X.K CL (some (a, oe))) NT H0 E0 P0 M (st1.set i (.sh (.exc k fs))) (σ1.set i (some (.ref a))) H1 := ⟨s2.rel.setSh hl rp, s2.kp, s2.al, fun b o => by
          rcases bn_sh (M := fun _ => False) hl s2.rel.len b (.inr o) with z | z
          · exact z.elim
          · exact s2.own b z, s2.tab, pin_set hz h0 s2.pin⟩
        refine ⟨H0, E0, P0, M, _, hz, s3, ?_⟩
        cases e2 : evSs Γ u (st1.set i (.sh (.exc k fs))) with
        | bad => rw [e2] at P; exact P
        | ex c2 fs2 st2 => rw [e2] at P; exact P.elim
        | ok w st2 =>
          rw [e2] at P
          dsimp only at P
          split at P
          · rename_i hw
            obtain ⟨hw, hst⟩ := Bool.and_eq_true_iff.mp hw
            have back : ∀ {M' : Addr → Prop} {σ2 : L2.St} {H2 : Hp}, SI (CnM T0 X.K CL (some (a, oe))) NT H0 E0 P0 M' st2 σ2 H2 → SI (CnM T0 X.K CL none) NT H0 E0 P0 M' (st2.set i .no) (σ2.set i none) H2 := fun s4 => (s4.drop hz h0).cn dn rfl hst
            cases w with
            | nx => exact fun σ2 H2 s4 => P _ _ (back s4)
            | bk => exact fun σ2 H2 s4 => P _ _ (back s4)
            | ct => exact fun σ2 H2 s4 => P _ _ (back s4)
            | rt f v =>
              intro w ps σ2 H2 s4 nd fr rl
              refine P w ps (σ2.set i none) H2 (back s4) nd fr (RL.cn dn (fun _ _ => rfl) (fun x m => by rw [List.mem_singleton] at m; subst m; exact hw) (RL.mv (Kp.refl (fun _ => False) H2) (fun _ z => z.elim) (fun b z => .inl (bn_no z)) rl (fun _ _ => rfl) (fun _ _ z => z)))
          · exact P.elim
      · exact P.elim
    · rw [if_neg (by rw [List.any_cons, hn]; exact Bool.false_ne_true)] at P
      exact P cls d σ1 H1 s1 ⟨hec, ecls, xr⟩
end
end Mi

/-! Mi27: every def of the table keeps its promise, at every level, in every mode that it is checked for. -/
namespace Mi
open PySem PySem.Spec PyProof.Rows L2

def noMS : MS := fun _ _ => false
/-- raise -/
def mR (D : Dat) (fl : Nat → List Str) (cb : Bool) (N : List Str) (ml : ML) (sc : Scope) : MS
  | .rais c as, .Raise (some (.Call (.Name x _) es [] _)) none _ => !D.hot && gB D sc x (.xc c) && decide (as.len = (fl c).length) && mEs D cb N ml sc as es
  | _, _ => false
/-- raise, and try with one clause that names the exception -/
def mT (D : Dat) (fl : Nat → List Str) (cb cel zf : Bool) (N : List Str) (ml : ML) (sc : Scope) : MS
  | .tr b (.cons [c] (some i) u .nil), .Try body [.ExceptHandler (some (.Name x _)) (some n) (b0 :: su) _] [] [] _ =>
    !D.hot && gB D sc x (.xc c) && decide (N[i]? = some n) && lclB sc n && z0 zf i && mSs D cb cel zf N ml (mR D fl cb N ml sc) sc b body && mSs { D with hot := true } false cel zf N noML noMS sc u (b0 :: su)
  | u, s => mR D fl cb N ml sc u s
/-- the facts of exceptions -/
structure WdX (K : PySem.W.Frag) (T : Tb) (Γ : G) : Prop where
  fact : ∀ c, T.ec c → XFact K (T.ca c) (Γ.flds c)
  exm : ∀ k c, T.ec k → T.ec c → PySem.W.exmOne K (.ref (T.ca k)) (.ref (T.ca c)) = some (Γ.sub k c)
section
variable {Dt : Dat} {cb cel zf : Bool} {Γ : G} {C : Cn} {T : List NdefX.NTab} {W : WX} {X : Cx}
theorem sR {ml : ML} {u : S} {s : Stmt} (SA : SAll Dt cb cel X Γ C T W) (R : RaisOk X Γ C W) (hm : ∀ a e, ml a e = true → SE X Γ C T W a e) (h : mR Dt Γ.flds cb X.N ml X.env.scope u s = true) : PS X s (tS Γ C T W zf u) := by
  unfold mR at h
  split at h
  · obtain ⟨h, h4⟩ := and2 h
    obtain ⟨h, h3⟩ := and2 h
    obtain ⟨h1, h2⟩ := and2 h
    obtain ⟨g1, g2, g3⟩ := gB_ok h2
    exact s_rais SA.xa.core (notT h1) R g1 g2 g3 (of_decide_eq_true h3) (sEs _ SA.xa hm h4)
  · cases h
end
section
variable {P : Program} {w : World} {K : PySem.W.Frag} {mg : Str → Option Value} {base : Heap} {T : Tb} {Dt : Dat} {NT : List NdefX.NTab} {Γ : G} {tab : Nat → Option Fn} {cal : Cal}
/-- closures at the levels: handed on, called -/
structure CLRules (P : Program) (w : World) (K : PySem.W.Frag) (mg : Str → Option Value) (base : Heap) (T : Tb) (NT : List NdefX.NTab) (Γ : G) (tab : Nat → Option Fn) (CLk : Nat → CLT) : Prop where
  tr : ∀ (X : Cx), X.prog = P → X.w = w → X.K = K → X.mg = mg → X.base = base → X.ex = [] → ∀ k pins σ H s, Inv X pins σ H s → ∀ a l ws, CLk (k + 1) X.outer X.s_0 X.H_0 a l ws → CLk k X.stack s H a l ws
  cc : ∀ (X : Cx), X.prog = P → X.w = w → X.K = K → X.mg = mg → X.base = base → X.ex = [] → ∀ k W, L2H.RoomH (2 * k + 2) X.A → X.A.guards = some [] → XMode X none → L2N.Takes X W → CcOk X { Γ with call := callAt Γ tab k } (CnM T K (CLk k X.outer X.s_0 X.H_0) none) NT W
def CL0 : Nat → CLT := fun _ _ _ _ => noCL
theorem clRules0 : CLRules P w K mg base T NT Γ tab CL0 := ⟨fun X _ _ _ _ _ _ k pins σ H s _ a l ws z => z, fun X h1 h2 h3 h4 h5 _ k W _ _ _ _ => by subst h3; exact ccOk_no⟩
/-- a def of the text, checked: hot: also within except suites; clo: also with closures -/
structure DefOk (K : PySem.W.Frag) (Dt : Dat) (cal : Cal) (fl : Nat → List Str) (ml : ML) (f : Nat) (a : Addr) (F : Fn) : Prop where
  ex : ∃ (oc : Value) (od : Option Addr) (name qual : Str) (params : Arguments) (body : List Stmt) (scope : Scope) (dV kV doc pm cdv ct : Value) (an : Option Addr) (osl : Array (Option Value)) (N ps : List Str) (cb : Bool),
    K.lookup a = some ⟨oc, od, .func (PySem.W.fnOf name qual params body scope dV kV doc pm an cdv ct), osl⟩ ∧ PySem.W.codeIn K cdv qual = true ∧ FnScope N ps scope ∧ Binds K (PySem.W.fnOf name qual params body scope dV kV doc pm an cdv ct) ps [] ∧
      N.length = F.ns ∧ ps.length = F.np ∧ F.np ≤ F.ns ∧ mSs (Dt.mode false false cal) cb true F.io N noML (mT (Dt.mode false false cal) fl cb true F.io N noML scope) scope F.body body = true ∧
      (cal.nocs f = true → mSs (Dt.mode false true cal) false true F.io N noML (mT (Dt.mode false true cal) fl false true F.io N noML scope) scope F.body body = true) ∧
      (cal.hots f = true → mSs (Dt.mode true false cal) false true F.io N noML noMS scope F.body body = true) ∧
      (cal.hots f = true → cal.nocs f = true → mSs (Dt.mode true true cal) false true F.io N noML noMS scope F.body body = true)
/-- the surroundings of a context -/
structure Sur (P : Program) (w : World) (K : PySem.W.Frag) (mg : Str → Option Value) (base : Heap) (k : Nat) (X : Cx) : Prop where
  e1 : X.prog = P
  e2 : X.w = w
  e3 : X.K = K
  e4 : X.mg = mg
  e5 : X.base = base
  room : L2H.RoomH (2 * k + 2) X.A
  gd : X.A.guards = some []
  nd : X.N.Nodup
/-- what is known below a level -/
structure Lv (P : Program) (w : World) (K : PySem.W.Frag) (mg : Str → Option Value) (base : Heap) (T : Tb) (Dt : Dat) (NT : List NdefX.NTab) (cal : Cal) (CLk : Nat → CLT) (Γ : G) (tab : Nat → Option Fn) (k : Nat) : Prop where
  hsys : ∃ o, base.get? sysModules = some o
  wd : Wd K mg T Dt Γ
  wx : WdX K T Γ
  cl : CLRules P w K mg base T NT Γ tab CLk
  fa : ∀ j, k = j + 1 → FnAll P w K mg base T NT cal (CLk j) { Γ with call := callAt Γ tab j } tab (2 * j + 3)
variable {CLk : Nat → CLT} {k : Nat}
theorem Lv.xok (L : Lv P w K mg base T Dt NT cal CLk Γ tab k) {X : Cx} (S : Sur P w K mg base k X) {m : Option (Addr × Obj)} {hot clo : Bool} {CL : Addr → Nat → List V → Prop} {W : WX} (hm : XMode X m) (hh : m.isSome = hot) (hcl : clo = false → CL = noCL) (hcl2 : clo = true → X.ex = [] ∧ CL = CLk k X.outer X.s_0 X.H_0) (tk : L2N.Takes X W) :
    XOk (Dt.mode hot clo cal) X { Γ with call := callAt Γ tab k } (CnM T K CL m) NT W := by
  obtain ⟨e1, e2, e3, e4, e5, room, gd, nd⟩ := S
  subst e1 e2 e3 e4 e5
  refine xok_of (room := 2 * k + 2) (CLp := CLk (k - 1)) L.wd room gd L.hsys hm hh hcl (fun j ej pins σ H s I a l ws z => ?_) (fun z => ?_) nd tk fun j e => ⟨2 * j + 3, by omega, by subst e; exact L.fa j rfl⟩
  · subst ej
    cases clo with
    | false => rw [hcl rfl] at z; exact z.elim
    | true =>
      obtain ⟨hex, ec⟩ := hcl2 rfl
      rw [ec] at z
      exact L.cl.tr X rfl rfl rfl rfl rfl hex j pins σ H s I a l ws z
  · cases clo with
    | false => rw [hcl rfl]; exact ccOk_no
    | true =>
      obtain ⟨hex, ec⟩ := hcl2 rfl
      rw [z] at hh
      cases m with
      | none => rw [ec]; exact L.cl.cc X rfl rfl rfl rfl rfl hex k W room gd hm tk
      | some p => cases hh
theorem Lv.sall (L : Lv P w K mg base T Dt NT cal CLk Γ tab k) {X : Cx} (S : Sur P w K mg base k X) {cb : Bool} {m : Option (Addr × Obj)} {hot clo : Bool} {CL : Addr → Nat → List V → Prop} {W : WX} (hm : XMode X m) (hh : m.isSome = hot) (hcl : clo = false → CL = noCL) (hcl2 : clo = true → X.ex = [] ∧ CL = CLk k X.outer X.s_0 X.H_0) (tk : L2N.Takes X W)
    (hcb : cb = true → clo = false ∧ m = none) (pw : PassesOwn (model X.prog X.w) X.A X.env X.xe) (fn : ∀ x, X.fn x = true) (kd : X.env.scope.kind = .function) : SAll (Dt.mode hot clo cal) cb true X { Γ with call := callAt Γ tab k } (CnM T K CL m) NT W := by
  refine ⟨⟨L.xok S hm hh hcl hcl2 tk, fun hb X' b => ?_⟩, pw, fun _ => fn, kd⟩
  obtain ⟨hc, em⟩ := hcb hb
  obtain ⟨b1, b2, b3, b4, b5, b6, b7, b8⟩ := b.same
  subst hc em
  refine L.xok (X := X') ⟨b1.trans S.e1, b2.trans S.e2, b3.trans S.e3, b4.trans S.e4, b5.trans S.e5, by rw [b6]; exact S.room, by rw [b6]; exact S.gd, by rw [b7]; exact S.nd⟩ ?_ hh hcl (fun z => by cases z) (takesF X')
  exact ⟨by rw [b8]; exact hm.1, by rw [b6]; exact hm.2⟩
/-- statements with raise and try -/
theorem Lv.sT (L : Lv P w K mg base T Dt NT cal CLk Γ tab k) {X : Cx} (S : Sur P w K mg base k X) {cb clo zf : Bool} {CL : Addr → Nat → List V → Prop} {W : WX} {ml : ML} (hm : XMode X none) (hcl : clo = false → CL = noCL) (hcl2 : clo = true → X.ex = [] ∧ CL = CLk k X.outer X.s_0 X.H_0) (tk : L2N.Takes X W)
    (hcb : cb = true → clo = false) (pw : PassesOwn (model X.prog X.w) X.A X.env X.xe) (fn : ∀ x, X.fn x = true) (kd : X.env.scope.kind = .function) (hst : X.stack = X.env :: X.outer) (hfr : X.env.frame = some X.env.locals)
    (hl : ∀ pn xe W', L2N.Takes (X.tr pn xe) W' → ∀ a e, ml a e = true → SE (X.tr pn xe) { Γ with call := callAt Γ tab k } (CnM T K CL none) NT W' a e) (hl0 : ∀ a e, ml a e = true → SE X { Γ with call := callAt Γ tab k } (CnM T K CL none) NT W a e)
    {u : Mi.S} {s : Stmt} (h : mT (Dt.mode false clo cal) Γ.flds cb true zf X.N ml X.env.scope u s = true) : PS X s (tS { Γ with call := callAt Γ tab k } (CnM T K CL none) NT W zf u) := by
  have SA : SAll (Dt.mode false clo cal) cb true X { Γ with call := callAt Γ tab k } (CnM T K CL none) NT W := L.sall S hm rfl hcl hcl2 tk (fun z => ⟨hcb z, rfl⟩) pw fn kd
  have ra : ∀ {X' : Cx} {W' : WX}, Sur P w K mg base k X' → XMode X' none → L2N.Takes X' W' → RaisOk X' { Γ with call := callAt Γ tab k } (CnM T K CL none) W' := fun {X' W'} S' hm' tk' => by
    refine ⟨⟨hm'.2, (S'.room.mono (j := 2) (by omega)).dp, (S'.room.mono (j := 2) (by omega)).un⟩, S'.gd, tk', fun c hc => ?_⟩
    rw [S'.e3]
    exact L.wx.fact c hc
  unfold mT at h
  split at h
  · rename_i b c i uu body x px n b0 su pos' pos
    obtain ⟨h, h7⟩ := and2 h
    obtain ⟨h, h6⟩ := and2 h
    obtain ⟨h, h5⟩ := and2 h
    obtain ⟨h, h4⟩ := and2 h
    obtain ⟨h, h3⟩ := and2 h
    obtain ⟨h1, h2⟩ := and2 h
    obtain ⟨g1, g2, g3⟩ := gB_ok h2
    obtain ⟨gm, hec⟩ := SA.xa.core.gl x _ g3
    have eK : K = X.K := S.e3.symm
    subst eK
    refine s_try_as hst hfr S.nd (of_decide_eq_true h3) (beq_iff_eq.mp h4) ⟨g1, okN_d g2, .inl gm⟩ (fun kk hk => L.wx.exm kk c hk hec) (z0_ok h5) tk (fun W' pn xe tk' pw' => ?_) fun a oe cls d pn hz hv => ?_
    · have S' : Sur P w X.K mg base k (X.tr pn xe) := ⟨S.e1, S.e2, S.e3, S.e4, S.e5, S.room, S.gd, S.nd⟩
      have hm' : XMode (X.tr pn xe) none := hm
      have SA' : SAll (Dt.mode false clo cal) cb true (X.tr pn xe) { Γ with call := callAt Γ tab k } (CnM T X.K CL none) NT W' := L.sall S' hm' rfl hcl hcl2 tk' (fun z => ⟨hcb z, rfl⟩) pw' fn kd
      exact sSs b SA' (hl pn xe W' tk') (fun u s q => sR SA' (ra S' hm' tk') (hl pn xe W' tk') q) h6
    · have S' : Sur P w X.K mg base k (X.suite a ((a, oe) :: pn)) := ⟨S.e1, S.e2, S.e3, S.e4, S.e5, ⟨S.room.dp, S.room.un⟩, S.gd, S.nd⟩
      have hm' : XMode (X.suite a ((a, oe) :: pn)) (some (a, oe)) := ⟨⟨rfl, hv.elim fun vs e => ⟨vs, e, hz.2.2 vs e⟩⟩, List.mem_cons_self⟩
      have SA' : SAll (Dt.mode true clo cal) false true (X.suite a ((a, oe) :: pn)) { Γ with call := callAt Γ tab k } (CnM T X.K CL (some (a, oe))) NT WF := L.sall S' hm' rfl hcl hcl2 (takesF _) (fun z => by cases z) PassesOwn.never fn kd
      exact sSs uu SA' (fun a e z => by cases z) (fun u s z => by cases z) h7
  · exact sR SA (ra S hm tk) hl0 h
/-- every def, at a level -/
theorem Lv.step (L : Lv P w K mg base T Dt NT cal CLk Γ tab k) (D : ∀ f F, tab f = some F → DefOk K Dt cal Γ.flds noML f (T.fa f) F) : FnAll P w K mg base T NT cal (CLk k) { Γ with call := callAt Γ tab k } tab (2 * k + 3) := fun f F hf => by
  obtain ⟨oc, od, name, qual, params, body, scope, dV, kV, doc, pm, cdv, ct, an, osl, N, ps, cb, lk, hcd, Sc, hb, hN, hp, hns, chk, chkC, chkH, chkHC⟩ := (D f F hf).ex
  refine ⟨_, ps, fnM_of (N := N) lk hcd Sc (fun e vs H Q E h => by obtain ⟨_, _, _, h⟩ := h; rw [hp]; exact h.1) (fun e A H vs Q E hr hgd hm h => ?_), hb, hp⟩
  obtain ⟨CL, hCL, hhot, hv, args, B, io, al, tb, ar, O⟩ := h
  obtain ⟨outer, s, hot⟩ := e
  have hl : args.length = F.np := run_len (Γ := { Γ with call := callAt Γ tab k }) fun z => by rw [z] at O; exact O
  obtain ⟨r1, r2, r3, r4⟩ := start_rel F hl hv hN hns al ar
  have hrun : F.run { Γ with call := callAt Γ tab k } args = F.fin (evSs { Γ with call := callAt Γ tab k } F.body (F.start args)) := by
    unfold Fn.run
    rw [if_pos hl]
  rw [hrun] at O
  have fin : tSs { Γ with call := callAt Γ tab k } (CnM T K CL hot) NT (fun cls d _ H => E cls d H) F.io F.body { nx := fun _ H' => Q .non H', rt := Q } (L2.start N vs) H := by
    refine ⟨H, fun a => io = some a, fun a => io = some a, B, F.start args, fun z a h => ?_, ⟨r1, Kp.refl _ _, fun _ h => h, fun a o => .inl (r2 a o), tb, r3⟩, out_post r4 (fun z => ?_) O⟩
    · rw [r4 z] at h; cases h
    · rw [z] at ar
      obtain ⟨_, _, a, _, _, _, e, _⟩ := ar
      exact ⟨a, e⟩
  -- is a closure held?
  have hclo : ∃ clo : Bool, (clo = false → CL = noCL) ∧ (clo = true → CL = CLk k outer s H ∧ cal.nocs f = true) := by
    rcases hCL with z | ⟨z1, z2⟩
    · exact ⟨false, fun _ => z, fun z => by cases z⟩
    · exact ⟨true, fun z => (by cases z), fun _ => ⟨z2, z1⟩⟩
  obtain ⟨clo, hc1, hc2⟩ := hclo
  cases hot with
  | none =>
    generalize hX : cxOf (L2N.CX P w) P w K mg base N qual scope (T.fa f) cdv A outer s H E = X
    have S : Sur P w K mg base k X := by subst hX; exact ⟨rfl, rfl, rfl, rfl, rfl, hr, hgd, Sc.nd⟩
    have hmX : XMode X none := by subst hX; exact ⟨rfl, hm⟩
    have tk : L2N.Takes X (fun cls d _ H => E cls d H) := by subst hX; exact L2N.takes_of (E := E) rfl rfl rfl rfl
    have pw : PassesOwn (model X.prog X.w) X.A X.env X.xe := by
      subst hX
      exact L2.passes_of (X := cxOf (L2N.CX P w) P w K mg base N qual scope (T.fa f) cdv A outer s H E) (K := fun e s'' => L2N.CX P w outer H s E e s'') rfl
    have hcl2 : clo = true → X.ex = [] ∧ CL = CLk k X.outer X.s_0 X.H_0 := fun z => by subst hX; exact ⟨rfl, (hc2 z).1⟩
    have e6 : X.env.scope = scope := by rw [← hX]; rfl
    have e7 : X.N = N := by rw [← hX]; rfl
    have fn : ∀ x, X.fn x = true := fun x => by rw [← hX]; rfl
    have st : X.stack = X.env :: X.outer := by rw [← hX]; rfl
    have fr : X.env.frame = some X.env.locals := by rw [← hX]; rfl
    have kd : X.env.scope.kind = .function := by rw [e6]; exact Sc.kind
    have go : ∀ cb' : Bool, (cb' = true → clo = false) → mSs (Dt.mode false clo cal) cb' true F.io N noML (mT (Dt.mode false clo cal) Γ.flds cb' true F.io N noML scope) scope F.body body = true →
        PSs X body (tSs { Γ with call := callAt Γ tab k } (CnM T K CL none) NT (fun cls d _ H => E cls d H) F.io F.body) := fun cb' hcb h => by
      refine sSs (ml := noML) (ms := mT (Dt.mode false clo cal) Γ.flds cb' true F.io N noML scope) F.body (L.sall (cb := cb') S hmX rfl hc1 hcl2 tk (fun z => ⟨hcb z, rfl⟩) pw fn kd) (fun a e z => by cases z) (fun u s z => ?_) (by rw [e6, e7]; exact h)
      exact L.sT (cb := cb') (ml := noML) S hmX hc1 hcl2 tk hcb pw fn kd st fr (fun _ _ _ _ a e z => by cases z) (fun a e z => by cases z) (by rw [e6, e7]; exact z)
    have main : PSs X body (tSs { Γ with call := callAt Γ tab k } (CnM T K CL none) NT (fun cls d _ H => E cls d H) F.io F.body) := by
      cases clo with
      | false => exact go cb (fun _ => rfl) chk
      | true => exact go false (fun z => by cases z) (chkC (hc2 rfl).2)
    exact ⟨_, by rw [← hX] at main; exact main, fin⟩
  | some p =>
    have hh := hhot rfl
    generalize hX : L2H.cxH (L2N.CX P w) P w K mg base N qual scope (T.fa f) cdv A outer s H E p = X
    have S : Sur P w K mg base k X := by subst hX; exact ⟨rfl, rfl, rfl, rfl, rfl, hr, hgd, Sc.nd⟩
    have hmX : XMode X (some p) := by subst hX; exact ⟨⟨hm.1.1, hm.1.2⟩, List.mem_singleton.mpr rfl⟩
    have tk : L2N.Takes X (fun cls d _ H => E cls d H) := by subst hX; exact L2N.takes_of (E := E) rfl rfl rfl rfl
    have pw : PassesOwn (model X.prog X.w) X.A X.env X.xe := by
      subst hX
      exact L2.passes_of (X := L2H.cxH (L2N.CX P w) P w K mg base N qual scope (T.fa f) cdv A outer s H E p) (K := fun e s'' => L2N.CX P w outer H s E e s'') rfl
    have hcl2 : clo = true → X.ex = [] ∧ CL = CLk k X.outer X.s_0 X.H_0 := fun z => by subst hX; exact ⟨rfl, (hc2 z).1⟩
    have e6 : X.env.scope = scope := by rw [← hX]; rfl
    have e7 : X.N = N := by rw [← hX]; rfl
    have fn : ∀ x, X.fn x = true := fun x => by rw [← hX]; rfl
    have kd : X.env.scope.kind = .function := by rw [e6]; exact Sc.kind
    have chk2 : mSs (Dt.mode true clo cal) false true F.io N noML noMS scope F.body body = true := by
      cases clo with
      | false => exact chkH hh
      | true => exact chkHC hh (hc2 rfl).2
    have main : PSs X body (tSs { Γ with call := callAt Γ tab k } (CnM T K CL (some p)) NT (fun cls d _ H => E cls d H) F.io F.body) :=
      sSs (ml := noML) (ms := noMS) F.body (L.sall (cb := false) S hmX rfl hc1 hcl2 tk (fun z => by cases z) pw fn kd) (fun a e z => by cases z) (fun u s z => by cases z) (by rw [e6, e7]; exact chk2)
    exact ⟨_, by rw [← hX] at main; exact main, fin⟩
/-- every def, at every level -/
theorem fnAll (hsys : ∃ o, base.get? sysModules = some o) (wd : Wd K mg T Dt Γ) (wx : WdX K T Γ) (cl : CLRules P w K mg base T NT Γ tab CLk) (D : ∀ f F, tab f = some F → DefOk K Dt cal Γ.flds noML f (T.fa f) F) : ∀ k, FnAll P w K mg base T NT cal (CLk k) { Γ with call := callAt Γ tab k } tab (2 * k + 3) := fun k => by
  induction k with
  | zero => exact Lv.step ⟨hsys, wd, wx, cl, fun j e => by cases e⟩ D
  | succ k ih => exact Lv.step ⟨hsys, wd, wx, cl, fun j e => by cases e; exact ih⟩ D
end
end Mi

set_option maxHeartbeats 2000000
/-! Mi28: the end: law(script) from the promise of its def (turned from the end of the hand layer, for promises where no guard is held). -/
namespace Mi
open PySem PySem.Spec PyProof.Rows L2
/-- law(script), from its promise; cs: code objects with their tables -/
theorem law_callM {P : Program} {w : World} {K : PySem.W.Frag} {mg mb : Str → Option Value} {k : Nat} {fa a : Addr} {cs : List (Addr × Addr)} {sp : Ent → Sp} {s₁ : Shared} {vs : List Value} {ns : List Int}
    (KX : K.In s₁.heap) (hns : s₁.heap.Ns mainGlobals mg) (hb : s₁.heap.Ns builtinsNs mb) (hbb : ∀ x : Str, x ≠ "__name__" → mb x = bootBuiltins x) (hlim : s₁.heap.NoLimit) (hg : s₁.gens = #[])
    (hT : ∀ p ∈ cs, s₁.heap.get? p.2 = some { cls := .none, data := .fields #[] }) (nT : ∀ p ∈ cs, K.lookup p.2 = none) (C : ∀ p ∈ cs, PySem.W.CodeHd s₁.heap p.1 p.2)
    (hbm : ∃ (bm : Addr) (ob : Obj), mg "__builtins__" = some (.ref bm) ∧ bm ≠ builtinsNs ∧ s₁.heap.get? bm = some ob ∧ ob.cls = .type "module" ∧ ob.dict = some builtinsNs ∧ ob.data = .plain)
    (ha : s₁.heap.get? a = some { cls := .type "list", data := .seq vs.toArray }) (hi : IntsAre vs ns) (hl : ns.length ≤ sizeLine) (hr : Room k callerA)
    (F : ∀ base : Heap, K.In base → base.Ns mainGlobals mg → (∀ p ∈ cs, LamX.TabB base mg p.1 p.2) → ∃ fd ps, FnM P w K mg base (L2N.CX P w) k fa fd ps sp ∧ L2.Binds K fd ps [] ∧ ps.length = 1)
    (hsp : ∀ H : Hp, (∀ p ∈ cs, H p.2 = some (.tbl #[])) → SqL K H a (ns.map V.int) → sp ⟨[], s₁, none⟩ [.ref a] H (fun v _ => v = .bl true) fun _ _ _ => False) :
    codeAny (model P w) callerA (.call (.ref fa) ⟨[.ref a], []⟩) (fun r s' => r = .ok (.ret (.bool true)) ∧ OldK s₁.heap s'.heap ∧ s'.os = s₁.os ∧ AllBare s'.gens) s₁ := by
  have rv := vals_ints hi
  have lenV := hi.length
  have isT : ∀ b : Addr, b ∈ cs.map (·.2) → s₁.heap.get? b = some { cls := .none, data := .fields #[] } := fun b hb => by
    obtain ⟨p, hp, e⟩ := List.mem_map.mp hb
    rw [← e]
    exact hT p hp
  have aT : a ∉ cs.map (·.2) := fun z => by
    have q := isT a z
    rw [ha] at q
    have z' : Data.seq vs.toArray _ = Data.fields #[] := congrArg Obj.data (Option.some.inj q)
    cases z'
  have memT : ∀ p ∈ cs, p.2 ∈ cs.map (·.2) := fun p hp => List.mem_map.mpr ⟨p, hp, rfl⟩
  -- from an abstract heap in which nothing but the script and the tables may be tracked
  have core : ∀ H : Hp, (∀ p ∈ cs, H p.2 = some (.tbl #[])) → (∀ b, H b = none ∨ b ∈ cs.map (·.2) ∨ ∃ o xs, H b = some (.frz o (.lst xs))) → SqL K H a (ns.map V.int) → HOk P w H s₁.heap → (∀ b, H b ≠ none → b = a ∨ b ∈ cs.map (·.2)) → (H a ≠ none → K.lookup a = none) →
      codeAny (model P w) callerA (.call (.ref fa) ⟨[.ref a], []⟩) (fun r s' => r = .ok (.ret (.bool true)) ∧ OldK s₁.heap s'.heap ∧ s'.os = s₁.os ∧ AllBare s'.gens) s₁ := by
    intro H hH hO hS hok hA hK
    have base_of : ∀ {b : Addr} {o : Obj}, s₁.heap.get? b = some o → H b = none → (hidT s₁.heap H).get? b = some o := fun e n => hidT_get e n
    have noD : ∀ {b : Addr} {o : Obj}, s₁.heap.get? b = some o → (∀ vs n, o.data ≠ .seq vs n) → o.data ≠ .fields #[] → H b = none := fun {b o} e h1 h2 => by
      cases q : H b with
      | none => rfl
      | some u =>
        rcases hA b (by rw [q]; simp) with e' | e'
        · rw [e', ha] at e
          cases e
          exact (h1 _ _ rfl).elim
        · rw [isT b e'] at e
          cases e
          exact (h2 rfl).elim
    have noA : ∀ {b : Addr} {o : Obj} {es : Array DictEntry} {ep : Nat}, s₁.heap.get? b = some o → o.data = .dict es ep → H b = none := fun {b o es ep} e d => by
      refine noD e (fun vs n z => ?_) fun z => ?_
      · rw [d] at z
        cases z
      · rw [d] at z
        cases z
    have nsK : ∀ {b : Addr} {m : Str → Option Value}, s₁.heap.Ns b m → (hidT s₁.heap H).Ns b m := fun {b m} ⟨o, es, ep, e, d, r⟩ => ⟨o, es, ep, base_of e (noA e d), d, r⟩
    have hKb : K.In (hidT s₁.heap H) := fun b o e => base_of (KX b o e) (by
      cases q : H b with
      | none => rfl
      | some u =>
        rcases hA b (by rw [q]; simp) with e' | e'
        · rw [e'] at e q
          rw [hK (by rw [q]; simp)] at e
          cases e
        · obtain ⟨p, hp, ep⟩ := List.mem_map.mp e'
          rw [← ep, nT p hp] at e
          cases e)
    have hM : L2.Mod K mg (hidT s₁.heap H) := ⟨hKb, nsK hns, ⟨mb, nsK hb, hbb⟩, let ⟨mc, h1, h2⟩ := hlim; ⟨mc, nsK h1, h2⟩⟩
    have TB : ∀ p ∈ cs, LamX.TabB (hidT s₁.heap H) mg p.1 p.2 := fun p hp => by
      have hTp := hT p hp
      refine ⟨?_, ?_, fun z => ?_⟩
      · obtain ⟨o, us, file, tf, flags, tg, inF, text, tt, e1, r1, r2, r3, r4, r5, r6, r7, r8, hne⟩ := C p hp
        refine ⟨o, us, file, tf, flags, tg, inF, text, tt, base_of e1 (noD e1 (fun vs n z => ?_) fun z => ?_), r1, r2, r3, r4, r5, r6, r7, r8, hne⟩
        · rw [r2] at z
          cases z
        · rw [r2] at z
          cases z
          simp at r3
      · obtain ⟨bm, ob, b1, b2, b3, b4, b5, b6⟩ := hbm
        have nG : bm ≠ mainGlobals := fun q => by
          obtain ⟨o, es, ep, e, hd, _⟩ := hns
          rw [q, e] at b3
          cases b3
          rw [hd] at b6
          cases b6
        have nP : bm ≠ p.2 := fun q => by
          rw [q, hTp] at b3
          cases b3
          cases b6
        refine ⟨bm, ob, b1, b2, nG, nP, base_of b3 (noD b3 (fun vs n z => ?_) fun z => ?_), b4, b5, b6⟩
        · rw [b6] at z
          cases z
        · rw [b6] at z
          cases z
      · obtain ⟨o, es, ep, e, hd, _⟩ := hns
        rw [z, hTp] at e
        cases e
        cases hd
    have e0 : Env0 P w K mg (hidT s₁.heap H) callerA [] s₁ H := ⟨rfl, hM, fun b o e => of_hidT e, Nat.le_of_eq (hidT_size _ _), trivial, fun b hb => absurd (show b ∈ ([] : List Addr) from hb) (by simp), hok, .of_eq hg⟩
    obtain ⟨fd, ps, F1, hbind, hps⟩ := F _ hKb (nsK hns) TB
    have bnd := hbind s₁ [.ref a] KX (by rw [hps]; rfl)
    rw [List.append_nil] at bnd
    refine codeAny_mono (F1.run ⟨[], s₁, none⟩ callerA H ⟨[.ref a], []⟩ [.ref a] [.ref a] _ _ (L2H.roomH_of hr) rfl hr.hd e0 bnd (.cons rfl .nil) (hsp H hH hS)) fun r s' h => ?_
    cases r with
    | error e =>
      obtain ⟨_, _, _, _, _, _, _, _, _, _, _, _, z⟩ := h
      exact z.elim
    | ok fl =>
      cases fl with
      | next => exact False.elim h
      | brk => exact False.elim h
      | cont => exact False.elim h
      | ret u =>
        obtain ⟨v, H', os, bare, un, hok', r', q⟩ := h
        have q' : v = .bl true := q
        subst q'
        obtain rfl : u = Value.bool true := r'
        have key : ∀ b o, b ∉ cs.map (·.2) → s₁.heap.get? b = some o → s'.heap.get? b = some o := fun b o nb e => by
          cases q : H b with
          | none => exact un.keep b o e q (by intro z; exact absurd (show b ∈ ([] : List Addr) from z) (by simp)) (by simp)
          | some u =>
            rcases hO b with z | z | ⟨ob, xs, z⟩
            · rw [q] at z; cases z
            · exact absurd z nb
            · have z2 := un.frzs b ob _ z
              obtain ⟨e1, _⟩ := hok b _ z
              obtain ⟨e2, _⟩ := hok' b _ z2
              rw [e] at e1; cases e1
              exact e2
        have grown : ∀ p ∈ cs, ∃ more : Array Value, s'.heap.get? p.2 = some { cls := .none, data := .fields more } := fun p hp => by
          obtain ⟨more, z⟩ := un.tbls p.2 #[] (hH p hp)
          exact ⟨_, hok' p.2 _ z⟩
        refine ⟨rfl, ⟨fun b o e => ?_, fun b o e => ?_⟩, os, bare⟩
        · by_cases hb : b ∈ cs.map (·.2)
          · obtain ⟨p, hp, ep⟩ := List.mem_map.mp hb
            obtain ⟨more, hm⟩ := grown p hp
            rw [← ep] at e ⊢
            rw [hT p hp] at e
            cases e
            exact .inr (.inl ⟨((C p hp).tab (hT p hp)).isCodeTable, rfl, #[], more, rfl, by rw [Array.empty_append]; exact hm⟩)
          · exact .inl (key b o hb e)
        · by_cases hb : b ∈ cs.map (·.2)
          · obtain ⟨p, hp, ep⟩ := List.mem_map.mp hb
            obtain ⟨more, hm⟩ := grown p hp
            rw [← ep]
            exact ⟨_, hm⟩
          · exact ⟨o, key b o hb e⟩
  cases hk : K.lookup a with
  | some o =>
    have e := KX a o hk
    rw [ha] at e
    cases e
    refine core (fun b => if b ∈ cs.map (·.2) then some (.tbl #[]) else none) (fun p hp => if_pos (memT p hp)) (fun b => ?_) (.inr ⟨_, vs.toArray, _, hk, rfl, rfl, rfl, by rw [List.size_toArray, lenV]; exact hl, by simpa using rv⟩) (fun b u z => ?_) (fun b z => ?_) fun z => absurd (show (if a ∈ cs.map (·.2) then some (HO.tbl #[]) else none) = none from if_neg aT) z
    · by_cases hb : b ∈ cs.map (·.2)
      · exact .inr (.inl hb)
      · exact .inl (if_neg hb)
    · by_cases hb : b ∈ cs.map (·.2)
      · have z' := (if_pos hb).symm.trans z
        cases z'
        exact isT b hb
      · have z' := (if_neg hb).symm.trans z
        cases z'
    · by_cases hb : b ∈ cs.map (·.2)
      · exact .inr hb
      · exact absurd (if_neg hb) z
  | none =>
    refine core (fun b => if b = a then some (.frz { cls := .type "list", data := .seq vs.toArray } (.lst (ns.map V.int))) else if b ∈ cs.map (·.2) then some (.tbl #[]) else none) (fun p hp => (if_neg (show ¬ p.2 = a from fun z => aT (by rw [← z]; exact memT p hp))).trans (if_pos (memT p hp))) (fun b => ?_)
      (.inl (.inr ⟨{ cls := .type "list", data := .seq vs.toArray }, if_pos rfl⟩)) (fun b u z => ?_) (fun b z => ?_) fun _ => hk
    · by_cases hb : b = a
      · exact .inr (.inr ⟨_, _, if_pos hb⟩)
      · by_cases hb2 : b ∈ cs.map (·.2)
        · exact .inr (.inl hb2)
        · exact .inl ((if_neg hb).trans (if_neg hb2))
    · by_cases hb : b = a
      · have z' := (if_pos hb).symm.trans z
        cases z'
        rw [hb]
        exact ⟨ha, by rw [List.length_map]; exact hl, vs, _, rv, ha⟩
      · have z1 := (if_neg hb).symm.trans z
        by_cases hb2 : b ∈ cs.map (·.2)
        · have z' := (if_pos hb2).symm.trans z1
          cases z'
          exact isT b hb2
        · have z' := (if_neg hb2).symm.trans z1
          cases z'
    · by_cases hb : b = a
      · exact .inl hb
      · by_cases hb2 : b ∈ cs.map (·.2)
        · exact .inr hb2
        · exact absurd ((if_neg hb).trans (if_neg hb2)) z

/-- what is known of the law's def at the head's heap -/
def LawAtM (l : PySem.W.OpenLaw) (w : World) (K : PySem.W.Frag) (k n : Nat) (mg : Str → Option Value) (fa : Addr) (h : Heap) : Prop :=
  ∃ (cs : List (Addr × Addr)) (sp : Ent → Sp), (∀ p ∈ cs, h.get? p.2 = some { cls := .none, data := .fields #[] }) ∧ (∀ p ∈ cs, K.lookup p.2 = none) ∧ (∀ p ∈ cs, PySem.W.CodeHd h p.1 p.2) ∧
    (∀ (e : Ent) (H : Hp) (a : Addr) (ns : List Int), e.hot = none → ns.length ≤ n → (∀ z ∈ ns, Builtin.Int.intBits z ≤ 1048576) → (∀ p ∈ cs, H p.2 = some (.tbl #[])) → SqL K H a (ns.map V.int) → sp e [.ref a] H (fun v _ => v = .bl true) fun _ _ _ => False) ∧
    ∀ base : Heap, K.In base → base.Ns mainGlobals mg → (∀ p ∈ cs, LamX.TabB base mg p.1 p.2) → ∃ fd ps, FnM l.prog w K mg base (L2N.CX l.prog w) k fa fd ps sp ∧ L2.Binds K fd ps [] ∧ ps.length = 1
theorem walk_ofM {l : PySem.W.OpenLaw} {n k : Nat} {q : Program} {loose : List Str} {XP : (Str → Option Value) → Heap → Prop} {YP : World → Heap → Prop} {d : DefRec}
    (hn : l.most = some n) (hn2 : n ≤ sizeLine) (hdf : d.params.defaults = []) (hr : Room k callerA)
    (F : ∀ (w : World) (mg : Str → Option Value) (fa : Addr) (h : Heap), YP w h → h.Ns mainGlobals mg → mg d.name = some (.ref fa) → ∃ K : PySem.W.Frag, K.In h ∧ LawAtM l w K k n mg fa h) :
    PySem.W.WalkO q loose XP YP l.row.toRowW d [] (fun f vs => PySem.call f vs) := by
  refine Att.attach_callB hn hdf fun w s₀ s₁ mg mb fa o pm cd doc a vs ns G Y ho hd hcd hmg hobj hints hlen hbits hg => ?_
  obtain ⟨K, KX, cs, sp, hT, nT, C, hsp, hF⟩ := F w mg fa _ Y G.T.g hmg
  exact law_callM KX G.T.g G.T.b G.T.builtins G.T.nolimit hg hT nT C G.T.bmain hobj hints (Nat.le_trans hlen hn2) hr hF (fun H hH hS => hsp _ H a ns rfl hlen hbits hH hS)
end Mi

/-! Mi29: the facts of a law's module, by one Bool over the head's heap. -/
namespace Mi
open PySem PySem.Spec PyProof.Rows L2
theorem zip_lookup : ∀ {ps : List Str} {us : List Value} {n : Str}, us.length = ps.length → n ∈ ps → ((ps.zip us).lookup n).isSome = true
  | [], _, _, _, h => absurd h (by simp)
  | p :: ps, [], _, hl, _ => by cases hl
  | p :: ps, u :: us, n, hl, h => by
    rw [List.zip_cons_cons, List.lookup_cons]
    cases e : n == p with
    | true => rfl
    | false =>
      rcases List.mem_cons.mp h with z | z
      · rw [z, beq_self_eq_true] at e; cases e
      · exact zip_lookup (by simpa using hl) z
theorem zip_find : ∀ {ps : List Str} {us : List Value} (l : List (Str × Value)), ps.Nodup → us.length = ps.length → (∀ x ∈ ps, l.lookup x = (ps.zip us).lookup x) → ps.filterMap (fun n => (l.lookup n).map (n, ·)) = ps.zip us
  | [], _, _, _, _, _ => rfl
  | p :: ps, [], _, _, hl, _ => by cases hl
  | p :: ps, u :: us, l, hn, hl, h => by
    have e0 : l.lookup p = some u := by rw [h p List.mem_cons_self, List.zip_cons_cons, List.lookup_cons, beq_self_eq_true]
    rw [List.filterMap_cons, e0, List.zip_cons_cons]
    have hn2 := List.nodup_cons.mp hn
    show (p, u) :: _ = _
    rw [zip_find l hn2.2 (by simpa using hl) fun x hx => ?_]
    rw [h x (List.mem_cons_of_mem _ hx), List.zip_cons_cons, List.lookup_cons]
    have : (x == p) = false := by
      cases e : x == p with
      | false => rfl
      | true => rw [beq_iff_eq.mp e] at hx; exact absurd hx hn2.1
    rw [this]
theorem bind_simple {fd : FuncData} {ps : List Str} {us : List Value} (hnd : ps.Nodup) (hl : us.length = ps.length) (h1 : fd.params.posonlyargs = []) (h2 : fd.params.args.map (·.arg) = ps) (h3 : fd.params.vararg = none) (h4 : fd.params.kwonlyargs = []) (h5 : fd.params.kwarg = none) (h6 : fd.defaults = .none) :
    bindArgs fd ⟨us, []⟩ = pure (ps.zip us) := by
  have hz : (ps.filter fun n => ((ps.zip us).lookup n).isNone) = [] := List.filter_eq_nil_iff.mpr fun n hn => by
    have := zip_lookup hl hn
    cases e : (ps.zip us).lookup n with
    | none => rw [e] at this; cases this
    | some v => simp
  have hf := zip_find (ps.zip us) hnd hl fun x _ => rfl
  have hs : seqItems? fd.defaults = pure none := by rw [h6]; rfl
  unfold bindArgs
  simp only [h1, h2, h3, h4, h5, hs, hl, List.map_nil, List.nil_append, List.append_nil, Option.isNone_none, Nat.lt_irrefl, gt_iff_lt, pure_bind, List.forIn_nil]
  simp [hz, hf]
/-- a def of the text -/
structure FD where
  id : Nat
  at_ : Str × Option Str
  name : Str
  qual : Str
  params : Arguments
  body : List Stmt
  scope : Scope
  F : Fn
  N : List Str
  ps : List Str
  cb : Bool
def FD.he (d : FD) : He.FnD := ⟨d.at_, d.name, d.qual, d.params, d.body, d.scope⟩
/-- an exception class with an own __init__: its number, name, fields, __init__ -/
structure XD where
  id : Nat
  cls : Str
  fl : List Str
  params : Arguments
  body : List Stmt
  scope : Scope
  N : List Str
  ps : List Str
def XD.he (d : XD) (qual : Str) : He.FnD := ⟨(d.cls, some "__init__"), "__init__", qual, d.params, d.body, d.scope⟩
/-- a law's text -/
structure LawD where
  law : FD
  rest : List FD
  ins : List (Nat × Str)
  xs0 : List (Nat × Str)
  xs1 : List XD
  xqual : Nat → Str        -- the qualified names of the __init__s
  dat : Dat
  cal : Cal
def LawD.fns (L : LawD) : List FD := L.law :: L.rest
def LawD.dOf (L : LawD) (f : Nat) : Option FD := L.fns.find? fun d => d.id == f
def LawD.exs (L : LawD) : List (Nat × Str) := L.xs0 ++ L.xs1.map fun d => (d.id, d.cls)
def LawD.obs1 (L : LawD) : List He.FnD := L.fns.map FD.he ++ L.xs1.map fun d => d.he (L.xqual d.id)
def nameOf (l : List (Nat × Str)) (c : Nat) : Option Str := (l.find? fun p => p.1 == c).map (·.2)
/-- where the defs and classes stand -/
def LawD.T (L : LawD) (K : PySem.W.Frag) : Tb where
  fa := fun f => He.fAd K ((L.dOf f).getD L.law).at_
  ca := fun c => match nameOf (L.ins ++ L.exs) c with
    | some x => He.ga K x
    | none => 0
  ic := fun c => (nameOf L.ins c).isSome = true
  ec := fun c => (nameOf L.ins c).isSome = false ∧ (nameOf L.exs c).isSome = true
/-- a constant of the module -/
def conB : PV → Value → Bool
  | .non, .none => true
  | .bl b, .bool c => b == c
  | .int i, .int j _ => decide (i = j)
  | .str x, .str y _ => decide (x = y)
  | _, _ => false
theorem conB_ok {x : PV} {u : Value} (h : conB x u = true) : ∃ v, RelV v u ∧ ∀ C B H, Rep C B H x v := by
  unfold conB at h
  split at h
  · exact ⟨.non, rfl, fun _ _ _ => rfl⟩
  · rename_i b c
    rw [beq_iff_eq] at h
    subst h
    exact ⟨.bl b, rfl, fun _ _ _ => rfl⟩
  · rename_i i j t
    have h := of_decide_eq_true h
    subst h
    exact ⟨.int i, ⟨t, rfl⟩, fun _ _ _ => rfl⟩
  · rename_i i j t
    have h := of_decide_eq_true h
    subst h
    exact ⟨.str i, ⟨t, rfl⟩, fun _ _ _ => rfl⟩
  · cases h
def isV (o : Option (Option Value)) (v : Value) : Bool := decide (o = some (some v))
def isN (o : Option (Option Value)) : Bool := decide (o = some none)
def okFn (K : PySem.W.Frag) (d : FD) : Bool := PySem.W.keepIn K (.ref (He.fAd K d.at_)) && (He.Fa.code d.at_ d.qual).ok K
def okIns (K : PySem.W.Frag) (L : LawD) (Γ : G) (p : Nat × Str) : Bool :=
  (He.Fa.cls p.2).ok K && isV (PySem.W.findIn K (.ref (He.ga K p.2)) "__class__") (.builtin "object.__class__") && decide (PySem.W.mroIn K (He.ga K p.2) (.type "object") = some true) && (L.dat.atts.all fun f => isN (PySem.W.findIn K (.ref (He.ga K p.2)) f)) &&
    (He.Fa.mkr p.2).ok K && decide (He.ma K (He.ga K p.2) "__init__" = (L.T K).fa (Γ.init p.1)) && (PySem.W.keepIn K (.ref (He.ga K p.2)))
def okEx (K : PySem.W.Frag) (L : LawD) (p : Nat × Str) : Bool :=
  isV (PySem.W.findIn K (.ref (He.ga K p.2)) "__getattribute__") (.builtin "BaseException.__getattribute__") && isN (PySem.W.findIn K (.ref (He.ga K p.2)) "__getattr__") && decide (PySem.W.subIn K (.ref (He.ga K p.2)) (.type "BaseException") = some true) &&
    PySem.W.hasDictIn K (He.ga K p.2) && isV (PySem.W.findIn K (.ref (He.ga K p.2)) "__class__") (.builtin "object.__class__") && decide (PySem.W.mroIn K (He.ga K p.2) (.type "object") = some true) && (L.dat.atts.all fun f => isN (PySem.W.findIn K (.ref (He.ga K p.2)) f))
def okX (K : PySem.W.Frag) (C : Addr) : Bool := PySem.W.keepIn K (.ref C) && decide (PySem.W.subIn K (.ref C) (.type "BaseException") = some true) && decide (PySem.W.typeIn K (.ref C) = some (.type "type"))
def okX0 (K : PySem.W.Frag) (C : Addr) : Bool := okX K C && PySem.W.excIn K C He.veBase "ValueError.__new__"
def oexB (K : PySem.W.Frag) (C : Addr) : Bool := match K.lookup C with
  | some ⟨.type t, _, .cls cd, sl⟩ => (match cd.mro, sl.toList with
    | .ref C' :: bm, [_, _, _, _, some (.builtin n), _] => t == "type" && C' == C && n == "ValueError.__new__" && !cd.hasDel && cd.hasDict && PySem.HandSPX.refsVE bm
    | _, _ => false)
  | _ => false
theorem oexB_ok {K : PySem.W.Frag} {C : Addr} (q : oexB K C = true) : ∃ nm q N bs bm sn sub ab col dd k0 k1 k2 k3 k5, K.lookup C = some (excClassObj nm q C N bs bm true sn sub ab col dd k0 k1 k2 k3 k5 "ValueError.__new__") ∧ PySem.HandSPX.refsVE bm = true := by
  unfold oexB at q
  split at q
  · rename_i t dd cd sl ho
    split at q
    · rename_i C' bm k0 k1 k2 k3 n k5 hm hs
      simp only [Bool.and_eq_true, beq_iff_eq, Bool.not_eq_true'] at q
      obtain ⟨⟨⟨⟨⟨rfl, rfl⟩, rfl⟩, hdel⟩, hdict⟩, hr⟩ := q
      obtain ⟨nm, bs, mro, ns, qn, hd, sn, sub, ab, col, del⟩ := cd
      dsimp only at hm hdel hdict
      subst hm hdel hdict
      have hsl : sl = #[k0, k1, k2, k3, some (.builtin "ValueError.__new__"), k5] := by
        obtain ⟨l⟩ := sl
        simp only at hs
        rw [hs]
      subst hsl
      exact ⟨nm, qn, ns, bs, bm, sn, sub, ab, col, dd, k0, k1, k2, k3, k5, ho, hr⟩
    · cases q
  · cases q
def okX1 (K : PySem.W.Frag) (L : LawD) (d : XD) : Bool :=
  okX K (He.ga K d.cls) && oexB K (He.ga K d.cls) && isV (PySem.W.findIn K (.ref (He.ga K d.cls)) "__setattr__") (.builtin "object.__setattr__") && (d.fl.all fun f => isN (PySem.W.findIn K (.ref (He.ga K d.cls)) f)) &&
    isV (PySem.W.findIn K (.ref (He.ga K d.cls)) "__init__") (.ref (He.fAd K (d.cls, some "__init__"))) && decide (PySem.W.typeIn K (.ref (He.fAd K (d.cls, some "__init__"))) = some (.type "function")) && (He.Fa.code (d.cls, some "__init__") (L.xqual d.id)).ok K
def okGl (K : PySem.W.Frag) (L : LawD) (Γ : G) (p : Str × Gn) : Bool := match p.2 with
  | .fn f => isV (PySem.W.nsIn K mainGlobals p.1) (.ref ((L.T K).fa f))
  | .cls c => isV (PySem.W.nsIn K mainGlobals p.1) (.ref ((L.T K).ca c)) && (nameOf L.ins c).isSome
  | .xc c => isV (PySem.W.nsIn K mainGlobals p.1) (.ref ((L.T K).ca c)) && (!(nameOf L.ins c).isSome && (nameOf L.exs c).isSome)
  | .con n => match PySem.W.nsIn K mainGlobals p.1 with
    | some (some u) => conB (Γ.con n) u
    | _ => false
  | .imp k => isV (PySem.W.nsIn K mainGlobals p.1) (biV k)
def LawD.kds (L : LawD) : List Kd := [.non, .bool, .int, .str, .tuple, .list, .dict] ++ L.ins.map (fun p => .ins p.1) ++ L.exs.map fun p => .exc p.1
/-- all facts -/
def LawD.ok (L : LawD) (Γ : G) (K : PySem.W.Frag) : Bool :=
  (K.lookup sysModules).isSome && L.fns.all (okFn K) && L.ins.all (okIns K L Γ) && L.exs.all (okEx K L) && (L.xs0.all fun p => okX0 K (He.ga K p.2)) && L.xs1.all (okX1 K L) &&
    (L.exs.all fun p => L.exs.all fun q => decide (PySem.W.exmOne K (.ref (He.ga K p.2)) (.ref (He.ga K q.2)) = some (Γ.sub p.1 q.1))) && L.dat.globs.all (okGl K L Γ) && (L.dat.blts.all fun x => isN (PySem.W.nsIn K mainGlobals x)) &&
    isV (PySem.W.specialIn K (.builtin "object.__class__") "__get__") (.builtin "getset_descriptor.__get__") && decide (PySem.W.takesIn K (.builtin "object.__class__") = some true) &&
    (L.kds.all fun k => L.dat.tys.all fun t => decide (PySem.W.kitOne K (kdV (L.T K) k) (tyVal (L.T K) t) = some (k.isa Γ.sub t)))
/-- what is asked of the text alone -/
def scB (N P : List Str) (sc : Scope) : Bool := (match sc.kind with | .function => true | _ => false) && !sc.isCoroutine && !sc.isGenerator && decide N.Nodup && decide (N.take P.length = P) && (P.all fun x => (match sc.names.lookup x with | some .local => true | some .cell => true | _ => false)) &&
  sc.names.all fun y => (match y.2 with | .free => false | _ => true)
theorem scB_ok {N P : List Str} {sc : Scope} (h : scB N P sc = true) : FnScope N P sc := by
  unfold scB at h
  obtain ⟨h, h7⟩ := and2 h
  obtain ⟨h, h6⟩ := and2 h
  obtain ⟨h, h5⟩ := and2 h
  obtain ⟨h, h4⟩ := and2 h
  obtain ⟨h, h3⟩ := and2 h
  obtain ⟨h1, h2⟩ := and2 h
  refine ⟨?_, notT h2, notT h3, of_decide_eq_true h4, of_decide_eq_true h5, fun x hx => ?_, fun y hy => ?_⟩
  · split at h1
    · assumption
    · cases h1
  · have := List.all_eq_true.mp h6 x hx
    split at this
    · exact .inl (by assumption)
    · exact .inr (by assumption)
    · cases this
  · have := List.all_eq_true.mp h7 y hy
    intro e
    rw [e] at this
    cases this
def bndB (a : Arguments) (ps : List Str) : Bool := a.posonlyargs.isEmpty && decide (a.args.map (·.arg) = ps) && a.vararg.isNone && a.kwonlyargs.isEmpty && a.kwarg.isNone
def FD.chk (d : FD) (D : Dat) (cal : Cal) (fl : Nat → List Str) : Bool :=
  scB d.N d.ps d.scope && bndB d.params d.ps && decide (d.ps.Nodup) && decide (d.N.length = d.F.ns) && decide (d.ps.length = d.F.np) && decide (d.F.np ≤ d.F.ns) &&
    mSs (D.mode false false cal) d.cb true d.F.io d.N noML (mT (D.mode false false cal) fl d.cb true d.F.io d.N noML d.scope) d.scope d.F.body d.body &&
    (!(cal.nocs d.id) || mSs (D.mode false true cal) false true d.F.io d.N noML (mT (D.mode false true cal) fl false true d.F.io d.N noML d.scope) d.scope d.F.body d.body) &&
    (!(cal.hots d.id) || mSs (D.mode true false cal) false true d.F.io d.N noML noMS d.scope d.F.body d.body) &&
    (!(cal.hots d.id) || (!(cal.nocs d.id) || mSs (D.mode true true cal) false true d.F.io d.N noML noMS d.scope d.F.body d.body))
def XD.chk (d : XD) : Bool := scB d.N d.ps d.scope && bndB d.params d.ps && decide (d.ps.Nodup) && decide (d.ps.length = d.fl.length + 1) && decide (d.fl.length ≤ 900) && !d.fl.isEmpty && mInit d.N d.scope 1 d.fl d.body
def LawD.chk (L : LawD) (Γ : G) : Bool := (L.fns.all fun d => d.chk L.dat L.cal Γ.flds) && L.xs1.all XD.chk && (L.xs1.all fun d => decide (Γ.flds d.id = d.fl)) && (L.xs0.all fun p => decide (Γ.flds p.1 = []))
section
variable {L : LawD} {Γ : G} {K : PySem.W.Frag} {h : Heap} {mg : Str → Option Value}
theorem isV_ok {o : Option (Option Value)} {v : Value} (h : isV o v = true) : o = some (some v) := of_decide_eq_true h
theorem isN_ok {o : Option (Option Value)} (h : isN o = true) : o = some none := of_decide_eq_true h
theorem nameOf_mem {l : List (Nat × Str)} {c : Nat} {x : Str} (h : nameOf l c = some x) : (c, x) ∈ l := by
  unfold nameOf at h
  rw [Option.map_eq_some_iff] at h
  obtain ⟨p, e, rfl⟩ := h
  have := List.find?_some e
  rw [beq_iff_eq] at this
  rw [← this]
  exact List.mem_of_find?_eq_some e
theorem nameOf_app {l r : List (Nat × Str)} {c : Nat} : nameOf (l ++ r) c = if (nameOf l c).isSome then nameOf l c else nameOf r c := by
  unfold nameOf
  rw [List.find?_append]
  cases l.find? (fun p => p.1 == c) <;> rfl
theorem T_ins {c : Nat} (hc : (L.T K).ic c) : ∃ x, (c, x) ∈ L.ins ∧ (L.T K).ca c = He.ga K x := by
  have hc : (nameOf L.ins c).isSome = true := hc
  obtain ⟨x, e⟩ := Option.isSome_iff_exists.mp hc
  refine ⟨x, nameOf_mem e, ?_⟩
  show (match nameOf (L.ins ++ L.exs) c with | some x => He.ga K x | none => 0) = _
  rw [nameOf_app, hc, if_pos rfl, e]
theorem T_exs {c : Nat} (hc : (L.T K).ec c) : ∃ x, (c, x) ∈ L.exs ∧ nameOf L.exs c = some x ∧ (L.T K).ca c = He.ga K x := by
  obtain ⟨h1, h2⟩ := (show (nameOf L.ins c).isSome = false ∧ (nameOf L.exs c).isSome = true from hc)
  obtain ⟨x, e⟩ := Option.isSome_iff_exists.mp h2
  refine ⟨x, nameOf_mem e, e, ?_⟩
  show (match nameOf (L.ins ++ L.exs) c with | some x => He.ga K x | none => 0) = _
  rw [nameOf_app, h1, if_neg Bool.false_ne_true, e]
theorem dOf_mem {f : Nat} {d : FD} (h : L.dOf f = some d) : d ∈ L.fns ∧ d.id = f := by
  have := List.find?_some h
  rw [beq_iff_eq] at this
  exact ⟨List.mem_of_find?_eq_some h, this⟩
theorem fa_mem (f : Nat) : ∃ d ∈ L.fns, (L.T K).fa f = He.fAd K d.at_ := by
  show ∃ d ∈ L.fns, He.fAd K ((L.dOf f).getD L.law).at_ = He.fAd K d.at_
  cases e : L.dOf f with
  | none => exact ⟨L.law, List.mem_cons_self, rfl⟩
  | some d => exact ⟨d, (dOf_mem e).1, rfl⟩
structure OkAll (L : LawD) (Γ : G) (K : PySem.W.Frag) : Prop where
  sys : (K.lookup sysModules).isSome = true
  fns : ∀ d ∈ L.fns, okFn K d = true
  ins : ∀ p ∈ L.ins, okIns K L Γ p = true
  exs : ∀ p ∈ L.exs, okEx K L p = true
  xs0 : ∀ p ∈ L.xs0, okX0 K (He.ga K p.2) = true
  xs1 : ∀ d ∈ L.xs1, okX1 K L d = true
  exm : ∀ p ∈ L.exs, ∀ q ∈ L.exs, PySem.W.exmOne K (.ref (He.ga K p.2)) (.ref (He.ga K q.2)) = some (Γ.sub p.1 q.1)
  gl : ∀ p ∈ L.dat.globs, okGl K L Γ p = true
  bl : ∀ x ∈ L.dat.blts, PySem.W.nsIn K mainGlobals x = some none
  hn : PySem.W.specialIn K (.builtin "object.__class__") "__get__" = some (some (.builtin "getset_descriptor.__get__"))
  ht : PySem.W.takesIn K (.builtin "object.__class__") = some true
  kit : ∀ k ∈ L.kds, ∀ t ∈ L.dat.tys, PySem.W.kitOne K (kdV (L.T K) k) (tyVal (L.T K) t) = some (k.isa Γ.sub t)
theorem okAll (h : L.ok Γ K = true) : OkAll L Γ K := by
  unfold LawD.ok at h
  obtain ⟨h, h12⟩ := and2 h
  obtain ⟨h, h11⟩ := and2 h
  obtain ⟨h, h10⟩ := and2 h
  obtain ⟨h, h9⟩ := and2 h
  obtain ⟨h, h8⟩ := and2 h
  obtain ⟨h, h7⟩ := and2 h
  obtain ⟨h, h6⟩ := and2 h
  obtain ⟨h, h5⟩ := and2 h
  obtain ⟨h, h4⟩ := and2 h
  obtain ⟨h, h3⟩ := and2 h
  obtain ⟨h1, h2⟩ := and2 h
  exact ⟨h1, fun d m => List.all_eq_true.mp h2 d m, fun d m => List.all_eq_true.mp h3 d m, fun d m => List.all_eq_true.mp h4 d m, fun d m => List.all_eq_true.mp h5 d m, fun d m => List.all_eq_true.mp h6 d m,
    fun p m q n => of_decide_eq_true (List.all_eq_true.mp (List.all_eq_true.mp h7 p m) q n), fun d m => List.all_eq_true.mp h8 d m, fun d m => isN_ok (List.all_eq_true.mp h9 d m), isV_ok h10, of_decide_eq_true h11,
    fun k m t n => of_decide_eq_true (List.all_eq_true.mp (List.all_eq_true.mp h12 k m) t n)⟩
theorem wd_of (o : OkAll L Γ K) (X : K.In h) (G : h.Ns mainGlobals mg) : Wd K mg (L.T K) L.dat Γ where
  kf := by
    refine ⟨fun c hc => ?_, fun c hc => ?_, o.hn, o.ht, fun k hk t ht => o.kit k ?_ t ht⟩
    · obtain ⟨x, m, e⟩ := T_ins hc
      have q := o.ins _ m
      unfold okIns at q
      obtain ⟨q, _⟩ := and2 q
      obtain ⟨q, _⟩ := and2 q
      obtain ⟨q, _⟩ := and2 q
      obtain ⟨q, q4⟩ := and2 q
      obtain ⟨q, q3⟩ := and2 q
      obtain ⟨q1, q2⟩ := and2 q
      rw [e]
      exact ⟨⟨He.cls_ok q1, isV_ok q2, of_decide_eq_true q3⟩, fun f hf => isN_ok (List.all_eq_true.mp q4 f hf)⟩
    · obtain ⟨x, m, _, e⟩ := T_exs hc
      have q := o.exs _ m
      unfold okEx at q
      obtain ⟨q, q7⟩ := and2 q
      obtain ⟨q, q6⟩ := and2 q
      obtain ⟨q, q5⟩ := and2 q
      obtain ⟨q, q4⟩ := and2 q
      obtain ⟨q, q3⟩ := and2 q
      obtain ⟨q1, q2⟩ := and2 q
      rw [e]
      exact ⟨⟨isV_ok q1, isN_ok q2, of_decide_eq_true q3, q4, isV_ok q5, of_decide_eq_true q6⟩, fun f hf => isN_ok (List.all_eq_true.mp q7 f hf)⟩
    · unfold LawD.kds
      cases k with
      | ins c =>
        obtain ⟨x, m, _⟩ := T_ins (show (L.T K).ic c from hk)
        exact List.mem_append_left _ (List.mem_append_right _ (List.mem_map.mpr ⟨_, m, rfl⟩))
      | exc c =>
        obtain ⟨x, m, _⟩ := T_exs (show (L.T K).ec c from hk)
        exact List.mem_append_right _ (List.mem_map.mpr ⟨_, m, rfl⟩)
      | _ => exact List.mem_append_left _ (List.mem_append_left _ (by simp))
  gl := fun Z hm C eT eK x g hl => by
    have m : (x, g) ∈ L.dat.globs := PySem.mem_of_lookup hl
    have q := o.gl _ m
    unfold okGl at q
    cases g with
    | fn f => show Z.mg x = some (.ref (C.T.fa f)); rw [hm, eT]; exact PySem.W.mg_of X G (isV_ok q)
    | cls c =>
      obtain ⟨q1, q2⟩ := and2 q
      refine ⟨?_, by rw [eT]; exact q2⟩
      rw [hm, eT]; exact PySem.W.mg_of X G (isV_ok q1)
    | xc c =>
      obtain ⟨q1, q2⟩ := and2 q
      obtain ⟨q2, q3⟩ := and2 q2
      refine ⟨?_, by rw [eT]; exact ⟨notT q2, q3⟩⟩
      rw [hm, eT]; exact PySem.W.mg_of X G (isV_ok q1)
    | con n =>
      dsimp only at q
      split at q
      · rename_i u e
        obtain ⟨v, r, hr⟩ := conB_ok q
        exact ⟨u, v, by rw [hm]; exact PySem.W.mg_of X G e, r, fun B H => hr C B H⟩
      · cases q
    | imp k => show Z.mg x = some (biV k); rw [hm]; exact PySem.W.mg_of X G (isV_ok q)
  fr := fun x hx => PySem.W.mg_none_of X G (o.bl x hx)
  kpf := fun f => by
    obtain ⟨d, m, e⟩ := fa_mem (L := L) (K := K) f
    rw [e]
    exact (and2 (o.fns d m)).1
  kpc := fun c hc => by
    obtain ⟨x, m, e⟩ := T_ins hc
    rw [e]
    exact (and2 (o.ins _ m)).2
  mkf := fun c hc => by
    obtain ⟨x, m, e⟩ := T_ins hc
    have q := o.ins _ m
    unfold okIns at q
    obtain ⟨q, _⟩ := and2 q
    obtain ⟨q, q6⟩ := and2 q
    obtain ⟨q, q5⟩ := and2 q
    rw [e, ← of_decide_eq_true q6]
    exact He.mkr_ok q5
end
end Mi

/-! Mi30: from the facts to the law. -/
namespace Mi
open PySem PySem.Spec PyProof.Rows L2

section
variable {L : LawD} {Γ : G} {K : PySem.W.Frag} {h : Heap} {mg : Str → Option Value}
/-- what is seen of the heap's part -/
def LawD.obs (L : LawD) (Γ : G) (K : PySem.W.Frag) : Bool × List He.FnV := (L.ok Γ K, L.obs1.map fun d => He.fnObs K d.at_)
def LawD.val (L : LawD) : Bool × List He.FnV := (true, L.obs1.map He.FnD.val)
theorem obs_fn (e : L.obs Γ K = L.val) {d : He.FnD} (m : d ∈ L.obs1) : He.fnObs K d.at_ = d.val := by
  have e : (L.obs1.map fun d => He.fnObs K d.at_) = L.obs1.map He.FnD.val := congrArg (fun z : Bool × List He.FnV => z.2) e
  obtain ⟨i, hi, ei⟩ := List.getElem_of_mem m
  have e2 : (L.obs1.map fun d => He.fnObs K d.at_)[i]? = (L.obs1.map He.FnD.val)[i]? := by rw [e]
  rw [List.getElem?_map, List.getElem?_map, List.getElem?_eq_getElem hi, ei] at e2
  exact Option.some.inj e2
theorem chk_parts (c : L.chk Γ = true) : (∀ d ∈ L.fns, d.chk L.dat L.cal Γ.flds = true) ∧ (∀ d ∈ L.xs1, d.chk = true) ∧ (∀ d ∈ L.xs1, Γ.flds d.id = d.fl) ∧ ∀ p ∈ L.xs0, Γ.flds p.1 = [] := by
  unfold LawD.chk at c
  obtain ⟨c, c4⟩ := and2 c
  obtain ⟨c, c3⟩ := and2 c
  obtain ⟨c1, c2⟩ := and2 c
  exact ⟨fun d m => List.all_eq_true.mp c1 d m, fun d m => List.all_eq_true.mp c2 d m, fun d m => of_decide_eq_true (List.all_eq_true.mp c3 d m), fun d m => of_decide_eq_true (List.all_eq_true.mp c4 d m)⟩
theorem binds_of {name qual : Str} {params : Arguments} {body : List Stmt} {scope : Scope} {kV doc pm cdv ct : Value} {an : Option Addr} {ps : List Str} (hb : bndB params ps = true) (hn : ps.Nodup) : Binds K (PySem.W.fnOf name qual params body scope .none kV doc pm an cdv ct) ps [] := by
  unfold bndB at hb
  obtain ⟨hb, b5⟩ := and2 hb
  obtain ⟨hb, b4⟩ := and2 hb
  obtain ⟨hb, b3⟩ := and2 hb
  obtain ⟨b1, b2⟩ := and2 hb
  exact .all fun us hl => bind_simple hn hl (List.isEmpty_iff.mp b1) (of_decide_eq_true b2) (Option.isNone_iff_eq_none.mp b3) (List.isEmpty_iff.mp b4) (Option.isNone_iff_eq_none.mp b5) rfl
theorem wdx_of (o : OkAll L Γ K) (e : L.obs Γ K = L.val) (c : L.chk Γ = true) : WdX K (L.T K) Γ where
  fact := fun k hk => by
    obtain ⟨x, m, nm, ec⟩ := T_exs hk
    obtain ⟨_, c2, c3, c4⟩ := chk_parts c
    rw [ec]
    rcases List.mem_append.mp m with m | m
    · left
      have q := o.xs0 _ m
      unfold okX0 okX at q
      obtain ⟨q, q4⟩ := and2 q
      obtain ⟨q, q3⟩ := and2 q
      obtain ⟨q1, q2⟩ := and2 q
      exact ⟨c4 _ m, ⟨⟨"ValueError", "ValueError.__new__", "ValueError.__init__", He.veBase, PySem.F.excBase_ValueError, q4⟩, q1, of_decide_eq_true q2, of_decide_eq_true q3⟩⟩
    · right
      obtain ⟨d, m', ed⟩ := List.mem_map.mp m
      cases ed
      have m := m'
      have q := o.xs1 _ m
      have w := c2 _ m
      rw [c3 _ m]
      unfold okX1 okX at q
      obtain ⟨q, q9⟩ := and2 q
      obtain ⟨q, q8⟩ := and2 q
      obtain ⟨q, q7⟩ := and2 q
      obtain ⟨q, q6⟩ := and2 q
      obtain ⟨q, q5⟩ := and2 q
      obtain ⟨q, q4⟩ := and2 q
      obtain ⟨q, q3⟩ := and2 q
      obtain ⟨q1, q2⟩ := and2 q
      unfold XD.chk at w
      obtain ⟨w, w7⟩ := and2 w
      obtain ⟨w, w6⟩ := and2 w
      obtain ⟨w, w5⟩ := and2 w
      obtain ⟨w, w4⟩ := and2 w
      obtain ⟨w, w3⟩ := and2 w
      obtain ⟨w1, w2⟩ := and2 w
      obtain ⟨oc, od, osl, kV, doc, pm, an, cdv, ct, lk, hcd⟩ := He.fn_ok (d := d.he (L.xqual d.id)) (obs_fn e (List.mem_append_right _ (List.mem_map.mpr ⟨d, m, rfl⟩))) q9
      exact ⟨(fun z => by rw [z] at w6; cases w6), of_decide_eq_true w5, ⟨oexB_ok q4, isV_ok q5, of_decide_eq_true q2, of_decide_eq_true q3, q1⟩, fun f hf => isN_ok (List.all_eq_true.mp q6 f hf),
        _, oc, od, _, _, _, _, _, _, _, _, _, _, _, an, osl, d.N, d.ps, isV_ok q7, of_decide_eq_true q8, lk, hcd, scB_ok w1, binds_of w2 (of_decide_eq_true w3), of_decide_eq_true w4, w7⟩
  exm := fun k c hk hc => by
    obtain ⟨x, m, _, ek⟩ := T_exs hk
    obtain ⟨y, n, _, ec⟩ := T_exs hc
    rw [ek, ec]
    exact o.exm _ m _ n
def LawD.tab (L : LawD) (f : Nat) : Option Fn := (L.dOf f).map (·.F)
theorem defOk_of (o : OkAll L Γ K) (e : L.obs Γ K = L.val) (c : L.chk Γ = true) (f : Nat) (F : Fn) (hf : L.tab f = some F) : DefOk K L.dat L.cal Γ.flds noML f ((L.T K).fa f) F := by
  unfold LawD.tab at hf
  rw [Option.map_eq_some_iff] at hf
  obtain ⟨d, hd, rfl⟩ := hf
  obtain ⟨m, eid⟩ := dOf_mem hd
  subst eid
  have efa : (L.T K).fa d.id = He.fAd K d.at_ := by
    show He.fAd K ((L.dOf d.id).getD L.law).at_ = _
    rw [hd]
    rfl
  have q := (and2 (o.fns d m)).2
  have w := (chk_parts c).1 d m
  unfold FD.chk at w
  obtain ⟨w, w10⟩ := and2 w
  obtain ⟨w, w9⟩ := and2 w
  obtain ⟨w, w8⟩ := and2 w
  obtain ⟨w, w7⟩ := and2 w
  obtain ⟨w, w6⟩ := and2 w
  obtain ⟨w, w5⟩ := and2 w
  obtain ⟨w, w4⟩ := and2 w
  obtain ⟨w, w3⟩ := and2 w
  obtain ⟨w1, w2⟩ := and2 w
  obtain ⟨oc, od, osl, kV, doc, pm, an, cdv, ct, lk, hcd⟩ := He.fn_ok (d := d.he) (obs_fn e (List.mem_append_left _ (List.mem_map.mpr ⟨d, m, rfl⟩))) q
  rw [efa]
  exact ⟨oc, od, _, _, _, _, _, _, _, _, _, _, _, an, osl, d.N, d.ps, d.cb, lk, hcd, scB_ok w1, binds_of w2 (of_decide_eq_true w3), of_decide_eq_true w4, of_decide_eq_true w5, of_decide_eq_true w6, w7, hotIf w8, hotIf w9, fun z y => hotIf (hotIf w10 z) y⟩
/-- the part of the heap that is looked at -/
def fragG (n : Nat) (g : Addr → Option Obj) : PySem.W.Frag := He.frG g (sysModules :: He.asG g n)
def hookL (n : Nat) (L : LawD) (Γ : G) : PySem.W.Hook where
  α := Bool × List He.FnV
  obs := fun s => L.obs Γ (fragG n s.heap.get?)
  val := fun _ => L.val
  says := fun _ h => ∃ K : PySem.W.Frag, K.In h ∧ L.obs Γ K = L.val
  of := fun _ _ e => ⟨_, He.frG_in, e⟩
  keeps := fun _ _ _ ⟨K, hK, c⟩ k => ⟨K, PySem.W.Frag.In.keeps hK k, c⟩
def obL (n : Nat) (L : LawD) (Γ : G) (s : PySem.W.SharedT) : Bool × List He.FnV := L.obs Γ (fragG n (HandSHeadRun.getT s))
theorem obL_eq {n : Nat} {L : LawD} {Γ : G} (s : PySem.W.SharedT) : obL n L Γ s = (hookL n L Γ).obs s.abs := by
  have e : HandSHeadRun.getT s = s.abs.heap.get? := funext (HandSHeadRun.getT_eq s)
  show L.obs Γ (fragG n (HandSHeadRun.getT s)) = L.obs Γ (fragG n s.abs.heap.get?)
  rw [e]
/-- the script as a pure value -/
def scriptV (ns : List Int) : PV := .klst (ns.map .int)
theorem repL_intsV {C : Cn} {B : Addr → Prop} {H : Hp} : ∀ ns : List Int, Rep.RepL C B H (ns.map .int) (ns.map V.int)
  | [] => rfl
  | n :: ns => ⟨_, _, rfl, rfl, repL_intsV ns⟩
theorem law_endM {l : PySem.W.OpenLaw} {n : Nat} {q : Program} {loose : List Str} {XP : (Str → Option Value) → Heap → Prop} {d : DefRec} {m k : Nat} (hn : l.most = some n) (hn2 : n ≤ sizeLine) (hdf : d.params.defaults = []) (hr : Room (2 * k + 3) callerA) (hc : L.chk Γ = true) (hnm : L.dat.globs.lookup d.name = some (.fn L.law.id)) (hio : L.law.F.io = false) (hnp : L.law.F.np = 1)
    (plain : ∀ ns : List Int, ns.length ≤ n → (∀ z ∈ ns, Builtin.Int.intBits z ≤ 1048576) → ∃ o, L.law.F.run { Γ with call := callAt Γ L.tab k } [scriptV ns] = .val o (.bl true) none) :
    PySem.W.WalkO q loose XP (hookL m L Γ).says l.row.toRowW d [] (fun f vs => PySem.call f vs) := by
  refine walk_ofM (k := 2 * k + 3) hn hn2 hdf hr fun w mg fa h Y G hmg => ?_
  obtain ⟨K, KX, e⟩ := Y
  have ok : L.ok Γ K = true := congrArg (fun z : Bool × List He.FnV => z.1) e
  have o := okAll ok
  have htab : L.tab L.law.id = some L.law.F := by
    unfold LawD.tab LawD.dOf LawD.fns
    rw [List.find?_cons, beq_self_eq_true]
    rfl
  refine ⟨K, KX, [], spM (L.T K) K [] L.cal (CL0 k) { Γ with call := callAt Γ L.tab k } L.law.id L.law.F, fun p z => absurd z (by simp), fun p z => absurd z (by simp), fun p z => absurd z (by simp), fun e H a ns he hl hbits _ hS => ?_, fun base hKb hns _ => ?_⟩
  · obtain ⟨ow, hp⟩ := plain ns hl hbits
    refine ⟨noCL, .inl rfl, (fun z => by rw [he] at z; cases z), by rw [hnp]; rfl, [scriptV ns], fun _ => False, none, fun b z => ?_, fun p hp => absurd hp (by simp), ?_, ?_⟩
    · rcases z with z | z | z
      · exact z.elim
      · cases z
      · exact absurd z (by simp)
    · rw [hio]
      refine ⟨rfl, _, _, rfl, ⟨a, _, rfl, ?_, repL_intsV ns⟩, rfl⟩
      rcases hS with hS | hS
      · exact .inl ⟨hS, fun z => z.elim⟩
      · exact .inr hS
    · rw [hp]
      intro v ps H' af nd fr rl _
      cases ow with
      | false =>
        cases rl with
        | sh r _ => exact r
      | true =>
        cases rl with
        | ow r _ => exact r.elim
  · have hfa : fa = (L.T K).fa L.law.id := by
      have q := o.gl _ (PySem.mem_of_lookup hnm)
      have z : mg d.name = some (.ref ((L.T K).fa L.law.id)) := PySem.W.mg_of KX G (isV_ok q)
      rw [hmg] at z
      cases z
      rfl
    subst hfa
    have hsys : ∃ o, base.get? sysModules = some o := by
      obtain ⟨ob, eo⟩ := Option.isSome_iff_exists.mp o.sys
      exact ⟨ob, hKb _ _ eo⟩
    have FA := fnAll (P := l.prog) (w := w) (base := base) (mg := mg) (NT := []) hsys (wd_of o hKb hns) (wdx_of o e hc) clRules0 (defOk_of o e hc) k
    obtain ⟨fd, ps, F1, hb, hl⟩ := FA L.law.id L.law.F htab
    exact ⟨fd, ps, F1, hb, by rw [hl, hnp]⟩
end
end Mi

/-! Lw0: the interpreter, symbolically: equations for simp. -/
namespace Mi
open PySem

theorem eqvP_int (a b : Int) : eqvP (.int a) (.int b) = some (decide (a = b)) := rfl
theorem eqvP_str (a b : Str) : eqvP (.str a) (.str b) = some (decide (a = b)) := rfl
@[simp] theorem wait_sh (b : Bool) : wait .sh b = true := rfl
@[simp] theorem wait_ow (b : Bool) : wait .ow b = true := rfl
@[simp] theorem wait_bof : wait .bo false = true := rfl
@[simp] theorem keepV_sh : keepV .sh = true := rfl
@[simp] theorem keepV_ow : keepV .ow = true := rfl
@[simp] theorem bind_ok {α β : Type} (a : α) (st : Slots) (k : α → Slots → Rs β) : (Rs.ok a st).bind k = k a st := rfl
@[simp] theorem bind_ex {α β : Type} (C : Nat) (fs : List (Str × PV)) (st : Slots) (k : α → Slots → Rs β) : (Rs.ex C fs st).bind k = .ex C fs st := rfl
/-! ### statement by statement -/
theorem ss_nx {Γ : G} {s : S} {r : Ss} {st st1 : Slots} (h : evS Γ s st = .ok .nx st1) : evSs Γ (.cons s r) st = evSs Γ r st1 := by rw [evSs, h]; rfl
theorem ss_rt {Γ : G} {s : S} {r : Ss} {st st1 : Slots} {f : Fl} {v : PV} (h : evS Γ s st = .ok (.rt f v) st1) : evSs Γ (.cons s r) st = .ok (.rt f v) st1 := by rw [evSs, h]; rfl
theorem ss_ex {Γ : G} {s : S} {r : Ss} {st st1 : Slots} {C : Nat} {fs : List (Str × PV)} (h : evS Γ s st = .ex C fs st1) : evSs Γ (.cons s r) st = .ex C fs st1 := by rw [evSs, h]; rfl
theorem for_ok {Γ : G} {t : Tg} {it : I} {b : Ss} {st st1 : Slots} {f : Fl} {xs : List PV} (hi : evI Γ it st = .ok (f, xs) st1) (hf : f ≠ .bo) : evS Γ (.for t it b) st = forRun (forStep Γ t b) xs st1 := by
  rw [evS, hi]
  show (if f ≠ .bo then _ else _) = _
  rw [if_pos hf]
  rfl
/-- a pen -/
structure Pen where
  cells : List Int
  at_ : Nat
  digits : Int
  count : Int
  fold : Int
def penV (p : Pen) : PV := .dic [(.inr "cells", .lst (p.cells.map .int)), (.inr "at", .int p.at_), (.inr "digits", .int p.digits), (.inr "count", .int p.count), (.inr "fold", .int p.fold)]
theorem pen_cells (p : Pen) : ixP (penV p) (.str "cells") = some (.lst (p.cells.map .int)) := rfl
theorem pen_at (p : Pen) : ixP (penV p) (.str "at") = some (.int p.at_) := rfl
theorem pen_digits (p : Pen) : ixP (penV p) (.str "digits") = some (.int p.digits) := rfl
theorem pen_count (p : Pen) : ixP (penV p) (.str "count") = some (.int p.count) := rfl
theorem pen_fold (p : Pen) : ixP (penV p) (.str "fold") = some (.int p.fold) := rfl
theorem pen_setAt (p : Pen) (n : Nat) : storeP (penV p) (.str "at") (.int n) = some (penV { p with at_ := n }) := rfl
theorem pen_setDigits (p : Pen) (n : Int) : storeP (penV p) (.str "digits") (.int n) = some (penV { p with digits := n }) := rfl
theorem pen_setCount (p : Pen) (n : Int) : storeP (penV p) (.str "count") (.int n) = some (penV { p with count := n }) := rfl
theorem pen_setFold (p : Pen) (n : Int) : storeP (penV p) (.str "fold") (.int n) = some (penV { p with fold := n }) := rfl
theorem noClo_ints (l : List Int) : PV.noClo.noCloL (l.map .int) = true := by
  induction l with
  | nil => rfl
  | cons a l ih => exact ih
theorem pen_noClo (p : Pen) : (penV p).noClo = true := by
  show (PV.noClo.noCloL (p.cells.map .int) && true) = true
  rw [noClo_ints]; rfl
end Mi

/-! Lw1: pen, draw, pick. -/
namespace Mi.Lib
open PySem
def F16_law_pen : Fn := ⟨false, 1, 3,
  (.cons (.set 1 (.k (.int 0)))
  (.cons (.for (.n 2) (.e (.sv 0))
  (.cons (.set 1 (.bin .mod (.bi .int (.cons (.bin .add (.bin .mul (.bw 1) (.k (.int 47))) (.bw 2)) .nil)) (.k (.int 1000000007))))
  .nil))
  (.cons (.ret (.dct [.inr "cells", .inr "at", .inr "digits", .inr "count", .inr "fold"] (.cons (.bi .list (.cons (.bw 0) .nil)) (.cons (.k (.int 0)) (.cons (.k (.int 0)) (.cons (.k (.int 0)) (.cons (.sv 1) .nil)))))))
  .nil)))⟩
def F17_law_draw : Fn := ⟨true, 2, 5,
  (.cons (.setix 0 (.k (.str "count")) (.bin .add (.ix (.bw 0) (.k (.str "count"))) (.k (.int 1))))
  (.cons (.ifs (.and (.cmp .eq (.ix (.bw 0) (.k (.str "digits"))) (.k (.int 0))) (.cmp .lt (.ix (.bw 0) (.k (.str "at"))) (.bi .len (.cons (.ix (.bw 0) (.k (.str "cells"))) .nil))))
  (.cons (.set 2 (.ix (.ix (.bw 0) (.k (.str "cells"))) (.ix (.bw 0) (.k (.str "at")))))
  (.cons (.setix 0 (.k (.str "at")) (.bin .add (.ix (.bw 0) (.k (.str "at"))) (.k (.int 1))))
  (.cons (.ifs (.cmp .ge (.bw 2) (.bin .pow (.k (.int 10)) (.k (.int 18))))
  (.cons (.setix 0 (.k (.str "digits")) (.bin .sub (.bw 2) (.bin .pow (.k (.int 10)) (.k (.int 18)))))
  .nil)
  (.cons (.setix 0 (.k (.str "fold")) (.bin .mod (.bi .int (.cons (.bin .add (.bin .mul (.ix (.bw 0) (.k (.str "fold"))) (.k (.int 69069))) (.bw 2)) .nil)) (.k (.int 2147483587))))
  .nil))
  .nil)))
  .nil)
  (.cons (.ifs (.cmp .gt (.ix (.bw 0) (.k (.str "digits"))) (.k (.int 0)))
  (.cons (.set 3 (.bin .mod (.bi .int (.cons (.ix (.bw 0) (.k (.str "digits"))) .nil)) (.bw 1)))
  (.cons (.setix 0 (.k (.str "digits")) (.bin .fdiv (.ix (.bw 0) (.k (.str "digits"))) (.bw 1)))
  (.cons (.ret (.mv 3))
  .nil)))
  .nil)
  (.cons (.set 4 (.bin .mod (.bi .int (.cons (.bin .add (.bin .add (.bin .mul (.ix (.bw 0) (.k (.str "fold"))) (.k (.int 48271))) (.bin .mul (.ix (.bw 0) (.k (.str "count"))) (.k (.int 7919)))) (.k (.int 13))) .nil)) (.k (.int 2147483647))))
  (.cons (.set 4 (.bin .mod (.bi .int (.cons (.bin .add (.bin .add (.bin .mul (.bw 4) (.bw 4)) (.bin .mul (.k (.int 31)) (.bw 4))) (.ix (.bw 0) (.k (.str "count")))) .nil)) (.k (.int 2147483629))))
  (.cons (.setix 0 (.k (.str "fold")) (.bin .mod (.bi .int (.cons (.bin .add (.bin .mul (.bw 4) (.k (.int 16807))) (.k (.int 7))) .nil)) (.k (.int 2147483647))))
  (.cons (.ret (.bin .mod (.bi .int (.cons (.bin .fdiv (.bw 4) (.k (.int 64))) .nil)) (.bw 1)))
  .nil)))))))⟩
def F18_law_pick : Fn := ⟨true, 2, 2,
  (.cons (.ret (.ix (.bw 1) (.calli 17 0 (.cons (.bi .len (.cons (.bw 1) .nil)) .nil))))
  .nil)⟩
/-- numbers that may be worked with -/
structure PenOk (n : Nat) (p : Pen) : Prop where
  cells : ∀ c ∈ p.cells, c.natAbs.log2 ≤ 1048576
  digits : p.digits.natAbs.log2 ≤ 1048577
  digits0 : 0 ≤ p.digits
  count : 0 ≤ p.count ∧ p.count + n ≤ 1152921504606846976
  fold : 0 ≤ p.fold ∧ p.fold < 2147483648
  at_ : p.at_ ≤ p.cells.length
def p1 (p : Pen) : Pen := { p with count := p.count + 1 }
def cellOf (p : Pen) : Int := (p.cells[p.at_]?).getD 0
def p2 (p : Pen) : Pen := if p.digits = 0 ∧ p.at_ < p.cells.length then (if 1000000000000000000 ≤ cellOf p then { p with at_ := p.at_ + 1, digits := cellOf p - 1000000000000000000 } else { p with at_ := p.at_ + 1, fold := (p.fold * 69069 + cellOf p) % 2147483587 }) else p
def blend (p : Pen) : Int := (((p.fold * 48271 + p.count * 7919 + 13) % 2147483647) * ((p.fold * 48271 + p.count * 7919 + 13) % 2147483647) + 31 * ((p.fold * 48271 + p.count * 7919 + 13) % 2147483647) + p.count) % 2147483629
def draw (p : Pen) (many : Int) : Int × Pen :=
  if 0 < (p2 (p1 p)).digits then ((p2 (p1 p)).digits % many, { p2 (p1 p) with digits := (p2 (p1 p)).digits / many }) else (blend (p2 (p1 p)) / 64 % many, { p2 (p1 p) with fold := (blend (p2 (p1 p)) * 16807 + 7) % 2147483647 })
theorem log_lt {i : Int} {k : Nat} (h : i.natAbs < 2 ^ k) (hk : 0 < k) : i.natAbs.log2 < k := by
  by_cases h0 : i.natAbs = 0
  · rw [h0]; simpa using hk
  · exact (Nat.log2_lt h0).mpr h
theorem mulOk_of {a b : Int} {m n : Nat} (ha : a.natAbs < 2 ^ m) (hb : b.natAbs < 2 ^ n) (hm : 0 < m) (hn : 0 < n) (h : m + n ≤ 1000) : mulOk a b := by
  have h1 := log_lt ha hm
  have h2 := log_lt hb hn
  show a.natAbs.log2 + b.natAbs.log2 < 100000000
  omega
section
variable {Γ : G} {st : Slots}
/-- the second part: a number from what stands in the pen -/
theorem draw_tail {p : Pen} {many : Int} {n : Nat} (h : PenOk n p) (hm : 0 < many) (hm2 : many.natAbs.log2 < 8000) {x : Sl} (R : Ss) :
    evSs Γ (.cons (.ifs (.cmp .gt (.ix (.bw 0) (.k (.str "digits"))) (.k (.int 0)))
  (.cons (.set 3 (.bin .mod (.bi .int (.cons (.ix (.bw 0) (.k (.str "digits"))) .nil)) (.bw 1)))
  (.cons (.setix 0 (.k (.str "digits")) (.bin .fdiv (.ix (.bw 0) (.k (.str "digits"))) (.bw 1)))
  (.cons (.ret (.mv 3))
  .nil)))
  .nil)
  R) [.ow (penV p), .sh (.int many), x, .no, .no] = if 0 < p.digits then .ok (.rt .sh (.int (p.digits % many))) [.ow (penV { p with digits := p.digits / many }), .sh (.int many), x, .sh (.int (p.digits % many)), .no] else evSs Γ R [.ow (penV p), .sh (.int many), x, .no, .no] := by
  have hd : Builtin.divisionGoesByPylong p.digits many = false := by
    unfold Builtin.divisionGoesByPylong
    have : (if many == 0 then 0 else many.natAbs.log2 / 30 + 1) ≤ 300 := by split <;> omega
    simp only [Bool.and_eq_false_iff, decide_eq_false_iff_not]
    left
    omega
  by_cases hp : 0 < p.digits
  · simp [evSs, evS, evE, evEs, pen_digits, pen_setDigits, Bi.ap, Op.ap, Cp.ap, resO, resF, resB, boolP, valsOf, setOwn, flOf, E.io, E.io.ioL, isOw, hp, hm, hd]
  · simp [evSs, evS, evE, evEs, pen_digits, pen_setDigits, Bi.ap, Op.ap, Cp.ap, resO, resF, resB, boolP, valsOf, setOwn, flOf, E.io, E.io.ioL, isOw, hp, hm, hd]

theorem PenOk.p1 {p : Pen} {n : Nat} (h : PenOk (n + 1) p) : PenOk n (p1 p) := ⟨h.cells, h.digits, h.digits0, ⟨by show 0 ≤ p.count + 1; have := h.count.1; omega, by show p.count + 1 + n ≤ _; have := h.count.2; omega⟩, h.fold, h.at_⟩
theorem cellOf_log {p : Pen} {n : Nat} (h : PenOk n p) : (cellOf p).natAbs.log2 ≤ 1048576 := by
  unfold cellOf
  cases e : p.cells[p.at_]? with
  | none => decide
  | some c => exact h.cells _ (List.mem_of_getElem? e)
theorem log2_le_of {a b : Nat} (h : a ≤ b) : a.log2 ≤ b.log2 := by
  by_cases ha : a = 0
  · rw [ha]; simp
  · have hb : b ≠ 0 := by omega
    exact (Nat.le_log2 hb).mpr (Nat.le_trans (Nat.log2_self_le ha) h)
theorem PenOk.p2 {p : Pen} {n : Nat} (h : PenOk n p) : PenOk n (p2 p) := by
  unfold Lib.p2
  split
  · rename_i h1
    split
    · rename_i h2
      refine ⟨h.cells, ?_, ?_, h.count, h.fold, ?_⟩
      · have h3 := cellOf_log h
        have h4 : (cellOf p - 1000000000000000000).natAbs ≤ (cellOf p).natAbs := by omega
        have h5 := log2_le_of h4
        show (cellOf p - 1000000000000000000).natAbs.log2 ≤ _
        omega
      · show 0 ≤ cellOf p - 1000000000000000000
        omega
      · show p.at_ + 1 ≤ p.cells.length
        omega
    · refine ⟨h.cells, h.digits, h.digits0, h.count, ⟨Int.emod_nonneg _ (by decide), ?_⟩, ?_⟩
      · have := Int.emod_lt_of_pos (p.fold * 69069 + cellOf p) (show (0 : Int) < 2147483587 by decide)
        show (p.fold * 69069 + cellOf p) % 2147483587 < _
        omega
      · show p.at_ + 1 ≤ p.cells.length
        omega
  · exact h
theorem fold_lt {p : Pen} {n : Nat} (h : PenOk n p) : p.fold.natAbs < 2 ^ 31 := by
  have := h.fold
  omega
theorem ix_ints {l : List Int} {n : Nat} (h : n < l.length) : ixP (.lst (l.map .int)) (.int n) = some (.int ((l[n]?).getD 0)) := by
  have e : (l.map PV.int)[n]? = some (.int ((l[n]?).getD 0)) := by
    rw [List.getElem?_map, List.getElem?_eq_getElem h]; rfl
  unfold ixP place
  simp [h, e]
/-- the first part -/
theorem draw_head (R : Ss) {p : Pen} {many : Int} {n : Nat} (h : PenOk (n + 1) p) : evSs Γ (.cons (.setix 0 (.k (.str "count")) (.bin .add (.ix (.bw 0) (.k (.str "count"))) (.k (.int 1))))
  (.cons (.ifs (.and (.cmp .eq (.ix (.bw 0) (.k (.str "digits"))) (.k (.int 0))) (.cmp .lt (.ix (.bw 0) (.k (.str "at"))) (.bi .len (.cons (.ix (.bw 0) (.k (.str "cells"))) .nil))))
  (.cons (.set 2 (.ix (.ix (.bw 0) (.k (.str "cells"))) (.ix (.bw 0) (.k (.str "at")))))
  (.cons (.setix 0 (.k (.str "at")) (.bin .add (.ix (.bw 0) (.k (.str "at"))) (.k (.int 1))))
  (.cons (.ifs (.cmp .ge (.bw 2) (.bin .pow (.k (.int 10)) (.k (.int 18))))
  (.cons (.setix 0 (.k (.str "digits")) (.bin .sub (.bw 2) (.bin .pow (.k (.int 10)) (.k (.int 18)))))
  .nil)
  (.cons (.setix 0 (.k (.str "fold")) (.bin .mod (.bi .int (.cons (.bin .add (.bin .mul (.ix (.bw 0) (.k (.str "fold"))) (.k (.int 69069))) (.bw 2)) .nil)) (.k (.int 2147483587))))
  .nil))
  .nil)))
  .nil) R)) [.ow (penV p), .sh (.int many), .no, .no, .no] = evSs Γ R [.ow (penV (p2 (p1 p))), .sh (.int many), if p.digits = 0 ∧ p.at_ < p.cells.length then .sh (.int (cellOf p)) else .no, .no, .no] := by
  have m1 : mulOk p.fold 69069 := mulOk_of (m := 31) (n := 31) (fold_lt h) (by decide) (by decide) (by decide) (by decide)
  by_cases c1 : p.digits = 0 ∧ p.at_ < p.cells.length
  · have e1 := c1
    obtain ⟨c0, c1⟩ := c1
    have eg : ixP (.lst (p.cells.map .int)) (.int p.at_) = some (.int (cellOf p)) := ix_ints c1
    have sA : ∀ q : Pen, storeP (penV q) (.str "at") (.int ((p.at_ : Int) + 1)) = some (penV { q with at_ := p.at_ + 1 }) := fun q => pen_setAt q (p.at_ + 1)
    rw [if_pos e1]
    by_cases c2 : 1000000000000000000 ≤ cellOf p
    · have e2 : p2 (p1 p) = { p with count := p.count + 1, at_ := p.at_ + 1, digits := cellOf p - 1000000000000000000 } := by
        unfold p2 p1
        rw [if_pos e1]
        exact if_pos c2
      rw [e2]
      simp [evSs, evS, evE, evEs, pen_digits, pen_at, pen_cells, pen_count, pen_fold, pen_setDigits, pen_setCount, pen_setFold, sA, Bi.ap, Op.ap, Cp.ap, eqvP_int, resO, resF, resB, boolP, valsOf, setOwn, flOf, E.io, E.io.ioL, isOw, c0, c1, eg, m1, c2]
    · have e2 : p2 (p1 p) = { p with count := p.count + 1, at_ := p.at_ + 1, fold := (p.fold * 69069 + cellOf p) % 2147483587 } := by
        unfold p2 p1
        rw [if_pos e1]
        exact if_neg c2
      rw [e2]
      simp [evSs, evS, evE, evEs, pen_digits, pen_at, pen_cells, pen_count, pen_fold, pen_setDigits, pen_setCount, pen_setFold, sA, Bi.ap, Op.ap, Cp.ap, eqvP_int, resO, resF, resB, boolP, valsOf, setOwn, flOf, E.io, E.io.ioL, isOw, c0, c1, eg, m1, c2]
  · have e2 : p2 (p1 p) = { p with count := p.count + 1 } := by
      unfold p2 p1
      exact if_neg c1
    rw [if_neg c1, e2]
    by_cases c0 : p.digits = 0
    · have c3 : ¬ (p.at_ < p.cells.length) := fun z => c1 ⟨c0, z⟩
      simp [evSs, evS, evE, evEs, pen_digits, pen_at, pen_cells, pen_count, pen_fold, pen_setDigits, pen_setCount, pen_setFold, Bi.ap, Op.ap, Cp.ap, eqvP_int, resO, resF, resB, boolP, valsOf, setOwn, flOf, E.io, E.io.ioL, isOw, c0, c3]
    · simp [evSs, evS, evE, evEs, pen_digits, pen_at, pen_cells, pen_count, pen_fold, pen_setDigits, pen_setCount, pen_setFold, Bi.ap, Op.ap, Cp.ap, eqvP_int, resO, resF, resB, boolP, valsOf, setOwn, flOf, E.io, E.io.ioL, isOw, c0]
theorem draw_ok (tab : Nat → Option Fn) (ht : tab 17 = some F17_law_draw) {p : Pen} {many : Int} {n k : Nat} (h : PenOk (n + 1) p) (hm : 0 < many) (hm2 : many.natAbs.log2 < 8000) :
    callAt Γ tab (k + 1) 17 [penV p, .int many] = .val false (.int (draw p many).1) (some (penV (draw p many).2)) := by
  rw [call_some ht]
  have h2 := h.p1.p2
  have hc : (p2 (p1 p)).count.natAbs < 2 ^ 61 := by have := h2.count; omega
  have hf := fold_lt h2
  have m1 : mulOk (p2 (p1 p)).fold 48271 := mulOk_of (m := 31) (n := 31) hf (by decide) (by decide) (by decide) (by decide)
  have m2 : mulOk (p2 (p1 p)).count 7919 := mulOk_of (m := 61) (n := 31) hc (by decide) (by decide) (by decide) (by decide)
  generalize hb0 : ((p2 (p1 p)).fold * 48271 + (p2 (p1 p)).count * 7919 + 13) % 2147483647 = b0
  have hb : b0.natAbs < 2 ^ 31 := by
    have := Int.emod_lt_of_pos ((p2 (p1 p)).fold * 48271 + (p2 (p1 p)).count * 7919 + 13) (show (0 : Int) < 2147483647 by decide)
    have := Int.emod_nonneg ((p2 (p1 p)).fold * 48271 + (p2 (p1 p)).count * 7919 + 13) (show (2147483647 : Int) ≠ 0 by decide)
    omega
  have m3 : mulOk b0 b0 := mulOk_of (m := 31) (n := 31) hb hb (by decide) (by decide) (by decide)
  have m4 : mulOk 31 b0 := mulOk_of (m := 31) (n := 31) (by decide) hb (by decide) (by decide) (by decide)
  have hbl : blend (p2 (p1 p)) = (b0 * b0 + 31 * b0 + (p2 (p1 p)).count) % 2147483629 := by unfold blend; rw [hb0]
  have hb1 : (blend (p2 (p1 p))).natAbs < 2 ^ 31 := by
    unfold blend
    have := Int.emod_lt_of_pos (((p2 (p1 p)).fold * 48271 + (p2 (p1 p)).count * 7919 + 13) % 2147483647 * (((p2 (p1 p)).fold * 48271 + (p2 (p1 p)).count * 7919 + 13) % 2147483647) + 31 * (((p2 (p1 p)).fold * 48271 + (p2 (p1 p)).count * 7919 + 13) % 2147483647) + (p2 (p1 p)).count) (show (0 : Int) < 2147483629 by decide)
    have := Int.emod_nonneg (((p2 (p1 p)).fold * 48271 + (p2 (p1 p)).count * 7919 + 13) % 2147483647 * (((p2 (p1 p)).fold * 48271 + (p2 (p1 p)).count * 7919 + 13) % 2147483647) + 31 * (((p2 (p1 p)).fold * 48271 + (p2 (p1 p)).count * 7919 + 13) % 2147483647) + (p2 (p1 p)).count) (show (2147483629 : Int) ≠ 0 by decide)
    omega
  have m5 : mulOk (blend (p2 (p1 p))) 16807 := mulOk_of (m := 31) (n := 31) hb1 (by decide) (by decide) (by decide) (by decide)
  have hd : Builtin.divisionGoesByPylong (blend (p2 (p1 p))) 64 = false := by
    unfold Builtin.divisionGoesByPylong
    simp only [Bool.and_eq_false_iff, decide_eq_false_iff_not]
    left
    decide
  have e0 : F17_law_draw.start [penV p, .int many] = [.ow (penV p), .sh (.int many), .no, .no, .no] := rfl
  have e1 : F17_law_draw.run { Γ with call := callAt Γ tab k } [penV p, .int many] = F17_law_draw.fin (evSs { Γ with call := callAt Γ tab k } F17_law_draw.body [.ow (penV p), .sh (.int many), .no, .no, .no]) := rfl
  rw [e1]
  have e2 : evSs { Γ with call := callAt Γ tab k } F17_law_draw.body [.ow (penV p), .sh (.int many), .no, .no, .no] = _ := draw_head _ h
  rw [e2, draw_tail h2 hm hm2]
  unfold draw
  by_cases hp : 0 < (p2 (p1 p)).digits
  · rw [if_pos hp, if_pos hp]
    simp [Fn.fin, Fn.ioOf, F17_law_draw, ownAt0, PV.noClo, cloO, pen_noClo]
  · rw [if_neg hp, if_neg hp]
    rw [hbl] at m5 hd
    simp [evSs, evS, evE, evEs, pen_digits, pen_at, pen_cells, pen_count, pen_fold, pen_setDigits, pen_setCount, pen_setFold, Bi.ap, Op.ap, Cp.ap, eqvP_int, resO, resF, resB, boolP, valsOf, setOwn, flOf, E.io, E.io.ioL, isOw, m1, m2, m3, m4, m5, hd, hb0, hbl, hm, Fn.fin, Fn.ioOf, F17_law_draw, ownAt0, PV.noClo, cloO, pen_noClo]

theorem draw_range {p : Pen} {many : Int} (hm : 0 < many) : 0 ≤ (draw p many).1 ∧ (draw p many).1 < many := by
  unfold draw
  split
  · exact ⟨Int.emod_nonneg _ (by omega), Int.emod_lt_of_pos _ hm⟩
  · exact ⟨Int.emod_nonneg _ (by omega), Int.emod_lt_of_pos _ hm⟩
theorem draw_pen {p : Pen} {many : Int} {n : Nat} (hm : 0 < many) (h : PenOk (n + 1) p) : PenOk n (draw p many).2 := by
  have h2 := h.p1.p2
  unfold draw
  split
  · refine ⟨h2.cells, ?_, ?_, h2.count, h2.fold, h2.at_⟩
    · show ((p2 (p1 p)).digits / many).natAbs.log2 ≤ _
      have h3 : ((p2 (p1 p)).digits / many).natAbs ≤ (p2 (p1 p)).digits.natAbs := by
        have h4 := h2.digits0
        have h5 : (p2 (p1 p)).digits / many ≤ (p2 (p1 p)).digits := Int.ediv_le_self _ h4
        have h6 : 0 ≤ (p2 (p1 p)).digits / many := Int.ediv_nonneg h4 (by omega)
        omega
      have := log2_le_of h3
      have := h2.digits
      omega
    · exact Int.ediv_nonneg h2.digits0 (by omega)
  · refine ⟨h2.cells, h2.digits, h2.digits0, h2.count, ⟨Int.emod_nonneg _ (by decide), ?_⟩, h2.at_⟩
    have := Int.emod_lt_of_pos (blend (p2 (p1 p)) * 16807 + 7) (show (0 : Int) < 2147483647 by decide)
    show (blend (p2 (p1 p)) * 16807 + 7) % 2147483647 < _
    omega
theorem PenOk.mono {p : Pen} {m n : Nat} (h : PenOk n p) (l : m ≤ n) : PenOk m p := ⟨h.cells, h.digits, h.digits0, ⟨h.count.1, by have := h.count.2; omega⟩, h.fold, h.at_⟩
theorem small_len {n : Nat} (h : n < 1000000) : (n : Int).natAbs.log2 < 8000 := by
  have : (n : Int).natAbs.log2 < 20 := log_lt (by omega) (by decide)
  omega
theorem noClo_get : ∀ {xs : List PV} {i : Nat} {x : PV}, PV.noClo.noCloL xs = true → xs[i]? = some x → x.noClo = true
  | [], _, _, _, h => by simp at h
  | y :: ys, 0, x, h, e => by
    have h : (y.noClo && PV.noClo.noCloL ys) = true := h
    simp at e
    subst e
    exact (Bool.and_eq_true_iff.mp h).1
  | y :: ys, i + 1, x, h, e => by
    have h : (y.noClo && PV.noClo.noCloL ys) = true := h
    exact noClo_get (Bool.and_eq_true_iff.mp h).2 (by simpa using e)
theorem ix_at {xs : List PV} {i : Nat} {x : PV} {j : Int} (hj : j = i) (e : xs[i]? = some x) : ixP (.lst xs) (.int j) = some x := by
  have hl : i < xs.length := (List.getElem?_eq_some_iff.mp e).1
  subst hj
  unfold ixP place
  simp [hl]
  exact Option.some.inj ((List.getElem?_eq_getElem hl).symm.trans e)
/-- one of a list -/
theorem pick_ok (tab : Nat → Option Fn) (h17 : tab 17 = some F17_law_draw) (h18 : tab 18 = some F18_law_pick) {p : Pen} {xs : List PV} {n k : Nat} (h : PenOk (n + 1) p) (h0 : xs ≠ []) (hl : xs.length < 1000000) (hc : PV.noClo.noCloL xs = true) :
    ∃ x, xs[(draw p xs.length).1.toNat]? = some x ∧ callAt Γ tab (k + 2) 18 [penV p, .lst xs] = .val false x (some (penV (draw p xs.length).2)) := by
  have hp : 0 < xs.length := List.length_pos_iff.mpr h0
  have hm : (0 : Int) < xs.length := by omega
  have r := draw_range (p := p) hm
  have hlt : (draw p xs.length).1.toNat < xs.length := by omega
  obtain ⟨x, e⟩ : ∃ x, xs[(draw p xs.length).1.toNat]? = some x := ⟨_, List.getElem?_eq_getElem hlt⟩
  refine ⟨x, e, ?_⟩
  rw [call_some h18]
  have ix := ix_at (j := (draw p xs.length).1) (by omega) e
  have nc := noClo_get hc e
  have d : callAt Γ tab (k + 1) 17 [penV p, .int xs.length] = _ := draw_ok tab h17 h hm (small_len hl)
  simp [Fn.run, Fn.start, F18_law_pick, evSs, evS, evE, evEs, Bi.ap, resO, resF, outI, valsOf, flOf, E.io, E.io.ioL, isOw, Fn.fin, Fn.ioOf, ownAt0, cloO, pen_noClo, keepAll, d, ix, nc]
/-- a pen of the script -/
def pen0 (ns : List Int) : Pen := ⟨ns, 0, 0, 0, ns.foldl (fun f c => (f * 47 + c) % 1000000007) 0⟩
theorem forRun_fold {α : Type} {step : PV → Slots → Rs Fw} {enc : α → PV} {inv : Int → Prop} {mk : Int → Option α → Slots} {g : Int → α → Int} (hs : ∀ f o c, inv f → step (enc c) (mk f o) = .ok .nx (mk (g f c) (some c)) ∧ inv (g f c)) : ∀ (ns : List α) (f : Int) (o : Option α), inv f → ∃ o', forRun step (ns.map enc) (mk f o) = .ok .nx (mk (ns.foldl g f) o') ∧ inv (ns.foldl g f)
  | [], f, o, h => ⟨o, by rw [List.map_nil, forRun, List.foldl_nil], h⟩
  | c :: ns, f, o, h => by
    obtain ⟨e1, e2⟩ := hs f o c h
    obtain ⟨o', e3, e4⟩ := forRun_fold hs ns (g f c) (some c) e2
    refine ⟨o', ?_, e4⟩
    rw [List.map_cons, forRun, e1]
    exact e3
def penMk (s0 : Sl) (f : Int) (o : Option Int) : Slots := [s0, .sh (.int f), match o with | none => .no | some c => .sh (.int c)]
abbrev penBody : Ss := .cons (.set 1 (.bin .mod (.bi .int (.cons (.bin .add (.bin .mul (.bw 1) (.k (.int 47))) (.bw 2)) .nil)) (.k (.int 1000000007)))) .nil
theorem pen_step {Γ : G} (s0 : Sl) (f : Int) (o : Option Int) (c : Int) (h : 0 ≤ f ∧ f < 1000000007) : forStep Γ (.n 2) penBody (.int c) (penMk s0 f o) = .ok .nx (penMk s0 ((f * 47 + c) % 1000000007) (some c)) ∧ (0 ≤ (f * 47 + c) % 1000000007 ∧ (f * 47 + c) % 1000000007 < 1000000007) := by
  have m : mulOk f 47 := mulOk_of (m := 31) (n := 31) (by omega) (by decide) (by decide) (by decide) (by decide)
  refine ⟨?_, Int.emod_nonneg _ (by decide), Int.emod_lt_of_pos _ (by decide)⟩
  simp [forStep, penBody, penMk, Tg.set, evSs, evS, evE, evEs, Bi.ap, Op.ap, resF, valsOf, flOf, E.io, E.io.ioL, setOwn, m]
theorem pen_loop (s0 : Sl) (ns : List Int) : ∃ o, forRun (forStep Γ (.n 2) penBody) (ns.map .int) (penMk s0 0 none) = .ok .nx (penMk s0 (ns.foldl (fun f c => (f * 47 + c) % 1000000007) 0) o) ∧ (0 ≤ ns.foldl (fun f c => (f * 47 + c) % 1000000007) 0 ∧ ns.foldl (fun f c => (f * 47 + c) % 1000000007) 0 < 1000000007) :=
  forRun_fold (inv := fun f => 0 ≤ f ∧ f < 1000000007) (fun f o c h => pen_step s0 f o c h) ns 0 none (by omega)
theorem pen_ok (tab : Nat → Option Fn) (h16 : tab 16 = some F16_law_pen) {ns : List Int} {k : Nat} (hl : ns.length ≤ 63) :
    callAt Γ tab (k + 1) 16 [scriptV ns] = .val true (penV (pen0 ns)) none := by
  rw [call_some h16]
  obtain ⟨o, e, _⟩ := pen_loop (Γ := { Γ with call := callAt Γ tab k }) (.sh (.klst (ns.map .int))) ns
  have hb : ns.length ≤ big := by unfold big; omega
  have e1 : F16_law_pen.run { Γ with call := callAt Γ tab k } [scriptV ns] = F16_law_pen.fin (evSs { Γ with call := callAt Γ tab k } F16_law_pen.body [.sh (scriptV ns), .no, .no]) := rfl
  rw [e1]
  unfold F16_law_pen
  rw [ss_nx (st1 := penMk (.sh (.klst (ns.map .int))) 0 none) (by simp [evS, evE, setOwn, scriptV, penMk])]
  rw [ss_nx (st1 := penMk (.sh (.klst (ns.map .int))) (ns.foldl (fun f c => (f * 47 + c) % 1000000007) 0) o) ((for_ok (f := .sh) (xs := ns.map .int) (st1 := penMk (.sh (.klst (ns.map .int))) 0 none) (by simp [evI, evE, penMk, itemsP]) (by decide)).trans e)]
  have hd : dctP [.inr "cells", .inr "at", .inr "digits", .inr "count", .inr "fold"] [.lst (ns.map .int), .int 0, .int 0, .int 0, .int (ns.foldl (fun f c => (f * 47 + c) % 1000000007) 0)] [] = some [(.inr "cells", .lst (ns.map .int)), (.inr "at", .int 0), (.inr "digits", .int 0), (.inr "count", .int 0), (.inr "fold", .int (ns.foldl (fun f c => (f * 47 + c) % 1000000007) 0))] := rfl
  simp [evSs, evS, evE, evEs, Bi.ap, resF, valsOf, flOf, setOwn, keepAll, hb, penMk, itemsP, hd, Fn.fin, Fn.ioOf, cloO, E.io, E.io.ioL, PV.noClo, PV.noClo.noCloK, noClo_ints]
  rfl
theorem pen0_ok {ns : List Int} (h : ∀ z ∈ ns, z.natAbs.log2 ≤ 1048576) : PenOk 1000000000000 (pen0 ns) := by
  obtain ⟨_, _, h2⟩ := pen_loop (Γ := { call := fun _ _ => .bad, con := fun _ => .non, sub := fun _ _ => false, flds := fun _ => [], init := fun _ => 0 }) .no ns
  exact ⟨h, by show (0 : Int).natAbs.log2 ≤ _; decide, by show (0 : Int) ≤ 0; omega, by show (0 : Int) ≤ 0 ∧ (0 : Int) + _ ≤ _; decide, ⟨h2.1, by have := h2.2; show ns.foldl _ 0 < _; omega⟩, Nat.zero_le _⟩
theorem bits_log {z : Int} (h : Builtin.Int.intBits z ≤ 1048576) : z.natAbs.log2 ≤ 1048576 := by
  unfold Builtin.Int.intBits at h
  split at h
  · rename_i e
    rw [beq_iff_eq.mp e]; decide
  · omega
end
end Mi.Lib

/-! Lw2: how long the texts of small data are. -/
namespace Mi.Lib
open PySem

structure SOk (L : Nat) (s : Str) : Prop where
  len : s.length ≤ L
  cps : ∀ c ∈ s.cps.toList, c < 16 ^ 8
theorem SOk.mono {L M : Nat} {s : Str} (h : SOk L s) (l : L ≤ M) : SOk M s := ⟨Nat.le_trans h.len l, h.cps⟩
theorem sok_app {a b : Nat} {s t : Str} (h : SOk a s) (k : SOk b t) : SOk (a + b) (s ++ t) := by
  have e : (s ++ t).cps = s.cps ++ t.cps := rfl
  refine ⟨?_, fun c hc => ?_⟩
  · show (s ++ t).cps.size ≤ _
    rw [e, Array.size_append]
    have h1 : s.cps.size ≤ a := h.len
    have h2 : t.cps.size ≤ b := k.len
    omega
  · rw [e, Array.toList_append] at hc
    rcases List.mem_append.mp hc with z | z
    · exact h.cps c z
    · exact k.cps c z
theorem sok_str (s : String) : SOk s.length (Str.ofString s) := by
  rw [Str.ofString_eq_toList]
  refine ⟨?_, fun c hc => ?_⟩
  · show ((s.toList.map Char.toNat).toArray).size ≤ _
    rw [List.size_toArray, List.length_map]
    exact Nat.le_refl _
  · have hc : c ∈ s.toList.map Char.toNat := by simpa using hc
    obtain ⟨x, _, rfl⟩ := List.mem_map.mp hc
    have h1 : x.toNat < 1114112 := by
      have := x.valid
      unfold UInt32.isValidChar Nat.isValidChar at this
      show x.val.toNat < _
      omega
    have h2 : (1114112 : Nat) ≤ 16 ^ 8 := by decide
    omega
theorem sok_lit {L : Nat} (s : String) (h : s.length ≤ L) : SOk L (Str.ofString s) := (sok_str s).mono h
theorem sok_int {i : Int} {k : Nat} (hk : 0 < k) (h : i.natAbs < 10 ^ k) : SOk (k + 1) (Str.ofString (toString i)) := (sok_str _).mono (int_text_length_le10 hk h)
/-- plain data that is shown in a short text -/
structure DOk (L : Nat) (d : PyData) : Prop where
  show_ : d.showable = true
  depth : d.depth ≤ 20
  sok : SOk L d.shown
theorem DOk.mono {L M : Nat} {d : PyData} (h : DOk L d) (l : L ≤ M) : DOk M d := ⟨h.show_, h.depth, h.sok.mono l⟩
instance (L : Nat) (s : Str) : Decidable (SOk L s) := decidable_of_iff (s.length ≤ L ∧ ∀ c ∈ s.cps.toList, c < 16 ^ 8) ⟨fun h => ⟨h.1, h.2⟩, fun h => ⟨h.len, h.cps⟩⟩
instance (L : Nat) (d : PyData) : Decidable (DOk L d) := decidable_of_iff (d.showable = true ∧ d.depth ≤ 20 ∧ SOk L d.shown) ⟨fun h => ⟨h.1, h.2.1, h.2.2⟩, fun h => ⟨h.show_, h.depth, h.sok⟩⟩
theorem dok_int {i : Int} {k : Nat} (hk : 0 < k) (hk2 : k ≤ 500) (h : i.natAbs < 10 ^ k) : DOk (k + 1) (.int i) := by
  refine ⟨?_, Nat.zero_le _, sok_int hk h⟩
  show decide (i.natAbs.log2 < 1920) = true
  refine decide_eq_true ?_
  have h1 : (10 : Nat) ^ k ≤ 10 ^ 500 := Nat.pow_le_pow_right (by decide) hk2
  have h2 : (10 : Nat) ^ 500 < 2 ^ 1900 := by decide +kernel
  have h3 := log_lt (i := i) (k := 1900) (by omega) (by decide)
  omega
/-- what repr gives of it -/
theorem repr_ok {L : Nat} {x : PV} {d : PyData} (e : x.dat = some d) (h : DOk L d) (l : L ≤ 16000000) : reprP x = some d.shown := by
  unfold reprP
  rw [e]
  have := h.sok.len
  have := h.depth
  exact if_pos ⟨h.show_, by omega, by unfold big; omega⟩
end Mi.Lib

set_option maxHeartbeats 0
namespace Mi.K
open PySem PySem.Spec PyProof.Rows L2
/-! ### the text as IR -/
def F25_law_kinds : Fn := ⟨false, 1, 2,
  (.cons (.set 1 (.lst .nil))
  (.cons (.ifs (.isi (.bw 0) [.xcls 0])
  (.cons (.app 1 (.tup (.cons (.k (.str "number")) (.cons (.at (.bw 0) "what") (.cons (.bi .repr (.cons (.at (.bw 0) "number") .nil)) .nil)))))
  .nil)
  .nil)
  (.cons (.ifs (.isi (.bw 0) [.xcls 2])
  (.cons (.app 1 (.tup (.cons (.k (.str "row")) (.cons (.at (.bw 0) "what") (.cons (.bi .repr (.cons (.at (.bw 0) "row") .nil)) .nil)))))
  .nil)
  .nil)
  (.cons (.ifs (.isi (.bw 0) [.xcls 8])
  (.cons (.app 1 (.tup (.cons (.k (.str "table")) (.cons (.at (.bw 0) "what") .nil))))
  .nil)
  .nil)
  (.cons (.ifs (.isi (.bw 0) [.xcls 7])
  (.cons (.app 1 (.tup (.cons (.k (.str "book")) (.cons (.at (.bw 0) "what") .nil))))
  .nil)
  .nil)
  (.cons (.ifs (.isi (.bw 0) [.xcls 6])
  (.cons (.app 1 (.tup (.cons (.k (.str "badname")) (.cons (.bi .repr (.cons (.at (.bw 0) "name") .nil)) .nil))))
  .nil)
  .nil)
  (.cons (.ifs (.isi (.bw 0) [.xcls 5])
  (.cons (.app 1 (.tup (.cons (.k (.str "text")) (.cons (.at (.bw 0) "line") (.cons (.at (.bw 0) "word") .nil)))))
  .nil)
  .nil)
  (.cons (.ifs (.isi (.bw 0) [.xcls 4])
  (.cons (.app 1 (.tup (.cons (.k (.str "place")) (.cons (.at (.bw 0) "what") (.cons (.bi .repr (.cons (.at (.bw 0) "index") .nil)) .nil)))))
  .nil)
  .nil)
  (.cons (.ret (.bin .add (.bw 1) (.call 26 (.cons (.sv 0) .nil))))
  .nil)))))))))⟩
def F26_law_more_kinds : Fn := ⟨false, 1, 2,
  (.cons (.set 1 (.lst .nil))
  (.cons (.ifs (.isi (.bw 0) [.xcls 15])
  (.cons (.app 1 (.tup (.cons (.k (.str "noname")) (.cons (.bi .repr (.cons (.at (.bw 0) "name") .nil)) .nil))))
  .nil)
  .nil)
  (.cons (.ifs (.isi (.bw 0) [.xcls 14])
  (.cons (.app 1 (.tup (.cons (.k (.str "taken")) (.cons (.bi .repr (.cons (.at (.bw 0) "name") .nil)) .nil))))
  .nil)
  .nil)
  (.cons (.ifs (.isi (.bw 0) [.xcls 1])
  (.cons (.app 1 (.tup (.cons (.k (.str "unlike")) (.cons (.at (.bw 0) "what") .nil))))
  .nil)
  .nil)
  (.cons (.ifs (.isi (.bw 0) [.xcls 13])
  (.cons (.app 1 (.tup (.cons (.k (.str "notthere")) (.cons (.at (.bw 0) "paper") .nil))))
  .nil)
  .nil)
  (.cons (.ifs (.isi (.bw 0) [.xcls 12])
  (.cons (.app 1 (.tup (.cons (.k (.str "many")) (.cons (.at (.bw 0) "what") (.cons (.at (.bw 0) "many") (.cons (.at (.bw 0) "limit") .nil))))))
  .nil)
  .nil)
  (.cons (.ifs (.isi (.bw 0) [.xcls 11])
  (.cons (.app 1 (.tup (.cons (.k (.str "kept")) (.cons (.at (.bw 0) "promise") (.cons (.at (.bw 0) "witness") .nil)))))
  .nil)
  .nil)
  (.cons (.ifs (.isi (.bw 0) [.xcls 10])
  (.cons (.app 1 (.tup (.cons (.k (.str "undo")) .nil)))
  .nil)
  .nil)
  (.cons (.ifs (.isi (.bw 0) [.xcls 9])
  (.cons (.app 1 (.tup (.cons (.k (.str "redo")) .nil)))
  .nil)
  .nil)
  (.cons (.ret (.mv 1))
  .nil))))))))))⟩
def F43_law_any_field : Fn := ⟨true, 1, 2,
  (.cons (.set 1 (.calli 17 0 (.cons (.k (.int 8)) .nil)))
  (.cons (.ifs (.cmp .eq (.bw 1) (.k (.int 0)))
  (.cons (.ret (.lst (.cons (.calli 17 0 (.cons (.k (.int 100)) .nil)) (.cons (.lst .nil) .nil))))
  .nil)
  .nil)
  (.cons (.ifs (.cmp .eq (.bw 1) (.k (.int 1)))
  (.cons (.ret (.tup (.cons (.k (.str "a")) (.cons (.tup (.cons (.calli 17 0 (.cons (.bin .pow (.k (.int 10)) (.k (.int 6))) .nil)) .nil)) .nil))))
  .nil)
  .nil)
  (.cons (.ret (.calli 18 0 (.cons (.lst (.cons (.k .non) (.cons (.k (.bl true)) (.cons (.k (.bl false)) (.cons (.k (.int 0)) (.cons (.neg (.k (.int 1))) (.cons (.k (.str "x")) (.cons (.k (.str "")) (.cons (.bin .pow (.k (.int 10)) (.k (.int 40))) (.cons (.dct [.inr "k"] (.cons (.k (.int 1)) .nil)) .nil)))))))))) .nil)))
  .nil))))⟩
def F44_law_raised : Fn := ⟨false, 4, 4,
  (.cons (.ifs (.cmp .eq (.bw 0) (.k (.int 0)))
  (.cons (.rais 0 (.cons (.sv 1) (.cons (.sv 2) .nil)))
  .nil)
  .nil)
  (.cons (.ifs (.cmp .eq (.bw 0) (.k (.int 1)))
  (.cons (.rais 2 (.cons (.sv 1) (.cons (.sv 2) .nil)))
  .nil)
  .nil)
  (.cons (.ifs (.cmp .eq (.bw 0) (.k (.int 2)))
  (.cons (.rais 8 (.cons (.sv 1) .nil))
  .nil)
  .nil)
  (.cons (.ifs (.cmp .eq (.bw 0) (.k (.int 3)))
  (.cons (.rais 7 (.cons (.sv 1) .nil))
  .nil)
  .nil)
  (.cons (.ifs (.cmp .eq (.bw 0) (.k (.int 4)))
  (.cons (.rais 6 (.cons (.sv 1) .nil))
  .nil)
  .nil)
  (.cons (.ifs (.cmp .eq (.bw 0) (.k (.int 5)))
  (.cons (.rais 5 (.cons (.sv 1) (.cons (.sv 2) .nil)))
  .nil)
  .nil)
  (.cons (.ifs (.cmp .eq (.bw 0) (.k (.int 6)))
  (.cons (.rais 4 (.cons (.sv 1) (.cons (.sv 2) .nil)))
  .nil)
  .nil)
  .nil)))))))⟩
def F45_law_raised_too : Fn := ⟨false, 4, 4,
  (.cons (.ifs (.cmp .eq (.bw 0) (.k (.int 7)))
  (.cons (.rais 15 (.cons (.sv 1) .nil))
  .nil)
  .nil)
  (.cons (.ifs (.cmp .eq (.bw 0) (.k (.int 8)))
  (.cons (.rais 14 (.cons (.sv 1) .nil))
  .nil)
  .nil)
  (.cons (.ifs (.cmp .eq (.bw 0) (.k (.int 9)))
  (.cons (.rais 1 (.cons (.sv 1) .nil))
  .nil)
  .nil)
  (.cons (.ifs (.cmp .eq (.bw 0) (.k (.int 10)))
  (.cons (.rais 13 (.cons (.sv 1) .nil))
  .nil)
  .nil)
  (.cons (.ifs (.cmp .eq (.bw 0) (.k (.int 11)))
  (.cons (.rais 12 (.cons (.sv 1) (.cons (.sv 2) (.cons (.sv 3) .nil))))
  .nil)
  .nil)
  (.cons (.ifs (.cmp .eq (.bw 0) (.k (.int 12)))
  (.cons (.rais 11 (.cons (.sv 1) (.cons (.sv 2) .nil)))
  .nil)
  .nil)
  (.cons (.ifs (.cmp .eq (.bw 0) (.k (.int 13)))
  (.cons (.rais 10 .nil)
  .nil)
  .nil)
  .nil)))))))⟩
def F46_law_raised_last : Fn := ⟨false, 4, 4,
  (.cons (.ifs (.cmp .eq (.bw 0) (.k (.int 14)))
  (.cons (.rais 9 .nil)
  .nil)
  .nil)
  .nil)⟩
def F47_law_told : Fn := ⟨false, 4, 6,
  (.cons (.set 4 (.k .non))
  (.cons (.tr (.cons (.ex (.call 44 (.cons (.sv 0) (.cons (.sv 1) (.cons (.sv 2) (.cons (.sv 3) .nil))))))
  (.cons (.ex (.call 45 (.cons (.sv 0) (.cons (.sv 1) (.cons (.sv 2) (.cons (.sv 3) .nil))))))
  (.cons (.ex (.call 46 (.cons (.sv 0) (.cons (.sv 1) (.cons (.sv 2) (.cons (.sv 3) .nil))))))
  .nil))) (.cons [3] (.some 5) (.cons (.ifs (.isi (.bw 5) [.ve])
  (.cons (.set 4 (.call 25 (.cons (.sv 5) .nil)))
  .nil)
  .nil)
  .nil) .nil))
  (.cons (.ret (.mv 4))
  .nil)))⟩
def F48_law_due_fields : Fn := ⟨false, 4, 5,
  (.cons (.set 4 (.lst (.cons (.k (.str "number")) (.cons (.k (.str "row")) (.cons (.k (.str "table")) (.cons (.k (.str "book")) (.cons (.k (.str "badname")) (.cons (.k (.str "text")) (.cons (.k (.str "place")) (.cons (.k (.str "noname")) .nil))))))))))
  (.cons (.set 4 (.bin .add (.bw 4) (.lst (.cons (.k (.str "taken")) (.cons (.k (.str "unlike")) (.cons (.k (.str "notthere")) (.cons (.k (.str "many")) (.cons (.k (.str "kept")) (.cons (.k (.str "undo")) (.cons (.k (.str "redo")) .nil))))))))))
  (.cons (.ifs (.cmp .mem (.bw 0) (.tup (.cons (.k (.int 0)) (.cons (.k (.int 1)) (.cons (.k (.int 6)) .nil)))))
  (.cons (.ret (.tup (.cons (.ix (.bw 4) (.bw 0)) (.cons (.sv 1) (.cons (.bi .repr (.cons (.bw 2) .nil)) .nil)))))
  .nil)
  .nil)
  (.cons (.ifs (.cmp .mem (.bw 0) (.tup (.cons (.k (.int 2)) (.cons (.k (.int 3)) (.cons (.k (.int 9)) (.cons (.k (.int 10)) .nil))))))
  (.cons (.ret (.tup (.cons (.ix (.bw 4) (.bw 0)) (.cons (.sv 1) .nil))))
  .nil)
  .nil)
  (.cons (.ifs (.cmp .mem (.bw 0) (.tup (.cons (.k (.int 4)) (.cons (.k (.int 7)) (.cons (.k (.int 8)) .nil)))))
  (.cons (.ret (.tup (.cons (.ix (.bw 4) (.bw 0)) (.cons (.bi .repr (.cons (.bw 1) .nil)) .nil))))
  .nil)
  .nil)
  (.cons (.ifs (.cmp .mem (.bw 0) (.tup (.cons (.k (.int 5)) (.cons (.k (.int 12)) .nil))))
  (.cons (.ret (.tup (.cons (.ix (.bw 4) (.bw 0)) (.cons (.sv 1) (.cons (.sv 2) .nil)))))
  .nil)
  .nil)
  (.cons (.ret (.ite (.cmp .eq (.bw 0) (.k (.int 11))) (.tup (.cons (.ix (.bw 4) (.bw 0)) (.cons (.sv 1) (.cons (.sv 2) (.cons (.sv 3) .nil))))) (.tup (.cons (.ix (.bw 4) (.bw 0)) .nil))))
  .nil)))))))⟩
def F49_law : Fn := ⟨false, 1, 7,
  (.cons (.set 1 (.call 16 (.cons (.sv 0) .nil)))
  (.cons (.for (.n 2) (.rng1 (.k (.int 15)))
  (.cons (.par [3, 4, 5] (.cons (.calli 43 1 .nil) (.cons (.calli 43 1 .nil) (.cons (.calli 43 1 .nil) .nil))))
  (.cons (.set 6 (.call 47 (.cons (.sv 2) (.cons (.sv 3) (.cons (.sv 4) (.cons (.sv 5) .nil))))))
  (.cons (.ifs (.or (.cmp .is (.bw 6) (.k .non)) (.or (.cmp .ne (.bi .len (.cons (.bw 6) .nil)) (.k (.int 1))) (.cmp .ne (.bi .repr (.cons (.ix (.bw 6) (.k (.int 0))) .nil)) (.bi .repr (.cons (.call 48 (.cons (.sv 2) (.cons (.sv 3) (.cons (.sv 4) (.cons (.sv 5) .nil))))) .nil)))))
  (.cons (.ret (.k (.bl false)))
  .nil)
  .nil)
  .nil))))
  (.cons (.ret (.k (.bl true)))
  .nil)))⟩
def conV : Nat → PV
  | _ => .non
def fldsV : Nat → List Str
  | 0 => ["what", "number"]
  | 1 => ["what"]
  | 2 => ["what", "row"]
  | 4 => ["what", "index"]
  | 5 => ["line", "word"]
  | 6 => ["name"]
  | 7 => ["what"]
  | 8 => ["what"]
  | 11 => ["promise", "witness"]
  | 12 => ["what", "many", "limit"]
  | 13 => ["paper"]
  | 14 => ["name"]
  | 15 => ["name"]
  | _ => []
def subV (C D : Nat) : Bool := C == D || D == 3
def initV : Nat → Nat
  | _ => 0
def Γ0 : G := { call := fun _ _ => .bad, con := conV, sub := subV, flds := fldsV, init := initV }
/-! ### where it stands -/
abbrev R : PySem.W.OpenRow := PySem.W.OpenLaw.row PySem.Challenge.rw_twobefore_k01_errors
def top (i : Nat) : Stmt := PySem.Challenge.pw_twobefore_k01_errors.main.body.getD i (.Pass ⟨0, 0, 0, 0⟩)
def within (s : Stmt) (i : Nat) : Stmt := match s with
  | .ClassDef _ _ _ b _ _ _ _ _ _ _ => b.getD i (.Pass ⟨0, 0, 0, 0⟩)
  | _ => .Pass ⟨0, 0, 0, 0⟩
def mkD (id : Nat) (x : Str) (i : Nat) (F : Fn) (N ps : List Str) : FD := ⟨id, (x, none), x, x, defArgs (top i), defBody (top i), defScope (top i), F, N, ps, true⟩
def mkM (id : Nat) (c x q : Str) (i j : Nat) (F : Fn) (N ps : List Str) : FD := ⟨id, (c, some x), x, q, defArgs (within (top i) j), defBody (within (top i) j), defScope (within (top i) j), F, N, ps, true⟩
def mkX (id : Nat) (c : Str) (fl : List Str) (i j : Nat) (N ps : List Str) : XD := ⟨id, c, fl, defArgs (within (top i) j), defBody (within (top i) j), defScope (within (top i) j), N, ps⟩
def xqual : Nat → Str
  | 0 => "BadNumber.__init__"
  | 1 => "Unlike.__init__"
  | 2 => "BadRow.__init__"
  | 4 => "NoPlace.__init__"
  | 5 => "BadText.__init__"
  | 6 => "BadName.__init__"
  | 7 => "BadBook.__init__"
  | 8 => "BadTable.__init__"
  | 11 => "NotKept.__init__"
  | 12 => "TooMany.__init__"
  | 13 => "NotThere.__init__"
  | 14 => "TakenName.__init__"
  | 15 => "NoName.__init__"
  | _ => ""
def hotsV : Nat → Bool
  | 25 => true
  | 26 => true
  | _ => false
def dat : Dat where
  globs := [("_law_draw", .fn 17), ("_law_more_kinds", .fn 26), ("_law_pick", .fn 18), ("_law_raised", .fn 44), ("_law_raised_too", .fn 45), ("_law_raised_last", .fn 46), ("_law_kinds", .fn 25), ("_law_pen", .fn 16), ("_law_any_field", .fn 43), ("_law_told", .fn 47), ("_law_due_fields", .fn 48), ("law", .fn 49), ("BadNumber", .xc 0), ("BadRow", .xc 2), ("BadTable", .xc 8), ("BadBook", .xc 7), ("BadName", .xc 6), ("BadText", .xc 5), ("NoPlace", .xc 4), ("NoName", .xc 15), ("TakenName", .xc 14), ("Unlike", .xc 1), ("NotThere", .xc 13), ("TooMany", .xc 12), ("NotKept", .xc 11), ("NothingToUndo", .xc 10), ("NothingToRedo", .xc 9), ("RowError", .xc 3)]
  blts := ["int", "list", "len", "isinstance", "repr", "ValueError", "range"]
  atts := ["what", "number", "row", "name", "line", "word", "index", "paper", "many", "limit", "promise", "witness"]
  tys := [.xcls 0, .xcls 2, .xcls 8, .xcls 7, .xcls 6, .xcls 5, .xcls 4, .xcls 15, .xcls 14, .xcls 1, .xcls 13, .xcls 12, .xcls 11, .xcls 10, .xcls 9, .ve]
  hot := false
  hots := fun _ => false
  clo := false
  nocs := fun _ => false
def LD : LawD where
  law := mkD 49 "law" 29 F49_law ["script", "pen", "kind", "one", "two", "three", "told"] ["script"]
  rest := [mkD 16 "_law_pen" 18 Mi.Lib.F16_law_pen ["script", "fold", "cell"] ["script"],
    mkD 17 "_law_draw" 19 Mi.Lib.F17_law_draw ["pen", "many", "cell", "digit", "blend"] ["pen", "many"],
    mkD 18 "_law_pick" 20 Mi.Lib.F18_law_pick ["pen", "some"] ["pen", "some"],
    mkD 25 "_law_kinds" 21 F25_law_kinds ["e", "found"] ["e"],
    mkD 26 "_law_more_kinds" 22 F26_law_more_kinds ["e", "found"] ["e"],
    mkD 43 "_law_any_field" 23 F43_law_any_field ["pen", "way"] ["pen"],
    mkD 44 "_law_raised" 24 F44_law_raised ["kind", "one", "two", "three"] ["kind", "one", "two", "three"],
    mkD 45 "_law_raised_too" 25 F45_law_raised_too ["kind", "one", "two", "three"] ["kind", "one", "two", "three"],
    mkD 46 "_law_raised_last" 26 F46_law_raised_last ["kind", "one", "two", "three"] ["kind", "one", "two", "three"],
    mkD 47 "_law_told" 27 F47_law_told ["kind", "one", "two", "three", "found", "e"] ["kind", "one", "two", "three"],
    mkD 48 "_law_due_fields" 28 F48_law_due_fields ["kind", "one", "two", "three", "words"] ["kind", "one", "two", "three"]]
  ins := []
  xs0 := [(3, "RowError"), (9, "NothingToRedo"), (10, "NothingToUndo")]
  xs1 := [mkX 0 "BadNumber" ["what", "number"] 2 0 ["self", "what", "number"] ["self", "what", "number"],
    mkX 1 "Unlike" ["what"] 11 0 ["self", "what"] ["self", "what"],
    mkX 2 "BadRow" ["what", "row"] 3 0 ["self", "what", "row"] ["self", "what", "row"],
    mkX 4 "NoPlace" ["what", "index"] 8 0 ["self", "what", "index"] ["self", "what", "index"],
    mkX 5 "BadText" ["line", "word"] 7 0 ["self", "line", "word"] ["self", "line", "word"],
    mkX 6 "BadName" ["name"] 6 0 ["self", "name"] ["self", "name"],
    mkX 7 "BadBook" ["what"] 5 0 ["self", "what"] ["self", "what"],
    mkX 8 "BadTable" ["what"] 4 0 ["self", "what"] ["self", "what"],
    mkX 11 "NotKept" ["promise", "witness"] 14 0 ["self", "promise", "witness"] ["self", "promise", "witness"],
    mkX 12 "TooMany" ["what", "many", "limit"] 13 0 ["self", "what", "many", "limit"] ["self", "what", "many", "limit"],
    mkX 13 "NotThere" ["paper"] 12 0 ["self", "paper"] ["self", "paper"],
    mkX 14 "TakenName" ["name"] 10 0 ["self", "name"] ["self", "name"],
    mkX 15 "NoName" ["name"] 9 0 ["self", "name"] ["self", "name"]]
  xqual := xqual
  dat := dat
  cal := ⟨hotsV, fun _ => false⟩
def loose : List Str := ["RowError", "BadNumber", "BadRow", "BadTable", "BadBook", "BadName", "BadText", "NoPlace", "NoName", "TakenName", "Unlike", "NotThere", "TooMany", "NotKept", "NothingToUndo", "NothingToRedo", "_law_pen", "_law_draw", "_law_pick", "_law_kinds", "_law_more_kinds", "_law_any_field", "_law_raised", "_law_raised_too", "_law_raised_last", "_law_told", "_law_due_fields"]
theorem chk : LD.chk Γ0 = true := by kernel_rfl
theorem run (w : World) : HandSHeadRun.RunEq R (PySem.W.view R.prog [29]) (hookL 4 LD Γ0) (obL 4 LD Γ0) 40000 loose w := by
  intro os
  kernel_rfl
end Mi.K

set_option maxHeartbeats 0
namespace Mi.K
open PySem Mi.Lib
section
def sh (x : PV) : Str := match x.dat with
  | some d => d.shown
  | none => ""
/-- a field's value -/
structure Fld (x : PV) : Prop where
  dat : ∃ d, x.dat = some d ∧ DOk 600 d ∧ d.depth ≤ 10
  clo : x.noClo = true
  exc : x.noExc = true
theorem Fld.repr {x : PV} (h : Fld x) : reprP x = some (sh x) := by
  obtain ⟨d, e, h1, _⟩ := h.dat
  rw [repr_ok e h1 (by decide)]
  unfold sh
  rw [e]
def T : Nat → PV → PV → PV → PV
  | 0, x, y, z => .tup [.str "number", x, .str (sh y)]
  | 1, x, y, z => .tup [.str "row", x, .str (sh y)]
  | 2, x, y, z => .tup [.str "table", x]
  | 3, x, y, z => .tup [.str "book", x]
  | 4, x, y, z => .tup [.str "badname", .str (sh x)]
  | 5, x, y, z => .tup [.str "text", x, y]
  | 6, x, y, z => .tup [.str "place", x, .str (sh y)]
  | 7, x, y, z => .tup [.str "noname", .str (sh x)]
  | 8, x, y, z => .tup [.str "taken", .str (sh x)]
  | 9, x, y, z => .tup [.str "unlike", x]
  | 10, x, y, z => .tup [.str "notthere", x]
  | 11, x, y, z => .tup [.str "many", x, y, z]
  | 12, x, y, z => .tup [.str "kept", x, y]
  | 13, x, y, z => .tup [.str "undo"]
  | 14, x, y, z => .tup [.str "redo"]
  | _, _, _, _ => .non
variable {Γ : G} {j : Nat} {x y z : PV}
theorem more0 (hs : Γ.sub = subV) (hf : Γ.flds = fldsV) (hx : Fld x) (hy : Fld y) (hz : Fld z) : callAt Γ LD.tab (j + 1) 26 [.exc 0 [("number", y), ("what", x)]] = .val true (.lst []) none := by
  rw [call_some (show LD.tab 26 = some F26_law_more_kinds from rfl)]
  simp [F26_law_more_kinds, Fn.run, Fn.start, evSs, evS, evE, evEs, evHs, setOwn, kdP, Kd.isa, hs, hf, subV, fldsV, boolP, keepAll, valsOf, noCloAll, Fn.fin, Fn.ioOf, cloO, PV.noClo, PV.noClo.noCloL, PV.noClo.noCloF, PV.noExc, PV.noExc.noExcL, Sl.noExc, Fw.noExc, Bi.ap, resF, resO, resB, flOf, E.io, E.io.ioL, lstO, big, Op.ap, Cp.ap, eqvP_int, outR, hx.clo, hy.clo, hz.clo, hx.exc, hy.exc, hz.exc, hx.repr, hy.repr, hz.repr]
theorem kinds0 (hs : Γ.sub = subV) (hf : Γ.flds = fldsV) (hx : Fld x) (hy : Fld y) (hz : Fld z) : callAt Γ LD.tab (j + 2) 25 [.exc 0 [("number", y), ("what", x)]] = .val true (.lst [.tup [.str "number", x, .str (sh y)]]) none := by
  have a0 : attrP "what" (.exc 0 [("number", y), ("what", x)]) = some x := rfl
  have a1 : attrP "number" (.exc 0 [("number", y), ("what", x)]) = some y := rfl
  rw [call_some (show LD.tab 25 = some F25_law_kinds from rfl)]
  have m := more0 (j := j) hs hf hx hy hz
  simp [F25_law_kinds, Fn.run, Fn.start, evSs, evS, evE, evEs, evHs, setOwn, kdP, Kd.isa, hs, hf, subV, fldsV, boolP, keepAll, valsOf, noCloAll, Fn.fin, Fn.ioOf, cloO, PV.noClo, PV.noClo.noCloL, PV.noClo.noCloF, PV.noExc, PV.noExc.noExcL, Sl.noExc, Fw.noExc, Bi.ap, resF, resO, resB, flOf, E.io, E.io.ioL, lstO, big, Op.ap, Cp.ap, eqvP_int, outR, hx.clo, hy.clo, hz.clo, hx.exc, hy.exc, hz.exc, hx.repr, hy.repr, hz.repr, m, a0, a1]
theorem r44_0 (hs : Γ.sub = subV) (hf : Γ.flds = fldsV) (hx : Fld x) (hy : Fld y) (hz : Fld z) : callAt Γ LD.tab (j + 1) 44 [.int 0, x, y, z] = .exc 0 [("number", y), ("what", x)] none := by
  rw [call_some (show LD.tab 44 = some F44_law_raised from rfl)]
  simp [F44_law_raised, Fn.run, Fn.start, evSs, evS, evE, evEs, evHs, setOwn, kdP, Kd.isa, hs, hf, subV, fldsV, boolP, keepAll, valsOf, noCloAll, Fn.fin, Fn.ioOf, cloO, PV.noClo, PV.noClo.noCloL, PV.noClo.noCloF, PV.noExc, PV.noExc.noExcL, Sl.noExc, Fw.noExc, Bi.ap, resF, resO, resB, flOf, E.io, E.io.ioL, lstO, big, Op.ap, Cp.ap, eqvP_int, outR, hx.clo, hy.clo, hz.clo, hx.exc, hy.exc, hz.exc, hx.repr, hy.repr, hz.repr]
theorem told0 (hs : Γ.sub = subV) (hf : Γ.flds = fldsV) (hx : Fld x) (hy : Fld y) (hz : Fld z) : callAt Γ LD.tab (j + 3) 47 [.int 0, x, y, z] = .val true (.lst [.tup [.str "number", x, .str (sh y)]]) none := by
  rw [call_some (show LD.tab 47 = some F47_law_told from rfl)]
  have m := kinds0 (j := j) hs hf hx hy hz
  have r44 := r44_0 (j := j + 1) hs hf hx hy hz
  simp [F47_law_told, Fn.run, Fn.start, evSs, evS, evE, evEs, evHs, setOwn, kdP, Kd.isa, hs, hf, subV, fldsV, boolP, keepAll, valsOf, noCloAll, Fn.fin, Fn.ioOf, cloO, PV.noClo, PV.noClo.noCloL, PV.noClo.noCloF, PV.noExc, PV.noExc.noExcL, Sl.noExc, Fw.noExc, Bi.ap, resF, resO, resB, flOf, E.io, E.io.ioL, lstO, big, Op.ap, Cp.ap, eqvP_int, outR, hx.clo, hy.clo, hz.clo, hx.exc, hy.exc, hz.exc, hx.repr, hy.repr, hz.repr, m, r44]
theorem due0 (hs : Γ.sub = subV) (hf : Γ.flds = fldsV) (hx : Fld x) (hy : Fld y) (hz : Fld z) : callAt Γ LD.tab (j + 1) 48 [.int 0, x, y, z] = .val false (.tup [.str "number", x, .str (sh y)]) none := by
  rw [call_some (show LD.tab 48 = some F48_law_due_fields from rfl)]
  have m0 : memP (.int 0) (.tup [.int 0, .int 1, .int 6]) = some true := rfl
  have m1 : memP (.int 0) (.tup [.int 2, .int 3, .int 9, .int 10]) = some false := rfl
  have m2 : memP (.int 0) (.tup [.int 4, .int 7, .int 8]) = some false := rfl
  have m3 : memP (.int 0) (.tup [.int 5, .int 12]) = some false := rfl
  simp [F48_law_due_fields, Fn.run, Fn.start, evSs, evS, evE, evEs, evHs, setOwn, kdP, Kd.isa, hs, hf, subV, fldsV, boolP, keepAll, valsOf, noCloAll, Fn.fin, Fn.ioOf, cloO, PV.noClo, PV.noClo.noCloL, PV.noClo.noCloF, PV.noExc, PV.noExc.noExcL, Sl.noExc, Fw.noExc, Bi.ap, resF, resO, resB, flOf, E.io, E.io.ioL, lstO, big, Op.ap, Cp.ap, eqvP_int, outR, hx.clo, hy.clo, hz.clo, hx.exc, hy.exc, hz.exc, hx.repr, hy.repr, hz.repr, m0, m1, m2, m3, ixP, place]
theorem more1 (hs : Γ.sub = subV) (hf : Γ.flds = fldsV) (hx : Fld x) (hy : Fld y) (hz : Fld z) : callAt Γ LD.tab (j + 1) 26 [.exc 2 [("row", y), ("what", x)]] = .val true (.lst []) none := by
  rw [call_some (show LD.tab 26 = some F26_law_more_kinds from rfl)]
  simp [F26_law_more_kinds, Fn.run, Fn.start, evSs, evS, evE, evEs, evHs, setOwn, kdP, Kd.isa, hs, hf, subV, fldsV, boolP, keepAll, valsOf, noCloAll, Fn.fin, Fn.ioOf, cloO, PV.noClo, PV.noClo.noCloL, PV.noClo.noCloF, PV.noExc, PV.noExc.noExcL, Sl.noExc, Fw.noExc, Bi.ap, resF, resO, resB, flOf, E.io, E.io.ioL, lstO, big, Op.ap, Cp.ap, eqvP_int, outR, hx.clo, hy.clo, hz.clo, hx.exc, hy.exc, hz.exc, hx.repr, hy.repr, hz.repr]
theorem kinds1 (hs : Γ.sub = subV) (hf : Γ.flds = fldsV) (hx : Fld x) (hy : Fld y) (hz : Fld z) : callAt Γ LD.tab (j + 2) 25 [.exc 2 [("row", y), ("what", x)]] = .val true (.lst [.tup [.str "row", x, .str (sh y)]]) none := by
  have a0 : attrP "what" (.exc 2 [("row", y), ("what", x)]) = some x := rfl
  have a1 : attrP "row" (.exc 2 [("row", y), ("what", x)]) = some y := rfl
  rw [call_some (show LD.tab 25 = some F25_law_kinds from rfl)]
  have m := more1 (j := j) hs hf hx hy hz
  simp [F25_law_kinds, Fn.run, Fn.start, evSs, evS, evE, evEs, evHs, setOwn, kdP, Kd.isa, hs, hf, subV, fldsV, boolP, keepAll, valsOf, noCloAll, Fn.fin, Fn.ioOf, cloO, PV.noClo, PV.noClo.noCloL, PV.noClo.noCloF, PV.noExc, PV.noExc.noExcL, Sl.noExc, Fw.noExc, Bi.ap, resF, resO, resB, flOf, E.io, E.io.ioL, lstO, big, Op.ap, Cp.ap, eqvP_int, outR, hx.clo, hy.clo, hz.clo, hx.exc, hy.exc, hz.exc, hx.repr, hy.repr, hz.repr, m, a0, a1]
theorem r44_1 (hs : Γ.sub = subV) (hf : Γ.flds = fldsV) (hx : Fld x) (hy : Fld y) (hz : Fld z) : callAt Γ LD.tab (j + 1) 44 [.int 1, x, y, z] = .exc 2 [("row", y), ("what", x)] none := by
  rw [call_some (show LD.tab 44 = some F44_law_raised from rfl)]
  simp [F44_law_raised, Fn.run, Fn.start, evSs, evS, evE, evEs, evHs, setOwn, kdP, Kd.isa, hs, hf, subV, fldsV, boolP, keepAll, valsOf, noCloAll, Fn.fin, Fn.ioOf, cloO, PV.noClo, PV.noClo.noCloL, PV.noClo.noCloF, PV.noExc, PV.noExc.noExcL, Sl.noExc, Fw.noExc, Bi.ap, resF, resO, resB, flOf, E.io, E.io.ioL, lstO, big, Op.ap, Cp.ap, eqvP_int, outR, hx.clo, hy.clo, hz.clo, hx.exc, hy.exc, hz.exc, hx.repr, hy.repr, hz.repr]
theorem told1 (hs : Γ.sub = subV) (hf : Γ.flds = fldsV) (hx : Fld x) (hy : Fld y) (hz : Fld z) : callAt Γ LD.tab (j + 3) 47 [.int 1, x, y, z] = .val true (.lst [.tup [.str "row", x, .str (sh y)]]) none := by
  rw [call_some (show LD.tab 47 = some F47_law_told from rfl)]
  have m := kinds1 (j := j) hs hf hx hy hz
  have r44 := r44_1 (j := j + 1) hs hf hx hy hz
  simp [F47_law_told, Fn.run, Fn.start, evSs, evS, evE, evEs, evHs, setOwn, kdP, Kd.isa, hs, hf, subV, fldsV, boolP, keepAll, valsOf, noCloAll, Fn.fin, Fn.ioOf, cloO, PV.noClo, PV.noClo.noCloL, PV.noClo.noCloF, PV.noExc, PV.noExc.noExcL, Sl.noExc, Fw.noExc, Bi.ap, resF, resO, resB, flOf, E.io, E.io.ioL, lstO, big, Op.ap, Cp.ap, eqvP_int, outR, hx.clo, hy.clo, hz.clo, hx.exc, hy.exc, hz.exc, hx.repr, hy.repr, hz.repr, m, r44]
theorem due1 (hs : Γ.sub = subV) (hf : Γ.flds = fldsV) (hx : Fld x) (hy : Fld y) (hz : Fld z) : callAt Γ LD.tab (j + 1) 48 [.int 1, x, y, z] = .val false (.tup [.str "row", x, .str (sh y)]) none := by
  rw [call_some (show LD.tab 48 = some F48_law_due_fields from rfl)]
  have m0 : memP (.int 1) (.tup [.int 0, .int 1, .int 6]) = some true := rfl
  have m1 : memP (.int 1) (.tup [.int 2, .int 3, .int 9, .int 10]) = some false := rfl
  have m2 : memP (.int 1) (.tup [.int 4, .int 7, .int 8]) = some false := rfl
  have m3 : memP (.int 1) (.tup [.int 5, .int 12]) = some false := rfl
  simp [F48_law_due_fields, Fn.run, Fn.start, evSs, evS, evE, evEs, evHs, setOwn, kdP, Kd.isa, hs, hf, subV, fldsV, boolP, keepAll, valsOf, noCloAll, Fn.fin, Fn.ioOf, cloO, PV.noClo, PV.noClo.noCloL, PV.noClo.noCloF, PV.noExc, PV.noExc.noExcL, Sl.noExc, Fw.noExc, Bi.ap, resF, resO, resB, flOf, E.io, E.io.ioL, lstO, big, Op.ap, Cp.ap, eqvP_int, outR, hx.clo, hy.clo, hz.clo, hx.exc, hy.exc, hz.exc, hx.repr, hy.repr, hz.repr, m0, m1, m2, m3, ixP, place]
theorem more2 (hs : Γ.sub = subV) (hf : Γ.flds = fldsV) (hx : Fld x) (hy : Fld y) (hz : Fld z) : callAt Γ LD.tab (j + 1) 26 [.exc 8 [("what", x)]] = .val true (.lst []) none := by
  rw [call_some (show LD.tab 26 = some F26_law_more_kinds from rfl)]
  simp [F26_law_more_kinds, Fn.run, Fn.start, evSs, evS, evE, evEs, evHs, setOwn, kdP, Kd.isa, hs, hf, subV, fldsV, boolP, keepAll, valsOf, noCloAll, Fn.fin, Fn.ioOf, cloO, PV.noClo, PV.noClo.noCloL, PV.noClo.noCloF, PV.noExc, PV.noExc.noExcL, Sl.noExc, Fw.noExc, Bi.ap, resF, resO, resB, flOf, E.io, E.io.ioL, lstO, big, Op.ap, Cp.ap, eqvP_int, outR, hx.clo, hy.clo, hz.clo, hx.exc, hy.exc, hz.exc, hx.repr, hy.repr, hz.repr]
theorem kinds2 (hs : Γ.sub = subV) (hf : Γ.flds = fldsV) (hx : Fld x) (hy : Fld y) (hz : Fld z) : callAt Γ LD.tab (j + 2) 25 [.exc 8 [("what", x)]] = .val true (.lst [.tup [.str "table", x]]) none := by
  have a0 : attrP "what" (.exc 8 [("what", x)]) = some x := rfl
  rw [call_some (show LD.tab 25 = some F25_law_kinds from rfl)]
  have m := more2 (j := j) hs hf hx hy hz
  simp [F25_law_kinds, Fn.run, Fn.start, evSs, evS, evE, evEs, evHs, setOwn, kdP, Kd.isa, hs, hf, subV, fldsV, boolP, keepAll, valsOf, noCloAll, Fn.fin, Fn.ioOf, cloO, PV.noClo, PV.noClo.noCloL, PV.noClo.noCloF, PV.noExc, PV.noExc.noExcL, Sl.noExc, Fw.noExc, Bi.ap, resF, resO, resB, flOf, E.io, E.io.ioL, lstO, big, Op.ap, Cp.ap, eqvP_int, outR, hx.clo, hy.clo, hz.clo, hx.exc, hy.exc, hz.exc, hx.repr, hy.repr, hz.repr, m, a0]
theorem r44_2 (hs : Γ.sub = subV) (hf : Γ.flds = fldsV) (hx : Fld x) (hy : Fld y) (hz : Fld z) : callAt Γ LD.tab (j + 1) 44 [.int 2, x, y, z] = .exc 8 [("what", x)] none := by
  rw [call_some (show LD.tab 44 = some F44_law_raised from rfl)]
  simp [F44_law_raised, Fn.run, Fn.start, evSs, evS, evE, evEs, evHs, setOwn, kdP, Kd.isa, hs, hf, subV, fldsV, boolP, keepAll, valsOf, noCloAll, Fn.fin, Fn.ioOf, cloO, PV.noClo, PV.noClo.noCloL, PV.noClo.noCloF, PV.noExc, PV.noExc.noExcL, Sl.noExc, Fw.noExc, Bi.ap, resF, resO, resB, flOf, E.io, E.io.ioL, lstO, big, Op.ap, Cp.ap, eqvP_int, outR, hx.clo, hy.clo, hz.clo, hx.exc, hy.exc, hz.exc, hx.repr, hy.repr, hz.repr]
theorem told2 (hs : Γ.sub = subV) (hf : Γ.flds = fldsV) (hx : Fld x) (hy : Fld y) (hz : Fld z) : callAt Γ LD.tab (j + 3) 47 [.int 2, x, y, z] = .val true (.lst [.tup [.str "table", x]]) none := by
  rw [call_some (show LD.tab 47 = some F47_law_told from rfl)]
  have m := kinds2 (j := j) hs hf hx hy hz
  have r44 := r44_2 (j := j + 1) hs hf hx hy hz
  simp [F47_law_told, Fn.run, Fn.start, evSs, evS, evE, evEs, evHs, setOwn, kdP, Kd.isa, hs, hf, subV, fldsV, boolP, keepAll, valsOf, noCloAll, Fn.fin, Fn.ioOf, cloO, PV.noClo, PV.noClo.noCloL, PV.noClo.noCloF, PV.noExc, PV.noExc.noExcL, Sl.noExc, Fw.noExc, Bi.ap, resF, resO, resB, flOf, E.io, E.io.ioL, lstO, big, Op.ap, Cp.ap, eqvP_int, outR, hx.clo, hy.clo, hz.clo, hx.exc, hy.exc, hz.exc, hx.repr, hy.repr, hz.repr, m, r44]
theorem due2 (hs : Γ.sub = subV) (hf : Γ.flds = fldsV) (hx : Fld x) (hy : Fld y) (hz : Fld z) : callAt Γ LD.tab (j + 1) 48 [.int 2, x, y, z] = .val false (.tup [.str "table", x]) none := by
  rw [call_some (show LD.tab 48 = some F48_law_due_fields from rfl)]
  have m0 : memP (.int 2) (.tup [.int 0, .int 1, .int 6]) = some false := rfl
  have m1 : memP (.int 2) (.tup [.int 2, .int 3, .int 9, .int 10]) = some true := rfl
  have m2 : memP (.int 2) (.tup [.int 4, .int 7, .int 8]) = some false := rfl
  have m3 : memP (.int 2) (.tup [.int 5, .int 12]) = some false := rfl
  simp [F48_law_due_fields, Fn.run, Fn.start, evSs, evS, evE, evEs, evHs, setOwn, kdP, Kd.isa, hs, hf, subV, fldsV, boolP, keepAll, valsOf, noCloAll, Fn.fin, Fn.ioOf, cloO, PV.noClo, PV.noClo.noCloL, PV.noClo.noCloF, PV.noExc, PV.noExc.noExcL, Sl.noExc, Fw.noExc, Bi.ap, resF, resO, resB, flOf, E.io, E.io.ioL, lstO, big, Op.ap, Cp.ap, eqvP_int, outR, hx.clo, hy.clo, hz.clo, hx.exc, hy.exc, hz.exc, hx.repr, hy.repr, hz.repr, m0, m1, m2, m3, ixP, place]
theorem more3 (hs : Γ.sub = subV) (hf : Γ.flds = fldsV) (hx : Fld x) (hy : Fld y) (hz : Fld z) : callAt Γ LD.tab (j + 1) 26 [.exc 7 [("what", x)]] = .val true (.lst []) none := by
  rw [call_some (show LD.tab 26 = some F26_law_more_kinds from rfl)]
  simp [F26_law_more_kinds, Fn.run, Fn.start, evSs, evS, evE, evEs, evHs, setOwn, kdP, Kd.isa, hs, hf, subV, fldsV, boolP, keepAll, valsOf, noCloAll, Fn.fin, Fn.ioOf, cloO, PV.noClo, PV.noClo.noCloL, PV.noClo.noCloF, PV.noExc, PV.noExc.noExcL, Sl.noExc, Fw.noExc, Bi.ap, resF, resO, resB, flOf, E.io, E.io.ioL, lstO, big, Op.ap, Cp.ap, eqvP_int, outR, hx.clo, hy.clo, hz.clo, hx.exc, hy.exc, hz.exc, hx.repr, hy.repr, hz.repr]
theorem kinds3 (hs : Γ.sub = subV) (hf : Γ.flds = fldsV) (hx : Fld x) (hy : Fld y) (hz : Fld z) : callAt Γ LD.tab (j + 2) 25 [.exc 7 [("what", x)]] = .val true (.lst [.tup [.str "book", x]]) none := by
  have a0 : attrP "what" (.exc 7 [("what", x)]) = some x := rfl
  rw [call_some (show LD.tab 25 = some F25_law_kinds from rfl)]
  have m := more3 (j := j) hs hf hx hy hz
  simp [F25_law_kinds, Fn.run, Fn.start, evSs, evS, evE, evEs, evHs, setOwn, kdP, Kd.isa, hs, hf, subV, fldsV, boolP, keepAll, valsOf, noCloAll, Fn.fin, Fn.ioOf, cloO, PV.noClo, PV.noClo.noCloL, PV.noClo.noCloF, PV.noExc, PV.noExc.noExcL, Sl.noExc, Fw.noExc, Bi.ap, resF, resO, resB, flOf, E.io, E.io.ioL, lstO, big, Op.ap, Cp.ap, eqvP_int, outR, hx.clo, hy.clo, hz.clo, hx.exc, hy.exc, hz.exc, hx.repr, hy.repr, hz.repr, m, a0]
theorem r44_3 (hs : Γ.sub = subV) (hf : Γ.flds = fldsV) (hx : Fld x) (hy : Fld y) (hz : Fld z) : callAt Γ LD.tab (j + 1) 44 [.int 3, x, y, z] = .exc 7 [("what", x)] none := by
  rw [call_some (show LD.tab 44 = some F44_law_raised from rfl)]
  simp [F44_law_raised, Fn.run, Fn.start, evSs, evS, evE, evEs, evHs, setOwn, kdP, Kd.isa, hs, hf, subV, fldsV, boolP, keepAll, valsOf, noCloAll, Fn.fin, Fn.ioOf, cloO, PV.noClo, PV.noClo.noCloL, PV.noClo.noCloF, PV.noExc, PV.noExc.noExcL, Sl.noExc, Fw.noExc, Bi.ap, resF, resO, resB, flOf, E.io, E.io.ioL, lstO, big, Op.ap, Cp.ap, eqvP_int, outR, hx.clo, hy.clo, hz.clo, hx.exc, hy.exc, hz.exc, hx.repr, hy.repr, hz.repr]
theorem told3 (hs : Γ.sub = subV) (hf : Γ.flds = fldsV) (hx : Fld x) (hy : Fld y) (hz : Fld z) : callAt Γ LD.tab (j + 3) 47 [.int 3, x, y, z] = .val true (.lst [.tup [.str "book", x]]) none := by
  rw [call_some (show LD.tab 47 = some F47_law_told from rfl)]
  have m := kinds3 (j := j) hs hf hx hy hz
  have r44 := r44_3 (j := j + 1) hs hf hx hy hz
  simp [F47_law_told, Fn.run, Fn.start, evSs, evS, evE, evEs, evHs, setOwn, kdP, Kd.isa, hs, hf, subV, fldsV, boolP, keepAll, valsOf, noCloAll, Fn.fin, Fn.ioOf, cloO, PV.noClo, PV.noClo.noCloL, PV.noClo.noCloF, PV.noExc, PV.noExc.noExcL, Sl.noExc, Fw.noExc, Bi.ap, resF, resO, resB, flOf, E.io, E.io.ioL, lstO, big, Op.ap, Cp.ap, eqvP_int, outR, hx.clo, hy.clo, hz.clo, hx.exc, hy.exc, hz.exc, hx.repr, hy.repr, hz.repr, m, r44]
theorem due3 (hs : Γ.sub = subV) (hf : Γ.flds = fldsV) (hx : Fld x) (hy : Fld y) (hz : Fld z) : callAt Γ LD.tab (j + 1) 48 [.int 3, x, y, z] = .val false (.tup [.str "book", x]) none := by
  rw [call_some (show LD.tab 48 = some F48_law_due_fields from rfl)]
  have m0 : memP (.int 3) (.tup [.int 0, .int 1, .int 6]) = some false := rfl
  have m1 : memP (.int 3) (.tup [.int 2, .int 3, .int 9, .int 10]) = some true := rfl
  have m2 : memP (.int 3) (.tup [.int 4, .int 7, .int 8]) = some false := rfl
  have m3 : memP (.int 3) (.tup [.int 5, .int 12]) = some false := rfl
  simp [F48_law_due_fields, Fn.run, Fn.start, evSs, evS, evE, evEs, evHs, setOwn, kdP, Kd.isa, hs, hf, subV, fldsV, boolP, keepAll, valsOf, noCloAll, Fn.fin, Fn.ioOf, cloO, PV.noClo, PV.noClo.noCloL, PV.noClo.noCloF, PV.noExc, PV.noExc.noExcL, Sl.noExc, Fw.noExc, Bi.ap, resF, resO, resB, flOf, E.io, E.io.ioL, lstO, big, Op.ap, Cp.ap, eqvP_int, outR, hx.clo, hy.clo, hz.clo, hx.exc, hy.exc, hz.exc, hx.repr, hy.repr, hz.repr, m0, m1, m2, m3, ixP, place]
theorem more4 (hs : Γ.sub = subV) (hf : Γ.flds = fldsV) (hx : Fld x) (hy : Fld y) (hz : Fld z) : callAt Γ LD.tab (j + 1) 26 [.exc 6 [("name", x)]] = .val true (.lst []) none := by
  rw [call_some (show LD.tab 26 = some F26_law_more_kinds from rfl)]
  simp [F26_law_more_kinds, Fn.run, Fn.start, evSs, evS, evE, evEs, evHs, setOwn, kdP, Kd.isa, hs, hf, subV, fldsV, boolP, keepAll, valsOf, noCloAll, Fn.fin, Fn.ioOf, cloO, PV.noClo, PV.noClo.noCloL, PV.noClo.noCloF, PV.noExc, PV.noExc.noExcL, Sl.noExc, Fw.noExc, Bi.ap, resF, resO, resB, flOf, E.io, E.io.ioL, lstO, big, Op.ap, Cp.ap, eqvP_int, outR, hx.clo, hy.clo, hz.clo, hx.exc, hy.exc, hz.exc, hx.repr, hy.repr, hz.repr]
theorem kinds4 (hs : Γ.sub = subV) (hf : Γ.flds = fldsV) (hx : Fld x) (hy : Fld y) (hz : Fld z) : callAt Γ LD.tab (j + 2) 25 [.exc 6 [("name", x)]] = .val true (.lst [.tup [.str "badname", .str (sh x)]]) none := by
  have a0 : attrP "name" (.exc 6 [("name", x)]) = some x := rfl
  rw [call_some (show LD.tab 25 = some F25_law_kinds from rfl)]
  have m := more4 (j := j) hs hf hx hy hz
  simp [F25_law_kinds, Fn.run, Fn.start, evSs, evS, evE, evEs, evHs, setOwn, kdP, Kd.isa, hs, hf, subV, fldsV, boolP, keepAll, valsOf, noCloAll, Fn.fin, Fn.ioOf, cloO, PV.noClo, PV.noClo.noCloL, PV.noClo.noCloF, PV.noExc, PV.noExc.noExcL, Sl.noExc, Fw.noExc, Bi.ap, resF, resO, resB, flOf, E.io, E.io.ioL, lstO, big, Op.ap, Cp.ap, eqvP_int, outR, hx.clo, hy.clo, hz.clo, hx.exc, hy.exc, hz.exc, hx.repr, hy.repr, hz.repr, m, a0]
theorem r44_4 (hs : Γ.sub = subV) (hf : Γ.flds = fldsV) (hx : Fld x) (hy : Fld y) (hz : Fld z) : callAt Γ LD.tab (j + 1) 44 [.int 4, x, y, z] = .exc 6 [("name", x)] none := by
  rw [call_some (show LD.tab 44 = some F44_law_raised from rfl)]
  simp [F44_law_raised, Fn.run, Fn.start, evSs, evS, evE, evEs, evHs, setOwn, kdP, Kd.isa, hs, hf, subV, fldsV, boolP, keepAll, valsOf, noCloAll, Fn.fin, Fn.ioOf, cloO, PV.noClo, PV.noClo.noCloL, PV.noClo.noCloF, PV.noExc, PV.noExc.noExcL, Sl.noExc, Fw.noExc, Bi.ap, resF, resO, resB, flOf, E.io, E.io.ioL, lstO, big, Op.ap, Cp.ap, eqvP_int, outR, hx.clo, hy.clo, hz.clo, hx.exc, hy.exc, hz.exc, hx.repr, hy.repr, hz.repr]
theorem told4 (hs : Γ.sub = subV) (hf : Γ.flds = fldsV) (hx : Fld x) (hy : Fld y) (hz : Fld z) : callAt Γ LD.tab (j + 3) 47 [.int 4, x, y, z] = .val true (.lst [.tup [.str "badname", .str (sh x)]]) none := by
  rw [call_some (show LD.tab 47 = some F47_law_told from rfl)]
  have m := kinds4 (j := j) hs hf hx hy hz
  have r44 := r44_4 (j := j + 1) hs hf hx hy hz
  simp [F47_law_told, Fn.run, Fn.start, evSs, evS, evE, evEs, evHs, setOwn, kdP, Kd.isa, hs, hf, subV, fldsV, boolP, keepAll, valsOf, noCloAll, Fn.fin, Fn.ioOf, cloO, PV.noClo, PV.noClo.noCloL, PV.noClo.noCloF, PV.noExc, PV.noExc.noExcL, Sl.noExc, Fw.noExc, Bi.ap, resF, resO, resB, flOf, E.io, E.io.ioL, lstO, big, Op.ap, Cp.ap, eqvP_int, outR, hx.clo, hy.clo, hz.clo, hx.exc, hy.exc, hz.exc, hx.repr, hy.repr, hz.repr, m, r44]
theorem due4 (hs : Γ.sub = subV) (hf : Γ.flds = fldsV) (hx : Fld x) (hy : Fld y) (hz : Fld z) : callAt Γ LD.tab (j + 1) 48 [.int 4, x, y, z] = .val false (.tup [.str "badname", .str (sh x)]) none := by
  rw [call_some (show LD.tab 48 = some F48_law_due_fields from rfl)]
  have m0 : memP (.int 4) (.tup [.int 0, .int 1, .int 6]) = some false := rfl
  have m1 : memP (.int 4) (.tup [.int 2, .int 3, .int 9, .int 10]) = some false := rfl
  have m2 : memP (.int 4) (.tup [.int 4, .int 7, .int 8]) = some true := rfl
  have m3 : memP (.int 4) (.tup [.int 5, .int 12]) = some false := rfl
  simp [F48_law_due_fields, Fn.run, Fn.start, evSs, evS, evE, evEs, evHs, setOwn, kdP, Kd.isa, hs, hf, subV, fldsV, boolP, keepAll, valsOf, noCloAll, Fn.fin, Fn.ioOf, cloO, PV.noClo, PV.noClo.noCloL, PV.noClo.noCloF, PV.noExc, PV.noExc.noExcL, Sl.noExc, Fw.noExc, Bi.ap, resF, resO, resB, flOf, E.io, E.io.ioL, lstO, big, Op.ap, Cp.ap, eqvP_int, outR, hx.clo, hy.clo, hz.clo, hx.exc, hy.exc, hz.exc, hx.repr, hy.repr, hz.repr, m0, m1, m2, m3, ixP, place]
theorem more5 (hs : Γ.sub = subV) (hf : Γ.flds = fldsV) (hx : Fld x) (hy : Fld y) (hz : Fld z) : callAt Γ LD.tab (j + 1) 26 [.exc 5 [("word", y), ("line", x)]] = .val true (.lst []) none := by
  rw [call_some (show LD.tab 26 = some F26_law_more_kinds from rfl)]
  simp [F26_law_more_kinds, Fn.run, Fn.start, evSs, evS, evE, evEs, evHs, setOwn, kdP, Kd.isa, hs, hf, subV, fldsV, boolP, keepAll, valsOf, noCloAll, Fn.fin, Fn.ioOf, cloO, PV.noClo, PV.noClo.noCloL, PV.noClo.noCloF, PV.noExc, PV.noExc.noExcL, Sl.noExc, Fw.noExc, Bi.ap, resF, resO, resB, flOf, E.io, E.io.ioL, lstO, big, Op.ap, Cp.ap, eqvP_int, outR, hx.clo, hy.clo, hz.clo, hx.exc, hy.exc, hz.exc, hx.repr, hy.repr, hz.repr]
theorem kinds5 (hs : Γ.sub = subV) (hf : Γ.flds = fldsV) (hx : Fld x) (hy : Fld y) (hz : Fld z) : callAt Γ LD.tab (j + 2) 25 [.exc 5 [("word", y), ("line", x)]] = .val true (.lst [.tup [.str "text", x, y]]) none := by
  have a0 : attrP "line" (.exc 5 [("word", y), ("line", x)]) = some x := rfl
  have a1 : attrP "word" (.exc 5 [("word", y), ("line", x)]) = some y := rfl
  rw [call_some (show LD.tab 25 = some F25_law_kinds from rfl)]
  have m := more5 (j := j) hs hf hx hy hz
  simp [F25_law_kinds, Fn.run, Fn.start, evSs, evS, evE, evEs, evHs, setOwn, kdP, Kd.isa, hs, hf, subV, fldsV, boolP, keepAll, valsOf, noCloAll, Fn.fin, Fn.ioOf, cloO, PV.noClo, PV.noClo.noCloL, PV.noClo.noCloF, PV.noExc, PV.noExc.noExcL, Sl.noExc, Fw.noExc, Bi.ap, resF, resO, resB, flOf, E.io, E.io.ioL, lstO, big, Op.ap, Cp.ap, eqvP_int, outR, hx.clo, hy.clo, hz.clo, hx.exc, hy.exc, hz.exc, hx.repr, hy.repr, hz.repr, m, a0, a1]
theorem r44_5 (hs : Γ.sub = subV) (hf : Γ.flds = fldsV) (hx : Fld x) (hy : Fld y) (hz : Fld z) : callAt Γ LD.tab (j + 1) 44 [.int 5, x, y, z] = .exc 5 [("word", y), ("line", x)] none := by
  rw [call_some (show LD.tab 44 = some F44_law_raised from rfl)]
  simp [F44_law_raised, Fn.run, Fn.start, evSs, evS, evE, evEs, evHs, setOwn, kdP, Kd.isa, hs, hf, subV, fldsV, boolP, keepAll, valsOf, noCloAll, Fn.fin, Fn.ioOf, cloO, PV.noClo, PV.noClo.noCloL, PV.noClo.noCloF, PV.noExc, PV.noExc.noExcL, Sl.noExc, Fw.noExc, Bi.ap, resF, resO, resB, flOf, E.io, E.io.ioL, lstO, big, Op.ap, Cp.ap, eqvP_int, outR, hx.clo, hy.clo, hz.clo, hx.exc, hy.exc, hz.exc, hx.repr, hy.repr, hz.repr]
theorem told5 (hs : Γ.sub = subV) (hf : Γ.flds = fldsV) (hx : Fld x) (hy : Fld y) (hz : Fld z) : callAt Γ LD.tab (j + 3) 47 [.int 5, x, y, z] = .val true (.lst [.tup [.str "text", x, y]]) none := by
  rw [call_some (show LD.tab 47 = some F47_law_told from rfl)]
  have m := kinds5 (j := j) hs hf hx hy hz
  have r44 := r44_5 (j := j + 1) hs hf hx hy hz
  simp [F47_law_told, Fn.run, Fn.start, evSs, evS, evE, evEs, evHs, setOwn, kdP, Kd.isa, hs, hf, subV, fldsV, boolP, keepAll, valsOf, noCloAll, Fn.fin, Fn.ioOf, cloO, PV.noClo, PV.noClo.noCloL, PV.noClo.noCloF, PV.noExc, PV.noExc.noExcL, Sl.noExc, Fw.noExc, Bi.ap, resF, resO, resB, flOf, E.io, E.io.ioL, lstO, big, Op.ap, Cp.ap, eqvP_int, outR, hx.clo, hy.clo, hz.clo, hx.exc, hy.exc, hz.exc, hx.repr, hy.repr, hz.repr, m, r44]
theorem due5 (hs : Γ.sub = subV) (hf : Γ.flds = fldsV) (hx : Fld x) (hy : Fld y) (hz : Fld z) : callAt Γ LD.tab (j + 1) 48 [.int 5, x, y, z] = .val false (.tup [.str "text", x, y]) none := by
  rw [call_some (show LD.tab 48 = some F48_law_due_fields from rfl)]
  have m0 : memP (.int 5) (.tup [.int 0, .int 1, .int 6]) = some false := rfl
  have m1 : memP (.int 5) (.tup [.int 2, .int 3, .int 9, .int 10]) = some false := rfl
  have m2 : memP (.int 5) (.tup [.int 4, .int 7, .int 8]) = some false := rfl
  have m3 : memP (.int 5) (.tup [.int 5, .int 12]) = some true := rfl
  simp [F48_law_due_fields, Fn.run, Fn.start, evSs, evS, evE, evEs, evHs, setOwn, kdP, Kd.isa, hs, hf, subV, fldsV, boolP, keepAll, valsOf, noCloAll, Fn.fin, Fn.ioOf, cloO, PV.noClo, PV.noClo.noCloL, PV.noClo.noCloF, PV.noExc, PV.noExc.noExcL, Sl.noExc, Fw.noExc, Bi.ap, resF, resO, resB, flOf, E.io, E.io.ioL, lstO, big, Op.ap, Cp.ap, eqvP_int, outR, hx.clo, hy.clo, hz.clo, hx.exc, hy.exc, hz.exc, hx.repr, hy.repr, hz.repr, m0, m1, m2, m3, ixP, place]
theorem more6 (hs : Γ.sub = subV) (hf : Γ.flds = fldsV) (hx : Fld x) (hy : Fld y) (hz : Fld z) : callAt Γ LD.tab (j + 1) 26 [.exc 4 [("index", y), ("what", x)]] = .val true (.lst []) none := by
  rw [call_some (show LD.tab 26 = some F26_law_more_kinds from rfl)]
  simp [F26_law_more_kinds, Fn.run, Fn.start, evSs, evS, evE, evEs, evHs, setOwn, kdP, Kd.isa, hs, hf, subV, fldsV, boolP, keepAll, valsOf, noCloAll, Fn.fin, Fn.ioOf, cloO, PV.noClo, PV.noClo.noCloL, PV.noClo.noCloF, PV.noExc, PV.noExc.noExcL, Sl.noExc, Fw.noExc, Bi.ap, resF, resO, resB, flOf, E.io, E.io.ioL, lstO, big, Op.ap, Cp.ap, eqvP_int, outR, hx.clo, hy.clo, hz.clo, hx.exc, hy.exc, hz.exc, hx.repr, hy.repr, hz.repr]
theorem kinds6 (hs : Γ.sub = subV) (hf : Γ.flds = fldsV) (hx : Fld x) (hy : Fld y) (hz : Fld z) : callAt Γ LD.tab (j + 2) 25 [.exc 4 [("index", y), ("what", x)]] = .val true (.lst [.tup [.str "place", x, .str (sh y)]]) none := by
  have a0 : attrP "what" (.exc 4 [("index", y), ("what", x)]) = some x := rfl
  have a1 : attrP "index" (.exc 4 [("index", y), ("what", x)]) = some y := rfl
  rw [call_some (show LD.tab 25 = some F25_law_kinds from rfl)]
  have m := more6 (j := j) hs hf hx hy hz
  simp [F25_law_kinds, Fn.run, Fn.start, evSs, evS, evE, evEs, evHs, setOwn, kdP, Kd.isa, hs, hf, subV, fldsV, boolP, keepAll, valsOf, noCloAll, Fn.fin, Fn.ioOf, cloO, PV.noClo, PV.noClo.noCloL, PV.noClo.noCloF, PV.noExc, PV.noExc.noExcL, Sl.noExc, Fw.noExc, Bi.ap, resF, resO, resB, flOf, E.io, E.io.ioL, lstO, big, Op.ap, Cp.ap, eqvP_int, outR, hx.clo, hy.clo, hz.clo, hx.exc, hy.exc, hz.exc, hx.repr, hy.repr, hz.repr, m, a0, a1]
theorem r44_6 (hs : Γ.sub = subV) (hf : Γ.flds = fldsV) (hx : Fld x) (hy : Fld y) (hz : Fld z) : callAt Γ LD.tab (j + 1) 44 [.int 6, x, y, z] = .exc 4 [("index", y), ("what", x)] none := by
  rw [call_some (show LD.tab 44 = some F44_law_raised from rfl)]
  simp [F44_law_raised, Fn.run, Fn.start, evSs, evS, evE, evEs, evHs, setOwn, kdP, Kd.isa, hs, hf, subV, fldsV, boolP, keepAll, valsOf, noCloAll, Fn.fin, Fn.ioOf, cloO, PV.noClo, PV.noClo.noCloL, PV.noClo.noCloF, PV.noExc, PV.noExc.noExcL, Sl.noExc, Fw.noExc, Bi.ap, resF, resO, resB, flOf, E.io, E.io.ioL, lstO, big, Op.ap, Cp.ap, eqvP_int, outR, hx.clo, hy.clo, hz.clo, hx.exc, hy.exc, hz.exc, hx.repr, hy.repr, hz.repr]
theorem told6 (hs : Γ.sub = subV) (hf : Γ.flds = fldsV) (hx : Fld x) (hy : Fld y) (hz : Fld z) : callAt Γ LD.tab (j + 3) 47 [.int 6, x, y, z] = .val true (.lst [.tup [.str "place", x, .str (sh y)]]) none := by
  rw [call_some (show LD.tab 47 = some F47_law_told from rfl)]
  have m := kinds6 (j := j) hs hf hx hy hz
  have r44 := r44_6 (j := j + 1) hs hf hx hy hz
  simp [F47_law_told, Fn.run, Fn.start, evSs, evS, evE, evEs, evHs, setOwn, kdP, Kd.isa, hs, hf, subV, fldsV, boolP, keepAll, valsOf, noCloAll, Fn.fin, Fn.ioOf, cloO, PV.noClo, PV.noClo.noCloL, PV.noClo.noCloF, PV.noExc, PV.noExc.noExcL, Sl.noExc, Fw.noExc, Bi.ap, resF, resO, resB, flOf, E.io, E.io.ioL, lstO, big, Op.ap, Cp.ap, eqvP_int, outR, hx.clo, hy.clo, hz.clo, hx.exc, hy.exc, hz.exc, hx.repr, hy.repr, hz.repr, m, r44]
theorem due6 (hs : Γ.sub = subV) (hf : Γ.flds = fldsV) (hx : Fld x) (hy : Fld y) (hz : Fld z) : callAt Γ LD.tab (j + 1) 48 [.int 6, x, y, z] = .val false (.tup [.str "place", x, .str (sh y)]) none := by
  rw [call_some (show LD.tab 48 = some F48_law_due_fields from rfl)]
  have m0 : memP (.int 6) (.tup [.int 0, .int 1, .int 6]) = some true := rfl
  have m1 : memP (.int 6) (.tup [.int 2, .int 3, .int 9, .int 10]) = some false := rfl
  have m2 : memP (.int 6) (.tup [.int 4, .int 7, .int 8]) = some false := rfl
  have m3 : memP (.int 6) (.tup [.int 5, .int 12]) = some false := rfl
  simp [F48_law_due_fields, Fn.run, Fn.start, evSs, evS, evE, evEs, evHs, setOwn, kdP, Kd.isa, hs, hf, subV, fldsV, boolP, keepAll, valsOf, noCloAll, Fn.fin, Fn.ioOf, cloO, PV.noClo, PV.noClo.noCloL, PV.noClo.noCloF, PV.noExc, PV.noExc.noExcL, Sl.noExc, Fw.noExc, Bi.ap, resF, resO, resB, flOf, E.io, E.io.ioL, lstO, big, Op.ap, Cp.ap, eqvP_int, outR, hx.clo, hy.clo, hz.clo, hx.exc, hy.exc, hz.exc, hx.repr, hy.repr, hz.repr, m0, m1, m2, m3, ixP, place]
theorem more7 (hs : Γ.sub = subV) (hf : Γ.flds = fldsV) (hx : Fld x) (hy : Fld y) (hz : Fld z) : callAt Γ LD.tab (j + 1) 26 [.exc 15 [("name", x)]] = .val true (.lst [.tup [.str "noname", .str (sh x)]]) none := by
  have a0 : attrP "name" (.exc 15 [("name", x)]) = some x := rfl
  rw [call_some (show LD.tab 26 = some F26_law_more_kinds from rfl)]
  simp [F26_law_more_kinds, Fn.run, Fn.start, evSs, evS, evE, evEs, evHs, setOwn, kdP, Kd.isa, hs, hf, subV, fldsV, boolP, keepAll, valsOf, noCloAll, Fn.fin, Fn.ioOf, cloO, PV.noClo, PV.noClo.noCloL, PV.noClo.noCloF, PV.noExc, PV.noExc.noExcL, Sl.noExc, Fw.noExc, Bi.ap, resF, resO, resB, flOf, E.io, E.io.ioL, lstO, big, Op.ap, Cp.ap, eqvP_int, outR, hx.clo, hy.clo, hz.clo, hx.exc, hy.exc, hz.exc, hx.repr, hy.repr, hz.repr, a0]
theorem kinds7 (hs : Γ.sub = subV) (hf : Γ.flds = fldsV) (hx : Fld x) (hy : Fld y) (hz : Fld z) : callAt Γ LD.tab (j + 2) 25 [.exc 15 [("name", x)]] = .val true (.lst [.tup [.str "noname", .str (sh x)]]) none := by
  rw [call_some (show LD.tab 25 = some F25_law_kinds from rfl)]
  have m := more7 (j := j) hs hf hx hy hz
  simp [F25_law_kinds, Fn.run, Fn.start, evSs, evS, evE, evEs, evHs, setOwn, kdP, Kd.isa, hs, hf, subV, fldsV, boolP, keepAll, valsOf, noCloAll, Fn.fin, Fn.ioOf, cloO, PV.noClo, PV.noClo.noCloL, PV.noClo.noCloF, PV.noExc, PV.noExc.noExcL, Sl.noExc, Fw.noExc, Bi.ap, resF, resO, resB, flOf, E.io, E.io.ioL, lstO, big, Op.ap, Cp.ap, eqvP_int, outR, hx.clo, hy.clo, hz.clo, hx.exc, hy.exc, hz.exc, hx.repr, hy.repr, hz.repr, m]
theorem r44_7 (hs : Γ.sub = subV) (hf : Γ.flds = fldsV) (hx : Fld x) (hy : Fld y) (hz : Fld z) : callAt Γ LD.tab (j + 1) 44 [.int 7, x, y, z] = .val false .non none := by
  rw [call_some (show LD.tab 44 = some F44_law_raised from rfl)]
  simp [F44_law_raised, Fn.run, Fn.start, evSs, evS, evE, evEs, evHs, setOwn, kdP, Kd.isa, hs, hf, subV, fldsV, boolP, keepAll, valsOf, noCloAll, Fn.fin, Fn.ioOf, cloO, PV.noClo, PV.noClo.noCloL, PV.noClo.noCloF, PV.noExc, PV.noExc.noExcL, Sl.noExc, Fw.noExc, Bi.ap, resF, resO, resB, flOf, E.io, E.io.ioL, lstO, big, Op.ap, Cp.ap, eqvP_int, outR, hx.clo, hy.clo, hz.clo, hx.exc, hy.exc, hz.exc, hx.repr, hy.repr, hz.repr]
theorem r45_7 (hs : Γ.sub = subV) (hf : Γ.flds = fldsV) (hx : Fld x) (hy : Fld y) (hz : Fld z) : callAt Γ LD.tab (j + 1) 45 [.int 7, x, y, z] = .exc 15 [("name", x)] none := by
  rw [call_some (show LD.tab 45 = some F45_law_raised_too from rfl)]
  simp [F45_law_raised_too, Fn.run, Fn.start, evSs, evS, evE, evEs, evHs, setOwn, kdP, Kd.isa, hs, hf, subV, fldsV, boolP, keepAll, valsOf, noCloAll, Fn.fin, Fn.ioOf, cloO, PV.noClo, PV.noClo.noCloL, PV.noClo.noCloF, PV.noExc, PV.noExc.noExcL, Sl.noExc, Fw.noExc, Bi.ap, resF, resO, resB, flOf, E.io, E.io.ioL, lstO, big, Op.ap, Cp.ap, eqvP_int, outR, hx.clo, hy.clo, hz.clo, hx.exc, hy.exc, hz.exc, hx.repr, hy.repr, hz.repr]
theorem told7 (hs : Γ.sub = subV) (hf : Γ.flds = fldsV) (hx : Fld x) (hy : Fld y) (hz : Fld z) : callAt Γ LD.tab (j + 3) 47 [.int 7, x, y, z] = .val true (.lst [.tup [.str "noname", .str (sh x)]]) none := by
  rw [call_some (show LD.tab 47 = some F47_law_told from rfl)]
  have m := kinds7 (j := j) hs hf hx hy hz
  have r44 := r44_7 (j := j + 1) hs hf hx hy hz
  have r45 := r45_7 (j := j + 1) hs hf hx hy hz
  simp [F47_law_told, Fn.run, Fn.start, evSs, evS, evE, evEs, evHs, setOwn, kdP, Kd.isa, hs, hf, subV, fldsV, boolP, keepAll, valsOf, noCloAll, Fn.fin, Fn.ioOf, cloO, PV.noClo, PV.noClo.noCloL, PV.noClo.noCloF, PV.noExc, PV.noExc.noExcL, Sl.noExc, Fw.noExc, Bi.ap, resF, resO, resB, flOf, E.io, E.io.ioL, lstO, big, Op.ap, Cp.ap, eqvP_int, outR, hx.clo, hy.clo, hz.clo, hx.exc, hy.exc, hz.exc, hx.repr, hy.repr, hz.repr, m, r44, r45]
theorem due7 (hs : Γ.sub = subV) (hf : Γ.flds = fldsV) (hx : Fld x) (hy : Fld y) (hz : Fld z) : callAt Γ LD.tab (j + 1) 48 [.int 7, x, y, z] = .val false (.tup [.str "noname", .str (sh x)]) none := by
  rw [call_some (show LD.tab 48 = some F48_law_due_fields from rfl)]
  have m0 : memP (.int 7) (.tup [.int 0, .int 1, .int 6]) = some false := rfl
  have m1 : memP (.int 7) (.tup [.int 2, .int 3, .int 9, .int 10]) = some false := rfl
  have m2 : memP (.int 7) (.tup [.int 4, .int 7, .int 8]) = some true := rfl
  have m3 : memP (.int 7) (.tup [.int 5, .int 12]) = some false := rfl
  simp [F48_law_due_fields, Fn.run, Fn.start, evSs, evS, evE, evEs, evHs, setOwn, kdP, Kd.isa, hs, hf, subV, fldsV, boolP, keepAll, valsOf, noCloAll, Fn.fin, Fn.ioOf, cloO, PV.noClo, PV.noClo.noCloL, PV.noClo.noCloF, PV.noExc, PV.noExc.noExcL, Sl.noExc, Fw.noExc, Bi.ap, resF, resO, resB, flOf, E.io, E.io.ioL, lstO, big, Op.ap, Cp.ap, eqvP_int, outR, hx.clo, hy.clo, hz.clo, hx.exc, hy.exc, hz.exc, hx.repr, hy.repr, hz.repr, m0, m1, m2, m3, ixP, place]
theorem more8 (hs : Γ.sub = subV) (hf : Γ.flds = fldsV) (hx : Fld x) (hy : Fld y) (hz : Fld z) : callAt Γ LD.tab (j + 1) 26 [.exc 14 [("name", x)]] = .val true (.lst [.tup [.str "taken", .str (sh x)]]) none := by
  have a0 : attrP "name" (.exc 14 [("name", x)]) = some x := rfl
  rw [call_some (show LD.tab 26 = some F26_law_more_kinds from rfl)]
  simp [F26_law_more_kinds, Fn.run, Fn.start, evSs, evS, evE, evEs, evHs, setOwn, kdP, Kd.isa, hs, hf, subV, fldsV, boolP, keepAll, valsOf, noCloAll, Fn.fin, Fn.ioOf, cloO, PV.noClo, PV.noClo.noCloL, PV.noClo.noCloF, PV.noExc, PV.noExc.noExcL, Sl.noExc, Fw.noExc, Bi.ap, resF, resO, resB, flOf, E.io, E.io.ioL, lstO, big, Op.ap, Cp.ap, eqvP_int, outR, hx.clo, hy.clo, hz.clo, hx.exc, hy.exc, hz.exc, hx.repr, hy.repr, hz.repr, a0]
theorem kinds8 (hs : Γ.sub = subV) (hf : Γ.flds = fldsV) (hx : Fld x) (hy : Fld y) (hz : Fld z) : callAt Γ LD.tab (j + 2) 25 [.exc 14 [("name", x)]] = .val true (.lst [.tup [.str "taken", .str (sh x)]]) none := by
  rw [call_some (show LD.tab 25 = some F25_law_kinds from rfl)]
  have m := more8 (j := j) hs hf hx hy hz
  simp [F25_law_kinds, Fn.run, Fn.start, evSs, evS, evE, evEs, evHs, setOwn, kdP, Kd.isa, hs, hf, subV, fldsV, boolP, keepAll, valsOf, noCloAll, Fn.fin, Fn.ioOf, cloO, PV.noClo, PV.noClo.noCloL, PV.noClo.noCloF, PV.noExc, PV.noExc.noExcL, Sl.noExc, Fw.noExc, Bi.ap, resF, resO, resB, flOf, E.io, E.io.ioL, lstO, big, Op.ap, Cp.ap, eqvP_int, outR, hx.clo, hy.clo, hz.clo, hx.exc, hy.exc, hz.exc, hx.repr, hy.repr, hz.repr, m]
theorem r44_8 (hs : Γ.sub = subV) (hf : Γ.flds = fldsV) (hx : Fld x) (hy : Fld y) (hz : Fld z) : callAt Γ LD.tab (j + 1) 44 [.int 8, x, y, z] = .val false .non none := by
  rw [call_some (show LD.tab 44 = some F44_law_raised from rfl)]
  simp [F44_law_raised, Fn.run, Fn.start, evSs, evS, evE, evEs, evHs, setOwn, kdP, Kd.isa, hs, hf, subV, fldsV, boolP, keepAll, valsOf, noCloAll, Fn.fin, Fn.ioOf, cloO, PV.noClo, PV.noClo.noCloL, PV.noClo.noCloF, PV.noExc, PV.noExc.noExcL, Sl.noExc, Fw.noExc, Bi.ap, resF, resO, resB, flOf, E.io, E.io.ioL, lstO, big, Op.ap, Cp.ap, eqvP_int, outR, hx.clo, hy.clo, hz.clo, hx.exc, hy.exc, hz.exc, hx.repr, hy.repr, hz.repr]
theorem r45_8 (hs : Γ.sub = subV) (hf : Γ.flds = fldsV) (hx : Fld x) (hy : Fld y) (hz : Fld z) : callAt Γ LD.tab (j + 1) 45 [.int 8, x, y, z] = .exc 14 [("name", x)] none := by
  rw [call_some (show LD.tab 45 = some F45_law_raised_too from rfl)]
  simp [F45_law_raised_too, Fn.run, Fn.start, evSs, evS, evE, evEs, evHs, setOwn, kdP, Kd.isa, hs, hf, subV, fldsV, boolP, keepAll, valsOf, noCloAll, Fn.fin, Fn.ioOf, cloO, PV.noClo, PV.noClo.noCloL, PV.noClo.noCloF, PV.noExc, PV.noExc.noExcL, Sl.noExc, Fw.noExc, Bi.ap, resF, resO, resB, flOf, E.io, E.io.ioL, lstO, big, Op.ap, Cp.ap, eqvP_int, outR, hx.clo, hy.clo, hz.clo, hx.exc, hy.exc, hz.exc, hx.repr, hy.repr, hz.repr]
theorem told8 (hs : Γ.sub = subV) (hf : Γ.flds = fldsV) (hx : Fld x) (hy : Fld y) (hz : Fld z) : callAt Γ LD.tab (j + 3) 47 [.int 8, x, y, z] = .val true (.lst [.tup [.str "taken", .str (sh x)]]) none := by
  rw [call_some (show LD.tab 47 = some F47_law_told from rfl)]
  have m := kinds8 (j := j) hs hf hx hy hz
  have r44 := r44_8 (j := j + 1) hs hf hx hy hz
  have r45 := r45_8 (j := j + 1) hs hf hx hy hz
  simp [F47_law_told, Fn.run, Fn.start, evSs, evS, evE, evEs, evHs, setOwn, kdP, Kd.isa, hs, hf, subV, fldsV, boolP, keepAll, valsOf, noCloAll, Fn.fin, Fn.ioOf, cloO, PV.noClo, PV.noClo.noCloL, PV.noClo.noCloF, PV.noExc, PV.noExc.noExcL, Sl.noExc, Fw.noExc, Bi.ap, resF, resO, resB, flOf, E.io, E.io.ioL, lstO, big, Op.ap, Cp.ap, eqvP_int, outR, hx.clo, hy.clo, hz.clo, hx.exc, hy.exc, hz.exc, hx.repr, hy.repr, hz.repr, m, r44, r45]
theorem due8 (hs : Γ.sub = subV) (hf : Γ.flds = fldsV) (hx : Fld x) (hy : Fld y) (hz : Fld z) : callAt Γ LD.tab (j + 1) 48 [.int 8, x, y, z] = .val false (.tup [.str "taken", .str (sh x)]) none := by
  rw [call_some (show LD.tab 48 = some F48_law_due_fields from rfl)]
  have m0 : memP (.int 8) (.tup [.int 0, .int 1, .int 6]) = some false := rfl
  have m1 : memP (.int 8) (.tup [.int 2, .int 3, .int 9, .int 10]) = some false := rfl
  have m2 : memP (.int 8) (.tup [.int 4, .int 7, .int 8]) = some true := rfl
  have m3 : memP (.int 8) (.tup [.int 5, .int 12]) = some false := rfl
  simp [F48_law_due_fields, Fn.run, Fn.start, evSs, evS, evE, evEs, evHs, setOwn, kdP, Kd.isa, hs, hf, subV, fldsV, boolP, keepAll, valsOf, noCloAll, Fn.fin, Fn.ioOf, cloO, PV.noClo, PV.noClo.noCloL, PV.noClo.noCloF, PV.noExc, PV.noExc.noExcL, Sl.noExc, Fw.noExc, Bi.ap, resF, resO, resB, flOf, E.io, E.io.ioL, lstO, big, Op.ap, Cp.ap, eqvP_int, outR, hx.clo, hy.clo, hz.clo, hx.exc, hy.exc, hz.exc, hx.repr, hy.repr, hz.repr, m0, m1, m2, m3, ixP, place]
theorem more9 (hs : Γ.sub = subV) (hf : Γ.flds = fldsV) (hx : Fld x) (hy : Fld y) (hz : Fld z) : callAt Γ LD.tab (j + 1) 26 [.exc 1 [("what", x)]] = .val true (.lst [.tup [.str "unlike", x]]) none := by
  have a0 : attrP "what" (.exc 1 [("what", x)]) = some x := rfl
  rw [call_some (show LD.tab 26 = some F26_law_more_kinds from rfl)]
  simp [F26_law_more_kinds, Fn.run, Fn.start, evSs, evS, evE, evEs, evHs, setOwn, kdP, Kd.isa, hs, hf, subV, fldsV, boolP, keepAll, valsOf, noCloAll, Fn.fin, Fn.ioOf, cloO, PV.noClo, PV.noClo.noCloL, PV.noClo.noCloF, PV.noExc, PV.noExc.noExcL, Sl.noExc, Fw.noExc, Bi.ap, resF, resO, resB, flOf, E.io, E.io.ioL, lstO, big, Op.ap, Cp.ap, eqvP_int, outR, hx.clo, hy.clo, hz.clo, hx.exc, hy.exc, hz.exc, hx.repr, hy.repr, hz.repr, a0]
theorem kinds9 (hs : Γ.sub = subV) (hf : Γ.flds = fldsV) (hx : Fld x) (hy : Fld y) (hz : Fld z) : callAt Γ LD.tab (j + 2) 25 [.exc 1 [("what", x)]] = .val true (.lst [.tup [.str "unlike", x]]) none := by
  rw [call_some (show LD.tab 25 = some F25_law_kinds from rfl)]
  have m := more9 (j := j) hs hf hx hy hz
  simp [F25_law_kinds, Fn.run, Fn.start, evSs, evS, evE, evEs, evHs, setOwn, kdP, Kd.isa, hs, hf, subV, fldsV, boolP, keepAll, valsOf, noCloAll, Fn.fin, Fn.ioOf, cloO, PV.noClo, PV.noClo.noCloL, PV.noClo.noCloF, PV.noExc, PV.noExc.noExcL, Sl.noExc, Fw.noExc, Bi.ap, resF, resO, resB, flOf, E.io, E.io.ioL, lstO, big, Op.ap, Cp.ap, eqvP_int, outR, hx.clo, hy.clo, hz.clo, hx.exc, hy.exc, hz.exc, hx.repr, hy.repr, hz.repr, m]
theorem r44_9 (hs : Γ.sub = subV) (hf : Γ.flds = fldsV) (hx : Fld x) (hy : Fld y) (hz : Fld z) : callAt Γ LD.tab (j + 1) 44 [.int 9, x, y, z] = .val false .non none := by
  rw [call_some (show LD.tab 44 = some F44_law_raised from rfl)]
  simp [F44_law_raised, Fn.run, Fn.start, evSs, evS, evE, evEs, evHs, setOwn, kdP, Kd.isa, hs, hf, subV, fldsV, boolP, keepAll, valsOf, noCloAll, Fn.fin, Fn.ioOf, cloO, PV.noClo, PV.noClo.noCloL, PV.noClo.noCloF, PV.noExc, PV.noExc.noExcL, Sl.noExc, Fw.noExc, Bi.ap, resF, resO, resB, flOf, E.io, E.io.ioL, lstO, big, Op.ap, Cp.ap, eqvP_int, outR, hx.clo, hy.clo, hz.clo, hx.exc, hy.exc, hz.exc, hx.repr, hy.repr, hz.repr]
theorem r45_9 (hs : Γ.sub = subV) (hf : Γ.flds = fldsV) (hx : Fld x) (hy : Fld y) (hz : Fld z) : callAt Γ LD.tab (j + 1) 45 [.int 9, x, y, z] = .exc 1 [("what", x)] none := by
  rw [call_some (show LD.tab 45 = some F45_law_raised_too from rfl)]
  simp [F45_law_raised_too, Fn.run, Fn.start, evSs, evS, evE, evEs, evHs, setOwn, kdP, Kd.isa, hs, hf, subV, fldsV, boolP, keepAll, valsOf, noCloAll, Fn.fin, Fn.ioOf, cloO, PV.noClo, PV.noClo.noCloL, PV.noClo.noCloF, PV.noExc, PV.noExc.noExcL, Sl.noExc, Fw.noExc, Bi.ap, resF, resO, resB, flOf, E.io, E.io.ioL, lstO, big, Op.ap, Cp.ap, eqvP_int, outR, hx.clo, hy.clo, hz.clo, hx.exc, hy.exc, hz.exc, hx.repr, hy.repr, hz.repr]
theorem told9 (hs : Γ.sub = subV) (hf : Γ.flds = fldsV) (hx : Fld x) (hy : Fld y) (hz : Fld z) : callAt Γ LD.tab (j + 3) 47 [.int 9, x, y, z] = .val true (.lst [.tup [.str "unlike", x]]) none := by
  rw [call_some (show LD.tab 47 = some F47_law_told from rfl)]
  have m := kinds9 (j := j) hs hf hx hy hz
  have r44 := r44_9 (j := j + 1) hs hf hx hy hz
  have r45 := r45_9 (j := j + 1) hs hf hx hy hz
  simp [F47_law_told, Fn.run, Fn.start, evSs, evS, evE, evEs, evHs, setOwn, kdP, Kd.isa, hs, hf, subV, fldsV, boolP, keepAll, valsOf, noCloAll, Fn.fin, Fn.ioOf, cloO, PV.noClo, PV.noClo.noCloL, PV.noClo.noCloF, PV.noExc, PV.noExc.noExcL, Sl.noExc, Fw.noExc, Bi.ap, resF, resO, resB, flOf, E.io, E.io.ioL, lstO, big, Op.ap, Cp.ap, eqvP_int, outR, hx.clo, hy.clo, hz.clo, hx.exc, hy.exc, hz.exc, hx.repr, hy.repr, hz.repr, m, r44, r45]
theorem due9 (hs : Γ.sub = subV) (hf : Γ.flds = fldsV) (hx : Fld x) (hy : Fld y) (hz : Fld z) : callAt Γ LD.tab (j + 1) 48 [.int 9, x, y, z] = .val false (.tup [.str "unlike", x]) none := by
  rw [call_some (show LD.tab 48 = some F48_law_due_fields from rfl)]
  have m0 : memP (.int 9) (.tup [.int 0, .int 1, .int 6]) = some false := rfl
  have m1 : memP (.int 9) (.tup [.int 2, .int 3, .int 9, .int 10]) = some true := rfl
  have m2 : memP (.int 9) (.tup [.int 4, .int 7, .int 8]) = some false := rfl
  have m3 : memP (.int 9) (.tup [.int 5, .int 12]) = some false := rfl
  simp [F48_law_due_fields, Fn.run, Fn.start, evSs, evS, evE, evEs, evHs, setOwn, kdP, Kd.isa, hs, hf, subV, fldsV, boolP, keepAll, valsOf, noCloAll, Fn.fin, Fn.ioOf, cloO, PV.noClo, PV.noClo.noCloL, PV.noClo.noCloF, PV.noExc, PV.noExc.noExcL, Sl.noExc, Fw.noExc, Bi.ap, resF, resO, resB, flOf, E.io, E.io.ioL, lstO, big, Op.ap, Cp.ap, eqvP_int, outR, hx.clo, hy.clo, hz.clo, hx.exc, hy.exc, hz.exc, hx.repr, hy.repr, hz.repr, m0, m1, m2, m3, ixP, place]
theorem more10 (hs : Γ.sub = subV) (hf : Γ.flds = fldsV) (hx : Fld x) (hy : Fld y) (hz : Fld z) : callAt Γ LD.tab (j + 1) 26 [.exc 13 [("paper", x)]] = .val true (.lst [.tup [.str "notthere", x]]) none := by
  have a0 : attrP "paper" (.exc 13 [("paper", x)]) = some x := rfl
  rw [call_some (show LD.tab 26 = some F26_law_more_kinds from rfl)]
  simp [F26_law_more_kinds, Fn.run, Fn.start, evSs, evS, evE, evEs, evHs, setOwn, kdP, Kd.isa, hs, hf, subV, fldsV, boolP, keepAll, valsOf, noCloAll, Fn.fin, Fn.ioOf, cloO, PV.noClo, PV.noClo.noCloL, PV.noClo.noCloF, PV.noExc, PV.noExc.noExcL, Sl.noExc, Fw.noExc, Bi.ap, resF, resO, resB, flOf, E.io, E.io.ioL, lstO, big, Op.ap, Cp.ap, eqvP_int, outR, hx.clo, hy.clo, hz.clo, hx.exc, hy.exc, hz.exc, hx.repr, hy.repr, hz.repr, a0]
theorem kinds10 (hs : Γ.sub = subV) (hf : Γ.flds = fldsV) (hx : Fld x) (hy : Fld y) (hz : Fld z) : callAt Γ LD.tab (j + 2) 25 [.exc 13 [("paper", x)]] = .val true (.lst [.tup [.str "notthere", x]]) none := by
  rw [call_some (show LD.tab 25 = some F25_law_kinds from rfl)]
  have m := more10 (j := j) hs hf hx hy hz
  simp [F25_law_kinds, Fn.run, Fn.start, evSs, evS, evE, evEs, evHs, setOwn, kdP, Kd.isa, hs, hf, subV, fldsV, boolP, keepAll, valsOf, noCloAll, Fn.fin, Fn.ioOf, cloO, PV.noClo, PV.noClo.noCloL, PV.noClo.noCloF, PV.noExc, PV.noExc.noExcL, Sl.noExc, Fw.noExc, Bi.ap, resF, resO, resB, flOf, E.io, E.io.ioL, lstO, big, Op.ap, Cp.ap, eqvP_int, outR, hx.clo, hy.clo, hz.clo, hx.exc, hy.exc, hz.exc, hx.repr, hy.repr, hz.repr, m]
theorem r44_10 (hs : Γ.sub = subV) (hf : Γ.flds = fldsV) (hx : Fld x) (hy : Fld y) (hz : Fld z) : callAt Γ LD.tab (j + 1) 44 [.int 10, x, y, z] = .val false .non none := by
  rw [call_some (show LD.tab 44 = some F44_law_raised from rfl)]
  simp [F44_law_raised, Fn.run, Fn.start, evSs, evS, evE, evEs, evHs, setOwn, kdP, Kd.isa, hs, hf, subV, fldsV, boolP, keepAll, valsOf, noCloAll, Fn.fin, Fn.ioOf, cloO, PV.noClo, PV.noClo.noCloL, PV.noClo.noCloF, PV.noExc, PV.noExc.noExcL, Sl.noExc, Fw.noExc, Bi.ap, resF, resO, resB, flOf, E.io, E.io.ioL, lstO, big, Op.ap, Cp.ap, eqvP_int, outR, hx.clo, hy.clo, hz.clo, hx.exc, hy.exc, hz.exc, hx.repr, hy.repr, hz.repr]
theorem r45_10 (hs : Γ.sub = subV) (hf : Γ.flds = fldsV) (hx : Fld x) (hy : Fld y) (hz : Fld z) : callAt Γ LD.tab (j + 1) 45 [.int 10, x, y, z] = .exc 13 [("paper", x)] none := by
  rw [call_some (show LD.tab 45 = some F45_law_raised_too from rfl)]
  simp [F45_law_raised_too, Fn.run, Fn.start, evSs, evS, evE, evEs, evHs, setOwn, kdP, Kd.isa, hs, hf, subV, fldsV, boolP, keepAll, valsOf, noCloAll, Fn.fin, Fn.ioOf, cloO, PV.noClo, PV.noClo.noCloL, PV.noClo.noCloF, PV.noExc, PV.noExc.noExcL, Sl.noExc, Fw.noExc, Bi.ap, resF, resO, resB, flOf, E.io, E.io.ioL, lstO, big, Op.ap, Cp.ap, eqvP_int, outR, hx.clo, hy.clo, hz.clo, hx.exc, hy.exc, hz.exc, hx.repr, hy.repr, hz.repr]
theorem told10 (hs : Γ.sub = subV) (hf : Γ.flds = fldsV) (hx : Fld x) (hy : Fld y) (hz : Fld z) : callAt Γ LD.tab (j + 3) 47 [.int 10, x, y, z] = .val true (.lst [.tup [.str "notthere", x]]) none := by
  rw [call_some (show LD.tab 47 = some F47_law_told from rfl)]
  have m := kinds10 (j := j) hs hf hx hy hz
  have r44 := r44_10 (j := j + 1) hs hf hx hy hz
  have r45 := r45_10 (j := j + 1) hs hf hx hy hz
  simp [F47_law_told, Fn.run, Fn.start, evSs, evS, evE, evEs, evHs, setOwn, kdP, Kd.isa, hs, hf, subV, fldsV, boolP, keepAll, valsOf, noCloAll, Fn.fin, Fn.ioOf, cloO, PV.noClo, PV.noClo.noCloL, PV.noClo.noCloF, PV.noExc, PV.noExc.noExcL, Sl.noExc, Fw.noExc, Bi.ap, resF, resO, resB, flOf, E.io, E.io.ioL, lstO, big, Op.ap, Cp.ap, eqvP_int, outR, hx.clo, hy.clo, hz.clo, hx.exc, hy.exc, hz.exc, hx.repr, hy.repr, hz.repr, m, r44, r45]
theorem due10 (hs : Γ.sub = subV) (hf : Γ.flds = fldsV) (hx : Fld x) (hy : Fld y) (hz : Fld z) : callAt Γ LD.tab (j + 1) 48 [.int 10, x, y, z] = .val false (.tup [.str "notthere", x]) none := by
  rw [call_some (show LD.tab 48 = some F48_law_due_fields from rfl)]
  have m0 : memP (.int 10) (.tup [.int 0, .int 1, .int 6]) = some false := rfl
  have m1 : memP (.int 10) (.tup [.int 2, .int 3, .int 9, .int 10]) = some true := rfl
  have m2 : memP (.int 10) (.tup [.int 4, .int 7, .int 8]) = some false := rfl
  have m3 : memP (.int 10) (.tup [.int 5, .int 12]) = some false := rfl
  simp [F48_law_due_fields, Fn.run, Fn.start, evSs, evS, evE, evEs, evHs, setOwn, kdP, Kd.isa, hs, hf, subV, fldsV, boolP, keepAll, valsOf, noCloAll, Fn.fin, Fn.ioOf, cloO, PV.noClo, PV.noClo.noCloL, PV.noClo.noCloF, PV.noExc, PV.noExc.noExcL, Sl.noExc, Fw.noExc, Bi.ap, resF, resO, resB, flOf, E.io, E.io.ioL, lstO, big, Op.ap, Cp.ap, eqvP_int, outR, hx.clo, hy.clo, hz.clo, hx.exc, hy.exc, hz.exc, hx.repr, hy.repr, hz.repr, m0, m1, m2, m3, ixP, place]
theorem more11 (hs : Γ.sub = subV) (hf : Γ.flds = fldsV) (hx : Fld x) (hy : Fld y) (hz : Fld z) : callAt Γ LD.tab (j + 1) 26 [.exc 12 [("limit", z), ("many", y), ("what", x)]] = .val true (.lst [.tup [.str "many", x, y, z]]) none := by
  have a0 : attrP "what" (.exc 12 [("limit", z), ("many", y), ("what", x)]) = some x := rfl
  have a1 : attrP "many" (.exc 12 [("limit", z), ("many", y), ("what", x)]) = some y := rfl
  have a2 : attrP "limit" (.exc 12 [("limit", z), ("many", y), ("what", x)]) = some z := rfl
  rw [call_some (show LD.tab 26 = some F26_law_more_kinds from rfl)]
  simp [F26_law_more_kinds, Fn.run, Fn.start, evSs, evS, evE, evEs, evHs, setOwn, kdP, Kd.isa, hs, hf, subV, fldsV, boolP, keepAll, valsOf, noCloAll, Fn.fin, Fn.ioOf, cloO, PV.noClo, PV.noClo.noCloL, PV.noClo.noCloF, PV.noExc, PV.noExc.noExcL, Sl.noExc, Fw.noExc, Bi.ap, resF, resO, resB, flOf, E.io, E.io.ioL, lstO, big, Op.ap, Cp.ap, eqvP_int, outR, hx.clo, hy.clo, hz.clo, hx.exc, hy.exc, hz.exc, hx.repr, hy.repr, hz.repr, a0, a1, a2]
theorem kinds11 (hs : Γ.sub = subV) (hf : Γ.flds = fldsV) (hx : Fld x) (hy : Fld y) (hz : Fld z) : callAt Γ LD.tab (j + 2) 25 [.exc 12 [("limit", z), ("many", y), ("what", x)]] = .val true (.lst [.tup [.str "many", x, y, z]]) none := by
  rw [call_some (show LD.tab 25 = some F25_law_kinds from rfl)]
  have m := more11 (j := j) hs hf hx hy hz
  simp [F25_law_kinds, Fn.run, Fn.start, evSs, evS, evE, evEs, evHs, setOwn, kdP, Kd.isa, hs, hf, subV, fldsV, boolP, keepAll, valsOf, noCloAll, Fn.fin, Fn.ioOf, cloO, PV.noClo, PV.noClo.noCloL, PV.noClo.noCloF, PV.noExc, PV.noExc.noExcL, Sl.noExc, Fw.noExc, Bi.ap, resF, resO, resB, flOf, E.io, E.io.ioL, lstO, big, Op.ap, Cp.ap, eqvP_int, outR, hx.clo, hy.clo, hz.clo, hx.exc, hy.exc, hz.exc, hx.repr, hy.repr, hz.repr, m]
theorem r44_11 (hs : Γ.sub = subV) (hf : Γ.flds = fldsV) (hx : Fld x) (hy : Fld y) (hz : Fld z) : callAt Γ LD.tab (j + 1) 44 [.int 11, x, y, z] = .val false .non none := by
  rw [call_some (show LD.tab 44 = some F44_law_raised from rfl)]
  simp [F44_law_raised, Fn.run, Fn.start, evSs, evS, evE, evEs, evHs, setOwn, kdP, Kd.isa, hs, hf, subV, fldsV, boolP, keepAll, valsOf, noCloAll, Fn.fin, Fn.ioOf, cloO, PV.noClo, PV.noClo.noCloL, PV.noClo.noCloF, PV.noExc, PV.noExc.noExcL, Sl.noExc, Fw.noExc, Bi.ap, resF, resO, resB, flOf, E.io, E.io.ioL, lstO, big, Op.ap, Cp.ap, eqvP_int, outR, hx.clo, hy.clo, hz.clo, hx.exc, hy.exc, hz.exc, hx.repr, hy.repr, hz.repr]
theorem r45_11 (hs : Γ.sub = subV) (hf : Γ.flds = fldsV) (hx : Fld x) (hy : Fld y) (hz : Fld z) : callAt Γ LD.tab (j + 1) 45 [.int 11, x, y, z] = .exc 12 [("limit", z), ("many", y), ("what", x)] none := by
  rw [call_some (show LD.tab 45 = some F45_law_raised_too from rfl)]
  simp [F45_law_raised_too, Fn.run, Fn.start, evSs, evS, evE, evEs, evHs, setOwn, kdP, Kd.isa, hs, hf, subV, fldsV, boolP, keepAll, valsOf, noCloAll, Fn.fin, Fn.ioOf, cloO, PV.noClo, PV.noClo.noCloL, PV.noClo.noCloF, PV.noExc, PV.noExc.noExcL, Sl.noExc, Fw.noExc, Bi.ap, resF, resO, resB, flOf, E.io, E.io.ioL, lstO, big, Op.ap, Cp.ap, eqvP_int, outR, hx.clo, hy.clo, hz.clo, hx.exc, hy.exc, hz.exc, hx.repr, hy.repr, hz.repr]
theorem told11 (hs : Γ.sub = subV) (hf : Γ.flds = fldsV) (hx : Fld x) (hy : Fld y) (hz : Fld z) : callAt Γ LD.tab (j + 3) 47 [.int 11, x, y, z] = .val true (.lst [.tup [.str "many", x, y, z]]) none := by
  rw [call_some (show LD.tab 47 = some F47_law_told from rfl)]
  have m := kinds11 (j := j) hs hf hx hy hz
  have r44 := r44_11 (j := j + 1) hs hf hx hy hz
  have r45 := r45_11 (j := j + 1) hs hf hx hy hz
  simp [F47_law_told, Fn.run, Fn.start, evSs, evS, evE, evEs, evHs, setOwn, kdP, Kd.isa, hs, hf, subV, fldsV, boolP, keepAll, valsOf, noCloAll, Fn.fin, Fn.ioOf, cloO, PV.noClo, PV.noClo.noCloL, PV.noClo.noCloF, PV.noExc, PV.noExc.noExcL, Sl.noExc, Fw.noExc, Bi.ap, resF, resO, resB, flOf, E.io, E.io.ioL, lstO, big, Op.ap, Cp.ap, eqvP_int, outR, hx.clo, hy.clo, hz.clo, hx.exc, hy.exc, hz.exc, hx.repr, hy.repr, hz.repr, m, r44, r45]
theorem due11 (hs : Γ.sub = subV) (hf : Γ.flds = fldsV) (hx : Fld x) (hy : Fld y) (hz : Fld z) : callAt Γ LD.tab (j + 1) 48 [.int 11, x, y, z] = .val false (.tup [.str "many", x, y, z]) none := by
  rw [call_some (show LD.tab 48 = some F48_law_due_fields from rfl)]
  have m0 : memP (.int 11) (.tup [.int 0, .int 1, .int 6]) = some false := rfl
  have m1 : memP (.int 11) (.tup [.int 2, .int 3, .int 9, .int 10]) = some false := rfl
  have m2 : memP (.int 11) (.tup [.int 4, .int 7, .int 8]) = some false := rfl
  have m3 : memP (.int 11) (.tup [.int 5, .int 12]) = some false := rfl
  simp [F48_law_due_fields, Fn.run, Fn.start, evSs, evS, evE, evEs, evHs, setOwn, kdP, Kd.isa, hs, hf, subV, fldsV, boolP, keepAll, valsOf, noCloAll, Fn.fin, Fn.ioOf, cloO, PV.noClo, PV.noClo.noCloL, PV.noClo.noCloF, PV.noExc, PV.noExc.noExcL, Sl.noExc, Fw.noExc, Bi.ap, resF, resO, resB, flOf, E.io, E.io.ioL, lstO, big, Op.ap, Cp.ap, eqvP_int, outR, hx.clo, hy.clo, hz.clo, hx.exc, hy.exc, hz.exc, hx.repr, hy.repr, hz.repr, m0, m1, m2, m3, ixP, place]
theorem more12 (hs : Γ.sub = subV) (hf : Γ.flds = fldsV) (hx : Fld x) (hy : Fld y) (hz : Fld z) : callAt Γ LD.tab (j + 1) 26 [.exc 11 [("witness", y), ("promise", x)]] = .val true (.lst [.tup [.str "kept", x, y]]) none := by
  have a0 : attrP "promise" (.exc 11 [("witness", y), ("promise", x)]) = some x := rfl
  have a1 : attrP "witness" (.exc 11 [("witness", y), ("promise", x)]) = some y := rfl
  rw [call_some (show LD.tab 26 = some F26_law_more_kinds from rfl)]
  simp [F26_law_more_kinds, Fn.run, Fn.start, evSs, evS, evE, evEs, evHs, setOwn, kdP, Kd.isa, hs, hf, subV, fldsV, boolP, keepAll, valsOf, noCloAll, Fn.fin, Fn.ioOf, cloO, PV.noClo, PV.noClo.noCloL, PV.noClo.noCloF, PV.noExc, PV.noExc.noExcL, Sl.noExc, Fw.noExc, Bi.ap, resF, resO, resB, flOf, E.io, E.io.ioL, lstO, big, Op.ap, Cp.ap, eqvP_int, outR, hx.clo, hy.clo, hz.clo, hx.exc, hy.exc, hz.exc, hx.repr, hy.repr, hz.repr, a0, a1]
theorem kinds12 (hs : Γ.sub = subV) (hf : Γ.flds = fldsV) (hx : Fld x) (hy : Fld y) (hz : Fld z) : callAt Γ LD.tab (j + 2) 25 [.exc 11 [("witness", y), ("promise", x)]] = .val true (.lst [.tup [.str "kept", x, y]]) none := by
  rw [call_some (show LD.tab 25 = some F25_law_kinds from rfl)]
  have m := more12 (j := j) hs hf hx hy hz
  simp [F25_law_kinds, Fn.run, Fn.start, evSs, evS, evE, evEs, evHs, setOwn, kdP, Kd.isa, hs, hf, subV, fldsV, boolP, keepAll, valsOf, noCloAll, Fn.fin, Fn.ioOf, cloO, PV.noClo, PV.noClo.noCloL, PV.noClo.noCloF, PV.noExc, PV.noExc.noExcL, Sl.noExc, Fw.noExc, Bi.ap, resF, resO, resB, flOf, E.io, E.io.ioL, lstO, big, Op.ap, Cp.ap, eqvP_int, outR, hx.clo, hy.clo, hz.clo, hx.exc, hy.exc, hz.exc, hx.repr, hy.repr, hz.repr, m]
theorem r44_12 (hs : Γ.sub = subV) (hf : Γ.flds = fldsV) (hx : Fld x) (hy : Fld y) (hz : Fld z) : callAt Γ LD.tab (j + 1) 44 [.int 12, x, y, z] = .val false .non none := by
  rw [call_some (show LD.tab 44 = some F44_law_raised from rfl)]
  simp [F44_law_raised, Fn.run, Fn.start, evSs, evS, evE, evEs, evHs, setOwn, kdP, Kd.isa, hs, hf, subV, fldsV, boolP, keepAll, valsOf, noCloAll, Fn.fin, Fn.ioOf, cloO, PV.noClo, PV.noClo.noCloL, PV.noClo.noCloF, PV.noExc, PV.noExc.noExcL, Sl.noExc, Fw.noExc, Bi.ap, resF, resO, resB, flOf, E.io, E.io.ioL, lstO, big, Op.ap, Cp.ap, eqvP_int, outR, hx.clo, hy.clo, hz.clo, hx.exc, hy.exc, hz.exc, hx.repr, hy.repr, hz.repr]
theorem r45_12 (hs : Γ.sub = subV) (hf : Γ.flds = fldsV) (hx : Fld x) (hy : Fld y) (hz : Fld z) : callAt Γ LD.tab (j + 1) 45 [.int 12, x, y, z] = .exc 11 [("witness", y), ("promise", x)] none := by
  rw [call_some (show LD.tab 45 = some F45_law_raised_too from rfl)]
  simp [F45_law_raised_too, Fn.run, Fn.start, evSs, evS, evE, evEs, evHs, setOwn, kdP, Kd.isa, hs, hf, subV, fldsV, boolP, keepAll, valsOf, noCloAll, Fn.fin, Fn.ioOf, cloO, PV.noClo, PV.noClo.noCloL, PV.noClo.noCloF, PV.noExc, PV.noExc.noExcL, Sl.noExc, Fw.noExc, Bi.ap, resF, resO, resB, flOf, E.io, E.io.ioL, lstO, big, Op.ap, Cp.ap, eqvP_int, outR, hx.clo, hy.clo, hz.clo, hx.exc, hy.exc, hz.exc, hx.repr, hy.repr, hz.repr]
theorem told12 (hs : Γ.sub = subV) (hf : Γ.flds = fldsV) (hx : Fld x) (hy : Fld y) (hz : Fld z) : callAt Γ LD.tab (j + 3) 47 [.int 12, x, y, z] = .val true (.lst [.tup [.str "kept", x, y]]) none := by
  rw [call_some (show LD.tab 47 = some F47_law_told from rfl)]
  have m := kinds12 (j := j) hs hf hx hy hz
  have r44 := r44_12 (j := j + 1) hs hf hx hy hz
  have r45 := r45_12 (j := j + 1) hs hf hx hy hz
  simp [F47_law_told, Fn.run, Fn.start, evSs, evS, evE, evEs, evHs, setOwn, kdP, Kd.isa, hs, hf, subV, fldsV, boolP, keepAll, valsOf, noCloAll, Fn.fin, Fn.ioOf, cloO, PV.noClo, PV.noClo.noCloL, PV.noClo.noCloF, PV.noExc, PV.noExc.noExcL, Sl.noExc, Fw.noExc, Bi.ap, resF, resO, resB, flOf, E.io, E.io.ioL, lstO, big, Op.ap, Cp.ap, eqvP_int, outR, hx.clo, hy.clo, hz.clo, hx.exc, hy.exc, hz.exc, hx.repr, hy.repr, hz.repr, m, r44, r45]
theorem due12 (hs : Γ.sub = subV) (hf : Γ.flds = fldsV) (hx : Fld x) (hy : Fld y) (hz : Fld z) : callAt Γ LD.tab (j + 1) 48 [.int 12, x, y, z] = .val false (.tup [.str "kept", x, y]) none := by
  rw [call_some (show LD.tab 48 = some F48_law_due_fields from rfl)]
  have m0 : memP (.int 12) (.tup [.int 0, .int 1, .int 6]) = some false := rfl
  have m1 : memP (.int 12) (.tup [.int 2, .int 3, .int 9, .int 10]) = some false := rfl
  have m2 : memP (.int 12) (.tup [.int 4, .int 7, .int 8]) = some false := rfl
  have m3 : memP (.int 12) (.tup [.int 5, .int 12]) = some true := rfl
  simp [F48_law_due_fields, Fn.run, Fn.start, evSs, evS, evE, evEs, evHs, setOwn, kdP, Kd.isa, hs, hf, subV, fldsV, boolP, keepAll, valsOf, noCloAll, Fn.fin, Fn.ioOf, cloO, PV.noClo, PV.noClo.noCloL, PV.noClo.noCloF, PV.noExc, PV.noExc.noExcL, Sl.noExc, Fw.noExc, Bi.ap, resF, resO, resB, flOf, E.io, E.io.ioL, lstO, big, Op.ap, Cp.ap, eqvP_int, outR, hx.clo, hy.clo, hz.clo, hx.exc, hy.exc, hz.exc, hx.repr, hy.repr, hz.repr, m0, m1, m2, m3, ixP, place]
theorem more13 (hs : Γ.sub = subV) (hf : Γ.flds = fldsV) (hx : Fld x) (hy : Fld y) (hz : Fld z) : callAt Γ LD.tab (j + 1) 26 [.exc 10 []] = .val true (.lst [.tup [.str "undo"]]) none := by
  rw [call_some (show LD.tab 26 = some F26_law_more_kinds from rfl)]
  simp [F26_law_more_kinds, Fn.run, Fn.start, evSs, evS, evE, evEs, evHs, setOwn, kdP, Kd.isa, hs, hf, subV, fldsV, boolP, keepAll, valsOf, noCloAll, Fn.fin, Fn.ioOf, cloO, PV.noClo, PV.noClo.noCloL, PV.noClo.noCloF, PV.noExc, PV.noExc.noExcL, Sl.noExc, Fw.noExc, Bi.ap, resF, resO, resB, flOf, E.io, E.io.ioL, lstO, big, Op.ap, Cp.ap, eqvP_int, outR, hx.clo, hy.clo, hz.clo, hx.exc, hy.exc, hz.exc, hx.repr, hy.repr, hz.repr]
theorem kinds13 (hs : Γ.sub = subV) (hf : Γ.flds = fldsV) (hx : Fld x) (hy : Fld y) (hz : Fld z) : callAt Γ LD.tab (j + 2) 25 [.exc 10 []] = .val true (.lst [.tup [.str "undo"]]) none := by
  rw [call_some (show LD.tab 25 = some F25_law_kinds from rfl)]
  have m := more13 (j := j) hs hf hx hy hz
  simp [F25_law_kinds, Fn.run, Fn.start, evSs, evS, evE, evEs, evHs, setOwn, kdP, Kd.isa, hs, hf, subV, fldsV, boolP, keepAll, valsOf, noCloAll, Fn.fin, Fn.ioOf, cloO, PV.noClo, PV.noClo.noCloL, PV.noClo.noCloF, PV.noExc, PV.noExc.noExcL, Sl.noExc, Fw.noExc, Bi.ap, resF, resO, resB, flOf, E.io, E.io.ioL, lstO, big, Op.ap, Cp.ap, eqvP_int, outR, hx.clo, hy.clo, hz.clo, hx.exc, hy.exc, hz.exc, hx.repr, hy.repr, hz.repr, m]
theorem r44_13 (hs : Γ.sub = subV) (hf : Γ.flds = fldsV) (hx : Fld x) (hy : Fld y) (hz : Fld z) : callAt Γ LD.tab (j + 1) 44 [.int 13, x, y, z] = .val false .non none := by
  rw [call_some (show LD.tab 44 = some F44_law_raised from rfl)]
  simp [F44_law_raised, Fn.run, Fn.start, evSs, evS, evE, evEs, evHs, setOwn, kdP, Kd.isa, hs, hf, subV, fldsV, boolP, keepAll, valsOf, noCloAll, Fn.fin, Fn.ioOf, cloO, PV.noClo, PV.noClo.noCloL, PV.noClo.noCloF, PV.noExc, PV.noExc.noExcL, Sl.noExc, Fw.noExc, Bi.ap, resF, resO, resB, flOf, E.io, E.io.ioL, lstO, big, Op.ap, Cp.ap, eqvP_int, outR, hx.clo, hy.clo, hz.clo, hx.exc, hy.exc, hz.exc, hx.repr, hy.repr, hz.repr]
theorem r45_13 (hs : Γ.sub = subV) (hf : Γ.flds = fldsV) (hx : Fld x) (hy : Fld y) (hz : Fld z) : callAt Γ LD.tab (j + 1) 45 [.int 13, x, y, z] = .exc 10 [] none := by
  rw [call_some (show LD.tab 45 = some F45_law_raised_too from rfl)]
  simp [F45_law_raised_too, Fn.run, Fn.start, evSs, evS, evE, evEs, evHs, setOwn, kdP, Kd.isa, hs, hf, subV, fldsV, boolP, keepAll, valsOf, noCloAll, Fn.fin, Fn.ioOf, cloO, PV.noClo, PV.noClo.noCloL, PV.noClo.noCloF, PV.noExc, PV.noExc.noExcL, Sl.noExc, Fw.noExc, Bi.ap, resF, resO, resB, flOf, E.io, E.io.ioL, lstO, big, Op.ap, Cp.ap, eqvP_int, outR, hx.clo, hy.clo, hz.clo, hx.exc, hy.exc, hz.exc, hx.repr, hy.repr, hz.repr]
theorem told13 (hs : Γ.sub = subV) (hf : Γ.flds = fldsV) (hx : Fld x) (hy : Fld y) (hz : Fld z) : callAt Γ LD.tab (j + 3) 47 [.int 13, x, y, z] = .val true (.lst [.tup [.str "undo"]]) none := by
  rw [call_some (show LD.tab 47 = some F47_law_told from rfl)]
  have m := kinds13 (j := j) hs hf hx hy hz
  have r44 := r44_13 (j := j + 1) hs hf hx hy hz
  have r45 := r45_13 (j := j + 1) hs hf hx hy hz
  simp [F47_law_told, Fn.run, Fn.start, evSs, evS, evE, evEs, evHs, setOwn, kdP, Kd.isa, hs, hf, subV, fldsV, boolP, keepAll, valsOf, noCloAll, Fn.fin, Fn.ioOf, cloO, PV.noClo, PV.noClo.noCloL, PV.noClo.noCloF, PV.noExc, PV.noExc.noExcL, Sl.noExc, Fw.noExc, Bi.ap, resF, resO, resB, flOf, E.io, E.io.ioL, lstO, big, Op.ap, Cp.ap, eqvP_int, outR, hx.clo, hy.clo, hz.clo, hx.exc, hy.exc, hz.exc, hx.repr, hy.repr, hz.repr, m, r44, r45]
theorem due13 (hs : Γ.sub = subV) (hf : Γ.flds = fldsV) (hx : Fld x) (hy : Fld y) (hz : Fld z) : callAt Γ LD.tab (j + 1) 48 [.int 13, x, y, z] = .val false (.tup [.str "undo"]) none := by
  rw [call_some (show LD.tab 48 = some F48_law_due_fields from rfl)]
  have m0 : memP (.int 13) (.tup [.int 0, .int 1, .int 6]) = some false := rfl
  have m1 : memP (.int 13) (.tup [.int 2, .int 3, .int 9, .int 10]) = some false := rfl
  have m2 : memP (.int 13) (.tup [.int 4, .int 7, .int 8]) = some false := rfl
  have m3 : memP (.int 13) (.tup [.int 5, .int 12]) = some false := rfl
  simp [F48_law_due_fields, Fn.run, Fn.start, evSs, evS, evE, evEs, evHs, setOwn, kdP, Kd.isa, hs, hf, subV, fldsV, boolP, keepAll, valsOf, noCloAll, Fn.fin, Fn.ioOf, cloO, PV.noClo, PV.noClo.noCloL, PV.noClo.noCloF, PV.noExc, PV.noExc.noExcL, Sl.noExc, Fw.noExc, Bi.ap, resF, resO, resB, flOf, E.io, E.io.ioL, lstO, big, Op.ap, Cp.ap, eqvP_int, outR, hx.clo, hy.clo, hz.clo, hx.exc, hy.exc, hz.exc, hx.repr, hy.repr, hz.repr, m0, m1, m2, m3, ixP, place]
theorem more14 (hs : Γ.sub = subV) (hf : Γ.flds = fldsV) (hx : Fld x) (hy : Fld y) (hz : Fld z) : callAt Γ LD.tab (j + 1) 26 [.exc 9 []] = .val true (.lst [.tup [.str "redo"]]) none := by
  rw [call_some (show LD.tab 26 = some F26_law_more_kinds from rfl)]
  simp [F26_law_more_kinds, Fn.run, Fn.start, evSs, evS, evE, evEs, evHs, setOwn, kdP, Kd.isa, hs, hf, subV, fldsV, boolP, keepAll, valsOf, noCloAll, Fn.fin, Fn.ioOf, cloO, PV.noClo, PV.noClo.noCloL, PV.noClo.noCloF, PV.noExc, PV.noExc.noExcL, Sl.noExc, Fw.noExc, Bi.ap, resF, resO, resB, flOf, E.io, E.io.ioL, lstO, big, Op.ap, Cp.ap, eqvP_int, outR, hx.clo, hy.clo, hz.clo, hx.exc, hy.exc, hz.exc, hx.repr, hy.repr, hz.repr]
theorem kinds14 (hs : Γ.sub = subV) (hf : Γ.flds = fldsV) (hx : Fld x) (hy : Fld y) (hz : Fld z) : callAt Γ LD.tab (j + 2) 25 [.exc 9 []] = .val true (.lst [.tup [.str "redo"]]) none := by
  rw [call_some (show LD.tab 25 = some F25_law_kinds from rfl)]
  have m := more14 (j := j) hs hf hx hy hz
  simp [F25_law_kinds, Fn.run, Fn.start, evSs, evS, evE, evEs, evHs, setOwn, kdP, Kd.isa, hs, hf, subV, fldsV, boolP, keepAll, valsOf, noCloAll, Fn.fin, Fn.ioOf, cloO, PV.noClo, PV.noClo.noCloL, PV.noClo.noCloF, PV.noExc, PV.noExc.noExcL, Sl.noExc, Fw.noExc, Bi.ap, resF, resO, resB, flOf, E.io, E.io.ioL, lstO, big, Op.ap, Cp.ap, eqvP_int, outR, hx.clo, hy.clo, hz.clo, hx.exc, hy.exc, hz.exc, hx.repr, hy.repr, hz.repr, m]
theorem r44_14 (hs : Γ.sub = subV) (hf : Γ.flds = fldsV) (hx : Fld x) (hy : Fld y) (hz : Fld z) : callAt Γ LD.tab (j + 1) 44 [.int 14, x, y, z] = .val false .non none := by
  rw [call_some (show LD.tab 44 = some F44_law_raised from rfl)]
  simp [F44_law_raised, Fn.run, Fn.start, evSs, evS, evE, evEs, evHs, setOwn, kdP, Kd.isa, hs, hf, subV, fldsV, boolP, keepAll, valsOf, noCloAll, Fn.fin, Fn.ioOf, cloO, PV.noClo, PV.noClo.noCloL, PV.noClo.noCloF, PV.noExc, PV.noExc.noExcL, Sl.noExc, Fw.noExc, Bi.ap, resF, resO, resB, flOf, E.io, E.io.ioL, lstO, big, Op.ap, Cp.ap, eqvP_int, outR, hx.clo, hy.clo, hz.clo, hx.exc, hy.exc, hz.exc, hx.repr, hy.repr, hz.repr]
theorem r45_14 (hs : Γ.sub = subV) (hf : Γ.flds = fldsV) (hx : Fld x) (hy : Fld y) (hz : Fld z) : callAt Γ LD.tab (j + 1) 45 [.int 14, x, y, z] = .val false .non none := by
  rw [call_some (show LD.tab 45 = some F45_law_raised_too from rfl)]
  simp [F45_law_raised_too, Fn.run, Fn.start, evSs, evS, evE, evEs, evHs, setOwn, kdP, Kd.isa, hs, hf, subV, fldsV, boolP, keepAll, valsOf, noCloAll, Fn.fin, Fn.ioOf, cloO, PV.noClo, PV.noClo.noCloL, PV.noClo.noCloF, PV.noExc, PV.noExc.noExcL, Sl.noExc, Fw.noExc, Bi.ap, resF, resO, resB, flOf, E.io, E.io.ioL, lstO, big, Op.ap, Cp.ap, eqvP_int, outR, hx.clo, hy.clo, hz.clo, hx.exc, hy.exc, hz.exc, hx.repr, hy.repr, hz.repr]
theorem r46_14 (hs : Γ.sub = subV) (hf : Γ.flds = fldsV) (hx : Fld x) (hy : Fld y) (hz : Fld z) : callAt Γ LD.tab (j + 1) 46 [.int 14, x, y, z] = .exc 9 [] none := by
  rw [call_some (show LD.tab 46 = some F46_law_raised_last from rfl)]
  simp [F46_law_raised_last, Fn.run, Fn.start, evSs, evS, evE, evEs, evHs, setOwn, kdP, Kd.isa, hs, hf, subV, fldsV, boolP, keepAll, valsOf, noCloAll, Fn.fin, Fn.ioOf, cloO, PV.noClo, PV.noClo.noCloL, PV.noClo.noCloF, PV.noExc, PV.noExc.noExcL, Sl.noExc, Fw.noExc, Bi.ap, resF, resO, resB, flOf, E.io, E.io.ioL, lstO, big, Op.ap, Cp.ap, eqvP_int, outR, hx.clo, hy.clo, hz.clo, hx.exc, hy.exc, hz.exc, hx.repr, hy.repr, hz.repr]
theorem told14 (hs : Γ.sub = subV) (hf : Γ.flds = fldsV) (hx : Fld x) (hy : Fld y) (hz : Fld z) : callAt Γ LD.tab (j + 3) 47 [.int 14, x, y, z] = .val true (.lst [.tup [.str "redo"]]) none := by
  rw [call_some (show LD.tab 47 = some F47_law_told from rfl)]
  have m := kinds14 (j := j) hs hf hx hy hz
  have r44 := r44_14 (j := j + 1) hs hf hx hy hz
  have r45 := r45_14 (j := j + 1) hs hf hx hy hz
  have r46 := r46_14 (j := j + 1) hs hf hx hy hz
  simp [F47_law_told, Fn.run, Fn.start, evSs, evS, evE, evEs, evHs, setOwn, kdP, Kd.isa, hs, hf, subV, fldsV, boolP, keepAll, valsOf, noCloAll, Fn.fin, Fn.ioOf, cloO, PV.noClo, PV.noClo.noCloL, PV.noClo.noCloF, PV.noExc, PV.noExc.noExcL, Sl.noExc, Fw.noExc, Bi.ap, resF, resO, resB, flOf, E.io, E.io.ioL, lstO, big, Op.ap, Cp.ap, eqvP_int, outR, hx.clo, hy.clo, hz.clo, hx.exc, hy.exc, hz.exc, hx.repr, hy.repr, hz.repr, m, r44, r45, r46]
theorem due14 (hs : Γ.sub = subV) (hf : Γ.flds = fldsV) (hx : Fld x) (hy : Fld y) (hz : Fld z) : callAt Γ LD.tab (j + 1) 48 [.int 14, x, y, z] = .val false (.tup [.str "redo"]) none := by
  rw [call_some (show LD.tab 48 = some F48_law_due_fields from rfl)]
  have m0 : memP (.int 14) (.tup [.int 0, .int 1, .int 6]) = some false := rfl
  have m1 : memP (.int 14) (.tup [.int 2, .int 3, .int 9, .int 10]) = some false := rfl
  have m2 : memP (.int 14) (.tup [.int 4, .int 7, .int 8]) = some false := rfl
  have m3 : memP (.int 14) (.tup [.int 5, .int 12]) = some false := rfl
  simp [F48_law_due_fields, Fn.run, Fn.start, evSs, evS, evE, evEs, evHs, setOwn, kdP, Kd.isa, hs, hf, subV, fldsV, boolP, keepAll, valsOf, noCloAll, Fn.fin, Fn.ioOf, cloO, PV.noClo, PV.noClo.noCloL, PV.noClo.noCloF, PV.noExc, PV.noExc.noExcL, Sl.noExc, Fw.noExc, Bi.ap, resF, resO, resB, flOf, E.io, E.io.ioL, lstO, big, Op.ap, Cp.ap, eqvP_int, outR, hx.clo, hy.clo, hz.clo, hx.exc, hy.exc, hz.exc, hx.repr, hy.repr, hz.repr, m0, m1, m2, m3, ixP, place]
end
end Mi.K

set_option maxHeartbeats 0
namespace Mi.K
open PySem Mi.Lib
section
variable {Γ : G} {j : Nat} {x y z : PV}
/-- what draws give -/
theorem fld_lst {d : Int} (h : 0 ≤ d ∧ d < 1000000) : Fld (.lst [.int d, .lst []]) := by
  have s1 : SOk 8 (Str.ofString (toString d)) := sok_int (k := 7) (by decide) (by omega)
  have e : (PyData.list [.int d, .list []]).shown = ((("[" : Str) ++ ("" : Str) ++ Str.ofString (toString d)) ++ (", " : Str) ++ ("[]" : Str)) ++ ("]" : Str) := by
    simp [PyData.shown, PyData.shownAll, listText, textFrom]
    rfl
  refine ⟨⟨.list [.int d, .list []], by simp [PV.dat, PV.dat.datL], ⟨?_, by simp [PyData.depth, PyData.depthAll], ?_⟩, by simp [PyData.depth, PyData.depthAll]⟩, rfl, rfl⟩
  · have h1 := (dok_int (i := d) (k := 7) (by decide) (by decide) (by omega)).show_
    simp [PyData.showable, PyData.showableAll] at h1 ⊢
    exact h1
  · rw [e]
    exact (sok_app (sok_app (sok_app (sok_app (sok_app (sok_lit (L := 1) "[" (by decide)) (sok_lit (L := 0) "" (by decide))) s1) (sok_lit (L := 2) ", " (by decide))) (sok_lit (L := 2) "[]" (by decide))) (sok_lit (L := 1) "]" (by decide))).mono (by decide)
theorem fld_tup {d : Int} (h : 0 ≤ d ∧ d < 1000000) : Fld (.tup [.str "a", .tup [.int d]]) := by
  have s1 : SOk 8 (Str.ofString (toString d)) := sok_int (k := 7) (by decide) (by omega)
  have e : (PyData.tuple [.str "a", .tuple [.int d]]).shown = (("(" : Str) ++ (reprText "a" ++ (", " : Str) ++ ((("(" : Str) ++ Str.ofString (toString d)) ++ (",)" : Str)))) ++ (")" : Str) := by
    simp [PyData.shown, PyData.shownAll, tupleText, Str.join]
  refine ⟨⟨.tuple [.str "a", .tuple [.int d]], by simp [PV.dat, PV.dat.datL], ⟨?_, by simp [PyData.depth, PyData.depthAll], ?_⟩, by simp [PyData.depth, PyData.depthAll]⟩, rfl, rfl⟩
  · have h1 := (dok_int (i := d) (k := 7) (by decide) (by decide) (by omega)).show_
    simp [PyData.showable, PyData.showableAll] at h1 ⊢
    exact h1
  · rw [e]
    have s2 : SOk 3 (reprText "a") := by decide +kernel
    exact (sok_app (sok_app (sok_lit (L := 1) "(" (by decide)) (sok_app (sok_app s2 (sok_lit (L := 2) ", " (by decide))) (sok_app (sok_app (sok_lit (L := 1) "(" (by decide)) s1) (sok_lit (L := 2) ",)" (by decide))))) (sok_lit (L := 1) ")" (by decide))).mono (by decide)
def consts : List PV := [.non, .bl true, .bl false, .int 0, .int (-1), .str "x", .str "", .int (10 ^ 40), .dic [(.inr "k", .int 1)]]
def fldB (x : PV) : Bool := (match x.dat with | some d => decide (DOk 600 d) && decide (d.depth ≤ 10) | none => false) && x.noClo && x.noExc
theorem fldB_ok {x : PV} (h : fldB x = true) : Fld x := by
  unfold fldB at h
  obtain ⟨h, h3⟩ := and2 h
  obtain ⟨h1, h2⟩ := and2 h
  split at h1
  · rename_i d e
    exact ⟨⟨d, e, of_decide_eq_true (and2 h1).1, of_decide_eq_true (and2 h1).2⟩, h2, h3⟩
  · cases h1
theorem consts_ok : ∀ x ∈ consts, Fld x := fun x m => fldB_ok (List.all_eq_true.mp (show (consts.all fldB) = true by decide +kernel) x m)
theorem any_ok {p : Pen} {n : Nat} (h : PenOk (n + 2) p) : ∃ o x p', callAt Γ LD.tab (j + 3) 43 [penV p] = .val o x (some (penV p')) ∧ Fld x ∧ PenOk n p' := by
  rw [call_some (show LD.tab 43 = some F43_law_any_field from rfl)]
  have h17 : LD.tab 17 = some Mi.Lib.F17_law_draw := rfl
  have h18 : LD.tab 18 = some Mi.Lib.F18_law_pick := rfl
  have d8 : callAt Γ LD.tab (j + 2) 17 [penV p, .int 8] = _ := draw_ok LD.tab h17 h (by decide) (by decide)
  have hp1 : PenOk (n + 1) (draw p 8).2 := draw_pen (by decide) h
  by_cases c0 : (draw p 8).1 = 0
  · have d100 : callAt Γ LD.tab (j + 2) 17 [penV (draw p 8).2, .int 100] = _ := draw_ok LD.tab h17 hp1 (by decide) (by decide)
    have r := draw_range (p := (draw p 8).2) (many := 100) (by decide)
    refine ⟨true, .lst [.int (draw (draw p 8).2 100).1, .lst []], (draw (draw p 8).2 100).2, ?_, fld_lst (by omega), draw_pen (by decide) hp1⟩
    simp [F43_law_any_field, Fn.run, Fn.start, evSs, evS, evE, evEs, d8, d100, c0, isOw, keepAll, valsOf, outI, flOf, setOwn, Cp.ap, eqvP_int, resB, boolP, E.io, E.io.ioL, Fn.fin, Fn.ioOf, ownAt0, cloO, pen_noClo, PV.noClo, PV.noClo.noCloL]
  · by_cases c1 : (draw p 8).1 = 1
    · have d6 : callAt Γ LD.tab (j + 2) 17 [penV (draw p 8).2, .int 1000000] = _ := draw_ok LD.tab h17 hp1 (by decide) (by decide)
      have r := draw_range (p := (draw p 8).2) (many := 1000000) (by decide)
      refine ⟨false, .tup [.str "a", .tup [.int (draw (draw p 8).2 1000000).1]], (draw (draw p 8).2 1000000).2, ?_, fld_tup (by omega), draw_pen (by decide) hp1⟩
      simp [F43_law_any_field, Fn.run, Fn.start, evSs, evS, evE, evEs, d8, d6, c0, c1, isOw, keepAll, valsOf, outI, flOf, setOwn, Cp.ap, eqvP_int, Op.ap, resF, resB, boolP, E.io, E.io.ioL, Fn.fin, Fn.ioOf, ownAt0, cloO, pen_noClo, PV.noClo, PV.noClo.noCloL]
    · obtain ⟨x, ex, pk⟩ := pick_ok (Γ := Γ) (k := j) LD.tab h17 h18 (p := (draw p 8).2) (xs := consts) hp1 (by decide) (by decide) (by decide)
      refine ⟨false, x, _, ?_, consts_ok x (List.mem_of_getElem? ex), draw_pen (show (0 : Int) < (consts.length : Int) by decide) hp1⟩
      have ed : dctP [.inr "k"] [.int 1] [] = some [(.inr "k", .int 1)] := rfl
      have pk : callAt Γ LD.tab (j + 2) 18 [penV (draw p 8).2, .lst [.non, .bl true, .bl false, .int 0, .int (-1), .str "x", .str "", .int 10000000000000000000000000000000000000000, .dic [(.inr "k", .int 1)]]] = _ := pk
      have nx := (consts_ok x (List.mem_of_getElem? ex)).clo
      simp [F43_law_any_field, Fn.run, Fn.start, evSs, evS, evE, evEs, d8, c0, c1, isOw, keepAll, valsOf, outI, flOf, setOwn, Cp.ap, eqvP_int, Op.ap, intP, resF, resB, boolP, E.io, E.io.ioL, Fn.fin, Fn.ioOf, ownAt0, cloO, pen_noClo, PV.noClo, PV.noClo.noCloL, ed, pk, nx]

/-- the tuple of a kind is shown in a short text -/
theorem sh_sok (h : Fld x) : SOk 600 (sh x) := by
  obtain ⟨d, e, h1, _⟩ := h.dat
  unfold sh
  rw [e]
  exact h1.sok
theorem tupleText_len : ∀ {ts : List Str} {L : Nat}, (∀ t ∈ ts, t.length ≤ L) → (tupleText ts).length ≤ (L + 2) * ts.length + 4 := fun {ts L} h => by
  have hj : (Str.join ", " ts).length ≤ (L + 2) * ts.length := by
    by_cases e : ts = []
    · rw [e]; exact Nat.zero_le _
    · have h1 := join_length_add ts e
      have h2 : ∀ l : List Str, (∀ t ∈ l, t.length ≤ L) → piled l ≤ (L + 2) * l.length := fun l => by
        induction l with
        | nil => exact fun _ => Nat.zero_le _
        | cons a l ih =>
          intro hl
          rw [piled_cons, List.length_cons, Nat.mul_succ]
          have := hl a List.mem_cons_self
          have := ih fun t m => hl t (List.mem_cons_of_mem _ m)
          omega
      have := h2 ts h
      omega
  unfold tupleText
  rw [strLen_append, strLen_append]
  have e1 : ("(" : Str).length = 1 := rfl
  have e2 : (Str.ofString (if (ts.length == 1) = true then ",)" else ")")).length ≤ 2 := by split <;> decide
  rw [e1]
  omega
/-- an item of such a tuple -/
structure Itm (x : PV) : Prop where
  dat : ∃ d, x.dat = some d ∧ d.showable = true ∧ d.depth ≤ 10 ∧ d.shown.length ≤ 7000
theorem Fld.itm (h : Fld x) : Itm x := by
  obtain ⟨d, e, h1, h2⟩ := h.dat
  exact ⟨d, e, h1.show_, h2, by have := h1.sok.len; omega⟩
theorem itm_sh (h : Fld x) : Itm (.str (sh x)) := by
  have s := sh_sok h
  refine ⟨.str (sh x), rfl, rfl, Nat.zero_le _, ?_⟩
  have := StrLaws.reprText_len (sh x) s.cps
  have := s.len
  show (reprText (sh x)).length ≤ _
  omega
def wordB (s : Str) : Bool := decide ((reprText s).length ≤ 7000)
theorem itm_word {s : Str} (h : wordB s = true) : Itm (.str s) := ⟨.str s, rfl, rfl, Nat.zero_le _, of_decide_eq_true h⟩
theorem tup_repr {xs : List PV} (hl : xs.length ≤ 10) (h : ∀ x ∈ xs, Itm x) : ∃ s, reprP (.tup xs) = some s := by
  have key : ∀ xs : List PV, (∀ x ∈ xs, Itm x) → ∃ ds, PV.dat.datL xs = some ds ∧ ds.length = xs.length ∧ PyData.showableAll ds = true ∧ PyData.depthAll ds ≤ 10 ∧ ∀ t ∈ PyData.shownAll ds, t.length ≤ 7000 := fun xs => by
    induction xs with
    | nil => exact fun _ => ⟨[], rfl, rfl, rfl, Nat.zero_le _, fun t m => by simp [PyData.shownAll] at m⟩
    | cons a xs ih =>
      intro h
      obtain ⟨d, e1, e2, e3, e4⟩ := (h a List.mem_cons_self).dat
      obtain ⟨ds, f1, f2, f3, f4, f5⟩ := ih fun x m => h x (List.mem_cons_of_mem _ m)
      refine ⟨d :: ds, by simp [PV.dat.datL, e1, f1], by simp [f2], by simp [PyData.showableAll, e2, f3], by simp [PyData.depthAll]; omega, fun t m => ?_⟩
      rw [PyData.shownAll, List.mem_cons] at m
      rcases m with rfl | m
      · exact e4
      · exact f5 t m
  obtain ⟨ds, f1, f2, f3, f4, f5⟩ := key xs h
  have e : (PV.tup xs).dat = some (.tuple ds) := by simp [PV.dat, f1]
  have hlen := tupleText_len f5
  have hsl : ∀ ds : List PyData, (PyData.shownAll ds).length = ds.length := fun ds => by
    induction ds with
    | nil => rfl
    | cons a ds ih => simp [PyData.shownAll, ih]
  rw [hsl, f2] at hlen
  refine ⟨(PyData.tuple ds).shown, ?_⟩
  unfold reprP
  rw [e]
  refine if_pos ⟨f3, ?_, ?_⟩
  · show PyData.depthAll ds + 1 ≤ 60
    omega
  · show (tupleText (PyData.shownAll ds)).length ≤ big
    have : (7000 + 2) * xs.length ≤ (7000 + 2) * 10 := Nat.mul_le_mul_left _ hl
    unfold big
    omega
theorem T_repr {κ : Nat} (hκ : κ < 15) (hx : Fld x) (hy : Fld y) (hz : Fld z) : ∃ s, reprP (T κ x y z) = some s := by
  have w : ∀ s ∈ (["number", "row", "table", "book", "badname", "text", "place", "noname", "taken", "unlike", "notthere", "many", "kept", "undo", "redo"] : List Str), Itm (.str s) := fun s m => itm_word (List.all_eq_true.mp (show ((["number", "row", "table", "book", "badname", "text", "place", "noname", "taken", "unlike", "notthere", "many", "kept", "undo", "redo"] : List Str).all wordB) = true by decide +kernel) s m)
  match κ, hκ with
  | 0, _ => exact tup_repr (by simp) (by simp [w, hx.itm, itm_sh hy])
  | 1, _ => exact tup_repr (by simp) (by simp [w, hx.itm, itm_sh hy])
  | 2, _ => exact tup_repr (by simp) (by simp [w, hx.itm])
  | 3, _ => exact tup_repr (by simp) (by simp [w, hx.itm])
  | 4, _ => exact tup_repr (by simp) (by simp [w, itm_sh hx])
  | 5, _ => exact tup_repr (by simp) (by simp [w, hx.itm, hy.itm])
  | 6, _ => exact tup_repr (by simp) (by simp [w, hx.itm, itm_sh hy])
  | 7, _ => exact tup_repr (by simp) (by simp [w, itm_sh hx])
  | 8, _ => exact tup_repr (by simp) (by simp [w, itm_sh hx])
  | 9, _ => exact tup_repr (by simp) (by simp [w, hx.itm])
  | 10, _ => exact tup_repr (by simp) (by simp [w, hx.itm])
  | 11, _ => exact tup_repr (by simp) (by simp [w, hx.itm, hy.itm, hz.itm])
  | 12, _ => exact tup_repr (by simp) (by simp [w, hx.itm, hy.itm])
  | 13, _ => exact tup_repr (by simp) (by simp [w])
  | 14, _ => exact tup_repr (by simp) (by simp [w])
  | n + 15, h => exact absurd h (by omega)
theorem told_ok {κ : Nat} (hκ : κ < 15) (hs : Γ.sub = subV) (hf : Γ.flds = fldsV) (hx : Fld x) (hy : Fld y) (hz : Fld z) : callAt Γ LD.tab (j + 3) 47 [.int κ, x, y, z] = .val true (.lst [T κ x y z]) none := by
  match κ, hκ with
  | 0, _ => exact told0 hs hf hx hy hz
  | 1, _ => exact told1 hs hf hx hy hz
  | 2, _ => exact told2 hs hf hx hy hz
  | 3, _ => exact told3 hs hf hx hy hz
  | 4, _ => exact told4 hs hf hx hy hz
  | 5, _ => exact told5 hs hf hx hy hz
  | 6, _ => exact told6 hs hf hx hy hz
  | 7, _ => exact told7 hs hf hx hy hz
  | 8, _ => exact told8 hs hf hx hy hz
  | 9, _ => exact told9 hs hf hx hy hz
  | 10, _ => exact told10 hs hf hx hy hz
  | 11, _ => exact told11 hs hf hx hy hz
  | 12, _ => exact told12 hs hf hx hy hz
  | 13, _ => exact told13 hs hf hx hy hz
  | 14, _ => exact told14 hs hf hx hy hz
  | n + 15, h => exact absurd h (by omega)
theorem due_ok {κ : Nat} (hκ : κ < 15) (hs : Γ.sub = subV) (hf : Γ.flds = fldsV) (hx : Fld x) (hy : Fld y) (hz : Fld z) : callAt Γ LD.tab (j + 1) 48 [.int κ, x, y, z] = .val false (T κ x y z) none := by
  match κ, hκ with
  | 0, _ => exact due0 hs hf hx hy hz
  | 1, _ => exact due1 hs hf hx hy hz
  | 2, _ => exact due2 hs hf hx hy hz
  | 3, _ => exact due3 hs hf hx hy hz
  | 4, _ => exact due4 hs hf hx hy hz
  | 5, _ => exact due5 hs hf hx hy hz
  | 6, _ => exact due6 hs hf hx hy hz
  | 7, _ => exact due7 hs hf hx hy hz
  | 8, _ => exact due8 hs hf hx hy hz
  | 9, _ => exact due9 hs hf hx hy hz
  | 10, _ => exact due10 hs hf hx hy hz
  | 11, _ => exact due11 hs hf hx hy hz
  | 12, _ => exact due12 hs hf hx hy hz
  | 13, _ => exact due13 hs hf hx hy hz
  | 14, _ => exact due14 hs hf hx hy hz
  | n + 15, h => exact absurd h (by omega)
/-- one turn of the law's loop -/
abbrev lawBody : Ss := .cons (.par [3, 4, 5] (.cons (.calli 43 1 .nil) (.cons (.calli 43 1 .nil) (.cons (.calli 43 1 .nil) .nil))))
  (.cons (.set 6 (.call 47 (.cons (.sv 2) (.cons (.sv 3) (.cons (.sv 4) (.cons (.sv 5) .nil))))))
  (.cons (.ifs (.or (.cmp .is (.bw 6) (.k .non)) (.or (.cmp .ne (.bi .len (.cons (.bw 6) .nil)) (.k (.int 1))) (.cmp .ne (.bi .repr (.cons (.ix (.bw 6) (.k (.int 0))) .nil)) (.bi .repr (.cons (.call 48 (.cons (.sv 2) (.cons (.sv 3) (.cons (.sv 4) (.cons (.sv 5) .nil))))) .nil)))))
  (.cons (.ret (.k (.bl false)))
  .nil)
  .nil)
  .nil))
theorem law_turn {s0 a b c d e : Sl} {p : Pen} {n κ : Nat} (hs : Γ.sub = subV) (hf : Γ.flds = fldsV) (hκ : κ < 15) (h : PenOk (n + 6) p) : ∃ p' a' b' c' d' e', forStep { Γ with call := callAt Γ LD.tab (j + 3) } (.n 2) lawBody (.int κ) [s0, .ow (penV p), a, b, c, d, e] = .ok .nx [s0, .ow (penV p'), a', b', c', d', e'] ∧ PenOk n p' := by
  obtain ⟨o1, x, p1, e1, f1, h1⟩ := any_ok (Γ := Γ) (j := j) (n := n + 4) h
  obtain ⟨o2, y, p2, e2, f2, h2⟩ := any_ok (Γ := Γ) (j := j) (n := n + 2) h1
  obtain ⟨o3, z, p3, e3, f3, h3⟩ := any_ok (Γ := Γ) (j := j) (n := n) h2
  have t := told_ok (j := j) hκ hs hf f1 f2 f3
  have u := due_ok (j := j + 2) hκ hs hf f1 f2 f3
  obtain ⟨s, es⟩ := T_repr hκ f1 f2 f3
  have ni : isP (.lst [T κ x y z]) .non = some false := rfl
  refine ⟨p3, .sh (.int κ), .sh x, .sh y, .sh z, .ow (.lst [T κ x y z]), ?_, h3⟩
  cases o1 <;> cases o2 <;> cases o3 <;>
    simp [forStep, Tg.set, evSs, evS, evE, evEs, isOw, keepAll, valsOf, e1, e2, e3, outI, outR, flOf, setAll, setOwn, t, u, E.io, E.io.ioL, Cp.ap, ni, resB, boolP, Bi.ap, resF, resO, eqvP_int, eqvP_str, ixP, place, es]
theorem forRun_inv {step : PV → Slots → Rs Fw} {I : Nat → Slots → Prop} : ∀ (xs : List PV) (i : Nat), (∀ k x, xs[k]? = some x → ∀ st, I (i + k) st → ∃ st', step x st = .ok .nx st' ∧ I (i + k + 1) st') → ∀ st, I i st → ∃ st', forRun step xs st = .ok .nx st' ∧ I (i + xs.length) st'
  | [], i, _, st, h => ⟨st, rfl, h⟩
  | x :: xs, i, hs, st, h => by
    obtain ⟨st1, e1, h1⟩ := hs 0 x rfl st h
    obtain ⟨st2, e2, h2⟩ := forRun_inv xs (i + 1) (fun k y e st q => by
      have := hs (k + 1) y (by simpa using e) st (by rw [show i + (k + 1) = i + 1 + k by omega]; exact q)
      rw [show i + (k + 1) + 1 = i + 1 + k + 1 by omega] at this
      exact this) st1 h1
    refine ⟨st2, ?_, by rw [List.length_cons, show i + (xs.length + 1) = i + 1 + xs.length by omega]; exact h2⟩
    rw [forRun, e1]
    exact e2
end
theorem plain : ∀ ns : List Int, ns.length ≤ 63 → (∀ z ∈ ns, Builtin.Int.intBits z ≤ 1048576) → ∃ o, LD.law.F.run { Γ0 with call := callAt Γ0 LD.tab 3 } [scriptV ns] = .val o (.bl true) none := fun ns hl hb => by
  have pn : callAt Γ0 LD.tab 3 16 [scriptV ns] = _ := pen_ok (Γ := Γ0) (k := 2) LD.tab rfl hl
  have h0 : PenOk 1000 (pen0 ns) := (pen0_ok fun z m => bits_log (hb z m)).mono (by decide)
  have rg : rangeP 0 15 = some ((List.range 15).map fun (i : Nat) => PV.int (0 + i)) := by
    unfold rangeP lim
    rw [if_pos (by decide)]
    rfl
  obtain ⟨st, e, _⟩ := forRun_inv (step := forStep { Γ0 with call := callAt Γ0 LD.tab 3 } (.n 2) lawBody) (I := fun i st => ∃ p a b c d e, st = [.sh (scriptV ns), .ow (penV p), a, b, c, d, e] ∧ PenOk (1000 - 6 * i) p)
    ((List.range 15).map fun (i : Nat) => PV.int (0 + i)) 0 (fun k x ex st ⟨p, a, b, c, d, e, es, hp⟩ => by
      have hk : k < 15 := by
        have := (List.getElem?_eq_some_iff.mp ex).1
        simpa using this
      have exk : x = .int k := by
        rw [List.getElem?_map, List.getElem?_range hk] at ex
        have := Option.some.inj ex
        rw [← this]
        show PV.int (0 + (k : Int)) = _
        rw [Int.zero_add]
      subst exk es
      obtain ⟨p', a', b', c', d', e', e1, e2⟩ := law_turn (Γ := Γ0) (j := 0) (s0 := .sh (scriptV ns)) (a := a) (b := b) (c := c) (d := d) (e := e) (n := 1000 - 6 * (0 + k + 1)) rfl rfl hk (hp.mono (by omega))
      exact ⟨_, e1, p', a', b', c', d', e', rfl, e2⟩) _ ⟨pen0 ns, .no, .no, .no, .no, .no, rfl, h0⟩
  obtain ⟨p, a, b, c, d, e5, es, _⟩ := (show ∃ p a b c d e, st = [.sh (scriptV ns), .ow (penV p), a, b, c, d, e] ∧ PenOk (1000 - 6 * (0 + ((List.range 15).map fun (i : Nat) => PV.int (0 + i)).length)) p by assumption)
  refine ⟨false, ?_⟩
  show F49_law.fin (evSs { Γ0 with call := callAt Γ0 LD.tab 3 } F49_law.body [.sh (scriptV ns), .no, .no, .no, .no, .no, .no]) = _
  unfold F49_law
  rw [ss_nx (st1 := [.sh (scriptV ns), .ow (penV (pen0 ns)), .no, .no, .no, .no, .no]) (by simp [evS, evE, evEs, keepAll, valsOf, pn, outR, flOf, setOwn, E.io, E.io.ioL])]
  rw [ss_nx (st1 := st) ((for_ok (f := .sh) (xs := (List.range 15).map fun (i : Nat) => PV.int (0 + i)) (st1 := [.sh (scriptV ns), .ow (penV (pen0 ns)), .no, .no, .no, .no, .no]) (by simp [evI, evE, intP, rg]) (by decide)).trans e)]
  subst es
  simp [evSs, evS, evE, Fn.fin, Fn.ioOf, cloO, PV.noClo]
end Mi.K

open PySem PySem.W PySem.Calls PyProof.Rows
theorem PySem.Challenge.cw_twobefore_k01_errors_holds : PySem.Challenge.rw_twobefore_k01_errors.Holds := by
  w_on; o_law
  refine HandSHeadRun.head_any (r := Mi.K.R) (q := view Mi.K.R.prog [29]) (H := Mi.hookL 4 Mi.K.LD Mi.K.Γ0) (ob := Mi.obL 4 Mi.K.LD Mi.K.Γ0) (M := 40000) (loose := Mi.K.loose) (d := HandSHeadRun.topDef Mi.K.R.prog 29) (kwd := []) Mi.obL_eq
    (by kernel_rfl) (fun s => by kernel_rfl) Mi.K.run (by kernel_rfl) (by kernel_rfl) (by kernel_rfl) (by rfl) (by first | assumption | decide +kernel) (by decide +kernel) ⟨rfl, rfl, rfl, rfl, rfl, by decide +kernel⟩ ?hw ?hc
  case hw => w_witness2
  case hc => exact Mi.law_endM (l := PySem.Challenge.rw_twobefore_k01_errors) (n := 63) (m := 4) (k := 3) rfl (by decide) (by kernel_rfl) ⟨rfl, by decide, by decide⟩ Mi.K.chk (by kernel_rfl) rfl rfl Mi.K.plain
