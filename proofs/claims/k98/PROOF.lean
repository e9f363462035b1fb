import PyProof.Rows.All
import Wide.All
import OpenK.AllK
import Wide.FinOn
import PySem.PyData
import PySem.Syntax
import PyProof.EqLayable
import HandS.Text
import HandS.ForMost
import HandS.Exc
import HandS.Wide
import HandS.IsInst
import HandS.Flow
import HandS.Walk
import HandS.Iter
import HandS.Property
import HandS.CallSlots
import HandS.Strs
import HandS.Dict
import KE.KOpsOwn
import OpenK.KMeth
import PyProof.DictUpdate
import HandS.TupAny
import PyProof.AssignAttr
import KE.GoesMore
import HandS.Star
import HandS.Zip
import HandS.ExcInit
import HandS.Deep
import HandS.WideBits
import HandS.More
import HandS.Set
import HandS.SetFor
import HandS.RaiseMore
import HandS.NoneIn
import HandS.Style
import HandS.Defaults
import HandS.WordsExc
import HandS.EndBits
import PyProof.TableCode
import PySem.Challenge.RW_wayoutdeeds_k98_whole_great_bodies_and_b
set_option Elab.async false
set_option linter.all false
set_option maxRecDepth 100000
/-! Z1: a small language with slots, its plain evaluator. -/
namespace Z
open PySem
/-- an exception: its class's name, the names and values that it keeps (none: it has no own __init__) -/
structure Ex where
  c : Str
  fs : Option (List Str × List PyData)
/-- what a name or a place of a local list holds: data, a shared object, a local object, a list only read, a caught exception -/
inductive W where
  | v (d : PyData) | ref (n : Nat) | loc (n : Nat) | ro (ds : List PyData) | exc (x : Ex) | tv (ds : List PyData)
/-- a local object: gone, a list, a dict -/
inductive OL where
  | dead | lst (ws : List W) | dic (ks : List Str) (ws : List W)
/-- a shared object: a list of data, one that is only read, an instance -/
inductive OS where
  | lst (ds : List PyData) | ro (ds : List PyData) | ins (c : Str) (fs : List (Str × W))
structure Mem where
  L : List OL
  S : List OS
inductive R (α : Type) where
  | ok (a : α) (m : Mem) | err (x : Ex) (m : Mem) | bad
def R.b {α β : Type} (r : R α) (f : α → Mem → R β) : R β := match r with
  | .ok a m => f a m
  | .err x m => .err x m
  | .bad => .bad
def ofO {α : Type} (o : Option α) (m : Mem) : R α := match o with
  | some a => .ok a m
  | none => .bad
abbrev szL : Nat := 16777216
inductive Bop where
  | add | sub | mul | fdiv | mod | pow
inductive Cop where
  | eq | ne | lt | le | gt | ge | isin | notin
inductive Ty where
  | int | bool | str | list | tuple
inductive Blt where
  | len | sum | min | max | all | any | int | abs | list | tuple | sorted | str
inductive Mth where
  | append | extend | pop
/-- methods of built-in types, by data -/
inductive Dm where
  | split | words | join | partition | startswith | index | get
/-- how an instance is asked -/
inductive Mk where
  | meth (m : Str) | len | get | eq | ne
inductive Kd where
  | fz | loc | shr
mutual
inductive E where
  | var (i : Nat) | cst (d : PyData)
  | bin (o : Bop) (a b : E) | neg (a : E)
  | cmp (o : Cop) (a b : E) | chn (o1 o2 : Cop) (a b c : E)
  | isN (a : E) | notN (a : E)
  | not (a : E) | and (es : ES) | or (es : ES)
  | ite (c a b : E)
  | tup (es : ES)
  | tupS (es : ES) | catS (a b : E)
  | lst (k : Kd) (l : LE)
  | ix (a i : E)
  | sl (a : E) (lo hi : OE)
  | call (f : Nat) (es : ES)
  | blt (b : Blt) (es : ES)
  | isi (ts : List Ty) (a : E)
  | frz (a : E)
  | mth (m : Mth) (o : E) (es : ES)
  | fld (c : Str) (o : E) (f : Str)
  | never
  | prp (c p : Str) (f : Nat) (o : E)
  | xfld (o : E) (f : Str)
  | isx (c : Str) (a : E)
  | callD (f : Nat) (es : ES) (ds : List PyData)
  | mc (k : Mk) (c : Str) (f : Nat) (o : E) (es : ES) (ds : List PyData)
  | mIn (neg : Bool) (c : Str) (f : Nat) (x o : E)
  | new (c : Str) (f : Nat) (es : ES) (ds : List PyData)
  | dnew (k : Kd)
  | dstar (d key v : E)
  | dm (t : Dm) (o : E) (es : ES)
  | sset (e : E)
  | lset (e : E)
  | gix (d : List (Str × PyData)) (e : E)
inductive ES where
  | nil | cons (e : E) (r : ES) | star (e : E) (r : ES)
inductive OE where
  | none | some (e : E)
inductive LE where
  | disp (es : ES)
  | cat (a b : E)
  | comp (own : List Nat) (g : G) (src : IT) (ifs : ES) (elt : E)
  | comp2 (own : List Nat) (own2 : List Nat) (g : G) (src : IT) (ifs : ES) (g2 : G) (src2 : IT) (ifs2 : ES) (elt : E)
  | of (e : E)
  | step (e : E) (k : Nat)
inductive IT where
  | seq (e : E) | rng1 (e : E) | rng2 (a b : E) | enm (e : E) | zip (a b : E)
inductive G where
  | nm (i : Nat) | tp (gs : GS)
inductive GS where
  | nil | cons (g : G) (r : GS)
end
abbrev Env := List (Option W)
abbrev Orc := Nat → List W → List OS → R W
/-! ### values -/
mutual
/-- no dict in it -/
def nod : PyData → Bool
  | .list xs => nods xs
  | .tuple xs => nods xs
  | .dict _ => false
  | _ => true
def nods : List PyData → Bool
  | [] => true
  | d :: r => nod d && nods r
end
def shp (d : PyData) : Bool := nod d && SeqAt.shaped d
def eqD (a b : PyData) : Option Bool := match a, b with
  | .str x, .str y => some (decide (x = y))
  | .int i, .int j => some (decide (i = j))
  | .bool i, .bool j => some (decide (i = j))
  | .none, .none => some true
  | a, b => if shp a && shp b then some (PyData.eqv a b) else none
def mulFit (i j : Int) : Bool := decide (i.natAbs.log2 + j.natAbs.log2 < 100000000)
def divFit (j : Int) : Bool := decide (0 < j ∧ j.natAbs.log2 < 9000)
def powFit (i j : Int) : Bool := decide (0 ≤ j ∧ j ≤ 1000000 ∧ i.natAbs < 2 ^ 64)
def binD (o : Bop) (a b : PyData) : Option PyData := match o, a, b with
  | .add, .int i, .int j => some (.int (i + j))
  | .add, .str x, .str y => if x.length + y.length ≤ szL then some (.str (x ++ y)) else none
  | .add, .tuple xs, .tuple ys => if xs.length + ys.length ≤ szL then some (.tuple (xs ++ ys)) else none
  | .add, .list xs, .list ys => if xs.length + ys.length ≤ szL then some (.list (xs ++ ys)) else none
  | .sub, .int i, .int j => some (.int (i - j))
  | .mul, .int i, .int j => if mulFit i j = true then some (.int (i * j)) else none
  | .fdiv, .int i, .int j => if divFit j = true then some (.int (i / j)) else none
  | .mod, .int i, .int j => if 0 < j then some (.int (i % j)) else none
  | .pow, .int i, .int j => if powFit i j = true then some (.int (i ^ j.toNat)) else none
  | _, _, _ => none
/-! texts, dicts -/
def asStr : PyData → Option Str
  | .str x => some x
  | _ => none
def strsOf : List PyData → Option (List Str)
  | [] => some []
  | d :: r => (asStr d).bind fun x => (strsOf r).map (x :: ·)
def ltS (x y : Str) : Bool := decide (x.cps.toList < y.cps.toList)
def insS (x : Str) : List Str → List Str
  | [] => [x]
  | y :: r => if ltS y x = true then y :: insS x r else x :: y :: r
/-- ascending -/
def sortS : List Str → List Str
  | [] => []
  | x :: r => insS x (sortS r)
def insU (x : Str) : List Str → List Str
  | [] => [x]
  | y :: r => if y = x then y :: r else if ltS y x = true then y :: insU x r else x :: y :: r
/-- ascending, without duplicates -/
def usort : List Str → List Str
  | [] => []
  | x :: r => insU x (usort r)
def dkey (x : Str) (p : PyData × PyData) : Bool := match p.1 with
  | .str y => decide (y = x)
  | _ => false
def dgetD (x : Str) (kvs : List (PyData × PyData)) : Option PyData := (kvs.find? (dkey x)).map (·.2)
def dputD (x : Str) (d : PyData) (kvs : List (PyData × PyData)) : List (PyData × PyData) :=
  if kvs.any (dkey x) = true then kvs.map (fun p => if dkey x p = true then (p.1, d) else p) else kvs ++ [(.str x, d)]
def keysD : List (PyData × PyData) → Option (List Str)
  | [] => some []
  | p :: r => (asStr p.1).bind fun x => (keysD r).map (x :: ·)
def idxS (x : Str) : List Str → Option Nat
  | [] => none
  | y :: r => if y = x then some 0 else (idxS x r).map (· + 1)
def inD (a b : PyData) : Option Bool := match a, b with
  | .str x, .tuple ys => (strsOf ys).map fun ss => ss.contains x
  | .str x, .list ys => (strsOf ys).map fun ss => ss.contains x
  | .str x, .dict kvs => some (dgetD x kvs).isSome
  | .str x, .str y => match x.cps.toList with
    | [c] => some (decide (c ∈ y.cps.toList))
    | _ => none
  | a, .list ys => if shp a && shp (.list ys) then some (ys.any fun z => PyData.eqv z a) else none
  | _, _ => none
def cmpD (o : Cop) (a b : PyData) : Option Bool := match o with
  | .eq => eqD a b
  | .ne => (eqD a b).map (!·)
  | .lt => match a, b with | .int i, .int j => some (decide (i < j)) | .str x, .str y => some (ltS x y) | _, _ => none
  | .le => match a, b with | .int i, .int j => some (decide (i ≤ j)) | _, _ => none
  | .gt => match a, b with | .int i, .int j => some (decide (j < i)) | _, _ => none
  | .ge => match a, b with | .int i, .int j => some (decide (j ≤ i)) | _, _ => none
  | .isin => inD a b
  | .notin => (inD a b).map (!·)
def allV : List W → Option (List PyData)
  | [] => some []
  | .v d :: r => (allV r).map (d :: ·)
  | _ :: _ => none
/-- what stands there to be read, as data -/
def peek (m : Mem) : W → Option PyData
  | .v d => some d
  | .ro ds => some (.list ds)
  | .ref n => match m.S[n]? with
    | some (.lst ds) => some (.list ds)
    | some (.ro ds) => some (.list ds)
    | _ => none
  | .loc n => match m.L[n]? with
    | some (.lst ws) => (allV ws).map .list
    | some (.dic ks ws) => (allV ws).map fun ds => .dict ((ks.map .str).zip ds)
    | _ => none
  | .exc _ => none
  | .tv ds => some (.tuple ds)
/-- .. one that may be added to -/
def peekT (m : Mem) : W → Option PyData
  | .ref n => match m.S[n]? with
    | some (.lst ds) => some (.list ds)
    | _ => none
  | .ro _ => none
  | w => peek m w
def itemsD : PyData → Option (List PyData)
  | .list ds => some ds
  | .tuple ds => some ds
  | _ => none
/-- the items of a list or a tuple -/
def itemsW (m : Mem) (w : W) : Option (List W) := match w with
  | .exc _ => none
  | .tv ds => some (ds.map .v)
  | .v d => (itemsD d).map (·.map .v)
  | .ro ds => some (ds.map .v)
  | .ref n => match m.S[n]? with
    | some (.lst ds) => some (ds.map .v)
    | some (.ro ds) => some (ds.map .v)
    | _ => none
  | .loc n => match m.L[n]? with
    | some (.lst ws) => some ws
    | _ => none
/-- .. of a list that may be added to -/
def itemsL (m : Mem) (w : W) : Option (List W) := match w with
  | .exc _ => none
  | .tv _ => none
  | .v (.list ds) => some (ds.map .v)
  | .v _ => none
  | .ro _ => none
  | .ref n => match m.S[n]? with
    | some (.lst ds) => some (ds.map .v)
    | _ => none
  | .loc n => match m.L[n]? with
    | some (.lst ws) => some ws
    | _ => none
/-- .. or of a tuple -/
def itemsT (m : Mem) (w : W) : Option (List W) := match w with
  | .v (.tuple ds) => some (ds.map .v)
  | w => itemsL m w
def truD : PyData → Option Bool
  | .none => some false
  | .bool b => some b
  | .int i => some (i != 0)
  | .str x => if x.length ≤ szL then some ((x.length : Int) != 0) else none
  | .list ds => some (!ds.isEmpty)
  | .tuple ds => some (!ds.isEmpty)
  | .dict _ => none
def truW (m : Mem) : W → Option Bool
  | .v d => truD d
  | .ro ds => some (!ds.isEmpty)
  | .ref n => match m.S[n]? with
    | some (.lst ds) => some (!ds.isEmpty)
    | some (.ro ds) => some (!ds.isEmpty)
    | _ => none
  | .loc n => match m.L[n]? with
    | some (.lst ws) => some (!ws.isEmpty)
    | _ => none
  | .exc _ => none
  | .tv ds => some (!ds.isEmpty)
def isNW : W → Option Bool
  | .v .none => some true
  | .v _ => some false
  | .ref _ => some false
  | .ro _ => some false
  | .exc _ => some false
  | .tv _ => some false
  | .loc _ => none
def asInt : PyData → Option Int
  | .int i => some i
  | _ => none
def asBool : PyData → Option Bool
  | .bool b => some b
  | _ => none
def intsOf : List PyData → Option (List Int)
  | [] => some []
  | d :: r => (asInt d).bind fun i => (intsOf r).map (i :: ·)
def boolsOf : List PyData → Option (List Bool)
  | [] => some []
  | d :: r => (asBool d).bind fun i => (boolsOf r).map (i :: ·)
def maxI : List Int → Option Int
  | [] => none
  | x :: r => some (r.foldl max x)
def minI : List Int → Option Int
  | [] => none
  | x :: r => some (r.foldl min x)
def tyOf : PyData → Option Ty
  | .bool _ => some .bool
  | .int _ => some .int
  | .str _ => some .str
  | .list _ => some .list
  | .tuple _ => some .tuple
  | _ => none
def tyLe : Ty → Ty → Bool
  | .int, .int => true | .bool, .bool => true | .bool, .int => true | .str, .str => true | .list, .list => true | .tuple, .tuple => true
  | _, _ => false
def isiD (ts : List Ty) (d : PyData) : Option Bool := match d with
  | .dict _ => none
  | d => match tyOf d with
    | none => some false
    | some t => some (ts.any (tyLe t))
def ixN (n : Nat) (i : Int) : Option Nat := if 0 ≤ i then (if i < n then some i.toNat else none) else if -(n : Int) ≤ i then some (i + n).toNat else none
def atI {α : Type} (xs : List α) (i : Int) : Option α := (ixN xs.length i).bind fun j => xs[j]?
def sIx (n d : Nat) : Option Int → Nat
  | none => d
  | some v => if v < 0 then (v + n).toNat else min v.toNat n
def cut {α : Type} (xs : List α) (lo hi : Option Int) : List α := (xs.drop (sIx xs.length 0 lo)).take (sIx xs.length xs.length hi - sIx xs.length 0 lo)
def ixW (m : Mem) (w : W) (i : W) : Option W := match i with
  | .v (.int i) => match w with
    | .v (.str x) => if x.length ≤ szL then (atI x.cps.toList i).map fun c => .v (.str ⟨#[c]⟩) else none
    | w => (itemsW m w).bind fun ws => atI ws i
  | .v (.str k) => (peek m w).bind fun d => match d with
    | .dict kvs => (dgetD k kvs).map .v
    | _ => none
  | _ => none
/-- a slice: of a tuple, of a list (a new one) -/
def slW (m : Mem) (w : W) (lo hi : Option Int) : Option PyData := (peek m w).bind fun d => match d with
  | .tuple ds => some (.tuple (cut ds lo hi))
  | .list ds => some (.list (cut ds lo hi))
  | .str x => if x.length ≤ szL then some (.str ⟨(cut x.cps.toList lo hi).toArray⟩) else none
  | _ => none
def bltD (b : Blt) (ds : List PyData) : Option PyData := match b, ds with
  | .len, [.list xs] => some (.int xs.length)
  | .len, [.tuple xs] => some (.int xs.length)
  | .len, [.str x] => if x.length ≤ szL then some (.int x.length) else none
  | .sum, [.list xs] => (intsOf xs).map fun ns => .int ns.sum
  | .max, [.list xs] => (intsOf xs).bind fun ns => (maxI ns).map .int
  | .min, [.list xs] => (intsOf xs).bind fun ns => (minI ns).map .int
  | .max, [.tuple xs] => (intsOf xs).bind fun ns => (maxI ns).map .int
  | .min, [.tuple xs] => (intsOf xs).bind fun ns => (minI ns).map .int
  | .max, [.int i, .int j] => some (.int (if i < j then j else i))
  | .min, [.int i, .int j] => some (.int (if j < i then j else i))
  | .all, [.list xs] => (boolsOf xs).map fun bs => .bool (bs.all id)
  | .any, [.list xs] => (boolsOf xs).map fun bs => .bool (bs.any id)
  | .int, [.int i] => some (.int i)
  | .int, [.bool b] => some (.int (if b then 1 else 0))
  | .abs, [.int i] => some (.int i.natAbs)
  | .tuple, [.list xs] => some (.tuple xs)
  | .tuple, [.tuple xs] => some (.tuple xs)
  | .len, [.dict kvs] => some (.int kvs.length)
  | .sorted, [.list xs] => (strsOf xs).bind fun ss => if ss.length < 64 then some (.list ((sortS ss).map .str)) else none
  | .sorted, [.tuple xs] => (strsOf xs).bind fun ss => if ss.length < 64 then some (.list ((sortS ss).map .str)) else none
  | .sorted, [.dict kvs] => (keysD kvs).bind fun ss => if ss.length < 64 then some (.list ((sortS ss).map .str)) else none
  | .str, [.str x] => some (.str x)
  | _, _ => none
def dmD (t : Dm) (o : PyData) (ds : List PyData) : Option PyData := match t, o, ds with
  | .index, .tuple xs, [.str x] => (strsOf xs).bind fun ss => (idxS x ss).map fun i => .int i
  | .get, .dict kvs, [.str x] => some ((dgetD x kvs).getD .none)
  | .get, .dict kvs, [.str x, d] => some ((dgetD x kvs).getD d)
  | .split, .str a, [.str b] => if b.length = 0 then none else if a.length + 2 ≤ szL then some (.list ((Txt.split a b).map .str)) else none
  | .words, .str a, [] => if a.length + 2 ≤ szL then some (.list ((Txt.words a).map .str)) else none
  | .startswith, .str a, [.str b] => some (.bool (Txt.startswith a b))
  | .partition, .str a, [.str b] => if b.length = 0 then none else if a.length ≤ szL then some (.tuple [.str (Txt.partition a b).1, .str (Txt.partition a b).2.1, .str (Txt.partition a b).2.2]) else none
  | .join, .str a, [.list xs] => (strsOf xs).bind fun ys => if (ys.map (·.length)).sum + ys.length * a.length ≤ szL then some (.str (Txt.join a ys)) else none
  | .join, .str a, [.tuple xs] => (strsOf xs).bind fun ys => if (ys.map (·.length)).sum + ys.length * a.length ≤ szL then some (.str (Txt.join a ys)) else none
  | _, _, _ => none
def peeks (m : Mem) : List W → Option (List PyData)
  | [] => some []
  | w :: r => (peek m w).bind fun d => (peeks m r).map (d :: ·)
def args : List W → Bool
  | [] => true
  | .loc _ :: _ => false
  | _ :: r => args r
/-- the local object becomes data: nothing may be done to it any more -/
def freeze (m : Mem) : W → R W
  | .loc n => match m.L[n]? with
    | some (.lst ws) => match allV ws with
      | some ds => .ok (.v (.list ds)) { m with L := m.L.set n .dead }
      | none => .bad
    | _ => .bad
  | w => .ok w m
def mk (k : Kd) (ws : List W) (m : Mem) : R W := if ws.length ≤ szL then (match k with
  | .fz => ofO ((allV ws).map fun ds => .v (.list ds)) m
  | .loc => .ok (.loc m.L.length) { m with L := m.L ++ [.lst ws] }
  | .shr => match allV ws with
    | some ds => .ok (.ref m.S.length) { m with S := m.S ++ [.lst ds] }
    | none => .bad) else .bad
/-- is it of the type that the method is of -/
def mtyW (t : Mth) (m : Mem) (w : W) : Bool := match t, w with
  | .append, .loc n => match m.L[n]? with
    | some (.lst _) => true
    | _ => false
  | .append, .ref n => match m.S[n]? with
    | some (.lst _) => true
    | _ => false
  | _, .loc n => match m.L[n]? with
    | some (.lst _) => true
    | _ => false
  | _, .ref n => match m.S[n]? with
    | some (.lst _) => true
    | _ => false
  | _, _ => false
def mthW (t : Mth) (o : W) (ws : List W) (m : Mem) : R W := match t, o, ws with
  | .append, .loc n, [w] => match m.L[n]? with
    | some (.lst xs) => if xs.length < szL then .ok (.v .none) { m with L := m.L.set n (.lst (xs ++ [w])) } else .bad
    | _ => .bad
  | .append, .ref n, [.v d] => match m.S[n]? with
    | some (.lst xs) => if xs.length < szL then .ok (.v .none) { m with S := m.S.set n (.lst (xs ++ [d])) } else .bad
    | _ => .bad
  | .extend, .loc n, [w] => match m.L[n]? with
    | some (.lst xs) => (match itemsT m w with
      | some ys => if xs.length + ys.length ≤ szL then .ok (.v .none) { m with L := m.L.set n (.lst (xs ++ ys)) } else .bad
      | none => .bad)
    | _ => .bad
  | .pop, .loc n, [] => match m.L[n]? with
    | some (.lst xs) => (match xs[xs.length - 1]? with
      | some w => .ok w { m with L := m.L.set n (.lst xs.dropLast) }
      | none => .bad)
    | _ => .bad
  | .pop, .ref n, [] => match m.S[n]? with
    | some (.lst xs) => (match xs[xs.length - 1]? with
      | some d => .ok (.v d) { m with S := m.S.set n (.lst xs.dropLast) }
      | none => .bad)
    | _ => .bad
  | _, _, _ => .bad
/-! instances -/
def isIns (m : Mem) (w : W) (c : Str) : Bool := match w with
  | .ref n => (match m.S[n]? with
    | some (.ins c' _) => decide (c' = c)
    | _ => false)
  | _ => false
def noFld (m : Mem) (w : W) (f : Str) : Bool := match w with
  | .ref n => (match m.S[n]? with
    | some (.ins _ fs) => (fs.lookup f).isNone
    | _ => false)
  | _ => false
def fldW (m : Mem) (w : W) (f : Str) : Option W := match w with
  | .ref n => (match m.S[n]? with
    | some (.ins _ fs) => fs.lookup f
    | _ => none)
  | _ => none
def putA (f : Str) (w : W) : List (Str × W) → List (Str × W)
  | [] => [(f, w)]
  | (g, x) :: r => if g = f then (g, w) :: r else (g, x) :: putA f w r
def setFld (m : Mem) (o : W) (f : Str) (w : W) : Option Mem := match o with
  | .ref n => if args [w] then (match m.S[n]? with
    | some (.ins c fs) => if fs.length < 1000 then some { m with S := m.S.set n (.ins c (putA f w fs)) } else none
    | _ => none) else none
  | _ => none
def R.ne {α : Type} : R α → R α
  | .ok a m => .ok a m
  | _ => .bad
/-- a def is called -/
def cl (C : Orc) (f : Nat) (ws : List W) (m : Mem) : R W := if args ws then (match C f ws m.S with
    | .ok w m' => if args [w] then .ok w { m with S := m'.S } else .bad
    | .err x m' => .err x { m with S := m'.S }
    | .bad => .bad) else .bad
def Mk.pre (k : Mk) (m : Mem) (x : W) : Bool := match k with
  | .meth n => noFld m x n
  | _ => true
def Mk.post (k : Mk) (w : W) : Option W := match k, w with
  | .len, .v (.int i) => if 0 ≤ i ∧ i < 2 ^ 62 then some (.v (.int i)) else none
  | .len, _ => none
  | .eq, .v (.bool b) => some (.v (.bool b))
  | .eq, _ => none
  | .ne, .v (.bool b) => some (.v (.bool (!b)))
  | .ne, _ => none
  | _, w => some w
/-- every k-th item -/
def steps {α : Type} (k : Nat) : Nat → List α → List α
  | _, [] => []
  | 0, x :: r => x :: steps k (k - 1) r
  | i + 1, _ :: r => steps k i r
def wipe (ρ : Env) : List Nat → Env
  | [] => ρ
  | v :: vs => (wipe ρ vs).set v none
mutual
def asg : G → W → Env → Option Env
  | .nm i, w, ρ => if i < ρ.length then some (ρ.set i (some w)) else none
  | .tp gs, .v (.tuple ds), ρ => asgs gs (ds.map .v) ρ
  | .tp gs, .v (.list ds), ρ => asgs gs (ds.map .v) ρ
  | .tp _, _, _ => none
def asgs : GS → List W → Env → Option Env
  | .nil, [], ρ => some ρ
  | .cons g r, w :: ws, ρ => (asg g w ρ).bind fun ρ => asgs r ws ρ
  | _, _, _ => none
end
def rgI (a : Int) : Nat → List PyData
  | 0 => []
  | n + 1 => .int a :: rgI (a + 1) n
def enmD (i : Int) : List PyData → List PyData
  | [] => []
  | d :: r => .tuple [.int i, d] :: enmD (i + 1) r
def zipD : List PyData → List PyData → List PyData
  | x :: xs, y :: ys => .tuple [x, y] :: zipD xs ys
  | _, _ => []
def zipP : PyData → PyData → Option (List PyData)
  | .list xs, .list ys => some (zipD xs ys)
  | .tuple xs, .tuple ys => some (zipD xs ys)
  | _, _ => none
def small (i : Int) : Bool := decide (-(2 ^ 62) ≤ i) && decide (i < 2 ^ 62)
/-- the turns of a comprehension: what is laid so far, behind -/
def turnsL (f : PyData → List W → Mem → R (List W)) : List PyData → List W → Mem → R (List W)
  | [], acc, m => .ok acc m
  | d :: r, acc, m => (f d acc m).ne.b fun acc m => turnsL f r acc m
def turns (f : PyData → Mem → R (Option W)) : List PyData → List W → Mem → R (List W)
  | [], acc, m => .ok acc m
  | d :: r, acc, m => (f d m).ne.b fun o m' => match o with
    | some w => if acc.length < szL then turns f r (acc ++ [w]) m' else .bad
    | none => turns f r acc m'
mutual
def ev (C : Orc) : E → Env → Mem → R W
  | .var i, ρ, m => match ρ[i]? with
    | some (some w) => .ok w m
    | _ => .bad
  | .cst d, _, m => .ok (.v d) m
  | .bin o a b, ρ, m => (ev C a ρ m).b fun x m => (ev C b ρ m).b fun y m => ofO ((peekT m x).bind fun x => (peekT m y).bind fun y => (binD o x y).map .v) m
  | .neg a, ρ, m => (ev C a ρ m).b fun x m => match x with
    | .v (.int i) => .ok (.v (.int (-i))) m
    | _ => .bad
  | .cmp o a b, ρ, m => (ev C a ρ m).b fun x m => (ev C b ρ m).b fun y m => ofO ((peek m x).bind fun x => (peek m y).bind fun y => (cmpD o x y).map fun b => .v (.bool b)) m
  | .chn o1 o2 a b c, ρ, m => (ev C a ρ m).b fun x m => (ev C b ρ m).b fun y m => (ofO ((peek m x).bind fun x => (peek m y).bind fun y => cmpD o1 x y) m).b fun k m =>
    if k = true then (ev C c ρ m).b fun z m => ofO ((peek m y).bind fun y => (peek m z).bind fun z => (cmpD o2 y z).map fun b => .v (.bool b)) m else .ok (.v (.bool false)) m
  | .isN a, ρ, m => (ev C a ρ m).b fun x m => ofO ((isNW x).map fun b => .v (.bool b)) m
  | .notN a, ρ, m => (ev C a ρ m).b fun x m => ofO ((isNW x).map fun b => .v (.bool (!b))) m
  | .not a, ρ, m => (ev C a ρ m).b fun x m => (ofO (truW m x) m).b fun k m => .ok (.v (.bool (!k))) m
  | .and es, ρ, m => evAnd C es ρ m
  | .or es, ρ, m => evOr C es ρ m
  | .ite c a b, ρ, m => (ev C c ρ m).b fun x m => (ofO (truW m x) m).b fun k m => if k = true then ev C a ρ m else ev C b ρ m
  | .tup es, ρ, m => (evs C es ρ m).b fun ws m => if ws.length ≤ szL then ofO ((allV ws).map fun ds => .v (.tuple ds)) m else .bad
  | .tupS es, ρ, m => (evs C es ρ m).b fun ws m => if ws.length ≤ szL then ofO ((allV ws).map fun ds => .tv ds) m else .bad
  | .catS a b, ρ, m => (ev C a ρ m).b fun x m => (ev C b ρ m).b fun y m => match x, y with
    | .tv xs, .tv ys => if xs.length + ys.length ≤ szL then .ok (.tv (xs ++ ys)) m else .bad
    | _, _ => .bad
  | .lst k l, ρ, m => (evL C l ρ m).b fun ws m => mk k ws m
  | .ix a i, ρ, m => (ev C a ρ m).b fun x m => (ev C i ρ m).b fun y m => ofO (ixW m x y) m
  | .sl a lo hi, ρ, m => (ev C a ρ m).b fun x m => (evO C lo ρ m).b fun l m => (evO C hi ρ m).b fun h m => ofO ((slW m x l h).map .v) m
  | .call f es, ρ, m => (evs C es ρ m).b fun ws m => cl C f ws m
  | .callD f es ds, ρ, m => (evs C es ρ m).b fun ws m => cl C f (ws ++ ds.map .v) m
  | .fld c o f, ρ, m => (ev C o ρ m).b fun x m => if isIns m x c then ofO (fldW m x f) m else .bad
  | .never, _, _ => .bad
  | .prp c _ f o, ρ, m => (ev C o ρ m).b fun x m => if isIns m x c then (cl C f [x] m).ne else .bad
  | .xfld o f, ρ, m => (ev C o ρ m).b fun x m => match x with
    | .exc ⟨_, some (ns, ds)⟩ => ofO (((ns.zip ds).lookup f).map .v) m
    | _ => .bad
  | .isx c a, ρ, m => (ev C a ρ m).b fun x m => match x with
    | .exc e => .ok (.v (.bool (decide (e.c = c)))) m
    | .v .none => .ok (.v (.bool false)) m
    | _ => .bad
  | .mc k c f o es ds, ρ, m => (ev C o ρ m).b fun x m => if isIns m x c && k.pre m x then (evs C es ρ m).b fun ws m => if isIns m x c then (cl C f (x :: (ws ++ ds.map .v)) m).b fun r m => ofO (k.post r) m else .bad else .bad
  | .mIn neg c f a o, ρ, m => (ev C a ρ m).b fun x m => (ev C o ρ m).b fun y m => if isIns m y c then (cl C f [y, x] m).b fun r m => (ofO (truW m r) m).b fun k m => .ok (.v (.bool (if neg = true then !k else k))) m else .bad
  | .new c f es ds, ρ, m => (evs C es ρ m).b fun ws m => (cl C f (.ref m.S.length :: (ws ++ ds.map .v)) { m with S := m.S ++ [.ins c []] }).b fun r m' => match r with
    | .v .none => .ok (.ref m.S.length) m'
    | _ => .bad
  | .dnew .fz, _, m => .ok (.v (.dict [])) m
  | .dnew .loc, _, m => .ok (.loc m.L.length) { m with L := m.L ++ [.dic [] []] }
  | .dnew .shr, _, _ => .bad
  | .dstar d k v, ρ, m => (ev C d ρ m).ne.b fun x m => (ev C k ρ m).ne.b fun y m => (ev C v ρ m).ne.b fun z m => match x, y, z with
    | .v (.dict kvs), .v (.str s), .v e => if kvs.length < 1000 then .ok (.v (.dict (dputD s e kvs))) m else .bad
    | _, _, _ => .bad
  | .dm t o es, ρ, m => (ev C o ρ m).b fun x m => match x with
    | .tv xs => (evs C es ρ m).b fun ws m => ofO ((peeks m ws).bind fun ds => (dmD t (.tuple xs) ds).map .v) m
    | _ => .bad
  | .sset e, ρ, m => (ev C e ρ m).b fun x m => match x with
    | .v (.list xs) => ofO ((strsOf xs).bind fun ss => if ss.length < 64 then some (.v (.list ((usort ss).map .str))) else none) m
    | .v (.tuple xs) => ofO ((strsOf xs).bind fun ss => if ss.length < 64 then some (.v (.list ((usort ss).map .str))) else none) m
    | _ => .bad
  | .lset e, ρ, m => (ev C e ρ m).b fun x m => match x with
    | .v (.list xs) => ofO ((strsOf xs).bind fun ss => if ss.length < 64 then some (.v (.int (usort ss).length)) else none) m
    | .v (.tuple xs) => ofO ((strsOf xs).bind fun ss => if ss.length < 64 then some (.v (.int (usort ss).length)) else none) m
    | _ => .bad
  | .gix d e, ρ, m => (ev C e ρ m).b fun x m => match x with
    | .v (.str s) => ofO ((d.lookup s).map .v) m
    | _ => .bad
  | .blt b es, ρ, m => (evs C es ρ m).b fun ws m => ofO ((peeks m ws).bind fun ds => (bltD b ds).map .v) m
  | .isi ts a, ρ, m => (ev C a ρ m).b fun x m => ofO ((peek m x).bind fun d => (isiD ts d).map fun b => .v (.bool b)) m
  | .frz a, ρ, m => (ev C a ρ m).b fun x m => freeze m x
  | .mth t o es, ρ, m => (ev C o ρ m).b fun x m => if mtyW t m x = true then (evs C es ρ m).b fun ws m => mthW t x ws m else .bad
def evAnd (C : Orc) : ES → Env → Mem → R W
  | .nil, _, _ => .bad
  | .cons e .nil, ρ, m => ev C e ρ m
  | .cons e r, ρ, m => (ev C e ρ m).b fun x m => (ofO (truW m x) m).b fun k m => if k = true then evAnd C r ρ m else .ok x m
  | .star _ _, _, _ => .bad
def evOr (C : Orc) : ES → Env → Mem → R W
  | .nil, _, _ => .bad
  | .cons e .nil, ρ, m => ev C e ρ m
  | .cons e r, ρ, m => (ev C e ρ m).b fun x m => (ofO (truW m x) m).b fun k m => if k = true then .ok x m else evOr C r ρ m
  | .star _ _, _, _ => .bad
def evs (C : Orc) : ES → Env → Mem → R (List W)
  | .nil, _, m => .ok [] m
  | .cons e r, ρ, m => (ev C e ρ m).b fun w m => (evs C r ρ m).b fun ws m => .ok (w :: ws) m
  | .star e r, ρ, m => (ev C e ρ m).b fun w m => (ofO (itemsW m w) m).b fun xs m => (evs C r ρ m).b fun ws m => .ok (xs ++ ws) m
def evO (C : Orc) : OE → Env → Mem → R (Option Int)
  | .none, _, m => .ok none m
  | .some e, ρ, m => (ev C e ρ m).b fun w m => match w with
    | .v (.int i) => .ok (some i) m
    | _ => .bad
def evL (C : Orc) : LE → Env → Mem → R (List W)
  | .disp es, ρ, m => evs C es ρ m
  | .cat a b, ρ, m => (ev C a ρ m).b fun x m => (ev C b ρ m).b fun y m => ofO ((itemsL m x).bind fun xs => (itemsL m y).bind fun ys => if xs.length + ys.length ≤ szL then some (xs ++ ys) else none) m
  | .of e, ρ, m => (ev C e ρ m).b fun w m => ofO (itemsW m w) m
  | .step e k, ρ, m => (ev C e ρ m).b fun w m => ofO ((itemsW m w).map (steps k 0)) m
  | .comp2 own own2 g src ifs g2 src2 ifs2 elt, ρ, m => (evI C src ρ m).b fun ds m => turnsL (fun d acc m => match asg g (.v d) (wipe ρ own) with
    | none => .bad
    | some ρ1 => (evIf C ifs ρ1 m).b fun k m => if k = true then (evI C src2 ρ1 m).b fun ds2 m => turns (fun d m => match asg g2 (.v d) (wipe ρ1 own2) with
      | none => .bad
      | some ρ2 => (evIf C ifs2 ρ2 m).b fun k m => if k = true then (ev C elt ρ2 m).b fun w m => .ok (some w) m else .ok none m) ds2 acc m else .ok acc m) ds [] m
  | .comp own g src ifs elt, ρ, m => (evI C src ρ m).b fun ds m => turns (fun d m => match asg g (.v d) (wipe ρ own) with
    | none => .bad
    | some ρ1 => (evIf C ifs ρ1 m).b fun k m => if k = true then (ev C elt ρ1 m).b fun w m => .ok (some w) m else .ok none m) ds [] m
def evIf (C : Orc) : ES → Env → Mem → R Bool
  | .nil, _, m => .ok true m
  | .cons e .nil, ρ, m => (ev C e ρ m).b fun x m => ofO (truW m x) m
  | _, _, _ => .bad
def evI (C : Orc) : IT → Env → Mem → R (List PyData)
  | .seq e, ρ, m => (ev C e ρ m).b fun w m => match w with
    | .v (.str x) => .ok (x.cps.toList.map fun c => .str ⟨#[c]⟩) m
    | .v d => ofO (itemsD d) m
    | .ref n => (match m.S[n]? with
      | some (.ro ds) => .ok ds m
      | _ => .bad)
    | .ro ds => .ok ds m
    | .tv ds => .ok ds m
    | _ => .bad
  | .rng1 e, ρ, m => (ev C e ρ m).b fun w m => match w with
    | .v (.int j) => if small j then .ok (rgI 0 j.toNat) m else .bad
    | _ => .bad
  | .rng2 a b, ρ, m => (ev C a ρ m).b fun x m => (ev C b ρ m).b fun y m => match x, y with
    | .v (.int i), .v (.int j) => if small i && small j then .ok (rgI i (j - i).toNat) m else .bad
    | _, _ => .bad
  | .enm e, ρ, m => (ev C e ρ m).b fun w m => match w with
    | .v (.list ds) => .ok (enmD 0 ds) m
    | .v (.tuple ds) => .ok (enmD 0 ds) m
    | _ => .bad
  | .zip a b, ρ, m => (ev C a ρ m).b fun x m => (ev C b ρ m).b fun y m => match x, y with
    | .v d, .v e => ofO (zipP d e) m
    | _, _ => .bad
end
/-! ### statements -/
inductive RT where
  | nx (ρ : Env) (m : Mem) | bk (ρ : Env) (m : Mem) | ct (ρ : Env) (m : Mem) | rt (w : W) (m : Mem) | err (x : Ex) (ρ : Env) (m : Mem) | bad
def R.t {α : Type} (r : R α) (ρ : Env) (f : α → Mem → RT) : RT := match r with
  | .ok a m => f a m
  | .err x m => .err x ρ m
  | .bad => .bad
def RT.s (r : RT) (f : Env → Mem → RT) : RT := match r with
  | .nx ρ m => f ρ m
  | r => r
/-- a target: a name, a field, a place of an own class's instance -/
inductive Tg where
  | nm (i : Nat) | fld (c : Str) (o : E) (f : Str) | it (c : Str) (f : Nat) (o i : E)
mutual
inductive T where
  | st1 (t : Tg) (e : E)
  | unp (ts : List Tg) (es : ES)
  | unpD (ts : List Tg) (e : E)
  | aug (c : Str) (f : Nat) (i : Nat) (e : E)
  | raise (c : Str) (ns : List Str) (es : ES)
  | tryT (b : TS)
  | asg (g : G) (e : E)
  | par (is : List Nat) (es : ES)
  | setIx (o i e : E)
  | ex (e : E)
  | ret (e : E) | retN
  | ife (c : E) (a b : TS)
  | forT (g : G) (it : IT) (b : TS)
  | while (fuel : Nat) (c : E) (b : TS)
  | brk | cont | pass
  | never
inductive TS where
  | nil | cons (t : T) (r : TS)
end
def setL (ρ : Env) : List Nat → List W → Option Env
  | [], [] => some ρ
  | i :: is, w :: ws => if i < ρ.length then setL (ρ.set i (some w)) is ws else none
  | _, _ => none
def setIxW (m : Mem) (o i w : W) : Option Mem := match i with
  | .v (.int k) => match o with
    | .loc n => match m.L[n]? with
      | some (.lst ws) => (ixN ws.length k).map fun j => { m with L := m.L.set n (.lst (ws.set j w)) }
      | _ => none
    | .ref n => match m.S[n]?, w with
      | some (.lst ds), .v d => (ixN ds.length k).map fun j => { m with S := m.S.set n (.lst (ds.set j d)) }
      | _, _ => none
    | _ => none
  | _ => none
def forR (f : PyData → Env → Mem → RT) : List PyData → Env → Mem → RT
  | [], ρ, m => .nx ρ m
  | d :: r, ρ, m => match f d ρ m with
    | .nx ρ m => forR f r ρ m
    | .ct ρ m => forR f r ρ m
    | .bk ρ m => .nx ρ m
    | r => r
def whileR (c : Env → Mem → R Bool) (f : Env → Mem → RT) : Nat → Env → Mem → RT
  | 0, _, _ => .bad
  | n + 1, ρ, m => (c ρ m).t ρ fun k m => if k = true then (match f ρ m with
    | .nx ρ m => whileR c f n ρ m
    | .ct ρ m => whileR c f n ρ m
    | .bk ρ m => .nx ρ m
    | r => r) else .nx ρ m
/-- what leaves a def: data or a shared object -/
def outW : W → Mem → RT
  | .loc _, _ => .bad
  | w, m => .rt w m
def asT (C : Orc) : Tg → W → Env → Mem → R Env
  | .nm i, w, ρ, m => if i < ρ.length then .ok (ρ.set i (some w)) m else .bad
  | .fld c o f, w, ρ, m => (ev C o ρ m).b fun x m => if isIns m x c then (match setFld m x f w with
    | some m => .ok ρ m
    | none => .bad) else .bad
  | .it c f o i, w, ρ, m => (ev C o ρ m).b fun x m => (ev C i ρ m).b fun y m => if isIns m x c then (cl C f [x, y, w] m).b fun _ m => .ok ρ m else .bad
def asTs (C : Orc) : List Tg → List W → Env → Mem → R Env
  | [], [], ρ, m => .ok ρ m
  | t :: ts, w :: ws, ρ, m => (asT C t w ρ m).b fun ρ m => asTs C ts ws ρ m
  | _, _, _, _ => .bad
mutual
def ex (C : Orc) : T → Env → Mem → RT
  | .st1 t e, ρ, m => (ev C e ρ m).t ρ fun w m => (asT C t w ρ m).t ρ fun ρ m => .nx ρ m
  | .unp ts es, ρ, m => (evs C es ρ m).t ρ fun ws m => if ws.length ≤ 1000 then (asTs C ts ws ρ m).ne.t ρ fun ρ m => .nx ρ m else .bad
  | .unpD ts e, ρ, m => (ev C e ρ m).t ρ fun w m => match w with
    | .v (.tuple ds) => (asTs C ts (ds.map .v) ρ m).ne.t ρ fun ρ m => .nx ρ m
    | _ => .bad
  | .aug c f i e, ρ, m => match ρ[i]? with
    | some (some x) => (ev C e ρ m).t ρ fun w m => if isIns m x c then (cl C f [x, w] m).t ρ fun r m => .nx (ρ.set i (some r)) m else .bad
    | _ => .bad
  | .raise c ns es, ρ, m => (evs C es ρ m).t ρ fun ws m => (ofO (allV ws) m).t ρ fun ds m => .err ⟨c, if ns.isEmpty then none else some (ns, ds)⟩ ρ m
  | .tryT b, ρ, m => match exs C b ρ m with
    | .err _ _ _ => .bad
    | r => r
  | .asg g e, ρ, m => (ev C e ρ m).t ρ fun w m => match asg g w ρ with
    | some ρ => .nx ρ m
    | none => .bad
  | .par is es, ρ, m => (evs C es ρ m).t ρ fun ws m => match setL ρ is ws with
    | some ρ => .nx ρ m
    | none => .bad
  | .setIx o i e, ρ, m => (ev C e ρ m).t ρ fun w m => (ev C o ρ m).t ρ fun x m => (ev C i ρ m).t ρ fun y m => match setIxW m x y w with
    | some m => .nx ρ m
    | none => .bad
  | .ex e, ρ, m => (ev C e ρ m).t ρ fun _ m => .nx ρ m
  | .ret e, ρ, m => (ev C e ρ m).t ρ outW
  | .retN, _, m => .rt (.v .none) m
  | .ife c a b, ρ, m => (ev C c ρ m).t ρ fun x m => (ofO (truW m x) m).t ρ fun k m => if k = true then exs C a ρ m else exs C b ρ m
  | .forT g it b, ρ, m => (evI C it ρ m).t ρ fun ds m => forR (fun d ρ m => match asg g (.v d) ρ with
    | some ρ => exs C b ρ m
    | none => .bad) ds ρ m
  | .while n c b, ρ, m => whileR (fun ρ m => (ev C c ρ m).b fun x m => ofO (truW m x) m) (exs C b) n ρ m
  | .brk, ρ, m => .bk ρ m
  | .cont, ρ, m => .ct ρ m
  | .pass, ρ, m => .nx ρ m
  | .never, _, _ => .bad
def exs (C : Orc) : TS → Env → Mem → RT
  | .nil, ρ, m => .nx ρ m
  | .cons t r, ρ, m => (ex C t ρ m).s fun ρ m => exs C r ρ m
end
/-- a def: how many parameters, how many slots, its body -/
structure Fn where
  np : Nat
  ns : Nat
  body : TS
def runFn (C : Orc) (f : Fn) (ws : List W) (S : List OS) : R W :=
  if ws.length = f.np then (match exs C f.body (ws.map some ++ List.replicate (f.ns - f.np) none) ⟨[], S⟩ with
    | .nx _ m => .ok (.v .none) ⟨[], m.S⟩
    | .rt w m => .ok w ⟨[], m.S⟩
    | .err x _ m => .err x ⟨[], m.S⟩
    | _ => .bad) else .bad
def callP (P : List (Option Fn)) : Nat → Orc
  | 0 => fun _ _ _ => .bad
  | k + 1 => fun f ws S => match P[f]? with
    | some (some fn) => runFn (callP P k) fn ws S
    | _ => .bad
end Z
set_option maxHeartbeats 2000000
/-! YR1: rules of the machine that the small language wants. -/
namespace Z
open PySem PySem.Spec PyProof.Rows L2
/-- l.extend(t), whatever stands in the tuple's other parts -/
theorem ext_tup_any (l b : Addr) (xs ys : Array Value) (j k : Nat) (dd : Option Addr) (sl : Array (Option Value)) (door : ¬(!xs.isEmpty && Builtin.List.listTooLong (xs.size + ys.size)) = true) (hx : xs.size ≤ sizeLine) (hxy : xs.size + ys.size ≤ sizeLine + 1) :
    Meets (Builtin.«list.extend» ⟨[.ref l, .ref b], []⟩) (fun _ R s =>
      (s.heap.get? l = some ⟨.type "list", none, .seq xs j, #[]⟩ ∧ s.heap.get? b = some ⟨.type "tuple", dd, .seq ys k, sl⟩) ∧
      R (.ok (.ret Value.none)) { s with heap := s.heap.update l (Obj.mapSeq fun x => x ++ ys), toks := s.toks }) := by
  refine Meets.of_wp fun prog w A R s h => ?_
  obtain ⟨hp, g, d, tk, os⟩ := s
  obtain ⟨⟨hl, hb⟩, h⟩ := h
  have g1 := sub_list_tuple
  have g2 := sub_tuple_tuple
  have g3 := sub_list_list
  have g4 := sub_tuple_list
  have room : (xs ++ ys).size ≤ sizeLine + 1 := by
    rw [Array.size_append]
    exact hxy
  wp_walk using (wpAny_updateSeq hl rfl (hz := hx) (_hz' := room)), wpAny_loadPart' hl, wpAny_loadPart' hb
  exact ⟨_, rfl, h⟩
section
variable {X : Cx} {e o : Expr} {pos : Pos}
/-- what an expression gives is locked: nobody writes to it from now on -/
def tFrz (t : TE) : TE := fun σ H Q => t σ H fun v H' => ∃ a u, v = .ref a ∧ H' a = some u ∧ Mut (some u) ∧ ∀ od, Q v (upd H' a (.frz od u))
theorem pe_frz {t : TE} (h : PE X e t) : PE X e (tFrz t) := by
  refine ⟨fun pins s σ H Q I q => ?_⟩
  refine thn (h.run pins s σ H _ I q) fun v s1 ⟨x, H1, I1, r1, a, u, ex, hu, mu, q1⟩ => ?_
  obtain ⟨od, I2⟩ := I1.lock hu mu
  exact ⟨x, _, I2, r1, q1 od⟩
/-- l.extend(t), t a tuple -/
theorem mt_extT : MtM X "list.extend" (fun x vs H Q => ∃ l b xs zs, x = .ref l ∧ vs = [.ref b] ∧ H l = some (.lst xs) ∧ SqT X.K H b zs ∧ xs.length + zs.length ≤ sizeLine ∧ Q .non (upd H l (.lst (xs ++ zs)))) := by
  intro pins s σ H x vs v us Q I rx rv h
  obtain ⟨l, b, xs, zs, rfl, rfl, hH, hB, hz, q⟩ := h
  cases rx
  obtain ⟨u, rfl, ru⟩ := rv.one
  cases ru
  obtain ⟨z, its, n, r, hl, e⟩ := I.lstM hH
  obtain ⟨its2, r2, pl, hz2⟩ := I.tuple hB
  obtain ⟨⟨cls, dd, dt, sl⟩, e2, hc, n2, hd⟩ := pl
  simp only at hc hd
  subst hc
  subst hd
  have hl2 := r2.length
  have hsz : its.toArray.size + its2.toArray.size ≤ sizeLine := by rw [List.size_toArray, List.size_toArray]; omega
  have hlong : ¬ (!its.toArray.isEmpty && Builtin.List.listTooLong (its.toArray.size + its2.toArray.size)) = true := by
    rw [notLongL hsz, Bool.and_false]
    exact Bool.false_ne_true
  refine call_meets F.slot_list_extend ⟨_, e, rfl⟩ F.entry_list_extend (F.args_list_extend_2 _ _) (ext_tup_any l b its.toArray its2.toArray n n2 dd sl hlong (by rw [List.size_toArray]; omega) (by omega)) ⟨⟨e, e2⟩, ?_⟩
  refine ⟨.non, _, I.lset (its' := its ++ its2) hH e (by simp) (r.append r2) ?_, rfl, q⟩
  rw [List.length_append]
  omega
end
/-! ### own calls; what is raised is wished for at the caller's slots -/
section
variable {X : Cx} {CX : CXT} {k : Nat} {g C : Addr} {fd : FuncData} {ps : List Str} {sp : Sp} {E : L2.St → XK} {x m : Str} {p pos apos : Pos} {e o : Expr} {es : List Expr} {ta : TE} {t : TA}
/-- the values of some defaults -/
structure Dfl (K : PySem.W.Frag) (fd : FuncData) (ps : List Str) (vs : List V) : Prop where
  ex : ∃ us, Vals vs us ∧ Binds K fd ps us
theorem run_own {dvs : List V} {pins : List (Addr × Obj)} {σ : L2.St} {H : Hp} {s : Shared} {Q : VK} {us : List Value} {vs : List V} (F : FnOk X.prog X.w X.K X.mg X.base CX k g fd ps sp) (hr : Room k X.A) (b : Dfl X.K fd ps dvs)
    (hx : PassesAt CX X σ (E σ)) (I : Inv X pins σ H s) (r : Vals vs us) (h : sp (vs ++ dvs) H Q (E σ)) : wpAny (model X.prog X.w) X.A (call (.ref g) us) (EP X pins σ Q) X.xe s := by
  obtain ⟨ds, hd, hb⟩ := b.ex
  exact run_fnSD F hr hb hd hx I r h
theorem pe_own0 {dvs : List V} (F : FnOk X.prog X.w X.K X.mg X.base CX k g fd ps sp) (hr : Room k X.A) (hg : Gl X x) (hm : X.mg x = some (.ref g)) (hk : PySem.W.keepIn X.K (.ref g) = true) (b : Dfl X.K fd ps dvs)
    (hx : ∀ σ, PassesAt CX X σ (E σ)) (hdb : (x == ("__debug__" : Str)) = false) : PE X (.Call (.Name x p) [] [] pos) (tCallSD sp dvs E tNil) := by
  refine ⟨fun pins s σ H Q I h => ?_⟩
  refine wpAny_Call_Name_kw (ld_glob I hg hm ?_ hdb)
  exact PySem.W.callWith_K0 I.kIn hk (run_own (us := []) F hr b (hx σ) I .nil h)
def tOwnM (C : Addr) (m : Str) (sp : Sp) (dvs : List V) (E : L2.St → XK) (ta : TE) (t : TA) : TE := fun σ H Q => ta σ H fun x H1 => ∃ a dx fs, x = .ref a ∧ H1 a = some (.ins C dx fs) ∧ fs.lookup m = none ∧
  t σ H1 fun vs H2 => sp (x :: (vs ++ dvs)) H2 Q (E σ)
theorem pe_ownM {dvs : List V} {pl : Sem Bool} (he : PE X o ta) (c : Cls X.K C) (hm : Meth X.K C m g) (F : FnOk X.prog X.w X.K X.mg X.base CX k g fd ps sp) (hr : Room k X.A) (b : Dfl X.K fd ps dvs) (hx : ∀ σ, PassesAt CX X σ (E σ)) (ha : PA X (e :: es) t)
    (hst : starEach (e :: es) X.env = (false, eval e X.env) :: starEach es X.env) (hpl : (backTo pos (starEach es X.env)).any (·.1) = false)
    (ht : eval (.Call (.Attribute o m apos) (e :: es) [] pos) X.env = (do
      let ov ← eval o X.env
      standAt apos.atName
      let (f, first) ← holding [ov] (getMethod ov m pl)
      callWith pos f first (backTo pos (starEach (e :: es) X.env)) (backToKw pos (keywordEach [] X.env)))) :
    PE X (.Call (.Attribute o m apos) (e :: es) [] pos) (tOwnM C m sp dvs E ta t) := by
  refine ⟨fun pins s σ H Q I h => ?_⟩
  refine PySem.W.methodCall_KW (pl := pl) (thn (he.run pins s σ H _ I h) fun u s1 ⟨y, H1, I1, ry, a, dx, fs, ey, ea, l, q⟩ => ?_) ht
  subst ey
  obtain rfl : u = Value.ref a := ry
  refine getmeth_ok I1 ea c hm l ?_
  refine PySem.W.callWith_K (first := [.ref a]) (h₀ := X.base) I.ok.mod.kin hm.kp (thn (ha.run pos pins s1 σ H1 _ I1 q) fun us s2 ⟨vs, H2, I2, r, q2⟩ => ⟨I2.kIn, ?_⟩) hst hpl
  exact run_own (us := .ref a :: us) (vs := .ref a :: vs) F hr b (hx σ) I2 (.cons rfl r) q2
theorem pe_ownM0 {dvs : List V} {pl : Sem Bool} (he : PE X o ta) (c : Cls X.K C) (hm : Meth X.K C m g) (F : FnOk X.prog X.w X.K X.mg X.base CX k g fd ps sp) (hr : Room k X.A) (b : Dfl X.K fd ps dvs) (hx : ∀ σ, PassesAt CX X σ (E σ))
    (ht : eval (.Call (.Attribute o m apos) [] [] pos) X.env = (do
      let ov ← eval o X.env
      standAt apos.atName
      let (f, first) ← holding [ov] (getMethod ov m pl)
      callWith pos f first (backTo pos (starEach [] X.env)) (backToKw pos (keywordEach [] X.env)))) :
    PE X (.Call (.Attribute o m apos) [] [] pos) (tOwnM C m sp dvs E ta tNil) := by
  refine ⟨fun pins s σ H Q I h => ?_⟩
  refine PySem.W.methodCall_KW (pl := pl) (thn (he.run pins s σ H _ I h) fun u s1 ⟨y, H1, I1, ry, a, dx, fs, ey, ea, l, q⟩ => ?_) ht
  subst ey
  obtain rfl : u = Value.ref a := ry
  refine getmeth_ok I1 ea c hm l ?_
  exact PySem.W.callWith_K0 (first := [.ref a]) I1.kIn hm.kp (run_own (us := [.ref a]) (vs := [.ref a]) F hr b (hx σ) I1 (.cons rfl .nil) q)
/-- a new instance and its dict, then __init__ -/
def tOwnN (C : Addr) (sp : Sp) (dvs : List V) (E : L2.St → XK) (t : TA) : TE := fun σ H Q => t σ H fun vs H1 => ∀ x dx, H1 x = none → H1 dx = none → dx ≠ x →
  sp (.ref x :: (vs ++ dvs)) (upd (upd H1 dx (.own x)) x (.ins C dx [])) (fun v H2 => v = .non ∧ Q (.ref x) H2) (E σ)
theorem run_ownN {dvs : List V} {pins : List (Addr × Obj)} {σ : L2.St} {H : Hp} {s : Shared} {Q : VK} {us : List Value} {vs : List V} (M : L2.Mk X.K C g) (F : FnOk X.prog X.w X.K X.mg X.base (L2.CX X.prog X.w) k g fd ps sp) (hr : Room (k + 1) X.A) (b : Dfl X.K fd ps dvs)
    (hx : PassesAt (L2.CX X.prog X.w) X σ (E σ)) (I : Inv X pins σ H s) (r : Vals vs us)
    (h : ∀ x dx, H x = none → H dx = none → dx ≠ x → sp (.ref x :: (vs ++ dvs)) (upd (upd H dx (.own x)) x (.ins C dx [])) (fun v H2 => v = .non ∧ Q (.ref x) H2) (E σ)) :
    wpAny (model X.prog X.w) X.A (call (.ref C) us) (EP X pins σ Q) X.xe s := by
  obtain ⟨ds, hd, hb⟩ := b.ex
  have q := h (s.heap.objs.size + 1) s.heap.objs.size (I.hok.fresh (Nat.le_succ _)) (I.hok.fresh (Nat.le_refl _)) (Nat.ne_of_lt (Nat.lt_succ_self _))
  have J := Inv.made (C := C) I
  have rr : Vals (V.ref (s.heap.objs.size + 1) :: (vs ++ dvs)) (Value.ref (s.heap.objs.size + 1) :: (us ++ ds)) := .cons rfl (r.append hd)
  have hl : (Value.ref (s.heap.objs.size + 1) :: us ++ ds).length = ps.length := (rr.length.symm).trans (F.len _ _ _ _ q)
  refine wpAny_call (make_map (f := g) I.kIn M.makes M.init (beq_iff_eq.mp M.fn) (codeAny_mono (F.run _ X.stack _ _ ⟨Value.ref (s.heap.objs.size + 1) :: us, []⟩ (Value.ref (s.heap.objs.size + 1) :: (us ++ ds)) _ _ (E σ) (hr.make C us [])
    (J.env0.make C us []) (hb _ (Value.ref (s.heap.objs.size + 1) :: us) J.kIn hl) rr q) fun res s' hq => ?_))
  cases res with
  | error er => exact hx pins _ _ er s' J hq
  | ok fl =>
    cases fl with
    | ret u =>
      obtain ⟨v, H', I3, rv, ev, q3⟩ := J.after hq
      subst ev
      exact ⟨rv, ⟨V.ref (s.heap.objs.size + 1), H', I3, rfl, q3⟩⟩
    | next => exact False.elim hq
    | brk => exact False.elim hq
    | cont => exact False.elim hq
theorem pe_ownN {dvs : List V} (M : L2.Mk X.K C g) (F : FnOk X.prog X.w X.K X.mg X.base (L2.CX X.prog X.w) k g fd ps sp) (hr : Room (k + 1) X.A) (hg : Gl X x) (hm : X.mg x = some (.ref C)) (b : Dfl X.K fd ps dvs) (hx : ∀ σ, PassesAt (L2.CX X.prog X.w) X σ (E σ))
    (ha : PA X (e :: es) t) (hdb : (x == ("__debug__" : Str)) = false) (he : starEach (e :: es) X.env = (false, eval e X.env) :: starEach es X.env) (hpl : (backTo pos (starEach es X.env)).any (·.1) = false) :
    PE X (.Call (.Name x p) (e :: es) [] pos) (tOwnN C sp dvs E t) := by
  refine ⟨fun pins s σ H Q I h => ?_⟩
  refine wpAny_Call_Name_kw (ld_glob I hg hm ?_ hdb)
  refine PySem.W.callWith_K (h₀ := X.base) I.ok.mod.kin M.kp (thn (ha.run pos pins s σ H _ I h) fun us s1 ⟨vs, H1, I1, r, q⟩ => ⟨I1.kIn, ?_⟩) he hpl
  exact run_ownN M F hr b (hx σ) I1 r q
theorem pe_ownN0 {dvs : List V} (M : L2.Mk X.K C g) (F : FnOk X.prog X.w X.K X.mg X.base (L2.CX X.prog X.w) k g fd ps sp) (hr : Room (k + 1) X.A) (hg : Gl X x) (hm : X.mg x = some (.ref C)) (b : Dfl X.K fd ps dvs) (hx : ∀ σ, PassesAt (L2.CX X.prog X.w) X σ (E σ))
    (hdb : (x == ("__debug__" : Str)) = false) : PE X (.Call (.Name x p) [] [] pos) (tOwnN C sp dvs E tNil) := by
  refine ⟨fun pins s σ H Q I h => ?_⟩
  refine wpAny_Call_Name_kw (ld_glob I hg hm ?_ hdb)
  exact PySem.W.callWith_K0 I.kIn M.kp (run_ownN (us := []) M F hr b (hx σ) I .nil h)
/-- nothing is raised -/
def noX : XK := fun _ _ _ => False
theorem noX_pass {Y : Cx} {P : Program} {w : World} : Passes (L2.CX P w) Y noX := fun _ _ _ _ _ _ _ h => by
  obtain ⟨a, B, H', cls, d, _, _, _, _, _, _, _, z⟩ := h
  exact z.elim
end
end Z
set_option maxHeartbeats 2000000
/-! YR2: {**d, k: v}. -/
namespace Z
open PySem PySem.Spec PyProof.Rows L2
open Sem (wp)
section
variable {P : Program} {w : World} {κ : Type} [DecidableEq κ] {kn : KeyKind P w κ} {A : Around} {E : Value → Shared → Prop} {s : Shared} {d o : Addr}
theorem put_hashed {ps : List (κ × Value)} {k : κ} {key v : Value} {Q : Unit → Shared → Prop} (hk : kn.is k key = true) (m : s.heap.DictOf kn d ps) (z : ps.length ≤ sizeLine)
    (q : ∀ g, g.DictOf kn d (stored ps k v) → Heap.SameBut d s.heap g → Q () { s with heap := g }) : wpAny (model P w) A (dictPut d (kn.hash k) key v) Q E s := by
  obtain ⟨ob, es, ep, h1, h2, h3, h4, h5, h6⟩ := m
  have hes : es.size ≤ sizeLine := by
    have := h5.length
    have : es.toList.length = es.size := by simp
    omega
  have same : (es.findIdx? fun e => kn.is k e.key) = ps.findIdx? fun p => decide (p.1 = k) := by
    rw [← h5.findIdx k]
    obtain ⟨l⟩ := es
    simp
  unfold dictPut
  refine wpAny_bind (wpAny_dictFind_of hk h1 h3 h4 ?_)
  cases hi : es.findIdx? fun e => kn.is k e.key with
  | some i =>
    refine wpAny_updateDict h1 h3 (q _ ⟨_, _, ep, Heap.get?_update_self _ h1 (Obj.isFreed_of_dict (Obj.data_mapDict h3 _)), h2.mapDict _, Obj.data_mapDict h3 _, h4.modify _ _, ?_, ?_⟩ (Heap.SameBut.update ..))
    · rw [stored, if_pos (any_of_findIdx_some (same ▸ hi))]
      have hl : (es.toList.findIdx? fun e => kn.is k e.key) = some i := by
        rw [← hi]
        obtain ⟨l⟩ := es
        simp
      have z := h5.modify h6 hl v
      obtain ⟨l⟩ := es
      simpa using z
    · rw [stored, if_pos (any_of_findIdx_some (same ▸ hi)), keys_map_store]
      exact h6
  | none =>
    have no : k ∉ ps.map (·.1) := not_mem_of_findIdx_none (same ▸ hi)
    have noany : ¬ (ps.any fun p => decide (p.1 = k)) = true := fun z => by
      obtain ⟨p, hp, e⟩ := List.any_eq_true.mp z
      exact no (List.mem_map.mpr ⟨p, hp, of_decide_eq_true e⟩)
    refine wpAny_updateDictKeys (hz := hes) h1 h3 (q _ ⟨_, _, ep + 1, Heap.get?_update_self _ h1 (Obj.isFreed_of_dict (Obj.data_mapDictKeys h3 _)), h2.mapDictKeys _, Obj.data_mapDictKeys h3 _, h4.push hk _, ?_, ?_⟩ (Heap.SameBut.update ..))
    · rw [stored, if_neg noany]
      have z := h5.append hk (kn.hash k) v
      obtain ⟨l⟩ := es
      simpa using z
    · rw [stored, if_neg noany, List.map_append, List.nodup_append]
      refine ⟨h6, by simp, fun a ha b hb e => ?_⟩
      simp only [List.map_cons, List.map_nil, List.mem_singleton] at hb
      exact no (by rw [← hb, ← e]; exact ha)
/-- d takes over what stands in o -/
theorem merge_map {ps qs : List (κ × Value)} {Q : Unit → Shared → Prop} (noRef : ∀ k a, ¬ kn.is k (.ref a) = true) (hne : d ≠ o) (ho : (o == sysModules) = false) (m1 : s.heap.DictOf kn d ps) (m2 : s.heap.DictOf kn o qs) (z : ps.length + qs.length ≤ sizeLine)
    (q : ∀ g, g.DictOf kn d (merged ps qs) → Heap.SameBut d s.heap g → Q () { s with heap := g }) : wpAny (model P w) A (mergeMapping d (.ref o) false) Q E s := by
  obtain ⟨od, e1, p1, a1, a2, a3, a4, a5, a6⟩ := id m1
  obtain ⟨oo, e2, p2, b1, b2, b3, b4, b5, b6⟩ := id m2
  have hl : qs.length = e2.size := by rw [← b5.length]; simp
  unfold mergeMapping
  refine wpAny_bind (wpAny_isInstance m2.typeIs isSubtype_dict_dict ?_)
  dsimp only
  rw [if_pos rfl]
  refine wpAny_bind (wpAny_specialOf m2.typeIs F.slot_dict_iter.lookup ?_)
  refine wpAny_bind (wpAny_pure ?_)
  rw [show (some (Value.builtin "dict.__iter__") == some (Value.builtin "dict.__iter__")) = true from beq_self_eq_true _]
  dsimp only
  rw [if_neg (by rw [ho]; exact Bool.false_ne_true)]
  refine wpAny_bind (wpAny_dictEntries a1 a3 ?_)
  have loop : wpAny (model P w) A (do
      let l0 ← dictEntries o
      let t0 ← dictEpoch o
      forIn (List.range l0.size) PUnit.unit fun i (_ : PUnit) => (do
        let l1 ← dictEntries o
        match l1[i]? with
          | some e => do
            holding [e.key, e.val] (dictPut d e.hash e.key e.val)
            let t1 ← dictEpoch o
            if (t1 != t0) = true then do
                (unsupported "dict.changed-during-merge" : Sem PUnit)
                pure (ForInStep.yield PUnit.unit)
              else pure (ForInStep.yield PUnit.unit)
          | _ => do
            (unsupported "dict.changed-during-merge" : Sem PUnit)
            pure (ForInStep.yield PUnit.unit) : Sem (ForInStep PUnit))
      pure ()) Q E s := by
    refine wpAny_bind (wpAny_dictEntries b1 b3 ?_)
    refine wpAny_bind (wpAny_dictEpoch b1 b3 ?_)
    refine wpAny_bind ?_
    rw [List.range_eq_range']
    refine wpAny_forIn_list _ (fun rest _ t => ∃ g i, t = { s with heap := g } ∧ rest = List.range' i (e2.size - i) ∧ i ≤ e2.size ∧ g.DictOf kn d (merged ps (qs.take i)) ∧ g.get? o = some oo ∧ Heap.SameBut d s.heap g)
      _ ?_ ?_ _ _ ⟨s.heap, 0, rfl, by simp, Nat.zero_le _, by simpa [merged] using m1, b1, Heap.SameBut.refl _ _⟩
    · rintro x rest u t ⟨g, i, rfl, hr, hi, gd, go, gs⟩
      have lt : i < e2.size := Nat.lt_of_not_le fun h => by
        rw [Nat.sub_eq_zero_of_le h] at hr
        cases hr
      obtain ⟨rfl, hrest⟩ : x = i ∧ rest = List.range' (i + 1) (e2.size - (i + 1)) := by
        rw [show e2.size - i = (e2.size - (i + 1)) + 1 by omega, List.range'_succ] at hr
        injection hr with h1 h2
        exact ⟨h1, h2⟩
      refine wpAny_bind (wpAny_dictEntries go b3 ?_)
      rw [Array.getElem?_eq_getElem lt]
      obtain ⟨⟨k, v⟩, hp⟩ : ∃ p, qs[x]? = some p := ⟨qs[x]'(by omega), List.getElem?_eq_getElem _⟩
      obtain ⟨hkey, hval⟩ := b5.get? (e := e2[x]) (by simp [lt]) hp
      obtain ⟨k', hk', hh⟩ := b4 e2[x] (Array.getElem_mem lt)
      obtain rfl : k' = k := kn.inj _ _ _ hk' hkey
      show wpAny _ _ (holding [e2[x].key, e2[x].val] (dictPut d e2[x].hash e2[x].key e2[x].val) >>= _) _ _ _
      rw [hh, hval]
      have small : (merged ps (qs.take x)).length ≤ sizeLine := by
        have q1 := merged_length_le ps (qs.take x)
        have q2 : (qs.take x).length ≤ qs.length := by rw [List.length_take]; omega
        omega
      refine wpAny_bind (wpAny_holding (put_hashed hkey gd small fun g2 gd2 gs2 => ?_))
      have go2 : g2.get? o = some oo := (gs2.2 o (Ne.symm hne)).trans go
      refine wpAny_bind (wpAny_dictEpoch go2 b3 ?_)
      rw [if_neg (by simp)]
      exact wpAny_pure ⟨g2, x + 1, rfl, hrest, lt, by rw [merged_take_succ ps qs x (k', v) hp]; exact gd2, go2, gs.trans gs2⟩
    · rintro u t ⟨g, i, rfl, hr, hi, gd, go, gs⟩
      have hin : i = e2.size := Nat.le_antisymm hi (Nat.le_of_not_lt fun h => by
        rw [show e2.size - i = (e2.size - (i + 1)) + 1 by omega, List.range'_succ] at hr
        cases hr)
      refine wpAny_pure (q g ?_ gs)
      rw [hin, ← hl, List.take_length] at gd
      exact gd
  split
  · refine wpAny_bind (wpAny_dictEntries b1 b3 ?_)
    rw [← Array.forIn_toList]
    refine wpAny_bind (wpAny_forIn_list _ (fun rest _ t => t = s ∧ ∀ e ∈ rest, e ∈ e2.toList) _ ?_ ?_ _ _ ⟨rfl, fun e h => h⟩)
    · rintro e rest u t ⟨rfl, hr⟩
      obtain ⟨k, hk, _⟩ := b4 e (by simpa using hr e List.mem_cons_self)
      have : ∀ a, e.key ≠ .ref a := fun a z => noRef k a (by rw [← z]; exact hk)
      split
      · rename_i a z
        exact absurd z (this a)
      · exact wpAny_pure ⟨rfl, fun e h => hr e (List.mem_cons_of_mem _ h)⟩
    · rintro u t ⟨rfl, _⟩
      exact loop
  · exact loop
end
theorem mix_noRef {P : Program} {w : World} (k : Key) (a : Addr) : ¬ (mixKind P w).is k (.ref a) = true := by
  cases k <;> exact Bool.false_ne_true
section
variable {X : Cx} {d k v : Expr} {pos : Pos} {td tk tv : TE}
/-- {**d, k: v}: the new dict stands from the start, the second one while its pair is made -/
def tDStar (td tk tv : TE) : TE := fun σ H Q => ∀ D, H D = none → td σ (upd H D (.dK [])) fun x H1 => H1 D = some (.dK []) ∧ ∃ a kvs, x = .ref a ∧ L2.Rd H1 a (.dK kvs) ∧ a ≠ D ∧ kvs.length ≤ 1000 ∧
  ∀ S, H1 S = none → tk σ (upd (upd H1 D (.dK kvs)) S (.dK [])) fun y H2 => tv σ H2 fun z H3 => ∃ key : Key, y = kV key ∧ H3 D = some (.dK kvs) ∧ H3 S = some (.dK []) ∧ Q (.ref D) (upd (upd H3 S (.dK [(key, z)])) D (.dK (putK kvs key z)))
theorem pe_dstar (hd : PE X d td) (hk : PE X k tk) (hv : PE X v tv) : PE X (.Dict [none, some k] [d, v] pos) (tDStar td tk tv) := by
  refine ⟨fun pins s σ H Q I h => ?_⟩
  rw [arm_eval_Dict]
  refine wpAny_bind (wpAny_standAt ?_)
  show wpAny _ _ (dictDisplay [(none, do let x ← eval d X.env; standAt pos; pure x), (some (eval k X.env), do let x ← eval v X.env; standAt pos; pure x)]) _ _ _
  unfold dictDisplay
  simp only [List.forIn_cons, List.forIn_nil]
  have h := h _ (I.hok.fresh (Nat.le_refl s.heap.objs.size))
  have J := I.laid (a := s.heap.objs.size) (o := .dK []) (h' := s.heap.push { cls := .type "dict", data := .dict #[] }) (t' := s.toks) (fun _ _ q => Heap.get?_push_of_some _ q) (Nat.le_refl _) (dk_empty s.heap I.big)
  refine wpAny_bind (wpAny_bind (wpAny_bind ?_))
  rw [if_pos List.isEmpty_nil]
  refine wpAny_pure ?_
  dsimp only
  refine wpAny_bind (wpAny_alloc (wpAny_bind (wpAny_holding (wpAny_bind (thn (hd.run pins _ σ _ _ J h) fun u s1 ⟨x, H1, I1, rx, hD, a, kvs, ex, ea, ne, lk, q1⟩ => ?_)))))
  refine wpAny_bind (wpAny_standAt (wpAny_pure ?_))
  subst ex
  obtain rfl : u = Value.ref a := rx
  obtain ⟨_, hs, vs, rel, dd⟩ := dk_rd I1.hok ea
  obtain ⟨_, hsD, vs0, rel0, ddD⟩ := dk_of I1.hok hD
  cases rel0
  have nod : (vs.map (·.1)).Nodup := by
    obtain ⟨_, _, _, _, _, _, _, _, q⟩ := dd
    exact q
  have lv : vs.length ≤ 1000 := by rw [← rel.length]; exact lk
  have line := sizeLine_eq
  refine wpAny_bind (wpAny_onRaise (wpAny_tryCatch (wpAny_onRaise (wpAny_holding (merge_map mix_noRef (Ne.symm ne) hs ddD dd (by rw [List.length_nil]; omega) fun g gd gs => ?_)))))
  rw [merged_nil_of_nodup vs nod] at gd
  have heD : ∃ q, g.get? s.heap.objs.size = some q := let ⟨q, _, _, hq, _⟩ := gd; ⟨q, hq⟩
  have I2 : Inv X pins σ (upd H1 s.heap.objs.size (.dK kvs)) { s1 with heap := g, toks := s1.toks } := d_write I1 (by rw [hD]; exact True.intro) gs heD (dk_new (by omega) hsD rel gd)
  refine wpAny_pure (wpAny_pure ?_)
  dsimp only
  refine wpAny_bind ?_
  rw [if_neg (by simp)]
  refine wpAny_bind (wpAny_holding (wpAny_subDict (knd := mixKind X.prog X.w) (by simp) ?_))
  have hn := I2.hok.fresh (Nat.le_refl g.objs.size)
  have hS : H1 g.objs.size = none := by
    by_cases e : g.objs.size = s.heap.objs.size
    · rw [e, upd_same] at hn
      cases hn
    · rw [upd_ne e] at hn
      exact hn
  have J2 := I2.laid (a := g.objs.size) (o := .dK []) (h' := g.push { cls := .type "dict", data := .dict #[] }) (t' := s1.toks) (fun _ _ q => Heap.get?_push_of_some _ q) (Nat.le_refl _) (dk_empty g I2.big)
  show wpAny _ _ (evalPairs [(eval k X.env, do let x ← eval v X.env; standAt pos; pure x)]) _ _ _
  refine evalPairs_cons (thn (hk.run pins _ σ _ _ J2 (q1 _ hS)) fun u3 s3 ⟨y, H2, I3, ry, q2⟩ => wpAny_bind (thn (hv.run pins s3 σ H2 _ I3 q2) fun w4 s4 ⟨z, H3, I4, rz, key, ey, hD3, hS3, q3⟩ => wpAny_bind (wpAny_standAt (wpAny_pure (evalPairs_nil ?_)))))
  subst ey
  obtain ⟨_, sS, vs1, rel1, ddS⟩ := dk_of I4.hok hS3
  cases rel1
  refine ⟨[(key, w4)], ⟨kV_is ry, rfl, True.intro⟩, ddS, fun g2 gd2 gs2 => ?_⟩
  have heS : ∃ q, g2.get? g.objs.size = some q := let ⟨q, _, _, hq, _⟩ := gd2; ⟨q, hq⟩
  have I5 : Inv X pins σ (upd H3 g.objs.size (.dK [(key, z)])) { s4 with heap := g2, toks := s4.toks + 1 } :=
    d_write I4 (by rw [hS3]; exact True.intro) gs2 heS (dk_new (kvs := [(key, z)]) (by rw [List.length_singleton]; omega) sS (.cons ⟨rfl, rz⟩ .nil) gd2)
  have nDS : s.heap.objs.size ≠ g.objs.size := fun e => by
    rw [← e, hD] at hS
    cases hS
  have hD5 : upd H3 g.objs.size (.dK [(key, z)]) s.heap.objs.size = some (.dK kvs) := by
    rw [upd_ne nDS]
    exact hD3
  obtain ⟨_, _, vs5, rel5, dd5⟩ := dk_of I5.hok hD5
  have l5 : vs5.length ≤ 1000 := by rw [← rel5.length]; exact lk
  refine wpAny_bind (wpAny_onRaise (wpAny_holding (merge_map mix_noRef nDS sS dd5 gd2 ?_ fun g3 gd3 gs3 => ?_)))
  · have := merged_length_le ([] : List (Key × Value)) [(key, w4)]
    simp only [List.length_nil, List.length_singleton] at this
    omega
  · have heD3 : ∃ q, g3.get? s.heap.objs.size = some q := let ⟨q, _, _, hq, _⟩ := gd3; ⟨q, hq⟩
    have lp := length_putK kvs key z
    have I6 : Inv X pins σ (upd (upd H3 g.objs.size (.dK [(key, z)])) s.heap.objs.size (.dK (putK kvs key z))) { s4 with heap := g3, toks := s4.toks + 1 } :=
      d_write (s := { s4 with heap := g2, toks := s4.toks + 1 }) I5 (by rw [hD5]; exact True.intro) gs3 heD3 (dk_new (by omega) hsD (rel5.put key rz) gd3)
    exact wpAny_pure (wpAny_pure ⟨.ref s.heap.objs.size, _, I6, rfl, q3⟩)
end
end Z
set_option maxHeartbeats 2000000
/-! YR5: tuples whose whole record is known; fields as targets. -/
namespace Z
open PySem PySem.Spec PyProof.Rows L2
/-- a tuple's record: no dict of its own -/
def tupO (its : Array Value) (n : Nat) : Obj := { cls := .type "tuple", data := .seq its n }
def StT (H : Hp) (a : Addr) (xs : List V) : Prop := ∃ its n, H a = some (.frz (tupO its n) (.tup xs))
theorem StT.sq {K : PySem.W.Frag} {H : Hp} {a : Addr} {xs : List V} (h : StT H a xs) : SqT K H a xs := let ⟨its, n, e⟩ := h; .inl (.inr ⟨_, e⟩)
section
variable {X : Cx} {es : List Expr} {t : TA} {pos : Pos}
def tTupS (t : TA) : TE := fun σ H Q => t σ H fun xs H1 => xs.length ≤ sizeLine ∧ ∀ p its n, H1 p = none → Q (.ref p) (upd H1 p (.frz (tupO its n) (.tup xs)))
theorem pe_tupS {k : Nat} (h : PA X es t) : PE X (.Tuple es k pos) (tTupS t) := by
  refine ⟨fun pins s σ H Q I hq => ?_⟩
  refine wpAny_Tuple_spliced (thn (h.run pos pins s σ H _ I hq) fun us s1 ⟨xs, H1, I1, r, z, q⟩ => ⟨by rw [← r.length]; exact z, ?_⟩)
  have new := I1.hok.fresh (Nat.le_refl s1.heap.objs.size)
  refine ⟨.ref s1.heap.objs.size, upd H1 s1.heap.objs.size (.frz (tupO us.toArray 0) (.tup xs)), I1.laid (t' := s1.toks) (fun b u e => Heap.get?_push_of_some _ e) (Nat.le_refl _) ?_, rfl, q _ us.toArray 0 new⟩
  exact ⟨Heap.get?_push_size _ rfl, z, us, r, ⟨_, Heap.get?_push_size _ rfl, rfl, _, rfl⟩⟩
/-- t + u, both of that kind -/
theorem op_addS : OpR X (binaryOp .Add) (fun x y H Q => ∃ a b xs ys, x = .ref a ∧ y = .ref b ∧ StT H a xs ∧ StT H b ys ∧ xs.length + ys.length ≤ sizeLine ∧
    (xs = [] → Q (.ref b) H) ∧ (xs ≠ [] → ys = [] → Q (.ref a) H) ∧ (xs ≠ [] → ys ≠ [] → ∀ p its n, H p = none → Q (.ref p) (upd H p (.frz (tupO its n) (.tup (xs ++ ys)))))) := by
  intro pins s σ H x y v u Q I rx ry h
  obtain ⟨a, b, xs, ys, rfl, rfl, ha, hb, hz, q0, q1, q2⟩ := h
  cases rx
  cases ry
  obtain ⟨us, r1, p1, z1⟩ := I.tuple ha.sq
  obtain ⟨vs, r2, p2, z2⟩ := I.tuple hb.sq
  by_cases hx : xs = []
  · subst hx
    cases r1
    exact cat_tup0 p1 p2 ⟨.ref b, H, I, rfl, q0 rfl⟩
  · have nu : us ≠ [] := fun z => by
      subst z
      cases r1
      exact hx rfl
    refine HT.cat_tup p1 p2 nu (fun z => ?_) (fun z => ?_) (by rw [← r1.length, ← r2.length]; exact hz)
    · subst z
      cases r2
      exact ⟨.ref a, H, I, rfl, q1 hx rfl⟩
    · have ny : ys ≠ [] := fun e => by
        subst e
        cases r2
        exact z rfl
      have new := I.hok.fresh (Nat.le_refl s.heap.objs.size)
      refine ⟨.ref s.heap.objs.size, upd H s.heap.objs.size (.frz (tupO (us ++ vs).toArray 0) (.tup (xs ++ ys))), I.laid (t' := s.toks) (fun b u e => Heap.get?_push_of_some _ e) (Nat.le_refl _) ?_, rfl, q2 hx ny _ _ _ new⟩
      exact ⟨Heap.get?_push_size _ rfl, by rw [List.length_append]; exact hz, us ++ vs, r1.append r2, ⟨_, Heap.get?_push_size _ rfl, rfl, _, rfl⟩⟩
theorem StT.is {pins : List (Addr × Obj)} {σ : L2.St} {H : Hp} {s : Shared} {a : Addr} {xs : List V} (I : Inv X pins σ H s) (h : StT H a xs) : s.TypeIs (.ref a) "tuple" ∧ ∀ b, Value.ref a = .ref b → ∃ ob, s.heap.get? b = some ob ∧ ob.dict = none := by
  obtain ⟨its, n, e⟩ := h
  obtain ⟨g, _⟩ := (show ObjOk X.prog X.w H s.heap a (.frz (tupO its n) (.tup xs)) from I.hok a _ e)
  exact ⟨⟨_, g, rfl⟩, fun b z => by cases z; exact ⟨_, g, rfl⟩⟩
/-- t.m(e, ..) -/
theorem pe_tupM {o e : Expr} {to : TE} {name : Str} {apos cpos : Pos} {id : String} {r : V → List V → Hp → VK → Prop} (slot : Slot "tuple" name id) (hty : typeOf (.builtin id) = pure (.type "method_descriptor")) (hm : MtR X id r) (ho : PE X o to) (ha : PA X (e :: es) t)
    (hbase : attributeBase o name X.env (eval o X.env) = eval o X.env)
    (hfew : ((backTo cpos (starEach (e :: es) X.env)).all (fun x => !x.1) && (backToKw cpos (keywordEach [] X.env)).all (fun x => x.1.isSome) && decide ((e :: es).length + ([] : List Keyword).length + (if ([] : List Keyword).isEmpty then 0 else 1) < 30)) = true)
    (hline : (apos.endLine == cpos.line) = true) (hs : starEach (e :: es) X.env = (false, eval e X.env) :: starEach es X.env) (hplain : (backTo cpos (starEach es X.env)).any (·.1) = false) :
    PE X (.Call (.Attribute o name apos) (e :: es) [] cpos) (fun σ H Q => to σ H fun x H1 => (∃ a xs, x = .ref a ∧ StT H1 a xs) ∧ t σ H1 fun xs H2 => r x xs H2 Q) := by
  refine ⟨fun pins s σ H Q I h => ?_⟩
  refine wpAny_Call_method_late hbase hfew hline rfl (thn (ho.run pins s σ H _ I h) fun v s1 ⟨x, H1, I1, r1, ⟨a, zs, ex, st⟩, q1⟩ => ?_)
  subst ex
  obtain rfl : v = Value.ref a := r1
  obtain ⟨h1, h2⟩ := st.is I1
  refine ⟨"tuple", id, PySem.F.plainAttrs_tuple, slot, hty, h1, h2, ?_⟩
  have hA := ha.run cpos pins s1 σ H1 _ I1 q1
  rw [hs] at hA ⊢
  refine Calls.callWith_builtin (by show (false || (backTo cpos (starEach es X.env)).any (·.1)) = false; rw [hplain]; rfl) (Calls.evalArgs_plain ?_)
  exact thn hA fun us s2 ⟨vs, H2, I2, r2, q2⟩ => hm pins s2 σ H2 (.ref a) vs (.ref a) us Q I2 rfl r2 q2
end
section
variable {X : Cx} {o : Expr} {f : Str} {pos : Pos} {to : TE}
/-- o.f as a target -/
def gFldT (K : PySem.W.Frag) (to : TE) (f : Str) : TG := fun v σ H Q => to σ H fun x H1 => ∃ a C dx fs, x = .ref a ∧ H1 a = some (.ins C dx fs) ∧ Cls K C ∧ NoAttr K C f ∧ fs.length < 1000 ∧ Q σ (upd H1 a (.ins C dx (putF f v fs)))
theorem pg_fldT (ho : PE X o to) : PG X (.Attribute o f pos) (gFldT X.K to f) := by
  refine ⟨fun pins s σ H v u Q I r h => ?_⟩
  rw [assign_Attribute]
  refine wpAny_bind (wpAny_holding (thn (ho.run pins s σ H _ I h) fun ov s1 ⟨x, H1, I1, rx, a, C, dx, fs, ex, ea, c, n, l, q⟩ => ?_))
  subst ex
  obtain rfl : ov = Value.ref a := rx
  refine wpAny_bind (wpAny_standAt (wpAny_bind (wpAny_holding (setattr_ok I1 ea c n l r fun s2 I2 => wpAny_release ⟨σ, _, I2, q⟩))))
end
end Z
/-! YR6: enumerate(t), t a tuple; o[i] of an own class. -/
namespace Z
open PySem L2 PyProof.Rows
/-- the cell of a counter from 0 over the iterator at k -/
abbrev cntO (k : Addr) : Obj := { cls := .type "enumerate", data := .fields #[Value.none, .bool false, Value.ref k, rawInt 0, Value.none, Value.none] }
set_option maxHeartbeats 1000000 in
theorem cnt_new {z : Value} {ob : Obj} {Hh : Heap → Prop} (B : Begins z ob Hh) : Meets (Builtin.«enumerate.__new__» ⟨[.type "enumerate", z], []⟩) (fun _ Out sh => Hh sh.heap ∧
    Out (.ok (.ret (.ref (sh.heap.push ob).objs.size))) { sh with heap := (sh.heap.push ob).push (cntO sh.heap.objs.size) }) :=
  .of_wp fun pg wd Ar Out sh h => by
    obtain ⟨hp, gg, dd, tt, oo⟩ := sh
    obtain ⟨hB, hO⟩ := h
    have := sub_enumerate
    have go : ∀ {Ar' : Around} {Er : Value → Shared → Prop} {Qq : Value → Shared → Prop}, Qq (.ref hp.objs.size) ⟨hp.push ob, gg, dd, tt, oo⟩ → wpAny (model pg wd) Ar' (pyIter z) Qq Er ⟨hp, gg, dd, tt, oo⟩ :=
      fun q => B.iter pg wd _ _ ⟨hp, gg, dd, tt, oo⟩ _ hB q
    wp_walk using go
    refine wpAny_stack_any fun st => ?_
    refine wpAny_pure ?_
    split
    · rename_i cc _ _ _ _ _
      cases (cc == Value.type "enumerate") <;> (wp_walk using go; exact ⟨_, rfl, hO⟩)
    · wp_walk using go
      exact ⟨_, rfl, hO⟩
section
variable {pg : Program} {wd : World} {Ar : Around} {Er : Value → Shared → Prop} {sh : Shared}
theorem cnt_call {z : Value} {ob : Obj} {Hh : Heap → Prop} {Qq : Value → Shared → Prop} (B : Begins z ob Hh) (h1 : Hh sh.heap)
    (h : ∀ hp, IsEnum hp (sh.heap.objs.size + 1) sh.heap.objs.size 0 .none → hp.get? sh.heap.objs.size = some ob → (∀ b u, sh.heap.get? b = some u → hp.get? b = some u) → Qq (.ref (sh.heap.objs.size + 1)) { sh with heap := hp }) :
    wpAny (model pg wd) Ar (call (.type "enumerate") [z]) Qq Er sh := by
  have hz : (sh.heap.push ob).objs.size = sh.heap.objs.size + 1 := Heap.size_push ..
  have he : IsEnum ((sh.heap.push ob).push (cntO sh.heap.objs.size)) (sh.heap.objs.size + 1) sh.heap.objs.size 0 .none := by
    have e := Heap.get?_push_size (sh.heap.push ob) (o := cntO sh.heap.objs.size) rfl
    rw [hz] at e
    exact e
  refine callType_new F.called_enumerate (by decide) (F.typeCall_enumerate_1 _) (F.newCall_enumerate_1 _) (fun b => F.args_object_init_2 b _) F.entry_enumerate_new (cnt_new B) ⟨h1, ?_⟩
  show _ ∧ _
  rw [hz]
  exact ⟨⟨_, he, rfl⟩, h _ he (Heap.get?_push_of_some _ (Heap.get?_push_size _ B.free)) fun b u y => Heap.get?_push_of_some _ (Heap.get?_push_of_some _ y)⟩
end
/-- the tuple at a, each item in a new pair -/
def ItU (K : PySem.W.Frag) (a : Addr) : It :=
  ⟨fun i H => ∃ (zs : List V) (z : V), SqT K H a zs ∧ zs[i]? = some z, fun i H v H' => ∃ T z, v = .ref T ∧ H T = none ∧ H' = upd H T (.tup [.int (i : Nat), z]) ∧ ∀ zs, SqT K H a zs → zs[i]? = some z, fun i H => ∃ zs : List V, SqT K H a zs ∧ zs.length ≤ i⟩
theorem turn_cnt {P : Program} {w : World} {K : PySem.W.Frag} {el : List Expr} {kk : Nat} {tp : Pos} (a e it : Addr) :
    Turn P w K (.Tuple el kk tp) (ItU K a) [e, it] e (fun i hp => (∃ old, IsEnum hp e it ((i : Nat) : Int) old) ∧ hp.IsTupleIter it a i ∧ e ≠ it) where
  mem := by simp
  obj := fun i hp st b hb => by
    obtain ⟨⟨old, he⟩, ⟨o, ho, hc, hd⟩, _⟩ := st
    rcases (show b = e ∨ b = it by simpa using hb) with z | z <;> rw [z]
    · exact ⟨_, he, fun v q => nomatch q⟩
    · exact ⟨o, ho, fun v q => by rw [hd] at q; cases q⟩
  keep := fun i hp hp' st k => ⟨st.1.imp fun _ he => k e (by simp) _ he, st.2.1.at fun o q => k it (by simp) o q, st.2.2⟩
  item := by
    intro X hP hw hK hc i pins s σ H E I hf st hg
    subst hP hw hK
    obtain ⟨⟨old, he⟩, hit, hne⟩ := st
    obtain ⟨zs, z, hq, hx⟩ := hg
    obtain ⟨its, rv, p, hz⟩ := I.tuple hq
    obtain ⟨u, hu, ru⟩ := rv.get hx
    have hel : e < s.heap.objs.size := Heap.lt_size he
    have hil : it < s.heap.objs.size := by obtain ⟨_, q, _⟩ := hit; exact Heap.lt_size q
    have hai : a ≠ it := fun q => by
      obtain ⟨o1, e1, c1, _⟩ := hit
      obtain ⟨o2, e2, c2, _⟩ := p
      rw [q, e1] at e2
      cases e2
      rw [c1] at c2
      exact absurd c2 (by simp)
    have hae : e ∉ [it, a] := fun q => by
      rcases (show e = it ∨ e = a by simpa using q) with q | q
      · exact hne q
      · obtain ⟨o2, e2, c2, _⟩ := p
        rw [← q] at e2
        rw [show s.heap.get? e = _ from he] at e2
        cases e2
        exact absurd c2 (by simp)
    have hlt : i < its.toArray.size := by
      obtain ⟨h1, _⟩ := List.getElem?_eq_some_iff.mp hu
      simpa using h1
    refine wpAny_pyNext_enum_itemD (Draws.tuple (A := X.A.in1) (I.ok.hd hc) it a hai its.toArray) he ⟨hit, show s.heap.IsTuple a its.toArray from p⟩ hlt hne hae fun x h' tk hx' ho st' hT hsz hk => ?_
    have : x = u := by
      have e1 : its[i]? = some x := by simpa using hx'
      rw [hu] at e1
      exact (Option.some.inj e1).symm
    subst this
    refine ⟨_, rfl, wpAny_letOwnedTupleGo_enum (s := { s with heap := h', toks := tk + 1 }) ho fun h2 he2 sb => ?_⟩
    have hT2 : h2.get? s.heap.objs.size = some { cls := .type "tuple", data := .seq #[.int i tk, x] } := (sb.2 _ (Nat.ne_of_gt hel)).trans hT
    have new : ObjOk X.prog X.w (upd H s.heap.objs.size (.tup [.int (i : Nat), z])) h2 s.heap.objs.size (.tup [.int (i : Nat), z]) :=
      ⟨by show 2 ≤ sizeLine; decide, [.int i tk, x], .cons ⟨_, rfl⟩ (.cons ru .nil), ⟨_, hT2, rfl, _, rfl⟩⟩
    have I1 : Inv X pins σ (upd H s.heap.objs.size (.tup [.int (i : Nat), z])) { s with heap := h2, toks := tk + 1 } :=
      I.turnedNew (ch := [e, it]) (fun b ob hb q => (sb.2 b fun y => hb (by simp [y])).trans (hk b ob (fun y => hb (by simp [y])) (fun y => hb (by simp [y])) q)) hf (Nat.le_refl _) new
    refine ⟨.ref s.heap.objs.size, _, I1, rfl, ⟨_, z, rfl, I.hok.fresh (Nat.le_refl _), rfl, fun ys hy => by rw [I.tuple_inj hy hq]; exact hx⟩, ⟨⟨x, ?_⟩, st'.1.at fun o q => (sb.2 it (Ne.symm hne)).trans q, hne⟩, fun b hb => ?_⟩
    · rw [show ((i + 1 : Nat) : Int) = (i : Int) + 1 by omega]
      exact he2
    · have hb' : b < s.heap.objs.size := by rcases (show b = e ∨ b = it by simpa using hb) with y | y <;> rw [y] <;> assumption
      rw [upd_ne (Nat.ne_of_lt hb')]
      exact (hf b hb).1
  done := by
    intro X hP hw hK hc i pins s σ H E I hf st hg
    subst hP hw hK
    obtain ⟨⟨old, he⟩, hit, hne⟩ := st
    obtain ⟨zs, hq, hx⟩ := hg
    obtain ⟨its, rv, p, hz⟩ := I.tuple hq
    obtain ⟨f0, f1, f2, f3, f4, f5⟩ := hf it (by simp)
    have hl := rv.length
    have hT : s.TypeIs (.ref e) "enumerate" := ⟨_, he, rfl⟩
    unfold pyNext
    refine wpAny_bind (wpAny_attempt (wpAny_callSpecial?_slot (name := Str.ofString "__next__") hT F.slot_enumerate_next (wpAny_call_entry F.slot_enumerate_next hT F.entry_enumerate_next ?_ (F.args_enumerate_next_1 _))))
    show wpAny _ _ (field (.ref e) 2 >>= _) _ _ _
    refine wpAny_bind (wpAny_field he rfl (x := .ref it) rfl (wpAny_bind (wpAny_nextOf_tuple_end (I.ok.hd hc) hit (show s.heap.IsTuple a its.toArray from p) (by simp; omega) fun h' x eb hx' => ?_)))
    obtain ⟨ob, ho, hcl⟩ := hx'
    exact wpAny_bind (wpAny_isInstance (T := "StopIteration") (b := true) ⟨ob, ho, hcl⟩ isSubtype_stop (wpAny_pure ⟨rfl, I.turned (t' := s.toks) (fun b o hb q => eb b o hb q) f0 f1 f3 f4 f5⟩))
  self := fun A i s Q E st h => st.1.elim fun _ he => wpAny_pyIter_enum he h
/-- enumerate(..) of a list or of a tuple -/
def iCnt (K : PySem.W.Frag) (ta : TA) : TI := fun σ H R => ta σ H fun vs H1 => ∃ a xs, vs = [.ref a] ∧ ((SqL K H1 a xs ∧ R (Ite K a) H1) ∨ (SqT K H1 a xs ∧ R (ItU K a) H1))
theorem pi_cnt {X : Cx} {e : Expr} {ta : TA} {p pos tpos : Pos} {elts : List Expr} {kk : Nat} (hg : Gl X "enumerate") (hm : X.mg "enumerate" = none) (ha : PA X [e] ta) (hs : starEach [e] X.env = [(false, eval e X.env)] := by rfl) :
    PI X (.Tuple elts kk tpos) (.Call (.Name "enumerate" p) [e] [] pos) (iCnt X.K ta) := by
  refine ⟨fun pins s σ H R I h => ?_⟩
  refine Call_ (ld_blt I hg hm boot_enumerate (PyProof.Rows.callWith_type1 (thn (ha.run pos pins s σ H _ I h) fun us s1 ⟨vs, H1, I1, r1, a, xs, ex, q⟩ => ?_) hs rfl))
  subst ex
  obtain ⟨u, rfl, ru⟩ := r1.one
  cases ru
  have two : ∀ {hp : Heap}, (∀ b o, s1.heap.get? b = some o → hp.get? b = some o) → Inv X pins σ H1 { s1 with heap := hp } := fun hk => I1.kept (t' := s1.toks) hk
  have fr : ∀ b ∈ [s1.heap.objs.size + 1, s1.heap.objs.size], s1.heap.objs.size ≤ b := fun b hb => by
    rcases (show b = s1.heap.objs.size + 1 ∨ b = s1.heap.objs.size by simpa using hb) with z | z <;> rw [z]
    · exact Nat.le_add_right _ _
    · exact Nat.le_refl _
  rcases q with ⟨hq, q⟩ | ⟨hq, q⟩
  · obtain ⟨its, rv, p', hz⟩ := I1.list hq
    refine call_enumerate_list p'.isList fun hp he hit _ hk => wpAny_pyIter_enum he ?_
    exact ⟨s1.heap.objs.size + 1, [s1.heap.objs.size + 1, s1.heap.objs.size], _, _, H1, rfl, two hk, turn_enum a (s1.heap.objs.size + 1) s1.heap.objs.size, ⟨⟨.none, he⟩, hit, Nat.succ_ne_self _⟩, fun b hb => I1.fpOk (fr b hb) (I1.hok.fresh (fr b hb)), q⟩
  · obtain ⟨its, rv, p', hz⟩ := I1.tuple hq
    refine cnt_call (begins_tuple a its.toArray) (show s1.heap.IsTuple a its.toArray from p') fun hp he hit hk => wpAny_pyIter_enum he ?_
    exact ⟨s1.heap.objs.size + 1, [s1.heap.objs.size + 1, s1.heap.objs.size], _, _, H1, rfl, two hk, turn_cnt a (s1.heap.objs.size + 1) s1.heap.objs.size, ⟨⟨.none, he⟩, ⟨_, hit, rfl, rfl⟩, Nat.succ_ne_self _⟩, fun b hb => I1.fpOk (fr b hb) (I1.hok.fresh (fr b hb)), q⟩
end Z
set_option maxHeartbeats 1000000
/-! Z2: how the evaluator's memory lies in the abstract heap. -/
namespace Z
open PySem PySem.Spec PyProof.Rows L2
/-- where the shared and the local objects lie; what others own -/
structure Wd where
  mu : List Addr
  l : List (Option Addr)
  p : Addr → Prop
def Wd.live (w : Wd) (a : Addr) : Prop := a ∈ w.mu ∨ some a ∈ w.l ∨ w.p a
mutual
inductive RD (K : PySem.W.Frag) (w : Wd) (H : Hp) : PyData → V → Prop
  | non : RD K w H .none .non
  | bl (b : Bool) : RD K w H (.bool b) (.bl b)
  | int (i : Int) : RD K w H (.int i) (.int i)
  | str (x : Str) : RD K w H (.str x) (.str x)
  | lst {a : Addr} {xs : List V} {ds : List PyData} : H a = some (.lst xs) → ¬ w.live a → RDs K w H ds xs → RD K w H (.list ds) (.ref a)
  | tup {a : Addr} {xs : List V} {ds : List PyData} : SqT K H a xs → RDs K w H ds xs → RD K w H (.tuple ds) (.ref a)
  | dct {a : Addr} {o : Obj} {ks : List Str} {vs : List V} {ds : List PyData} : H a = some (.frz o (.dK ((ks.map fun k => (Sum.inr k : Key)).zip vs))) → ks.length = ds.length → RDs K w H ds vs → RD K w H (.dict ((ks.map PyData.str).zip ds)) (.ref a)
inductive RDs (K : PySem.W.Frag) (w : Wd) (H : Hp) : List PyData → List V → Prop
  | nil : RDs K w H [] []
  | cons {d : PyData} {ds : List PyData} {v : V} {vs : List V} : RD K w H d v → RDs K w H ds vs → RDs K w H (d :: ds) (v :: vs)
end
def SqR (K : PySem.W.Frag) (H : Hp) (a : Addr) (xs : List V) : Prop := (∃ o, H a = some (.frz o (.lst xs))) ∨
  ∃ (o : Obj) (its : Array Value) (n : Nat), K.lookup a = some o ∧ o.cls = .type "list" ∧ o.dict = none ∧ o.data = .seq its n ∧ its.size ≤ sizeLine ∧ Vals xs its.toList
theorem SqR.l {K : PySem.W.Frag} {H : Hp} {a : Addr} {xs : List V} (h : SqR K H a xs) : SqL K H a xs := h.elim (fun z => .inl (.inr z)) .inr
/-- at a: this very record -/
def exk (a : Addr) (oe : Obj) : HO := .ext fun h => h.get? a = some oe
/-- what an exception keeps -/
def RXf (K : PySem.W.Frag) (w : Wd) (H : Hp) (fs : Option (List Str × List PyData)) (d : Option Addr) : Prop := match fs with
  | none => d = none
  | some (ns, ds) => ∃ dx vs, d = some dx ∧ H dx = some (.xd (ns.zip vs)) ∧ ¬ w.live dx ∧ RDs K w H ds vs
inductive RW (K : PySem.W.Frag) (w : Wd) (H : Hp) : W → V → Prop
  | v {d : PyData} {x : V} : RD K w H d x → RW K w H (.v d) x
  | ref {n : Nat} {a : Addr} : w.mu[n]? = some a → RW K w H (.ref n) (.ref a)
  | ro {a : Addr} {xs : List V} {ds : List PyData} : SqR K H a xs → RDs K w H ds xs → RW K w H (.ro ds) (.ref a)
  | exc {a C : Addr} {oe : Obj} {x : Ex} {d : Option Addr} : H a = some (exk a oe) → ¬ w.live a → Zc (.ref C) d oe → (∃ vs, oe.data = .fields vs) → PySem.W.nsIn K mainGlobals x.c = some (some (.ref C)) → RXf K w H x.fs d → RW K w H (.exc x) (.ref a)
  | tv {a : Addr} {xs : List V} {ds : List PyData} : StT H a xs → RDs K w H ds xs → RW K w H (.tv ds) (.ref a)
  | loc {n : Nat} {x : V} : n < w.l.length → (∀ a, w.l[n]? = some (some a) → x = .ref a) → RW K w H (.loc n) x
abbrev RWs (K : PySem.W.Frag) (w : Wd) (H : Hp) : List W → List V → Prop := Paired (RW K w H)
def RS (K : PySem.W.Frag) (w : Wd) (H : Hp) (a : Addr) : OS → Prop
  | .lst ds => ∃ xs, H a = some (.lst xs) ∧ RDs K w H ds xs
  | .ro ds => ∃ o xs, H a = some (.frz o (.lst xs)) ∧ RDs K w H ds xs
  | .ins c fs => ∃ C dx gs, PySem.W.nsIn K mainGlobals c = some (some (.ref C)) ∧ H a = some (.ins C dx gs) ∧ Paired (fun (p : Str × W) (q : Str × V) => p.1 = q.1 ∧ RW K w H p.2 q.2) fs gs ∧ args (fs.map (·.2)) = true
def RL (K : PySem.W.Frag) (w : Wd) (H : Hp) (x : Option Addr) : OL → Prop
  | .dead => x = none
  | .lst ws => ∃ a xs, x = some a ∧ H a = some (.lst xs) ∧ RWs K w H ws xs
  | .dic ks ws => ∃ a vs, x = some a ∧ H a = some (.dK ((ks.map fun k => (Sum.inr k : Key)).zip vs)) ∧ ks.length = ws.length ∧ RWs K w H ws vs
structure Rl (K : PySem.W.Frag) (w : Wd) (m : Mem) (H : Hp) : Prop where
  lenS : m.S.length = w.mu.length
  lenL : m.L.length = w.l.length
  ndS : w.mu.Nodup
  ndL : ∀ (i j : Nat) (a : Addr), w.l[i]? = some (some a) → w.l[j]? = some (some a) → i = j
  ap : ∀ a, a ∈ w.mu → some a ∉ w.l
  apP : ∀ a, w.p a → a ∉ w.mu ∧ some a ∉ w.l ∧ ∃ o, H a = some o
  s : ∀ (n : Nat) (o : OS) (a : Addr), m.S[n]? = some o → w.mu[n]? = some a → RS K w H a o
  l : ∀ (n : Nat) (o : OL) (x : Option Addr), m.L[n]? = some o → w.l[n]? = some x → RL K w H x o
structure Ext (w : Wd) (H : Hp) (w' : Wd) (H' : Hp) : Prop where
  mu : ∃ r, w'.mu = w.mu ++ r
  ln : w.l.length ≤ w'.l.length
  l : ∀ (n : Nat), n < w.l.length → w'.l[n]? = w.l[n]? ∨ w'.l[n]? = some none
  p : w'.p = w.p
  keep : ∀ a o, H a = some o → ¬ w.live a → H' a = some o ∧ ¬ w'.live a
  pk : ∀ a o, w.p a → H a = some o → H' a = some o
  tup : ∀ a xs, H a = some (.tup xs) → H' a = some (.tup xs)
  frz : ∀ a o u, H a = some (.frz o u) → H' a = some (.frz o u)
theorem Ext.refl (w : Wd) (H : Hp) : Ext w H w H := ⟨⟨[], by simp⟩, Nat.le_refl _, fun _ _ => .inl rfl, rfl, fun _ _ e n => ⟨e, n⟩, fun _ _ _ e => e, fun _ _ e => e, fun _ _ _ e => e⟩
theorem Ext.trans {w w1 w2 : Wd} {H H1 H2 : Hp} (a : Ext w H w1 H1) (b : Ext w1 H1 w2 H2) : Ext w H w2 H2 where
  mu := by
    obtain ⟨r, e⟩ := a.mu
    obtain ⟨r', e'⟩ := b.mu
    exact ⟨r ++ r', by rw [e', e, List.append_assoc]⟩
  ln := Nat.le_trans a.ln b.ln
  l := fun n h => by
    rcases b.l n (Nat.lt_of_lt_of_le h a.ln) with e | e
    · rcases a.l n h with e' | e'
      · exact .inl (e.trans e')
      · exact .inr (e.trans e')
    · exact .inr e
  p := b.p.trans a.p
  keep := fun x o e n => by
    obtain ⟨e1, n1⟩ := a.keep x o e n
    exact b.keep x o e1 n1
  pk := fun x o hp e => b.pk x o (by rw [a.p]; exact hp) (a.pk x o hp e)
  tup := fun x xs e => b.tup x xs (a.tup x xs e)
  frz := fun x o u e => b.frz x o u (a.frz x o u e)
section
variable {K : PySem.W.Frag} {w w' : Wd} {H H' : Hp}
theorem sqT_ext (e : Ext w H w' H') {a : Addr} {xs : List V} (h : SqT K H a xs) : SqT K H' a xs := by
  rcases h with (h | ⟨o, h⟩) | h
  · exact .inl (.inl (e.tup _ _ h))
  · exact .inl (.inr ⟨o, e.frz _ _ _ h⟩)
  · exact .inr h
mutual
theorem RD.ext (e : Ext w H w' H') : ∀ {d : PyData} {v : V}, RD K w H d v → RD K w' H' d v
  | _, _, .non => .non
  | _, _, .bl b => .bl b
  | _, _, .int i => .int i
  | _, _, .str x => .str x
  | _, _, .lst h n r => .lst (e.keep _ _ h n).1 (e.keep _ _ h n).2 (RDs.ext e r)
  | _, _, .tup h r => .tup (sqT_ext e h) (RDs.ext e r)
  | _, _, .dct h l r => .dct (e.frz _ _ _ h) l (RDs.ext e r)
theorem RDs.ext (e : Ext w H w' H') : ∀ {ds : List PyData} {vs : List V}, RDs K w H ds vs → RDs K w' H' ds vs
  | _, _, .nil => .nil
  | _, _, .cons a b => .cons (RD.ext e a) (RDs.ext e b)
end
theorem RXf.ext (e : Ext w H w' H') {fs : Option (List Str × List PyData)} {d : Option Addr} (h : RXf K w H fs d) : RXf K w' H' fs d := by
  cases fs with
  | none => exact h
  | some p =>
    obtain ⟨ns, ds⟩ := p
    obtain ⟨dx, vs, h1, h2, h3, h4⟩ := h
    exact ⟨dx, vs, h1, (e.keep _ _ h2 h3).1, (e.keep _ _ h2 h3).2, h4.ext e⟩
theorem RW.ext (e : Ext w H w' H') {x : W} {v : V} (h : RW K w H x v) : RW K w' H' x v := by
  cases h with
  | v h => exact .v (h.ext e)
  | ro h1 h2 => exact .ro (h1.elim (fun ⟨o, z⟩ => .inl ⟨o, e.frz _ _ _ z⟩) .inr) (h2.ext e)
  | tv h1 h2 => exact .tv (let ⟨its, n, q⟩ := h1; ⟨its, n, e.frz _ _ _ q⟩) (h2.ext e)
  | exc h1 h2 h3 h4 h5 h6 => exact .exc (e.keep _ _ h1 h2).1 (e.keep _ _ h1 h2).2 h3 h4 h5 (h6.ext e)
  | @ref n a h =>
    refine .ref ?_
    obtain ⟨r, q⟩ := e.mu
    rw [q, List.getElem?_append_left (List.getElem?_eq_some_iff.mp h).1]
    exact h
  | @loc n x h1 h2 =>
    refine .loc (Nat.lt_of_lt_of_le h1 e.ln) fun a ha => ?_
    rcases e.l n h1 with q | q
    · exact h2 a (by rw [← q]; exact ha)
    · rw [q] at ha; cases ha
theorem paired_imp {α β : Type} {F G : α → β → Prop} (f : ∀ a b, F a b → G a b) : ∀ {xs : List α} {ys : List β}, Paired F xs ys → Paired G xs ys
  | _, _, .nil => .nil
  | _, _, .cons r t => .cons (f _ _ r) (paired_imp f t)
theorem RWs.ext (e : Ext w H w' H') {xs : List W} {vs : List V} (h : RWs K w H xs vs) : RWs K w' H' xs vs := paired_imp (fun _ _ r => r.ext e) h
theorem RD.tv_ {a : Addr} {xs : List V} {ds : List PyData} (h1 : StT H a xs) (h2 : RDs K w H ds xs) : RD K w H (.tuple ds) (.ref a) := .tup h1.sq h2
theorem RDs.length : ∀ {ds : List PyData} {vs : List V}, RDs K w H ds vs → ds.length = vs.length
  | _, _, .nil => rfl
  | _, _, .cons _ t => congrArg (· + 1) (RDs.length t)
theorem RDs.ws : ∀ {ds : List PyData} {vs : List V}, RDs K w H ds vs → RWs K w H (ds.map .v) vs
  | _, _, .nil => .nil
  | _, _, .cons a b => .cons (.v a) (RDs.ws b)
theorem RDs.of_ws : ∀ {ws : List W} {vs : List V} {ds : List PyData}, RWs K w H ws vs → allV ws = some ds → RDs K w H ds vs
  | _, _, ds, .nil, h => by
    cases h
    exact .nil
  | _, _, ds, .cons (a := x) r t, h => by
    cases x with
    | v d =>
      unfold allV at h
      rename_i b l1 l2
      cases hq : allV l1 with
      | none => rw [hq] at h; cases h
      | some es =>
        rw [hq] at h
        cases h
        cases r with
        | v r => exact .cons r (RDs.of_ws t hq)
    | ref n => cases h
    | loc n => cases h
    | ro _ => cases h
    | exc _ => cases h
    | tv _ => cases h
theorem RDs.get : ∀ {ds : List PyData} {vs : List V} {i : Nat} {d : PyData}, RDs K w H ds vs → ds[i]? = some d → ∃ v, vs[i]? = some v ∧ RD K w H d v
  | _, _, _, _, .nil, h => by simp at h
  | _, _, 0, _, .cons a _, h => by
    simp at h
    subst h
    exact ⟨_, rfl, a⟩
  | _, _, i + 1, _, .cons _ b, h => by
    obtain ⟨v, e, r⟩ := RDs.get (i := i) b (by simpa using h)
    exact ⟨v, by simpa using e, r⟩
theorem RWs.get : ∀ {ds : List W} {vs : List V} {i : Nat} {d : W}, RWs K w H ds vs → ds[i]? = some d → ∃ v, vs[i]? = some v ∧ RW K w H d v
  | _, _, _, _, .nil, h => by simp at h
  | _, _, 0, _, .cons a _, h => by
    simp at h
    subst h
    exact ⟨_, rfl, a⟩
  | _, _, i + 1, _, .cons _ b, h => by
    obtain ⟨v, e, r⟩ := RWs.get (i := i) b (by simpa using h)
    exact ⟨v, by simpa using e, r⟩
theorem RWs.length {ws : List W} {vs : List V} (h : RWs K w H ws vs) : ws.length = vs.length := Paired.length h
theorem RWs.append : ∀ {xs ys : List W} {us vs : List V}, RWs K w H xs us → RWs K w H ys vs → RWs K w H (xs ++ ys) (us ++ vs)
  | _, _, _, _, .nil, s => s
  | _, _, _, _, .cons r t, s => .cons r (RWs.append t s)
theorem RDs.append : ∀ {xs ys : List PyData} {us vs : List V}, RDs K w H xs us → RDs K w H ys vs → RDs K w H (xs ++ ys) (us ++ vs)
  | _, _, _, _, .nil, s => s
  | _, _, _, _, .cons r t, s => .cons r (RDs.append t s)
theorem RDs.drop : ∀ (n : Nat) {xs : List PyData} {us : List V}, RDs K w H xs us → RDs K w H (xs.drop n) (us.drop n)
  | 0, _, _, h => h
  | _ + 1, _, _, .nil => .nil
  | n + 1, _, _, .cons _ t => RDs.drop n t
theorem RDs.take : ∀ (n : Nat) {xs : List PyData} {us : List V}, RDs K w H xs us → RDs K w H (xs.take n) (us.take n)
  | 0, _, _, _ => .nil
  | _ + 1, _, _, .nil => .nil
  | n + 1, _, _, .cons r t => .cons r (RDs.take n t)
theorem RDs.set : ∀ {xs : List PyData} {us : List V} {d : PyData} {v : V} (i : Nat), RDs K w H xs us → RD K w H d v → RDs K w H (xs.set i d) (us.set i v)
  | _, _, _, _, _, .nil, _ => .nil
  | _, _, _, _, 0, .cons _ t, q => .cons q t
  | _, _, _, _, i + 1, .cons r t, q => .cons r (RDs.set i t q)
theorem RWs.set : ∀ {xs : List W} {us : List V} {d : W} {v : V} (i : Nat), RWs K w H xs us → RW K w H d v → RWs K w H (xs.set i d) (us.set i v)
  | _, _, _, _, _, .nil, _ => .nil
  | _, _, _, _, 0, .cons _ t, q => .cons q t
  | _, _, _, _, i + 1, .cons r t, q => .cons r (RWs.set i t q)
/-! data as the library's data -/
mutual
theorem RD.dp : ∀ {d : PyData} {v : V}, RD K w H d v → nod d = true → Dp K H v d
  | _, _, .non, _ => .non
  | _, _, .bl b, _ => .bl b
  | _, _, .int i, _ => .int i
  | _, _, .str x, _ => .str x
  | _, _, .lst h _ r, z => .lst (SqL.of h) (RDs.dp r z)
  | _, _, .tup h r, z => .tup h (RDs.dp r z)
  | _, _, .dct _ _ _, z => by cases z
theorem RDs.dp : ∀ {ds : List PyData} {vs : List V}, RDs K w H ds vs → nods ds = true → DpAll K H vs ds
  | _, _, .nil, _ => .nil
  | _, _, .cons a b, z => by
    simp only [nods, Bool.and_eq_true] at z
    exact .cons (RD.dp a z.1) (RDs.dp b z.2)
end
theorem Rl.live_some {m : Mem} (r : Rl K w m H) {a : Addr} (h : w.live a) : ∃ o, H a = some o := by
  rcases h with h | h | h
  · obtain ⟨n, hn⟩ := List.getElem?_of_mem h
    have hl : n < m.S.length := by rw [r.lenS]; exact (List.getElem?_eq_some_iff.mp hn).1
    have z := r.s n _ a (List.getElem?_eq_getElem hl) hn
    generalize m.S[n] = o at z
    cases o with
    | lst ds => obtain ⟨xs, e, _⟩ := z; exact ⟨_, e⟩
    | ro ds => obtain ⟨o, xs, e, _⟩ := z; exact ⟨_, e⟩
    | ins c fs => obtain ⟨C, dx, gs, _, e, _⟩ := z; exact ⟨_, e⟩
  · obtain ⟨n, hn⟩ := List.getElem?_of_mem h
    have hl : n < m.L.length := by rw [r.lenL]; exact (List.getElem?_eq_some_iff.mp hn).1
    have z := r.l n _ (some a) (List.getElem?_eq_getElem hl) hn
    generalize m.L[n] = o at z
    cases o with
    | dead => cases z
    | lst ds =>
      obtain ⟨a', xs, e1, e, _⟩ := z
      cases e1
      exact ⟨_, e⟩
    | dic ks ws =>
      obtain ⟨a', vs, e1, e, _⟩ := z
      cases e1
      exact ⟨_, e⟩
  · exact (r.apP a h).2.2
theorem Rl.fresh {m : Mem} (r : Rl K w m H) {a : Addr} (h : H a = none) : ¬ w.live a := fun z => by
  obtain ⟨o, e⟩ := r.live_some z
  rw [h] at e
  cases e
/-- a new object that nobody writes to -/
theorem ext_upd {m : Mem} (r : Rl K w m H) {p : Addr} {o : HO} (h : H p = none) : Ext w H w (upd H p o) :=
  ⟨⟨[], by simp⟩, Nat.le_refl _, fun _ _ => .inl rfl, rfl, fun a u e n => ⟨by rw [upd_ne (ne_of_none e h)]; exact e, n⟩, fun a u _ e => by rw [upd_ne (ne_of_none e h)]; exact e,
    fun a u e => by rw [upd_ne (ne_of_none e h)]; exact e, fun a u z e => by rw [upd_ne (ne_of_none e h)]; exact e⟩
theorem RS.ext {a : Addr} {o : OS} (e : Ext w H w' H') (h : RS K w H a o) (k : H' a = H a) : RS K w' H' a o := by
  cases o with
  | lst ds => obtain ⟨xs, e1, q⟩ := h; exact ⟨xs, k.trans e1, q.ext e⟩
  | ro ds => obtain ⟨o, xs, e1, q⟩ := h; exact ⟨o, xs, k.trans e1, q.ext e⟩
  | ins c fs => obtain ⟨C, dx, gs, e0, e1, q, l⟩ := h; exact ⟨C, dx, gs, e0, k.trans e1, paired_imp (fun _ _ r => ⟨r.1, r.2.ext e⟩) q, l⟩
theorem RL.ext {x : Option Addr} {o : OL} (e : Ext w H w' H') (h : RL K w H x o) (k : ∀ a, x = some a → H' a = H a) : RL K w' H' x o := by
  cases o with
  | dead => exact h
  | lst ds => obtain ⟨a, xs, e0, e1, q⟩ := h; exact ⟨a, xs, e0, (k a e0).trans e1, q.ext e⟩
  | dic ks ws => obtain ⟨a, vs, e0, e1, l, q⟩ := h; exact ⟨a, vs, e0, (k a e0).trans e1, l, q.ext e⟩
theorem Rl.upd_ {m : Mem} (r : Rl K w m H) {p : Addr} {o : HO} (h : H p = none) : Rl K w m (upd H p o) := by
  have e := ext_upd (o := o) r h
  have ne : ∀ a, w.live a → a ≠ p := fun a z q => by subst q; exact r.fresh h z
  refine ⟨r.lenS, r.lenL, r.ndS, r.ndL, r.ap, fun a z => ⟨(r.apP a z).1, (r.apP a z).2.1, ?_⟩, fun n u a h1 h2 => (r.s n u a h1 h2).ext e ?_, fun n u x h1 h2 => (r.l n u x h1 h2).ext e fun a q => ?_⟩
  · obtain ⟨u, q⟩ := (r.apP a z).2.2
    exact ⟨u, by rw [upd_ne (ne_of_none q h)]; exact q⟩
  · rw [upd_ne (ne a (.inl (List.mem_of_getElem? h2)))]
  · subst q
    rw [upd_ne (ne a (.inr (.inl (List.mem_of_getElem? h2))))]
end
end Z
set_option maxHeartbeats 1000000
/-! Z3: what is read; operators by values. -/
namespace Z
open PySem PySem.Spec PyProof.Rows L2
/-- data that may be read: as RD, but a list may be anybody's -/
def PD (K : PySem.W.Frag) (w : Wd) (H : Hp) (d : PyData) (v : V) : Prop := match d with
  | .list ds => ∃ a xs, v = .ref a ∧ SqL K H a xs ∧ RDs K w H ds xs
  | .dict kvs => ∃ (a : Addr) (ks : List Str) (vs : List V) (ds : List PyData), v = .ref a ∧ Rd H a (.dK ((ks.map fun k => (Sum.inr k : Key)).zip vs)) ∧ kvs = (ks.map PyData.str).zip ds ∧ ks.length = ds.length ∧ RDs K w H ds vs
  | d => RD K w H d v
/-- .. tracked -/
def PTk (K : PySem.W.Frag) (w : Wd) (H : Hp) (d : PyData) (v : V) : Prop := match d with
  | .list ds => ∃ a xs, v = .ref a ∧ H a = some (.lst xs) ∧ RDs K w H ds xs
  | .dict kvs => ∃ (a : Addr) (ks : List Str) (vs : List V) (ds : List PyData), v = .ref a ∧ Rd H a (.dK ((ks.map fun k => (Sum.inr k : Key)).zip vs)) ∧ kvs = (ks.map PyData.str).zip ds ∧ ks.length = ds.length ∧ RDs K w H ds vs
  | d => RD K w H d v
section
variable {K : PySem.W.Frag} {w w' : Wd} {H H' : Hp} {m : Mem}
theorem PTk.pd {d : PyData} {v : V} (h : PTk K w H d v) : PD K w H d v := by
  cases d with
  | list ds => obtain ⟨a, xs, e, q, r⟩ := h; exact ⟨a, xs, e, SqL.of q, r⟩
  | _ => exact h
theorem RD.pt {d : PyData} {v : V} (h : RD K w H d v) : PTk K w H d v := by
  cases h with
  | lst a b c => exact ⟨_, _, rfl, a, c⟩
  | non => exact .non
  | bl b => exact .bl b
  | int i => exact .int i
  | str x => exact .str x
  | tup a b => exact .tup a b
  | dct a b c => exact ⟨_, _, _, _, rfl, .inr ⟨_, a⟩, rfl, b, c⟩
theorem RD.pd {d : PyData} {v : V} (h : RD K w H d v) : PD K w H d v := h.pt.pd
theorem PD.dp {d : PyData} {v : V} (h : PD K w H d v) (z : nod d = true) : Dp K H v d := by
  cases d with
  | list ds => obtain ⟨a, xs, e, q, r⟩ := h; subst e; exact .lst q (r.dp z)
  | none => exact RD.dp h z
  | bool b => exact RD.dp h z
  | int i => exact RD.dp h z
  | str x => exact RD.dp h z
  | tuple ds => exact RD.dp h z
  | dict ks => cases z
theorem Rl.mu_ {n : Nat} {a : Addr} {o : OS} (r : Rl K w m H) (h : w.mu[n]? = some a) (e : m.S[n]? = some o) : RS K w H a o := r.s n o a e h
theorem Rl.l_ {n : Nat} {o : OL} {v : V} (r : Rl K w m H) (h : RW K w H (.loc n) v) (e : m.L[n]? = some (.lst o')) : ∃ a xs, v = .ref a ∧ w.l[n]? = some (some a) ∧ H a = some (.lst xs) ∧ RWs K w H o' xs := by
  cases h with
  | loc h1 h2 =>
    obtain ⟨x, hx⟩ : ∃ x, w.l[n]? = some x := ⟨_, List.getElem?_eq_getElem h1⟩
    obtain ⟨a, xs, e1, e2, e3⟩ := r.l n _ x e hx
    subst e1
    exact ⟨a, xs, h2 a hx, hx, e2, e3⟩
theorem peekT_ok {x : W} {d : PyData} {v : V} (r : Rl K w m H) (h : RW K w H x v) (e : peekT m x = some d) : PTk K w H d v := by
  cases x with
  | v d' =>
    cases e
    cases h with
    | v h => exact h.pt
  | ro ds => cases e
  | exc _ => cases e
  | tv ds =>
    cases e
    cases h with
    | tv h1 h2 => exact RD.tv_ h1 h2
  | ref n =>
    unfold peekT at e
    cases h with
    | ref h =>
      cases q : m.S[n]? with
      | none => simp only [q] at e; cases e
      | some o =>
        simp only [q] at e
        have z := r.mu_ h q
        cases o with
        | lst ds =>
          cases e
          obtain ⟨xs, e1, e2⟩ := z
          exact ⟨_, xs, rfl, e1, e2⟩
        | ro ds => cases e
        | ins c fs => cases e
  | loc n =>
    unfold peekT peek at e
    cases q : m.L[n]? with
    | none => simp only [q] at e; cases e
    | some o =>
      simp only [q] at e
      cases o with
      | lst ws =>
        obtain ⟨a, xs, rfl, h1, h2, h3⟩ := r.l_ (o := .dead) h q
        cases hq : allV ws with
        | none => simp only [hq] at e; cases e
        | some ds =>
          simp only [hq] at e
          cases e
          exact ⟨a, xs, rfl, h2, RDs.of_ws h3 hq⟩
      | dead => cases e
      | dic ks ws =>
        cases h with
        | loc g1 g2 =>
          obtain ⟨x, hx⟩ : ∃ x, w.l[n]? = some x := ⟨_, List.getElem?_eq_getElem g1⟩
          obtain ⟨a, vs, e1, e2, e3, e4⟩ := r.l n _ x q hx
          subst e1
          cases hq : allV ws with
          | none => simp only [hq] at e; cases e
          | some ds =>
            simp only [hq] at e
            cases e
            have hd := RDs.of_ws e4 hq
            exact ⟨a, ks, vs, ds, g2 a hx, .inl e2, rfl, by rw [e3, e4.length, hd.length], hd⟩
theorem peek_ok {x : W} {d : PyData} {v : V} (r : Rl K w m H) (h : RW K w H x v) (e : peek m x = some d) : PD K w H d v := by
  cases x with
  | v d' =>
    cases e
    cases h with
    | v h => exact h.pd
  | ro ds =>
    cases e
    cases h with
    | ro h1 h2 => exact ⟨_, _, rfl, h1.l, h2⟩
  | ref n =>
    unfold peek at e
    cases h with
    | ref h =>
      cases q : m.S[n]? with
      | none => simp only [q] at e; cases e
      | some o =>
        simp only [q] at e
        have z := r.mu_ h q
        cases o with
        | lst ds =>
          cases e
          obtain ⟨xs, e1, e2⟩ := z
          exact ⟨_, xs, rfl, SqL.of e1, e2⟩
        | ro ds =>
          cases e
          obtain ⟨o, xs, e1, e2⟩ := z
          exact ⟨_, xs, rfl, .inl (.inr ⟨o, e1⟩), e2⟩
        | ins c fs => cases e
  | exc _ => cases e
  | tv ds =>
    cases e
    cases h with
    | tv h1 h2 => exact RD.tv_ h1 h2
  | loc n => exact (peekT_ok (x := .loc n) r h e).pd
/-- a value comes, the memory as it was -/
abbrev Same (K : PySem.W.Frag) (w : Wd) (m : Mem) (H : Hp) (P : Wd → Hp → V → Prop) (Q : VK) : Prop := ∀ v H', Ext w H w H' → Rl K w m H' → P w H' v → Q v H'
/-- the old state with one new object -/
theorem Same.new {P : Wd → Hp → V → Prop} {Q : VK} {o : HO} (r : Rl K w m H) (q : Same K w m H P Q) (h : ∀ p, H p = none → Ext w H w (upd H p o) → ¬ w.live p → P w (upd H p o) (.ref p)) : ∀ p, H p = none → Q (.ref p) (upd H p o) := fun p hp =>
  q _ _ (ext_upd r hp) (r.upd_ hp) (h p hp (ext_upd r hp) (r.fresh hp))
theorem Same.here {P : Wd → Hp → V → Prop} {Q : VK} {v : V} (r : Rl K w m H) (q : Same K w m H P Q) (h : P w H v) : Q v H := q _ _ (Ext.refl _ _) r h
theorem Same.newT {Q : VK} {ds : List PyData} {xs : List V} (r : Rl K w m H) (q : Same K w m H (fun w' H' v => RD K w' H' (.tuple ds) v) Q) (h : RDs K w H ds xs) : ∀ p, H p = none → Q (.ref p) (upd H p (.tup xs)) :=
  q.new r fun p _ e _ => .tup (SqT.of upd_same) (h.ext e)
theorem Same.newL {Q : VK} {ds : List PyData} {xs : List V} (r : Rl K w m H) (q : Same K w m H (fun w' H' v => RD K w' H' (.list ds) v) Q) (h : RDs K w H ds xs) : ∀ p, H p = none → Q (.ref p) (upd H p (.lst xs)) :=
  q.new r fun p _ e n => .lst upd_same n (h.ext e)
end
def opB : Bop → Operator
  | .add => .Add | .sub => .Sub | .mul => .Mult | .fdiv => .FloorDiv | .mod => .Mod | .pow => .Pow
def opC : Cop → CmpOp
  | .eq => .Eq | .ne => .NotEq | .lt => .Lt | .le => .LtE | .gt => .Gt | .ge => .GtE | .isin => .In | .notin => .NotIn
def rB (K : PySem.W.Frag) (o : Bop) : R2 := fun x y H Q => ∃ (w : Wd) (m : Mem) (a b d : PyData), Rl K w m H ∧ PTk K w H a x ∧ PTk K w H b y ∧ binD o a b = some d ∧ Same K w m H (fun w H v => RD K w H d v) Q
def rC (K : PySem.W.Frag) (o : Cop) : R2 := fun x y H Q => ∃ (w : Wd) (m : Mem) (a b : PyData) (k : Bool), Rl K w m H ∧ PD K w H a x ∧ PD K w H b y ∧ cmpD o a b = some k ∧ Q (.bl k) H
section
variable {X : Cx}
theorem OpR.imp {f : Value → Value → Sem Value} {r r' : R2} (h : OpR X f r) (i : ∀ x y H Q, r' x y H Q → r x y H Q) : OpR X f r' := fun pins s σ H x y v u Q I rx ry q => h pins s σ H x y v u Q I rx ry (i _ _ _ _ q)
theorem RD.int_ {K : PySem.W.Frag} {w : Wd} {H : Hp} {i : Int} {v : V} (h : RD K w H (.int i) v) : v = .int i := by cases h; rfl
theorem RD.str_ {K : PySem.W.Frag} {w : Wd} {H : Hp} {i : Str} {v : V} (h : RD K w H (.str i) v) : v = .str i := by cases h; rfl
theorem RD.tup_ {K : PySem.W.Frag} {w : Wd} {H : Hp} {ds : List PyData} {v : V} (h : RD K w H (.tuple ds) v) : ∃ a xs, v = .ref a ∧ SqT K H a xs ∧ RDs K w H ds xs := by cases h with | tup a b => exact ⟨_, _, rfl, a, b⟩
theorem bits_log (x : Int) : Builtin.Int.intBits x ≤ x.natAbs.log2 + 1 := by
  unfold Builtin.Int.intBits
  split <;> omega
theorem mulC {i j : Int} (h : i.natAbs.log2 + j.natAbs.log2 < 100000000) : CMulX i j := by
  have h1 := bits_log i
  have h2 := bits_log j
  show (Builtin.Int.intBits i : Int) + (Builtin.Int.intBits j : Int) ≤ 134217728
  omega
theorem bin_ok (o : Bop) : OpR X (binaryOp (opB o)) (rB X.K o) := by
  intro pins s σ H x y v u Q I rx ry h
  obtain ⟨w, m, a, b, d, r, ha, hb, e, q⟩ := h
  unfold binD at e
  have hs : sizeLine = szL := sizeLine_eq
  split at e
  all_goals first
    | (cases e; cases (RD.int_ ha); cases (RD.int_ hb); exact op_add pins s σ H _ _ v u Q I rx ry ⟨_, _, rfl, rfl, q.here r (.int _)⟩)
    | (cases e; cases (RD.int_ ha); cases (RD.int_ hb); exact op_sub pins s σ H _ _ v u Q I rx ry ⟨_, _, rfl, rfl, q.here r (.int _)⟩)
    | skip
  · split at e
    · cases e
      cases (RD.str_ ha)
      cases (RD.str_ hb)
      exact op_add_str pins s σ H _ _ v u Q I rx ry ⟨_, _, rfl, rfl, by omega, q.here r (.str _)⟩
    · cases e
  · split at e
    · rename_i xs ys hl
      cases e
      obtain ⟨p1, vs1, rfl, h1, r1⟩ := RD.tup_ ha
      obtain ⟨p2, vs2, rfl, h2, r2⟩ := RD.tup_ hb
      have l1 := r1.length
      have l2 := r2.length
      refine op_catA pins s σ H _ _ v u Q I rx ry ⟨p1, p2, vs1, vs2, rfl, rfl, h1, h2, by omega, fun e => ?_, fun _ e => ?_, fun _ _ => q.newT r (r1.append r2)⟩
      · subst e
        cases r1
        exact q.here r (.tup h2 r2)
      · subst e
        cases r2
        rw [List.append_nil] at q
        exact q.here r (.tup h1 r1)
    · cases e
  · split at e
    · rename_i xs ys hl
      cases e
      obtain ⟨p1, vs1, rfl, h1, r1⟩ := ha
      obtain ⟨p2, vs2, rfl, h2, r2⟩ := hb
      have l1 := r1.length
      have l2 := r2.length
      exact op_cat pins s σ H _ _ v u Q I rx ry ⟨p1, p2, vs1, vs2, rfl, rfl, h1, h2, by omega, q.newL r (r1.append r2)⟩
    · cases e
  · split at e
    · rename_i hl
      cases e
      cases (RD.int_ ha); cases (RD.int_ hb)
      exact op_mulX pins s σ H _ _ v u Q I rx ry ⟨_, _, rfl, rfl, mulC (of_decide_eq_true hl), q.here r (.int _)⟩
    · cases e
  · split at e
    · rename_i hl
      cases e
      cases (RD.int_ ha); cases (RD.int_ hb)
      exact op_fdivW pins s σ H _ _ v u Q I rx ry ⟨_, _, rfl, rfl, (by have h9 := of_decide_eq_true hl; exact h9), q.here r (.int _)⟩
    · cases e
  · split at e
    · rename_i hl
      cases e
      cases (RD.int_ ha); cases (RD.int_ hb)
      exact op_mod pins s σ H _ _ v u Q I rx ry ⟨_, _, rfl, rfl, hl, q.here r (.int _)⟩
    · cases e
  · split at e
    · rename_i hl
      cases e
      cases (RD.int_ ha); cases (RD.int_ hb)
      exact op_pow pins s σ H _ _ v u Q I rx ry ⟨_, _, rfl, rfl, (by have h9 := of_decide_eq_true hl; exact h9), q.here r (.int _)⟩
    · cases e
  · cases e
theorem shp_1 {a : PyData} (h : shp a = true) : nod a = true ∧ SeqAt.shaped a = true := Bool.and_eq_true_iff.mp h
theorem shp_2 {a b : PyData} (h : (shp a && shp b) = true) : (nod a = true ∧ SeqAt.shaped a = true) ∧ nod b = true ∧ SeqAt.shaped b = true := by
  rw [Bool.and_eq_true] at h
  exact ⟨shp_1 h.1, shp_1 h.2⟩
theorem eq_ok (hu : X.A.units + 64 < cLine) : OpR X (compareOp .Eq) (rC X.K .eq) := by
  intro pins s σ H x y v u Q I rx ry h
  obtain ⟨w, m, a, b, k, r, ha, hb, e, q⟩ := h
  have e : eqD a b = some k := e
  have g : ∀ z, eqD a b = z → (if shp a && shp b then some (PyData.eqv a b) else none) = some k → wpAny (model X.prog X.w) X.A (compareOp .Eq v u) (EP X pins σ Q) X.xe s := fun _ _ e => by
    split at e
    · rename_i hsh
      cases e
      obtain ⟨⟨n1, s1⟩, n2, s2⟩ := shp_2 hsh
      exact op_eqD hu pins s σ H x y v u Q I rx ry ⟨a, b, ha.dp n1, hb.dp n2, s1, s2, q⟩
    · cases e
  unfold eqD at e
  split at e
  · cases e; cases (RD.str_ ha); cases (RD.str_ hb)
    refine op_eq pins s σ H _ _ v u Q I rx ry ⟨rfl, ?_⟩
    simpa using q
  · cases e; cases (RD.int_ ha); cases (RD.int_ hb)
    refine op_eq pins s σ H _ _ v u Q I rx ry ⟨rfl, ?_⟩
    simpa using q
  · cases e; cases ha; cases hb
    refine op_eq pins s σ H _ _ v u Q I rx ry ⟨rfl, ?_⟩
    simpa using q
  · cases e; cases ha; cases hb
    refine op_eq pins s σ H _ _ v u Q I rx ry ⟨rfl, ?_⟩
    simpa using q
  · exact g _ rfl e
theorem ne_ok (hu : X.A.units + 64 < cLine) : OpR X (compareOp .NotEq) (rC X.K .ne) := by
  intro pins s σ H x y v u Q I rx ry h
  obtain ⟨w, m, a, b, k, r, ha, hb, e, q⟩ := h
  have e : (eqD a b).map (!·) = some k := e
  have g : ∀ z, eqD a b = z → (if shp a && shp b then some (PyData.eqv a b) else none).map (!·) = some k → wpAny (model X.prog X.w) X.A (compareOp .NotEq v u) (EP X pins σ Q) X.xe s := fun _ _ e => by
    split at e
    · rename_i hsh
      cases e
      obtain ⟨⟨n1, s1⟩, n2, s2⟩ := shp_2 hsh
      exact op_neD hu pins s σ H x y v u Q I rx ry ⟨a, b, ha.dp n1, hb.dp n2, s1, s2, q⟩
    · cases e
  unfold eqD at e
  split at e
  · cases e; cases (RD.str_ ha); cases (RD.str_ hb)
    refine op_ne pins s σ H _ _ v u Q I rx ry ⟨rfl, ?_⟩
    simpa using q
  · cases e; cases (RD.int_ ha); cases (RD.int_ hb)
    refine op_ne pins s σ H _ _ v u Q I rx ry ⟨rfl, ?_⟩
    simpa using q
  · cases e; cases ha; cases hb
    refine op_ne pins s σ H _ _ v u Q I rx ry ⟨rfl, ?_⟩
    simpa using q
  · cases e; cases ha; cases hb
    refine op_ne pins s σ H _ _ v u Q I rx ry ⟨rfl, ?_⟩
    simpa using q
  · exact g _ rfl e
theorem strsOf_rd {K : PySem.W.Frag} {w : Wd} {H : Hp} : ∀ {ds : List PyData} {vs : List V} {ss : List Str}, RDs K w H ds vs → strsOf ds = some ss → vs = ss.map V.str ∧ ds = ss.map PyData.str
  | _, _, _, .nil, e => by cases e; exact ⟨rfl, rfl⟩
  | _, _, _, .cons (d := d) (ds := ds) a b, e => by
    unfold strsOf at e
    cases d with
    | str i =>
      cases a
      simp only [asStr, Option.bind_some] at e
      cases q : strsOf ds with
      | none => rw [q] at e; cases e
      | some ms =>
        rw [q] at e
        cases e
        obtain ⟨e1, e2⟩ := strsOf_rd b q
        exact ⟨by rw [e1]; rfl, by rw [e2]; rfl⟩
    | _ => cases e
theorem inV_strs (x : Str) : ∀ ss : List Str, inV (V.str x) (ss.map V.str) = ss.contains x
  | [] => rfl
  | y :: r => by
    have ih := inV_strs x r
    unfold inV at ih ⊢
    rw [List.map_cons, List.any_cons, ih, List.contains_cons]
    congr 1
    have : eqV (V.str y) (V.str x) = decide (y = x) := by first | rfl | simp [eqV]
    rw [this]
    by_cases h : y = x
    · subst h; simp
    · rw [decide_eq_false h]
      exact (beq_eq_false_iff_ne.mpr (Ne.symm h)).symm
theorem flat_strs (ss : List Str) : (ss.map V.str).all flatV = true := by
  rw [List.all_eq_true]
  intro v hv
  obtain ⟨y, _, rfl⟩ := List.mem_map.mp hv
  rfl
theorem valV_zip (x : Str) : ∀ (ks : List Str) (vs : List V) (ds : List PyData), ks.length = ds.length → ks.length = vs.length →
    (valV ((ks.map fun k => (Sum.inr k : Key)).zip vs) (Sum.inr x)).isSome = (dgetD x ((ks.map PyData.str).zip ds)).isSome ∧ ∀ v, valV ((ks.map fun k => (Sum.inr k : Key)).zip vs) (Sum.inr x) = some v → ∃ (i : Nat) (d : PyData), vs[i]? = some v ∧ ds[i]? = some d ∧ dgetD x ((ks.map PyData.str).zip ds) = some d
  | [], _, _, _, _ => ⟨by simp [valV, dgetD], fun v h => by simp [valV] at h⟩
  | k :: ks, [], ds, _, h => by simp at h
  | k :: ks, v0 :: vs, [], h, _ => by simp at h
  | k :: ks, v0 :: vs, d :: ds, h1, h2 => by
    obtain ⟨i1, i2⟩ := valV_zip x ks vs ds (by simpa using h1) (by simpa using h2)
    by_cases e : k = x
    · subst e
      refine ⟨by simp [valV, dgetD, dkey], fun v h => ⟨0, d, ?_⟩⟩
      simp [valV] at h
      subst h
      simp [dgetD, dkey]
    · have e1 : decide ((Sum.inr k : Key) = Sum.inr x) = false := decide_eq_false fun z => e (Sum.inr.inj z)
      have e2 : valV (((k :: ks).map fun k => (Sum.inr k : Key)).zip (v0 :: vs)) (Sum.inr x) = valV ((ks.map fun k => (Sum.inr k : Key)).zip vs) (Sum.inr x) := by
        unfold valV
        rw [List.map_cons, List.zip_cons_cons, List.find?_cons_of_neg (by simp [e])]
      have e3 : dgetD x (((k :: ks).map PyData.str).zip (d :: ds)) = dgetD x ((ks.map PyData.str).zip ds) := by
        unfold dgetD
        rw [List.map_cons, List.zip_cons_cons, List.find?_cons_of_neg (by simp [dkey, e])]
      rw [e2, e3]
      refine ⟨i1, fun v h => ?_⟩
      obtain ⟨i, d', g1, g2, g3⟩ := i2 v h
      exact ⟨i + 1, d', by simpa using g1, by simpa using g2, g3⟩
theorem valV_none {x : Str} {ks : List Str} {vs : List V} {ds : List PyData} (h1 : ks.length = ds.length) (h2 : ks.length = vs.length) : (∃ (v : V) (d : PyData) (i : Nat), valV ((ks.map fun k => (Sum.inr k : Key)).zip vs) (Sum.inr x) = some v ∧ dgetD x ((ks.map PyData.str).zip ds) = some d ∧ vs[i]? = some v ∧ ds[i]? = some d) ∨ (valV ((ks.map fun k => (Sum.inr k : Key)).zip vs) (Sum.inr x) = none ∧ dgetD x ((ks.map PyData.str).zip ds) = none) := by
  obtain ⟨i1, i2⟩ := valV_zip x ks vs ds h1 h2
  cases q : valV ((ks.map fun k => (Sum.inr k : Key)).zip vs) (Sum.inr x) with
  | some v =>
    obtain ⟨i, d, g1, g2, g3⟩ := i2 v q
    exact .inl ⟨v, d, i, rfl, g3, g1, g2⟩
  | none =>
    rw [q] at i1
    refine .inr ⟨rfl, ?_⟩
    cases q2 : dgetD x ((ks.map PyData.str).zip ds) with
    | none => rfl
    | some d => rw [q2] at i1; cases i1
/-- what is looked up in a dict -/
theorem PD.dget {K : PySem.W.Frag} {w : Wd} {H : Hp} {kvs : List (PyData × PyData)} {v : V} (x : Str) (h : PD K w H (.dict kvs) v) : ∃ a o, v = .ref a ∧ DGet H a (.str x) o ∧ o.isSome = (dgetD x kvs).isSome ∧ ∀ d, dgetD x kvs = some d → ∃ y, o = some y ∧ RD K w H d y := by
  obtain ⟨a, ks, vs, ds, rfl, hr, rfl, hl, hd⟩ := h
  refine ⟨a, _, rfl, .inl ⟨_, Sum.inr x, hr, rfl, rfl⟩, ?_⟩
  rcases valV_none (x := x) hl (hl.trans hd.length) with ⟨v, d, i, e1, e2, e3, e4⟩ | ⟨e1, e2⟩
  · rw [e1, e2]
    refine ⟨rfl, fun d' hd' => ?_⟩
    cases hd'
    obtain ⟨v', g1, g2⟩ := hd.get e4
    rw [e3] at g1
    cases g1
    exact ⟨v, rfl, g2⟩
  · rw [e1, e2]
    exact ⟨rfl, fun d' hd' => nomatch hd'⟩
/-- x in d, of a dict -/
theorem or_din (neg : Bool) (hu : X.A.units + 1 < cLine) : OpR X (compareOp (if neg = true then .NotIn else .In)) (fun x y H Q => ∃ a o, y = .ref a ∧ DGet H a x o ∧ Q (.bl (if neg = true then !o.isSome else o.isSome)) H) := by
  rintro pins s σ H x y v u Q I rx ry ⟨a, o, rfl, g, q⟩
  obtain rfl : u = Value.ref a := ry
  cases neg with
  | false => exact d_in hu I g rx fun s' I' => ⟨.bl _, H, I', rfl, q⟩
  | true => exact d_notIn hu I g rx fun s' I' => ⟨.bl _, H, I', rfl, q⟩
theorem in_ok (hu : X.A.units + 65 < cLine) (neg : Bool) {w : Wd} {m : Mem} {a b : PyData} {k : Bool} {pins : List (Addr × Obj)} {s : Shared} {σ : L2.St} {H : Hp} {x y : V} {v u : Value} {Q : VK} (I : Inv X pins σ H s) (rx : RelV x v) (ry : RelV y u) (r : Rl X.K w m H) (ha : PD X.K w H a x) (hb : PD X.K w H b y) (e : inD a b = some k) (q : Q (.bl (if neg = true then !k else k)) H) : wpAny (model X.prog X.w) X.A (compareOp (if neg = true then .NotIn else .In) v u) (EP X pins σ Q) X.xe s := by
  unfold inD at e
  split at e
  · rename_i x' ys
    cases (RD.str_ ha)
    obtain ⟨p, vs, rfl, h1, h2⟩ := RD.tup_ hb
    cases qs : strsOf ys with
    | none => rw [qs] at e; cases e
    | some ss =>
      rw [qs] at e
      cases e
      obtain ⟨e1, e2⟩ := strsOf_rd h2 qs
      subst e1
      cases neg with
      | false => exact op_in_seq pins s σ H _ _ v u Q I rx ry ⟨p, _, rfl, .inr h1, rfl, flat_strs ss, by rw [inV_strs]; exact q⟩
      | true => exact op_notIn_seq pins s σ H _ _ v u Q I rx ry ⟨p, _, rfl, .inr h1, rfl, flat_strs ss, by rw [inV_strs]; exact q⟩
  · rename_i x' ys
    cases (RD.str_ ha)
    obtain ⟨p, vs, rfl, h1, h2⟩ := hb
    cases qs : strsOf ys with
    | none => rw [qs] at e; cases e
    | some ss =>
      rw [qs] at e
      cases e
      obtain ⟨e1, e2⟩ := strsOf_rd h2 qs
      subst e1
      cases neg with
      | false => exact op_in_seq pins s σ H _ _ v u Q I rx ry ⟨p, _, rfl, .inl h1, rfl, flat_strs ss, by rw [inV_strs]; exact q⟩
      | true => exact op_notIn_seq pins s σ H _ _ v u Q I rx ry ⟨p, _, rfl, .inl h1, rfl, flat_strs ss, by rw [inV_strs]; exact q⟩
  · rename_i x' kvs
    cases (RD.str_ ha)
    cases e
    obtain ⟨p, o, rfl, g1, g2, _⟩ := PD.dget x' hb
    exact or_din neg (by omega) pins s σ H _ _ v u Q I rx ry ⟨p, o, rfl, g1, by rw [g2]; exact q⟩
  · rename_i x' y'
    cases (RD.str_ ha)
    cases (RD.str_ hb)
    split at e
    · rename_i c hc
      cases e
      have ex : x' = ⟨#[c]⟩ := by
        obtain ⟨⟨l⟩⟩ := x'
        simp only at hc
        subst hc
        rfl
      subst ex
      cases neg with
      | false => exact op_in_sign pins s σ H _ _ v u Q I rx ry ⟨c, y', rfl, rfl, q⟩
      | true => exact op_notIn_sign pins s σ H _ _ v u Q I rx ry ⟨c, y', rfl, rfl, q⟩
    · cases e
  · rename_i d ys _ _
    split at e
    · rename_i hsh
      cases e
      obtain ⟨⟨n1, s1⟩, n2, s2⟩ := shp_2 hsh
      cases neg with
      | false => exact op_inD hu pins s σ H _ _ v u Q I rx ry ⟨_, _, ha.dp n1, hb.dp n2, s1, s2, q⟩
      | true => exact op_notInD hu pins s σ H _ _ v u Q I rx ry ⟨_, _, ha.dp n1, hb.dp n2, s1, s2, q⟩
    · cases e
  · cases e
theorem cmp_ok (hu : X.A.units + 65 < cLine) (o : Cop) : OpR X (compareOp (opC o)) (rC X.K o) := by
  cases o with
  | eq => exact eq_ok (by omega)
  | ne => exact ne_ok (by omega)
  | lt =>
    intro pins s σ H x y v u Q I rx ry h
    obtain ⟨w, m, a, b, k, r, ha, hb, e, q⟩ := h
    unfold cmpD at e
    simp only at e
    split at e
    · cases e; cases (RD.int_ ha); cases (RD.int_ hb)
      exact op_lt pins s σ H _ _ v u Q I rx ry ⟨_, _, rfl, rfl, q⟩
    · cases e; cases (RD.str_ ha); cases (RD.str_ hb)
      exact op_lt_str pins s σ H _ _ v u Q I rx ry ⟨_, _, rfl, rfl, q⟩
    · cases e
  | le =>
    intro pins s σ H x y v u Q I rx ry h
    obtain ⟨w, m, a, b, k, r, ha, hb, e, q⟩ := h
    unfold cmpD at e
    simp only at e
    split at e
    · cases e; cases (RD.int_ ha); cases (RD.int_ hb)
      exact op_le pins s σ H _ _ v u Q I rx ry ⟨_, _, rfl, rfl, q⟩
    · cases e
  | gt =>
    intro pins s σ H x y v u Q I rx ry h
    obtain ⟨w, m, a, b, k, r, ha, hb, e, q⟩ := h
    unfold cmpD at e
    simp only at e
    split at e
    · cases e; cases (RD.int_ ha); cases (RD.int_ hb)
      exact op_gt pins s σ H _ _ v u Q I rx ry ⟨_, _, rfl, rfl, q⟩
    · cases e
  | ge =>
    intro pins s σ H x y v u Q I rx ry h
    obtain ⟨w, m, a, b, k, r, ha, hb, e, q⟩ := h
    unfold cmpD at e
    simp only at e
    split at e
    · cases e; cases (RD.int_ ha); cases (RD.int_ hb)
      exact op_ge pins s σ H _ _ v u Q I rx ry ⟨_, _, rfl, rfl, q⟩
    · cases e
  | isin =>
    intro pins s σ H x y v u Q I rx ry h
    obtain ⟨w, m, a, b, k, r, ha, hb, e, q⟩ := h
    exact in_ok hu false I rx ry r ha hb e q
  | notin =>
    intro pins s σ H x y v u Q I rx ry h
    obtain ⟨w, m, a, b, k, r, ha, hb, e, q⟩ := h
    have e : (inD a b).map (!·) = some k := e
    cases qq : inD a b with
    | none => rw [qq] at e; cases e
    | some k' =>
      rw [qq] at e
      cases e
      exact in_ok hu true I rx ry r ha hb qq q
end
end Z
set_option maxHeartbeats 2000000
/-! Y4a: texts sorted: of a tuple; the one ascending list. -/
namespace Z
open PySem PySem.Spec PyProof.Rows L2
/-! ### the order of texts -/
def LeS (x y : Str) : Prop := x.cps.toList ≤ y.cps.toList
theorem cps_inj {x y : Str} (h : x.cps.toList = y.cps.toList) : x = y := by
  obtain ⟨⟨l⟩⟩ := x
  obtain ⟨⟨m⟩⟩ := y
  simp only at h
  rw [h]
theorem LeS.anti {x y : Str} (h : LeS x y) (k : LeS y x) : x = y := cps_inj (List.le_antisymm h k)
theorem LeS.trans {x y z : Str} (h : LeS x y) (k : LeS y z) : LeS x z := List.le_trans h k
theorem LeS.total (x y : Str) : LeS x y ∨ LeS y x := List.le_total _ _
theorem ltS_true {x y : Str} : ltS x y = true ↔ x.cps.toList < y.cps.toList := decide_eq_true_iff
theorem ltS_false {x y : Str} (h : ltS x y = false) : LeS y x := List.not_lt.mp (of_decide_eq_false h)
theorem ltS_le {x y : Str} (h : ltS x y = true) : LeS x y := by
  rcases LeS.total x y with k | k
  · exact k
  · exact absurd (ltS_true.mp h) (List.not_lt.mpr k)
theorem ltS_self (x : Str) : ltS x x = false := decide_eq_false (List.lt_irrefl _)
theorem insS_perm (x : Str) : ∀ l : List Str, (insS x l).Perm (x :: l)
  | [] => List.Perm.refl _
  | y :: r => by
    unfold insS
    split
    · exact ((insS_perm x r).cons y).trans (List.Perm.swap x y r)
    · exact List.Perm.refl _
theorem sortS_perm : ∀ l : List Str, (sortS l).Perm l
  | [] => List.Perm.refl _
  | x :: r => (insS_perm x (sortS r)).trans ((sortS_perm r).cons x)
theorem insS_up (x : Str) : ∀ l : List Str, l.Pairwise LeS → (insS x l).Pairwise LeS
  | [], _ => by simp [insS]
  | y :: r, h => by
    rw [List.pairwise_cons] at h
    unfold insS
    split
    · rename_i c
      rw [List.pairwise_cons]
      refine ⟨fun z hz => ?_, insS_up x r h.2⟩
      rcases List.mem_cons.mp ((insS_perm x r).mem_iff.mp hz) with e | e
      · subst e
        exact ltS_le c
      · exact h.1 z e
    · rename_i c
      have c' : LeS x y := ltS_false (by simpa using c)
      rw [List.pairwise_cons]
      refine ⟨fun z hz => ?_, List.pairwise_cons.mpr h⟩
      rcases List.mem_cons.mp hz with e | e
      · subst e
        exact c'
      · exact c'.trans (h.1 z e)
theorem sortS_up : ∀ l : List Str, (sortS l).Pairwise LeS
  | [] => List.Pairwise.nil
  | x :: r => insS_up x _ (sortS_up r)
theorem risingS_le : ∀ (p : Str) (l : List Str), risingS p l = true → (p :: l).Pairwise LeS
  | p, [], _ => by simp
  | p, x :: r, h => by
    unfold risingS at h
    rw [Bool.and_eq_true, Bool.not_eq_true', ltCps_eq] at h
    have ih := risingS_le x r h.2
    have px : LeS p x := List.not_lt.mp (of_decide_eq_false h.1)
    rw [List.pairwise_cons]
    refine ⟨fun z hz => ?_, ih⟩
    rcases List.mem_cons.mp hz with e | e
    · rw [e]
      exact px
    · exact px.trans ((List.pairwise_cons.mp ih).1 z e)
theorem sortedS_le {l : List Str} (h : sortedS l = true) : l.Pairwise LeS := by
  cases l with
  | nil => exact List.Pairwise.nil
  | cons x r => exact risingS_le x r h
/-- there is one ascending list -/
theorem sorted_one {ys ss : List Str} (h : ys.Perm ss) (k : ys.Pairwise LeS) : ys = sortS ss :=
  List.Perm.eq_of_pairwise (le := LeS) (fun a b _ _ h1 h2 => h1.anti h2) k (sortS_up ss) (h.trans (sortS_perm ss).symm)
section
variable {prog : Program} {w : World} {A : Around} {E : Value → Shared → Prop} {s : Shared}
/-- a heap that only grew -/
def Grew (h h' : Heap) : Prop := ∀ b o, h.get? b = some o → h'.get? b = some o
/-- the values are put into a list, which is sorted -/
theorem strs_sorted {us : List Value} {ss : List Str} {Q : Value → Shared → Prop} (hS : StrsAre us ss) (few : us.length < 64)
    (fin : ∀ (h' : Heap) (p : Addr) (out : List Value) (ys : List Str) (c : Nat), Grew s.heap h' → s.heap.objs.size ≤ p → h'.get? p = some (seqObj "list" out.toArray c) → StrsAre out ys → ys.Perm ss → sortedS ys = true → Q (.ref p) { s with heap := h' }) :
    wpAny (model prog w) A (do
      let l ← newList us
      let _ ← holding [l] (call (.builtin "list.sort") [l] [])
      ret l) (fun f s' => ∃ v, f = .done (.ret v) ∧ Q v s') E s := by
  have lay : (s.heap.push (seqObj "list" us.toArray 0)).get? s.heap.objs.size = some (seqObj "list" us.toArray 0) := Heap.get?_push_size _ rfl
  refine wpAny_bind (wpAny_newList ?_ (by rw [sizeLine_eq]; omega))
  refine wpAny_bind (wpAny_holding (wpAny_call_entry slot_list_sort ⟨_, lay, rfl⟩ entry_list_sort (list_sort_treeK strKind_oneLt (s := { s with heap := s.heap.push (seqObj "list" us.toArray 0) }) lay hS.keysOf
    (fun v₁ v₂ rest e => keyKind_strs (by rw [← e]; exact hS)) few fun st hp hs => ⟨Value.none, rfl, ?_⟩) (args_list_sort _)))
  obtain ⟨ys, g1, g2, g3⟩ := sorted_out_str hS hp hs
  obtain ⟨c, hc⟩ := sortedHeap_at (vs := us) (out := (arrOf st).map (·.2)) lay
  refine wpAny_pure ⟨_, rfl, fin _ s.heap.objs.size ((arrOf st).map (·.2)).toList ys c (fun b u e => ?_) (Nat.le_refl _) (by rw [Array.toArray_toList]; exact hc) g1 g2 g3⟩
  have lt := Heap.lt_size e
  rw [sortedHeap_old (Nat.ne_of_lt lt) (by rw [size_push']; exact Nat.lt_succ_of_lt lt)]
  exact Heap.get?_push_of_some _ e
/-- what a tuple holds, collected -/
theorem collect_tup {l : Addr} {us : List Value} {Q : List Value → Shared → Prop} (hl : s.heap.IsTuple l us.toArray) (fits : us.length ≤ sizeLine)
    (fin : ∀ h', Grew s.heap h' → s.heap.objs.size ≤ h'.objs.size → Q us { s with heap := h' }) : wpAny (model prog w) A (collect (.ref l)) Q E s := by
  obtain ⟨ob, at_, cls, ep, dat⟩ := id hl
  have new0 : (s.heap.push (seqObj "list" #[] 0)).get? s.heap.objs.size = some (seqObj "list" #[] 0) := Heap.get?_push_size _ rfl
  unfold collect
  refine wpAny_bind (wpAny_runValue (codeAny_builtin entry_proto_collect' ?_))
  show wpAny _ _ (newList [] >>= fun r => again (.builtin "list.__iadd__" ⟨[r, .ref l], []⟩)) _ _ s
  refine wpAny_bind (wpAny_newList (wpAny_pure ⟨Code.quiet_builtin _ (by decide +kernel), codeAny_builtin entry_list_iadd' ?_⟩))
  show wpAny _ _ (Builtin.List.listExtendWith (.ref s.heap.objs.size) (.ref l) (.ref s.heap.objs.size)) _ _ { s with heap := s.heap.push (seqObj "list" #[] 0) }
  unfold Builtin.List.listExtendWith
  refine wpAny_bind (wpAny_typeOf (T := "tuple") ⟨ob, Heap.get?_push_of_some _ at_, cls⟩ ?_)
  rw [if_pos (by rw [show (Value.type "tuple" == Value.type "tuple") = true from rfl, Bool.or_true])]
  refine wpAny_bind (listItems_at (Heap.get?_push_of_some _ at_) dat ?_)
  refine wpAny_bind (listItems_at (xs := #[]) (n := 0) new0 rfl ?_)
  rw [if_neg (by simp)]
  refine wpAny_bind (listUpdate_at (xs := #[]) (n := 0) new0 rfl ?_ (Nat.zero_le _) (by show (#[] ++ us.toArray).size ≤ _; rw [Array.size_append, List.size_toArray]; simp only [List.size_toArray, List.length_nil]; omega))
  refine wpAny_pure ?_
  have at2 := get?_update_seq new0 (fun xs => xs ++ us.toArray)
  refine wpAny_bind (wpAny_load at2 ?_)
  show wpAny _ _ (pure ((#[] : Array Value) ++ us.toArray).toList) _ _ _
  have e0 : ((#[] : Array Value) ++ us.toArray).toList = us := by simp
  rw [e0]
  refine wpAny_pure (fin _ (fun b u e => ?_) (by rw [Heap.size_update, size_push']; exact Nat.le_succ _))
  rw [Heap.get?_update_ne _ _ _ _ (Nat.ne_of_lt (Heap.lt_size e))]
  exact Heap.get?_push_of_some _ e
end
section
variable {X : Cx}
def rSortT (K : PySem.W.Frag) : List V → Hp → VK → Prop := fun vs H Q => ∃ (a : Addr) (xs : List Str), vs = [V.ref a] ∧ SqT K H a (xs.map V.str) ∧ xs.length < 64 ∧
  ∀ (ys : List Str) (p : Addr), ys.Perm xs → sortedS ys = true → H p = none → Q (.ref p) (upd H p (.lst (ys.map V.str)))
theorem cr_sortT : CallR X (.builtin "sorted") (rSortT X.K) := by
  intro pins s σ H vs us Q I r h
  obtain ⟨a, xs, rfl, hs, few, q⟩ := h
  obtain ⟨its, rv, hl, _⟩ := I.tuple hs
  rw [Vals.ref1 r]
  have len0 := rv.length
  rw [List.length_map] at len0
  refine Calls.call_function_entry kind_sorted plain_sorted entry_sorted (args_sorted1 _) ?_
  unfold Builtin.«sorted»
  refine wpAny_bind (m := checkCount "sorted" 1 1 _) (wpAny_pure ?_)
  refine wpAny_bind (collect_tup hl (by rw [sizeLine_eq]; omega) fun h1 k1 z1 => ?_)
  refine strs_sorted (s := { s with heap := h1 }) rv.strs (by omega) fun h2 p out ys c k2 low at_ g1 g2 g3 => ?_
  have kk : Grew s.heap h2 := fun b o e => k2 b o (k1 b o e)
  have sz : s.heap.objs.size ≤ p := Nat.le_trans z1 low
  have few2 : (ys.map V.str).length ≤ sizeLine := by rw [List.length_map, g2.length_eq]; exact small64 few
  exact ⟨.ref p, upd H p (.lst (ys.map V.str)), I.laid (t' := s.toks) kk sz ⟨few2, out, c, vals_of_strs g1, at_⟩, rfl, q ys p g2 g3 (I.hok.fresh sz)⟩
end
end Z
set_option maxHeartbeats 3200000
/-! YR3: sets of texts: made of a list or a tuple, sorted. -/
namespace Z
open PySem PySem.Spec PyProof.Rows L2
def txOf (e : Int × Value) : Str := match e.2 with | .str x _ => x | _ => Str.empty
def TxE (w : World) (e : Int × Value) : Prop := ∃ x tk, e.2 = Value.str x tk ∧ e.1 = hashStr w x
/-- the set at a: texts, n of them, S which; its places rise -/
def TxSet (w : World) (h : Heap) (a : Addr) (S : Str → Bool) (n : Nat) : Prop :=
  ∃ o es ep t, h.get? a = some o ∧ o.ExactSet ∧ o.data = .set es ep t ∧ (∀ e ∈ es.toList, TxE w e) ∧ (es.toList.map txOf).Nodup ∧ (∀ x, S x = true ↔ x ∈ es.toList.map txOf) ∧
    es.size < scanBound ∧ t.fits es.size = true ∧ es.size = n ∧ Ris t.place.toList ∧ (w.params.followText "set-order" = true ∨ t.led = true)
section
variable {P : Program} {w : World} {h h' : Heap} {a : Addr} {S : Str → Bool} {n : Nat}
theorem TxSet.stay (R : TxSet w h a S n) (k : ∀ o, h.get? a = some o → h'.get? a = some o) : TxSet w h' a S n := let ⟨o, es, ep, t, e, r⟩ := R; ⟨o, es, ep, t, k o e, r⟩
theorem tx_elems {l : List (Int × Value)} (g : ∀ e ∈ l, TxE w e) : ElemsOf (strKind P w) l := fun e he => by
  obtain ⟨x, tk, h1, h2⟩ := g e he
  refine ⟨⟨x, ?_, h2⟩, by rw [h1]; rfl⟩
  rw [h1]
  exact strKind_is P w x tk
theorem tx_is {e : Int × Value} (g : TxE w e) (x : Str) : (strKind P w).is x e.2 = true ↔ txOf e = x := by
  obtain ⟨y, tk, h1, _⟩ := g
  unfold txOf
  rw [h1]
  constructor
  · intro z
    exact (strKind P w).inj _ _ _ (strKind_is P w y tk) z
  · rintro rfl
    exact strKind_is P w y tk
theorem tx_mem {l : List (Int × Value)} (g : ∀ e ∈ l, TxE w e) (x : Str) : x ∈ l.map txOf ↔ ∃ e ∈ l, (strKind P w).is x e.2 = true := by
  rw [List.mem_map]
  exact ⟨fun ⟨e, he, q⟩ => ⟨e, he, (tx_is (g e he) x).2 q⟩, fun ⟨e, he, q⟩ => ⟨e, he, (tx_is (g e he) x).1 q⟩⟩
end
section
variable {P : Program} {w : World} {A : Around} {E : Value → Shared → Prop} {s : Shared} {a : Addr} {S : Str → Bool} {n : Nat}
/-- the new table is stored, and laid anew where it is full -/
theorem tx_tail {g : Bool → Sem Unit} (hg : ∀ (b : Bool) (s₁ : Shared) (Q' : Unit → Shared → Prop), Q' () s₁ → wpAny (model P w) A (g b) Q' E s₁)
    {o : Obj} {es : Array (Int × Value)} {ep : Nat} {t : SetTable} (ho : s.heap.get? a = some o) (hx : o.ExactSet) (hd : o.data = .set es ep t)
    {fs : Array (Int × Value)} {t2 : SetTable} {S' : Str → Bool} (g1 : ∀ e ∈ fs.toList, TxE w e) (nd : (fs.toList.map txOf).Nodup) (m1 : ∀ x, S' x = true ↔ x ∈ fs.toList.map txOf)
    (hb : fs.size < scanBound) (hf : t2.fits fs.size = true) (hr : Ris t2.place.toList) (hl : w.params.followText "set-order" = true ∨ t2.led = true) {was : Bool} {R : Option Bool → Shared → Prop}
    (fin : ∀ h', Heap.SameBut a s.heap h' → TxSet w h' a S' fs.size → R (some true) { s with heap := h' }) :
    wpAny (model P w) A (do
        storeSet a fs t2
        if (!was && t2.tooFull) = true then do
            g (relayAll t2 fs (SetTable.grown fs.size)).2.2
            storeSet a (relayAll t2 fs (SetTable.grown fs.size)).1 (relayAll t2 fs (SetTable.grown fs.size)).2.1
            pure (some true)
          else pure (some true)) R E s := by
  refine wpAny_bind (wpAny_storeSet_of ho hd ?_ (fits_of_scanBound hb))
  have at1 := store_at (es' := fs) (t' := t2) ho hd
  have sb := Heap.SameBut.update s.heap a (Obj.putSet fs t2)
  split
  · have pm := relayAll_perm t2 fs (SetTable.grown fs.size)
    have f3 := relayAll_fits t2 fs (SetTable.grown fs.size)
    have r3 := relayAll_ris t2 fs (SetTable.grown fs.size)
    have l3 := relayAll_led t2 fs (SetTable.grown fs.size)
    generalize relayAll t2 fs (SetTable.grown fs.size) = Z at pm f3 r3 l3 ⊢
    obtain ⟨gs, t3, gave⟩ := Z
    dsimp only at pm f3 r3 l3 ⊢
    have sz : gs.size = fs.size := by rw [← Array.length_toList, pm.length_eq, Array.length_toList]
    have hb2 : gs.size < scanBound := by rw [sz]; exact hb
    refine wpAny_bind (hg _ _ _ ?_)
    refine wpAny_bind (wpAny_storeSet_of at1 rfl ?_ (fits_of_scanBound hb2))
    have at2 := store_at (es' := gs) (t' := t3) at1 rfl
    refine wpAny_pure (fin _ (sb.trans (Heap.SameBut.update _ a _)) ⟨_, gs, _, t3, at2, hx, rfl, fun e he => g1 e (pm.mem_iff.mp he), (pm.map txOf).nodup_iff.mpr nd, fun x => (m1 x).trans (pm.map txOf).mem_iff.symm, hb2, f3, sz, r3, ?_⟩)
    exact hl.imp id fun z => by rw [l3]; exact z
  · exact wpAny_pure (fin _ sb ⟨_, fs, _, t2, at1, hx, rfl, g1, nd, m1, hb, hf, rfl, hr, hl⟩)
theorem tx_add {x : Str} {tk : Tok} {Q : Bool → Shared → Prop} (R : TxSet w s.heap a S n) (room : n + 1 < scanBound)
    (fin : ∀ h', Heap.SameBut a s.heap h' → TxSet w h' a (fun y => S y || decide (y = x)) (if S x = true then n else n + 1) → Q (!S x) { s with heap := h' }) :
    wpAny (model P w) A (setAddHashed a (.str x tk) ((strKind P w).hash x)) Q E s := by
  obtain ⟨o, es, ep, t, ho, hx, hd, g, nd, hm, hb, hf, hn, hr, hl⟩ := R
  have key : (strKind P w).is x (.str x tk) = true := strKind_is P w x tk
  have sc : (Value.str x tk).scannable = true := rfl
  have el : ElemsOf (strKind P w) es.toList := tx_elems g
  unfold setAddHashed setAddHashedIn
  refine wpAny_holding (wpAny_bind (wpAny_setState_of ho hd hf ?_))
  dsimp only
  rw [byScan_of sc hb el]
  simp only [↓reduceIte]
  unfold setAddByScan
  refine wpAny_bind (wpAny_bind (wpAny_rule ?_))
  refine wpAny_bind (wpAny_setScan_of key ho hd hf el ?_)
  cases hfi : List.findIdx? (fun e => (strKind P w).is x e.2) es.toList with
  | some j =>
    dsimp only
    obtain ⟨hj, pj, _⟩ := List.findIdx?_eq_some_iff_getElem.mp hfi
    have has : S x = true := (hm x).2 ((tx_mem (P := P) g x).2 ⟨es.toList[j], List.getElem_mem hj, pj⟩)
    refine wpAny_pure (wpAny_pure ?_)
    have q := fin s.heap (Heap.SameBut.refl a s.heap) ⟨o, es, ep, t, ho, hx, hd, g, nd, fun y => by
      rw [Bool.or_eq_true, decide_eq_true_eq, ← hm y]
      exact ⟨fun z => z.elim id (fun e => e ▸ has), .inl⟩, hb, hf, by rw [if_pos has]; exact hn, hr, hl⟩
    rw [has] at q
    exact q
  | none =>
    dsimp only
    have hno : x ∉ es.toList.map txOf := fun z => by
      obtain ⟨e, he, q⟩ := (tx_mem (P := P) g x).1 z
      have c := List.findIdx?_eq_none_iff.mp hfi e he
      rw [q] at c
      cases c
    have has : S x = false := by
      cases q : S x with
      | false => rfl
      | true => exact absurd ((hm x).1 q) hno
    have gw : ∀ (b : Bool) {s₁ : Shared} {Q' : Unit → Shared → Prop}, Q' () s₁ → wpAny (model P w) A (match b with | true => rule "set.scan.the-table-gave-way" | false => pure ()) Q' E s₁ :=
      fun b s₁ Q' q => by cases b <;> first | exact wpAny_pure q | exact wpAny_rule q
    have pm := layNew_perm t es ((strKind P w).hash x) (.str x tk)
    have f1 := layNew_fits t es ((strKind P w).hash x) (.str x tk)
    have r1 := layNew_ris t es ((strKind P w).hash x) (.str x tk) hr
    have l1 := layNew_led t es ((strKind P w).hash x) (.str x tk)
    generalize layNew t es ((strKind P w).hash x) (.str x tk) = Z at pm f1 r1 l1 ⊢
    obtain ⟨fs, t1, was, gave⟩ := Z
    dsimp only at pm f1 r1 l1 ⊢
    rw [Array.toList_push] at pm
    have pc : fs.toList.Perm (((strKind P w).hash x, Value.str x tk) :: es.toList) := pm.trans (List.perm_append_singleton _ _)
    have pk : (fs.toList.map txOf).Perm (x :: es.toList.map txOf) := pc.map txOf
    have g1 : ∀ e ∈ fs.toList, TxE w e := fun e he => by
      rcases List.mem_cons.mp (pc.mem_iff.mp he) with z | z
      · rw [z]
        exact ⟨x, tk, rfl, rfl⟩
      · exact g e z
    have nd1 : (fs.toList.map txOf).Nodup := pk.nodup_iff.mpr (List.nodup_cons.mpr ⟨hno, nd⟩)
    have m1 : ∀ y, (S y || decide (y = x)) = true ↔ y ∈ fs.toList.map txOf := fun y => by
      rw [Bool.or_eq_true, decide_eq_true_eq, hm y, pk.mem_iff, List.mem_cons]
      exact Or.comm
    have sz : fs.size = n + 1 := by rw [← Array.length_toList, pc.length_eq, List.length_cons, Array.length_toList, hn]
    have hb1 : fs.size < scanBound := by rw [sz]; exact room
    have led : w.params.followText "set-order" = true ∨ t1.led = true := hl.imp id fun z => by rw [l1]; exact z
    have done : ∀ h', Heap.SameBut a s.heap h' → TxSet w h' a (fun y => S y || decide (y = x)) fs.size → Q true { s with heap := h' } := fun h' sb r => by
      have q := fin h' sb
      rw [has] at q
      rw [sz] at r
      exact q r
    refine wpAny_bind (gw _ ?_)
    split
    · refine wpAny_bind ?_
      rw [hashByValue_scannable 8 sc]
      refine wpAny_pure ?_
      refine tx_tail ?_ ho hx hd g1 nd1 m1 hb1 ?_ ?_ ?_ ?_
      · intro b s₁ Q' q
        cases b <;> first | exact wpAny_pure q | exact wpAny_rule q
      · first | (split <;> first | exact f1 | exact SetTable.fits_plain_off f1) | exact f1
      · first | (split <;> exact r1) | exact r1
      · first | (split <;> exact led) | exact led
      · intro h' sb r
        dsimp only
        exact wpAny_pure (done h' sb r)
    · refine wpAny_bind (wpAny_pure ?_)
      simp only [↓reduceIte]
      refine tx_tail ?_ ho hx hd g1 nd1 m1 hb1 f1 r1 led ?_
      · intro b s₁ Q' q
        cases b <;> first | exact wpAny_pure q | exact wpAny_rule q
      · intro h' sb r
        dsimp only
        exact wpAny_pure (done h' sb r)
theorem tx_at {l : List Value} {xs : List Str} (h : StrsAre l xs) : ∀ (i : Nat) (v : Value), l[i]? = some v → ∃ x t, xs[i]? = some x ∧ v = .str x t := by
  induction h with
  | nil => intro i v e; simp at e
  | cons x t r ih =>
    intro i v e
    cases i with
    | zero =>
      simp at e
      exact ⟨x, t, rfl, e.symm⟩
    | succ i => exact ih i v (by simpa using e)
/-- the loop of set(..) over texts -/
theorem tx_loop {I : Addr} {fp wr : List Addr} {G : Array GenState → Array GenState → Prop} {n : Nat} {Pv : Nat → Value → Prop} {St : Nat → Shared → Prop} {R : Result → Shared → Prop}
    (W : WalksS P w A.in1 I fp wr G n Pv St) (T : Addr) (nf : T ∉ fp) (xs : List Str) (hn : n = xs.length) (hb : xs.length + 1 < scanBound) (val : ∀ i v, Pv i v → ∃ x t, xs[i]? = some x ∧ v = .str x t) :
    ∀ (k i : Nat) (s : Shared), n - i = k → i ≤ n → St i s → (∃ c, c ≤ i ∧ TxSet w s.heap T (fun y => decide (y ∈ xs.take i)) c) →
      (∀ s' c, Moved (T :: wr) G s s' → c ≤ n → TxSet w s'.heap T (fun y => decide (y ∈ xs)) c → R (.ok (.ret .none)) s') →
      codeAny (model P w) A (.builtin "set.update.loop" ⟨[.ref T, .ref I], []⟩) R s := by
  have nw : T ∉ wr := fun h => nf (W.sub _ h)
  have sub : ∀ b ∈ wr, b ∈ T :: wr := fun b hb => List.mem_cons_of_mem _ hb
  intro k
  induction k with
  | zero =>
    intro i s hk hi st ⟨c, hc, R0⟩ fin
    obtain rfl : i = n := by omega
    refine codeAny_builtin F.entry_set_update_loop ?_
    rw [Around.under_plainId F.plain_set_update_loop _]
    show wpAny _ A.in1 (pyNext (.ref I) >>= _) _ _ s
    refine wpAny_bind (W.done s _ _ st fun s' mv => ?_)
    show wpAny _ A.in1 (ret Value.none) _ _ s'
    have all : xs.take i = xs := List.take_of_length_le (by omega)
    rw [all] at R0
    exact wpAny_pure (fin s' c (mv.mono sub) hc (R0.stay fun o e => mv.heap T o nw e))
  | succ k ih =>
    intro i s hk hi st ⟨c, hc, R0⟩ fin
    have lt : i < n := by omega
    refine codeAny_builtin F.entry_set_update_loop ?_
    rw [Around.under_plainId F.plain_set_update_loop _]
    show wpAny _ A.in1 (pyNext (.ref I) >>= _) _ _ s
    refine wpAny_bind (W.item i s _ _ lt st fun v s' hP st' mv => ?_)
    obtain ⟨x, t, hz, rfl⟩ := val i v hP
    have R1 : TxSet w s'.heap T (fun y => decide (y ∈ xs.take i)) c := R0.stay fun o e => mv.heap T o nw e
    show wpAny _ A.in1 (holding [Value.str x t] (setAdd T (.str x t)) >>= _) _ _ s'
    refine wpAny_bind (wpAny_holding ?_)
    unfold setAdd
    refine wpAny_holding (wpAny_bind ((strKind P w).pyHash (k := x) (strKind_is _ _ _ _) ?_))
    refine tx_add (s := { s' with toks := s'.toks + 1 }) R1 (by omega) fun h' sb R2 => ?_
    have e1 : ∀ y, decide (y ∈ xs.take (i + 1)) = (decide (y ∈ xs.take i) || decide (y = x)) := fun y => by
      rw [List.take_add_one, hz]
      simp [List.mem_append]
    have R3 : TxSet w h' T (fun y => decide (y ∈ xs.take (i + 1))) (if decide (x ∈ xs.take i) = true then c else c + 1) := by
      rw [show (fun y => decide (y ∈ xs.take (i + 1))) = fun y => (decide (y ∈ xs.take i) || decide (y = x)) from funext e1]
      exact R2
    have c3 : (if decide (x ∈ xs.take i) = true then c else c + 1) ≤ i + 1 := by split <;> omega
    have ne : ∀ b, b ∈ fp → b ≠ T := fun b hb e => nf (by rw [← e]; exact hb)
    refine wpAny_pure ⟨plainId_quiet F.plain_set_update_loop _, ih (i + 1) _ (by omega) lt (W.frame _ s' _ _ st' (Nat.le_succ _) fun b hb o e => (sb.2 b (ne b hb)).trans e) ⟨_, c3, R3⟩ fun s2 c2 mv2 hc2 Rf => ?_⟩
    refine fin s2 c2 (Moved.trans W.gtrans ((mv.mono sub).then_heap (Nat.le_succ _) fun b o hb e => ?_) mv2) hc2 Rf
    exact (sb.2 b fun h => hb (by rw [h]; exact List.mem_cons_self)).trans e
theorem tx_new {h : Heap} {xs : List Str} (ho : h.get? a = some { cls := .type "set", dict := none, data := .set #[] 0 (.fresh 0 0 (!w.params.followText "set-order")) }) : TxSet w h a (fun y => decide (y ∈ xs.take 0)) 0 :=
  ⟨_, #[], 0, _, ho, ⟨rfl, rfl, rfl⟩, rfl, fun e he => by simp at he, by simp, fun k => by simp, by decide, rfl, rfl, List.Pairwise.nil, by
    cases q : w.params.followText "set-order"
    · exact .inr rfl
    · exact .inl rfl⟩
/-- set(t): a tuple of texts -/
theorem set_of_tup {l : Addr} {items : Array Value} (xs : List Str) {Q : Value → Shared → Prop} (hh : A.handled = none) (hl : s.heap.IsTuple l items) (hit : StrsAre items.toList xs) (hb : xs.length + 1 < scanBound)
    (fin : ∀ (h' : Heap) (tk c : Nat), TxSet w h' s.heap.objs.size (fun y => decide (y ∈ xs)) c → c ≤ xs.length → (∀ b o, s.heap.get? b = some o → h'.get? b = some o) → Q (.ref s.heap.objs.size) { s with heap := h', toks := tk }) :
    wpAny (model P w) A (call (.type "set") [.ref l]) Q E s := by
  have isz : items.size = xs.length := by
    have q := StrsAre.length hit
    rw [Array.length_toList] at q
    exact q
  obtain ⟨c, tl, hmro⟩ := F.called_set.mro
  have hmade := F.called_set.made
  have hsub := F.called_set.sub
  refine wpAny_call (codeAny_of_tree ?_)
  show wpAny _ _ (callAny (.type "set") _) _ _ _
  refine wpAny_pure ⟨Code.quiet_builtin _ (by decide +kernel), codeAny_builtin F.entry_type_call ?_⟩
  rw [Around.under_plain (weight_type_call_type "set" [.ref l] []) rfl]
  have h1 := F.called_set.notType
  have h2 := F.called_set.canCreate
  have hct := F.typeCall_set_1 (.ref l)
  repeat (any_goals (first | assumption | wp_step))
  have hS : (s.heap.push { cls := .type "set", dict := none, data := .set #[] 0 (.fresh 0 0 (!w.params.followText "set-order")) }).get? s.heap.objs.size = some { cls := .type "set", dict := none, data := .set #[] 0 (.fresh 0 0 (!w.params.followText "set-order")) } := Heap.get?_push_size _ rfl
  refine codeAny_mono (code_set_led1 (.ref l) (E := E) (Q₁ := fun obj s₁ => obj = .ref s.heap.objs.size ∧ s₁ = { s with heap := s.heap.push { cls := .type "set", dict := none, data := .set #[] 0 (.fresh 0 0 (!w.params.followText "set-order")) } }) ⟨rfl, rfl⟩) fun r s₁ hr => ?_
  cases r with
  | error e => exact hr
  | ok fl =>
    cases fl with
    | ret obj =>
      obtain ⟨rfl, rfl⟩ := hr
      have hT : Shared.TypeIs { s with heap := s.heap.push { cls := .type "set", dict := none, data := .set #[] 0 (.fresh 0 0 (!w.params.followText "set-order")) } } (.ref s.heap.objs.size) "set" := ⟨_, hS, rfl⟩
      have hli := F.called_set.init.lookup
      have hbi := F.called_set.init.bind (.ref s.heap.objs.size)
      repeat (any_goals (first | assumption | wp_step))
      refine codeAny_mono (codeAny_call_builtin (R := wants (fun r s₂ => r = .none ∧ ∃ h' tk c, s₂ = { s with heap := h', toks := tk } ∧ TxSet w h' s.heap.objs.size (fun y => decide (y ∈ xs)) c ∧ c ≤ xs.length ∧
          (∀ b o, s.heap.get? b = some o → h'.get? b = some o)) E) F.called_set.init.plain F.entry_set_init (check_set_init_1 hT ?_)) fun r₂ s₂ hr₂ => ?_
      · obtain ⟨⟨ocls, odict, odata, oslots⟩, hol, hcl, nl, hdl⟩ := id hl
        simp only at hcl hdl
        subst hcl
        subst hdl
        have hol' : (s.heap.push { cls := .type "set", dict := none, data := .set #[] 0 (.fresh 0 0 (!w.params.followText "set-order")) }).get? l = some { cls := .type "tuple", dict := odict, data := .seq items nl, slots := oslots } := Heap.get?_push_of_some _ hol
        have hsls := F.sub_tuple_set
        have hslf := F.sub_tuple_frozenset
        have hne : (Value.type "tuple" == Value.type "dict") = false := by decide
        have hl1 : (s.heap.push { cls := .type "set", dict := none, data := .set #[] 0 (.fresh 0 0 (!w.params.followText "set-order")) }).IsTuple l items := ⟨_, hol', rfl, nl, rfl⟩
        unfold Builtin.«set.__init__» noKeywords Builtin.Frozenset.updateFrom
        generalize hPI : pyIter = PI
        wp_walk
        subst hPI
        refine wpAny_pyIter_tuple hl1 (wpAny_bind (wpAny_runValue ?_))
        have lS : l < s.heap.objs.size := Heap.lt_size hol
        have hh3 : A.in1.in1.in1.handled = none := by simp [hh]
        have hneI : l ≠ (s.heap.push { cls := .type "set", dict := none, data := .set #[] 0 (.fresh 0 0 (!w.params.followText "set-order")) }).objs.size := by
          rw [Heap.size_push]
          exact Nat.ne_of_lt (Nat.lt_succ_of_lt lS)
        have hSf : s.heap.objs.size ∉ [(s.heap.push { cls := .type "set", dict := none, data := .set #[] 0 (.fresh 0 0 (!w.params.followText "set-order")) }).objs.size, l] := by
          rw [Heap.size_push]
          simp only [List.mem_cons, List.mem_singleton, List.not_mem_nil, or_false, not_or]
          exact ⟨Nat.ne_of_lt (Nat.lt_succ_self _), Nat.ne_of_gt lS⟩
        have val : ∀ (i : Nat) (v : Value), items[i]? = some v → ∃ x t, xs[i]? = some x ∧ v = .str x t := fun i v hv => tx_at hit i v (by rw [Array.getElem?_toList]; exact hv)
        refine tx_loop ((Walks.tuple hh3 _ l hneI items).toS) s.heap.objs.size hSf xs isz hb val (items.size - 0) 0 _ (by omega) (Nat.zero_le _) ⟨⟨_, Heap.get?_push_size _ rfl, rfl, rfl⟩, (hl1.push _)⟩ ?hS0 ?hR
        case hS0 => exact ⟨0, Nat.le_refl 0, tx_new (Heap.get?_push_of_some _ hS)⟩
        case hR =>
          intro s' c' hm hc' hS'
          obtain ⟨h', g2, d', tk', os'⟩ := s'
          obtain rfl : g2 = s.gens := hm.gens
          obtain rfl : d' = s.drawn := hm.drawn
          obtain rfl : os' = s.os := hm.os
          show wpAny _ _ _ _ _ _
          refine wpAny_pure ?_
          show wpAny _ _ (ret Value.none) _ _ _
          rw [isz] at hc'
          refine wpAny_pure ⟨rfl, h', tk', c', rfl, hS', hc', fun b o e => ?_⟩
          have b0 : b < s.heap.objs.size := Heap.lt_size e
          have b2 : b ≠ (s.heap.push { cls := .type "set", dict := none, data := .set #[] 0 (.fresh 0 0 (!w.params.followText "set-order")) }).objs.size := by
            rw [Heap.size_push]
            exact Nat.ne_of_lt (Nat.lt_succ_of_lt b0)
          exact hm.heap b o (by simp only [List.mem_cons, List.mem_singleton, List.not_mem_nil, or_false, not_or]; exact ⟨Nat.ne_of_lt b0, b2⟩) (Heap.get?_push_of_some _ (Heap.get?_push_of_some _ e))
      · cases r₂ with
        | error e => exact hr₂
        | ok fl₂ =>
          cases fl₂ with
          | ret r =>
            obtain ⟨rfl, h', tk, c', rfl, hS', hc', hk'⟩ := hr₂
            repeat (any_goals (first | assumption | wp_step))
            exact fin _ _ _ hS' hc' hk'
          | _ => exact hr₂.elim
    | _ => exact hr.elim
/-- set(l): a list of texts -/
theorem set_of_lst {l : Addr} {items : Array Value} (xs : List Str) {Q : Value → Shared → Prop} (hh : A.handled = none) (hl : s.heap.IsList l items) (hit : StrsAre items.toList xs) (hb : xs.length + 1 < scanBound)
    (fin : ∀ (h' : Heap) (tk c : Nat), TxSet w h' s.heap.objs.size (fun y => decide (y ∈ xs)) c → c ≤ xs.length → (∀ b o, s.heap.get? b = some o → h'.get? b = some o) → Q (.ref s.heap.objs.size) { s with heap := h', toks := tk }) :
    wpAny (model P w) A (call (.type "set") [.ref l]) Q E s := by
  have isz : items.size = xs.length := by
    have q := StrsAre.length hit
    rw [Array.length_toList] at q
    exact q
  obtain ⟨c, tl, hmro⟩ := F.called_set.mro
  have hmade := F.called_set.made
  have hsub := F.called_set.sub
  refine wpAny_call (codeAny_of_tree ?_)
  show wpAny _ _ (callAny (.type "set") _) _ _ _
  refine wpAny_pure ⟨Code.quiet_builtin _ (by decide +kernel), codeAny_builtin F.entry_type_call ?_⟩
  rw [Around.under_plain (weight_type_call_type "set" [.ref l] []) rfl]
  have h1 := F.called_set.notType
  have h2 := F.called_set.canCreate
  have hct := F.typeCall_set_1 (.ref l)
  repeat (any_goals (first | assumption | wp_step))
  have hS : (s.heap.push { cls := .type "set", dict := none, data := .set #[] 0 (.fresh 0 0 (!w.params.followText "set-order")) }).get? s.heap.objs.size = some { cls := .type "set", dict := none, data := .set #[] 0 (.fresh 0 0 (!w.params.followText "set-order")) } := Heap.get?_push_size _ rfl
  refine codeAny_mono (code_set_led1 (.ref l) (E := E) (Q₁ := fun obj s₁ => obj = .ref s.heap.objs.size ∧ s₁ = { s with heap := s.heap.push { cls := .type "set", dict := none, data := .set #[] 0 (.fresh 0 0 (!w.params.followText "set-order")) } }) ⟨rfl, rfl⟩) fun r s₁ hr => ?_
  cases r with
  | error e => exact hr
  | ok fl =>
    cases fl with
    | ret obj =>
      obtain ⟨rfl, rfl⟩ := hr
      have hT : Shared.TypeIs { s with heap := s.heap.push { cls := .type "set", dict := none, data := .set #[] 0 (.fresh 0 0 (!w.params.followText "set-order")) } } (.ref s.heap.objs.size) "set" := ⟨_, hS, rfl⟩
      have hli := F.called_set.init.lookup
      have hbi := F.called_set.init.bind (.ref s.heap.objs.size)
      repeat (any_goals (first | assumption | wp_step))
      refine codeAny_mono (codeAny_call_builtin (R := wants (fun r s₂ => r = .none ∧ ∃ h' tk c, s₂ = { s with heap := h', toks := tk } ∧ TxSet w h' s.heap.objs.size (fun y => decide (y ∈ xs)) c ∧ c ≤ xs.length ∧
          (∀ b o, s.heap.get? b = some o → h'.get? b = some o)) E) F.called_set.init.plain F.entry_set_init (check_set_init_1 hT ?_)) fun r₂ s₂ hr₂ => ?_
      · obtain ⟨⟨ocls, odict, odata, oslots⟩, hol, hcl, nl, hdl⟩ := id hl
        simp only at hcl hdl
        subst hcl
        subst hdl
        have hol' : (s.heap.push { cls := .type "set", dict := none, data := .set #[] 0 (.fresh 0 0 (!w.params.followText "set-order")) }).get? l = some { cls := .type "list", dict := odict, data := .seq items nl, slots := oslots } := Heap.get?_push_of_some _ hol
        have hsls := F.sub_list_set
        have hslf := F.sub_list_frozenset
        have hne : (Value.type "list" == Value.type "dict") = false := by decide
        have hl1 : (s.heap.push { cls := .type "set", dict := none, data := .set #[] 0 (.fresh 0 0 (!w.params.followText "set-order")) }).IsList l items := ⟨_, hol', rfl, nl, rfl⟩
        unfold Builtin.«set.__init__» noKeywords Builtin.Frozenset.updateFrom
        generalize hPI : pyIter = PI
        wp_walk
        subst hPI
        refine wpAny_pyIter_list hl1 (wpAny_bind (wpAny_runValue ?_))
        have lS : l < s.heap.objs.size := Heap.lt_size hol
        have hh3 : A.in1.in1.in1.handled = none := by simp [hh]
        have hneI : l ≠ (s.heap.push { cls := .type "set", dict := none, data := .set #[] 0 (.fresh 0 0 (!w.params.followText "set-order")) }).objs.size := by
          rw [Heap.size_push]
          exact Nat.ne_of_lt (Nat.lt_succ_of_lt lS)
        have hSf : s.heap.objs.size ∉ [(s.heap.push { cls := .type "set", dict := none, data := .set #[] 0 (.fresh 0 0 (!w.params.followText "set-order")) }).objs.size, l] := by
          rw [Heap.size_push]
          simp only [List.mem_cons, List.mem_singleton, List.not_mem_nil, or_false, not_or]
          exact ⟨Nat.ne_of_lt (Nat.lt_succ_self _), Nat.ne_of_gt lS⟩
        have val : ∀ (i : Nat) (v : Value), items[i]? = some v → ∃ x t, xs[i]? = some x ∧ v = .str x t := fun i v hv => tx_at hit i v (by rw [Array.getElem?_toList]; exact hv)
        refine tx_loop ((Walks.list hh3 _ l hneI items).toS) s.heap.objs.size hSf xs isz hb val (items.size - 0) 0 _ (by omega) (Nat.zero_le _) ⟨⟨_, Heap.get?_push_size _ rfl, rfl, rfl⟩, (hl1.push _)⟩ ?hS0 ?hR
        case hS0 => exact ⟨0, Nat.le_refl 0, tx_new (Heap.get?_push_of_some _ hS)⟩
        case hR =>
          intro s' c' hm hc' hS'
          obtain ⟨h', g2, d', tk', os'⟩ := s'
          obtain rfl : g2 = s.gens := hm.gens
          obtain rfl : d' = s.drawn := hm.drawn
          obtain rfl : os' = s.os := hm.os
          show wpAny _ _ _ _ _ _
          refine wpAny_pure ?_
          show wpAny _ _ (ret Value.none) _ _ _
          rw [isz] at hc'
          refine wpAny_pure ⟨rfl, h', tk', c', rfl, hS', hc', fun b o e => ?_⟩
          have b0 : b < s.heap.objs.size := Heap.lt_size e
          have b2 : b ≠ (s.heap.push { cls := .type "set", dict := none, data := .set #[] 0 (.fresh 0 0 (!w.params.followText "set-order")) }).objs.size := by
            rw [Heap.size_push]
            exact Nat.ne_of_lt (Nat.lt_succ_of_lt b0)
          exact hm.heap b o (by simp only [List.mem_cons, List.mem_singleton, List.not_mem_nil, or_false, not_or]; exact ⟨Nat.ne_of_lt b0, b2⟩) (Heap.get?_push_of_some _ (Heap.get?_push_of_some _ e))
      · cases r₂ with
        | error e => exact hr₂
        | ok fl₂ =>
          cases fl₂ with
          | ret r =>
            obtain ⟨rfl, h', tk, c', rfl, hS', hc', hk'⟩ := hr₂
            repeat (any_goals (first | assumption | wp_step))
            exact fin _ _ _ hS' hc' hk'
          | _ => exact hr₂.elim
    | _ => exact hr.elim
end
end Z
set_option maxHeartbeats 3200000
/-! YR4: set(..) of texts as a tracked object; sorted(set(..)), len(set(..)). -/
namespace Z
open PySem PySem.Spec PyProof.Rows L2
theorem insU_mem (x y : Str) : ∀ l : List Str, y ∈ insU x l ↔ y = x ∨ y ∈ l
  | [] => by simp [insU]
  | z :: r => by
    unfold insU
    split
    · rename_i h
      subst h
      simp
    · split
      · rw [List.mem_cons, insU_mem x y r, List.mem_cons]
        constructor
        · rintro (h | h | h)
          · exact .inr (.inl h)
          · exact .inl h
          · exact .inr (.inr h)
        · rintro (h | h | h)
          · exact .inr (.inl h)
          · exact .inl h
          · exact .inr (.inr h)
      · simp
theorem usort_mem (y : Str) : ∀ l : List Str, y ∈ usort l ↔ y ∈ l
  | [] => by simp [usort]
  | x :: r => by rw [usort, insU_mem, usort_mem y r, List.mem_cons]
def LtS (x y : Str) : Prop := x.cps.toList < y.cps.toList
theorem LtS.le {x y : Str} (h : LtS x y) : LeS x y := List.le_of_lt h
theorem LtS.ne {x y : Str} (h : LtS x y) : x ≠ y := fun e => by
  subst e
  exact List.lt_irrefl _ h
theorem insU_up (x : Str) : ∀ l : List Str, l.Pairwise LtS → (insU x l).Pairwise LtS
  | [], _ => by simp [insU]
  | z :: r, h => by
    obtain ⟨h1, h2⟩ := List.pairwise_cons.mp h
    unfold insU
    split
    · exact h
    · rename_i ne
      split
      · rename_i lt
        have lt : LtS z x := of_decide_eq_true (p := z.cps.toList < x.cps.toList) lt
        refine List.pairwise_cons.mpr ⟨fun y hy => ?_, insU_up x r h2⟩
        rcases (insU_mem x y r).mp hy with e | e
        · rw [e]; exact lt
        · exact h1 y e
      · rename_i nlt
        have le : LeS x z := List.not_lt.mp (of_decide_eq_false (by simpa [ltS] using nlt))
        have lt : LtS x z := by
          rcases List.le_iff_lt_or_eq.mp le with q | q
          · exact q
          · exfalso
            refine ne ?_
            have : z.cps = x.cps := by
              apply Array.ext'
              exact q.symm
            cases z
            cases x
            exact congrArg _ this
        refine List.pairwise_cons.mpr ⟨fun y hy => ?_, h⟩
        rcases List.mem_cons.mp hy with e | e
        · rw [e]; exact lt
        · exact List.lt_trans lt (h1 y e)
theorem usort_up : ∀ l : List Str, (usort l).Pairwise LtS
  | [] => List.Pairwise.nil
  | x :: r => insU_up x _ (usort_up r)
theorem usort_nodup (l : List Str) : (usort l).Nodup := (usort_up l).imp fun h => h.ne
/-- there is one ascending list without duplicates -/
theorem usort_one {ys xs : List Str} (h1 : ys.Pairwise LeS) (h2 : ys.Nodup) (h3 : ∀ y, y ∈ ys ↔ y ∈ xs) : ys = usort xs := by
  have p : ys.Perm (usort xs) := (List.perm_ext_iff_of_nodup h2 (usort_nodup xs)).mpr fun y => (h3 y).trans (usort_mem y xs).symm
  exact List.Perm.eq_of_pairwise (le := LeS) (fun a b _ _ q1 q2 => q1.anti q2) h1 ((usort_up xs).imp fun h => h.le) p
theorem usort_len {xs ys : List Str} (h2 : ys.Nodup) (h3 : ∀ y, y ∈ ys ↔ y ∈ xs) : ys.length = (usort xs).length :=
  ((List.perm_ext_iff_of_nodup h2 (usort_nodup xs)).mpr fun y => (h3 y).trans (usort_mem y xs).symm).length_eq
/-- the set of these texts -/
def setO (w : World) (a : Addr) (xs : List Str) : HO := .ext fun h => ∃ c, TxSet w h a (fun y => decide (y ∈ xs)) c
theorem setO_ok {P : Program} {w : World} {H : Hp} {h : Heap} {a : Addr} {xs : List Str} {c : Nat} (t : TxSet w h a (fun y => decide (y ∈ xs)) c) : ObjOk P w H h a (setO w a xs) :=
  ⟨⟨c, t⟩, let ⟨o, _, _, _, e, _⟩ := t; ⟨o, e⟩, fun _ _ ⟨c, z⟩ k => ⟨c, z.stay k⟩⟩
section
variable {X : Cx}
theorem strs_of_vals : ∀ {us : List Value} {xs : List Str}, Vals (xs.map V.str) us → StrsAre us xs := fun r => Vals.strs r
theorem cr_setS (hc : X.calm = true) : CallR X (.type "set") (fun vs H Q => ∃ a xs, vs = [V.ref a] ∧ (SqL X.K H a (xs.map V.str) ∨ SqT X.K H a (xs.map V.str)) ∧ xs.length < 64 ∧ ∀ p, H p = none → Q (.ref p) (upd H p (setO X.w p xs))) := by
  intro pins s σ H vs us Q I r h
  obtain ⟨a, xs, rfl, hs, few, q⟩ := h
  rw [Vals.ref1 r]
  have hd := I.ok.hd hc
  have bnd : xs.length + 1 < scanBound := by unfold scanBound; omega
  have fin : ∀ (h' : Heap) (tk c : Nat), TxSet X.w h' s.heap.objs.size (fun y => decide (y ∈ xs)) c → c ≤ xs.length → (∀ b o, s.heap.get? b = some o → h'.get? b = some o) → EP X pins σ Q (.ref s.heap.objs.size) { s with heap := h', toks := tk } :=
    fun h' tk c t _ k => ⟨.ref s.heap.objs.size, _, I.laid (t' := tk) k (Nat.le_refl _) (setO_ok t), rfl, q _ (I.hok.fresh (Nat.le_refl _))⟩
  rcases hs with hs | hs
  · obtain ⟨its, rv, hl, _⟩ := I.list hs
    exact set_of_lst xs hd hl.isList (by simpa using strs_of_vals rv) bnd fin
  · obtain ⟨its, rv, hl, _⟩ := I.tuple hs
    exact set_of_tup xs hd (show s.heap.IsTuple a its.toArray from hl) (by simpa using strs_of_vals rv) bnd fin
theorem cr_sortedS (hc : X.calm = true) : CallR X (.builtin "sorted") (fun vs H Q => ∃ a xs, vs = [V.ref a] ∧ H a = some (setO X.w a xs) ∧ xs.length < 64 ∧ ∀ p, H p = none → Q (.ref p) (upd H p (.lst ((usort xs).map V.str)))) := by
  intro pins s σ H vs us Q I r h
  obtain ⟨a, xs, rfl, ha, few, q⟩ := h
  rw [Vals.ref1 r]
  have hd := I.ok.hd hc
  obtain ⟨⟨c, o, es, ep, t, ho, hx, hdt, g, nd, hm, hb, hf, hn, hr, hl⟩, _⟩ := (show ObjOk X.prog X.w H s.heap a (.ext fun h => ∃ c, TxSet X.w h a (fun y => decide (y ∈ xs)) c) from I.hok a _ ha)
  have mem : ∀ y, y ∈ es.toList.map txOf ↔ y ∈ xs := fun y => by rw [← hm y, decide_eq_true_eq]
  have le : (es.toList.map txOf).length < 64 := by
    rw [usort_len nd mem]
    refine Nat.lt_of_le_of_lt ?_ few
    have : ∀ l : List Str, (usort l).length ≤ l.length := fun l => by
      induction l with
      | nil => exact Nat.le_refl _
      | cons x r ih =>
        have h : ∀ m : List Str, (insU x m).length ≤ m.length + 1 := fun m => by
          induction m with
          | nil => exact Nat.le_refl _
          | cons z m ihm =>
            unfold insU
            split
            · exact Nat.le_succ _
            · split
              · exact Nat.succ_le_succ ihm
              · exact Nat.le_refl _
        exact Nat.le_trans (h _) (Nat.succ_le_succ ih)
    exact this xs
  refine Calls.call_function_entry kind_sorted plain_sorted entry_sorted (args_sorted1 _) ?_
  unfold Builtin.«sorted»
  refine wpAny_bind (m := checkCount "sorted" 1 1 _) (wpAny_pure ?_)
  refine wpAny_bind (collect_set (A := X.A.in1) (by simpa using hd) ⟨o, ho, hx.1, hdt⟩ hf hb hr hl fun s1 vs k1 hz g1 o1 pm => ?_)
  have tx : ∀ v ∈ vs, ∃ x tk, v = Value.str x tk := fun v hv => by
    obtain ⟨e, he, qe⟩ := List.mem_map.mp (pm.mem_iff.mp hv)
    obtain ⟨x, tk, h1, _⟩ := g e he
    exact ⟨x, tk, by rw [← qe]; exact h1⟩
  let f : Value → Str := fun v => match v with | .str x _ => x | _ => Str.empty
  have SA : ∀ l : List Value, (∀ v ∈ l, ∃ x tk, v = Value.str x tk) → StrsAre l (l.map f) := fun l => by
    induction l with
    | nil => exact fun _ => .nil
    | cons v r ih =>
      intro hv
      obtain ⟨x, tk, rfl⟩ := hv v List.mem_cons_self
      exact .cons x tk (ih fun u hu => hv u (List.mem_cons_of_mem _ hu))
  have pk : (vs.map f).Perm (es.toList.map txOf) := by
    have z := pm.map f
    rw [List.map_map] at z
    refine z.trans (List.Perm.of_eq (List.map_congr_left fun e he => ?_))
    obtain ⟨x, tk, h1, _⟩ := g e he
    show f e.2 = txOf e
    unfold txOf
    rw [h1]
  have lv : vs.length < 64 := by
    have := pk.length_eq
    rw [List.length_map] at this
    omega
  obtain ⟨hp1, gg, dd, tt, oo⟩ := s1
  refine strs_sorted (SA vs tx) lv fun h2 p out ys c2 k2 low at_ q1 q2 q3 => ?_
  have e : ys = usort xs := usort_one (sortedS_le q3) ((q2.trans pk).nodup_iff.mpr nd) fun y => ((q2.trans pk).mem_iff).trans (mem y)
  have kk : ∀ b u, s.heap.get? b = some u → h2.get? b = some u := fun b u z => k2 b u (k1 b u z)
  have sz : s.heap.objs.size ≤ p := Nat.le_trans hz low
  have few2 : (ys.map V.str).length ≤ sizeLine := by
    rw [List.length_map, q2.length_eq, List.length_map, sizeLine_eq]
    omega
  obtain rfl : gg = s.gens := g1
  obtain rfl : oo = s.os := o1
  subst e
  exact ⟨.ref p, upd H p (.lst ((usort xs).map V.str)), I.call' (ch := []) (s' := ⟨h2, s.gens, dd, tt, s.os⟩) rfl (Un.laid kk sz (I.hok.fresh sz)) (I.hok.laid kk sz ⟨few2, out, c2, vals_of_strs q1, at_⟩) I.bare (fun _ z => nomatch z), rfl, q p (I.hok.fresh sz)⟩
end
end Z
set_option maxHeartbeats 1000000
/-! Z4: built-in functions by values. -/
namespace Z
open PySem PySem.Spec PyProof.Rows L2
/-! ### max, min of a tuple of ints -/
section
variable {prog : Program} {w : World} {A : Around} {E : Value → Shared → Prop} {s : Shared} {l : Addr} {its : List Value} {ns : List Int} {Q : Value → Shared → Prop}
theorem iter_intTup {xs : Array (Int × Tok)} (hl : s.heap.IsTuple l (intItems xs))
    (h : ∀ s₂ : Shared, s₂ = { s with heap := s.heap.push { cls := .type "tuple_iterator", data := .fields #[.ref l, .int 0 0] } } →
      (s₂.heap.IsTupleIter s.heap.objs.size l 0 ∧ s₂.heap.IsTuple l (intItems xs)) → (∀ b ∈ [s.heap.objs.size, l], b < s₂.heap.objs.size) → l ≠ s.heap.objs.size → Q (.ref s.heap.objs.size) s₂) :
    wpAny (model prog w) A (pyIter (.ref l)) Q E s := by
  have hlt : l < s.heap.objs.size := by obtain ⟨_, e, _⟩ := hl; exact Heap.lt_size e
  refine wpAny_pyIter_tuple hl (h _ rfl ⟨⟨_, Heap.get?_push_size _ rfl, rfl, rfl⟩, hl.push _⟩ (fun b hb => ?_) (Nat.ne_of_lt hlt))
  show b < (s.heap.push _).objs.size
  rw [Heap.size_push]
  rcases List.mem_cons.mp hb with rfl | hb
  · exact Nat.lt_succ_self _
  · rcases List.mem_cons.mp hb with rfl | hb
    · exact Nat.lt_succ_of_lt hlt
    · cases hb
theorem old_keptT {h' : Heap} (hk : ∀ b o, b ∉ [s.heap.objs.size] → (s.heap.push { cls := .type "tuple_iterator", data := .fields #[.ref l, .int 0 0] }).get? b = some o → h'.get? b = some o) :
    ∀ b o, s.heap.get? b = some o → h'.get? b = some o := fun b o e => by
  refine hk b o (fun hm => ?_) (Heap.get?_push_of_some _ e)
  rcases List.mem_cons.mp hm with e1 | hm
  · exact absurd (e1 ▸ Heap.lt_size e) (Nat.lt_irrefl _)
  · cases hm
theorem max_rawT (hh : A.handled = none) (hl : s.heap.IsTuple l its.toArray) (hi : IntsAre its ns) (hne : 0 < ns.length)
    (h : ∀ h' tk M t', (∀ b o, s.heap.get? b = some o → h'.get? b = some o) → M ∈ ns → (∀ a, a ∈ ns → a ≤ M) → Q (.int M t') { s with heap := h', toks := tk }) : wpAny (model prog w) A (call (.builtin "max") [.ref l]) Q E s := by
  obtain ⟨xs, e⟩ := hi.allInts.items
  have hn : numsOf (intItems xs).toList = ns := by rw [← e]; exact hi.numsOf
  rw [nums_intItems] at hn
  subst hn
  rw [e] at hl
  have hsz : 0 < xs.size := by simpa using hne
  refine call_max_walk (iter_intTup hl fun s₂ e st hfp hlI => ?_)
  subst e
  refine ⟨_, _, _, _, _, _, _, rfl, Walks.tuple (A := A.in1) hh _ l hlI (intItems xs), st, hfp, by simpa [intItems] using hsz, CmpOf.ints_gt (numAt xs) (fun _ _ => intItems_at), fun v h' tk hP hk => ?_⟩
  have hv : (intItems xs)[argBest (fun i j => decide (numAt xs i > numAt xs j)) (xs.size - 1)]? = some v := by simpa [intItems] using hP
  obtain ⟨t, rfl⟩ := intItems_at hv
  obtain ⟨h1, h2⟩ := argBest_gt (numAt xs) (xs.size - 1)
  refine h h' tk _ t (old_keptT hk) ?_ fun a ha => ?_
  · rw [numAt_eq]; exact PySem.getD_mem (by rw [List.length_map, Array.length_toList]; omega)
  · obtain ⟨j, hj, rfl⟩ := mem_getD ha
    rw [List.length_map, Array.length_toList] at hj
    rw [← numAt_eq]; exact h2 j (by omega)
theorem min_rawT (hh : A.handled = none) (hl : s.heap.IsTuple l its.toArray) (hi : IntsAre its ns) (hne : 0 < ns.length)
    (h : ∀ h' tk M t', (∀ b o, s.heap.get? b = some o → h'.get? b = some o) → M ∈ ns → (∀ a, a ∈ ns → M ≤ a) → Q (.int M t') { s with heap := h', toks := tk }) : wpAny (model prog w) A (call (.builtin "min") [.ref l]) Q E s := by
  obtain ⟨xs, e⟩ := hi.allInts.items
  have hn : numsOf (intItems xs).toList = ns := by rw [← e]; exact hi.numsOf
  rw [nums_intItems] at hn
  subst hn
  rw [e] at hl
  have hsz : 0 < xs.size := by simpa using hne
  refine call_min_walk (iter_intTup hl fun s₂ e st hfp hlI => ?_)
  subst e
  refine ⟨_, _, _, _, _, _, _, rfl, Walks.tuple (A := A.in1) hh _ l hlI (intItems xs), st, hfp, by simpa [intItems] using hsz, CmpOf.ints_lt (numAt xs) (fun _ _ => intItems_at), fun v h' tk hP hk => ?_⟩
  have hv : (intItems xs)[argBest (fun i j => decide (numAt xs i < numAt xs j)) (xs.size - 1)]? = some v := by simpa [intItems] using hP
  obtain ⟨t, rfl⟩ := intItems_at hv
  obtain ⟨h1, h2⟩ := argBest_lt (numAt xs) (xs.size - 1)
  refine h h' tk _ t (old_keptT hk) ?_ fun a ha => ?_
  · rw [numAt_eq]; exact PySem.getD_mem (by rw [List.length_map, Array.length_toList]; omega)
  · obtain ⟨j, hj, rfl⟩ := mem_getD ha
    rw [List.length_map, Array.length_toList] at hj
    rw [← numAt_eq]; exact h2 j (by omega)
end
section
variable {X : Cx} {K : PySem.W.Frag} {w : Wd} {m : Mem} {H : Hp}
def rMaxT (K : PySem.W.Frag) : List V → Hp → VK → Prop := fun vs H Q => ∃ (a : Addr) (ns : List Int), vs = [V.ref a] ∧ SqT K H a (ns.map V.int) ∧ 0 < ns.length ∧ ∀ m, m ∈ ns → (∀ y, y ∈ ns → y ≤ m) → Q (.int m) H
def rMinT (K : PySem.W.Frag) : List V → Hp → VK → Prop := fun vs H Q => ∃ (a : Addr) (ns : List Int), vs = [V.ref a] ∧ SqT K H a (ns.map V.int) ∧ 0 < ns.length ∧ ∀ m, m ∈ ns → (∀ y, y ∈ ns → m ≤ y) → Q (.int m) H
theorem cr_maxT (hc : X.calm = true) : CallR X (.builtin "max") (rMaxT X.K) := by
  intro pins s σ H vs us Q I r h
  obtain ⟨a, ns, rfl, hs, hne, q⟩ := h
  obtain ⟨its, rv, hl, _⟩ := I.tuple hs
  rw [Vals.ref1 r]
  exact max_rawT (I.ok.hd hc) hl rv.ints hne fun h' tk m t' hk h1 h2 => ⟨.int _, H, I.kept hk, ⟨_, rfl⟩, q m h1 h2⟩
theorem cr_minT (hc : X.calm = true) : CallR X (.builtin "min") (rMinT X.K) := by
  intro pins s σ H vs us Q I r h
  obtain ⟨a, ns, rfl, hs, hne, q⟩ := h
  obtain ⟨its, rv, hl, _⟩ := I.tuple hs
  rw [Vals.ref1 r]
  exact min_rawT (I.ok.hd hc) hl rv.ints hne fun h' tk m t' hk h1 h2 => ⟨.int _, H, I.kept hk, ⟨_, rfl⟩, q m h1 h2⟩
theorem intsOf_rd : ∀ {ds : List PyData} {vs : List V} {ns : List Int}, RDs K w H ds vs → intsOf ds = some ns → vs = ns.map V.int
  | _, _, _, .nil, e => by cases e; rfl
  | _, _, _, .cons (d := d) (ds := ds) a b, e => by
    unfold intsOf at e
    cases d with
    | int i =>
      cases a
      simp only [asInt, Option.bind_some] at e
      cases q : intsOf ds with
      | none => rw [q] at e; cases e
      | some ms =>
        rw [q] at e
        cases e
        rw [intsOf_rd b q]
        rfl
    | _ => cases e
theorem boolsOf_rd : ∀ {ds : List PyData} {vs : List V} {ns : List Bool}, RDs K w H ds vs → boolsOf ds = some ns → vs = ns.map V.bl
  | _, _, _, .nil, e => by cases e; rfl
  | _, _, _, .cons (d := d) (ds := ds) a b, e => by
    unfold boolsOf at e
    cases d with
    | bool i =>
      cases a
      simp only [asBool, Option.bind_some] at e
      cases q : boolsOf ds with
      | none => rw [q] at e; cases e
      | some ms =>
        rw [q] at e
        cases e
        rw [boolsOf_rd b q]
        rfl
    | _ => cases e
theorem foldl_max_mem : ∀ (l : List Int) (x : Int), l.foldl max x ∈ x :: l
  | [], x => by simp
  | y :: r, x => by
    have := foldl_max_mem r (max x y)
    rw [List.foldl_cons]
    rcases List.mem_cons.mp this with e | h
    · rw [e]
      by_cases h : x ≤ y
      · rw [Int.max_eq_right h]; simp
      · rw [Int.max_eq_left (by omega)]; simp
    · exact List.mem_cons_of_mem _ (List.mem_cons_of_mem _ h)
theorem foldl_max_ge : ∀ (l : List Int) (x : Int), ∀ y ∈ x :: l, y ≤ l.foldl max x
  | [], x, y, h => by simp at h; simp [h]
  | z :: r, x, y, h => by
    rw [List.foldl_cons]
    have ih := foldl_max_ge r (max x z)
    have h0 := ih (max x z) (by simp)
    rcases List.mem_cons.mp h with e | h
    · subst e; have := Int.le_max_left y z; omega
    · rcases List.mem_cons.mp h with e | h
      · subst e; have := Int.le_max_right x y; omega
      · exact ih y (List.mem_cons_of_mem _ h)
theorem foldl_min_mem : ∀ (l : List Int) (x : Int), l.foldl min x ∈ x :: l
  | [], x => by simp
  | y :: r, x => by
    have := foldl_min_mem r (min x y)
    rw [List.foldl_cons]
    rcases List.mem_cons.mp this with e | h
    · rw [e]
      by_cases h : x ≤ y
      · rw [Int.min_eq_left h]; simp
      · rw [Int.min_eq_right (by omega)]; simp
    · exact List.mem_cons_of_mem _ (List.mem_cons_of_mem _ h)
theorem foldl_min_le : ∀ (l : List Int) (x : Int), ∀ y ∈ x :: l, l.foldl min x ≤ y
  | [], x, y, h => by simp at h; simp [h]
  | z :: r, x, y, h => by
    rw [List.foldl_cons]
    have ih := foldl_min_le r (min x z)
    have h0 := ih (min x z) (by simp)
    rcases List.mem_cons.mp h with e | h
    · subst e; have := Int.min_le_left y z; omega
    · rcases List.mem_cons.mp h with e | h
      · subst e; have := Int.min_le_right x y; omega
      · exact ih y (List.mem_cons_of_mem _ h)
theorem maxI_is {ns : List Int} {k m : Int} (e : maxI ns = some k) (h : m ∈ ns) (h2 : ∀ y ∈ ns, y ≤ m) : m = k := by
  cases ns with
  | nil => cases e
  | cons x r =>
    cases e
    have h3 := foldl_max_ge r x m h
    have h4 := h2 _ (foldl_max_mem r x)
    omega
theorem minI_is {ns : List Int} {k m : Int} (e : minI ns = some k) (h : m ∈ ns) (h2 : ∀ y ∈ ns, m ≤ y) : m = k := by
  cases ns with
  | nil => cases e
  | cons x r =>
    cases e
    have h3 := foldl_min_le r x m h
    have h4 := h2 _ (foldl_min_mem r x)
    omega
theorem maxI_pos {ns : List Int} {k : Int} (e : maxI ns = some k) : 0 < ns.length := by cases ns with | nil => cases e | cons x r => simp
theorem minI_pos {ns : List Int} {k : Int} (e : minI ns = some k) : 0 < ns.length := by cases ns with | nil => cases e | cons x r => simp
abbrev PDs (K : PySem.W.Frag) (w : Wd) (H : Hp) : List PyData → List V → Prop := Paired (PD K w H)
theorem peeks_ok {x : List W} {ds : List PyData} {vs : List V} (r : Rl K w m H) (h : RWs K w H x vs) : peeks m x = some ds → PDs K w H ds vs := by
  induction h generalizing ds with
  | nil => intro e; cases e; exact .nil
  | cons a b ih =>
    intro e
    unfold peeks at e
    rename_i d _ l1 _
    cases q1 : peek m d with
    | none => rw [q1] at e; cases e
    | some d1 =>
      rw [q1] at e
      simp only [Option.bind_some] at e
      cases q2 : peeks m l1 with
      | none => rw [q2] at e; cases e
      | some d2 =>
        rw [q2] at e
        cases e
        exact .cons (peek_ok r a q1) (ih q2)
def bltV : Blt → Value
  | .len => .builtin "len" | .sum => .builtin "sum" | .min => .builtin "min" | .max => .builtin "max" | .all => .builtin "all" | .any => .builtin "any" | .int => .type "int" | .abs => .builtin "abs" | .list => .type "list" | .tuple => .type "tuple" | .sorted => .builtin "sorted" | .str => .type "str"
def bltN : Blt → Str
  | .len => "len" | .sum => "sum" | .min => "min" | .max => "max" | .all => "all" | .any => "any" | .int => "int" | .abs => "abs" | .list => "list" | .tuple => "tuple" | .sorted => "sorted" | .str => "str"
theorem rds_strs : ∀ ss : List Str, RDs K w H (ss.map PyData.str) (ss.map V.str)
  | [] => .nil
  | x :: r => .cons (.str x) (rds_strs r)
theorem keysD_map : ∀ (ks : List Str) (ds : List PyData) (ss : List Str), ks.length = ds.length → keysD ((ks.map PyData.str).zip ds) = some ss → ks = ss
  | [], _, _, _, e => by cases e; rfl
  | k :: ks, [], _, h, _ => by simp at h
  | k :: ks, d :: ds, ss, h, e => by
    simp only [List.map_cons, List.zip_cons_cons, keysD, asStr, Option.bind_some] at e
    cases q : keysD ((ks.map PyData.str).zip ds) with
    | none => rw [q] at e; cases e
    | some l =>
      rw [q] at e
      cases e
      rw [keysD_map ks ds l (by simpa using h) q]
theorem zip_fst (ks : List Str) (vs : List V) (h : ks.length = vs.length) : ((ks.map fun k => (Sum.inr k : Key)).zip vs).map (·.1) = ks.map Sum.inr := by
  rw [List.map_fst_zip]
  simp [h]
def rBlt (K : PySem.W.Frag) (b : Blt) : List V → Hp → VK → Prop := fun xs H Q => ∃ (w : Wd) (m : Mem) (ds : List PyData) (d : PyData), Rl K w m H ∧ PDs K w H ds xs ∧ bltD b ds = some d ∧ Same K w m H (fun w H v => RD K w H d v) Q
theorem PDs.one {d : PyData} {xs : List V} (h : PDs K w H [d] xs) : ∃ v, xs = [v] ∧ PD K w H d v := by
  cases h with | cons a b => cases b; exact ⟨_, rfl, a⟩
theorem PDs.two {d e : PyData} {xs : List V} (h : PDs K w H [d, e] xs) : ∃ v u, xs = [v, u] ∧ PD K w H d v ∧ PD K w H e u := by
  cases h with | cons a b => cases b with | cons c d => cases d; exact ⟨_, _, rfl, a, c⟩
theorem blt_ok (hc : X.calm = true) (b : Blt) : CallR X (bltV b) (rBlt X.K b) := by
  intro pins s σ H xs us Q I rs h
  obtain ⟨w, m, ds, d, r, hd, e, q⟩ := h
  have hs : sizeLine = szL := sizeLine_eq
  unfold bltD at e
  split at e
  · obtain ⟨v, rfl, a, vs, rfl, h1, h2⟩ := hd.one
    cases e
    exact call_len_seq pins s σ H _ us Q I rs ⟨a, vs, rfl, .inl h1, by rw [← h2.length]; exact q.here r (.int _)⟩
  · obtain ⟨v, rfl, h⟩ := hd.one
    obtain ⟨a, vs, rfl, h1, h2⟩ := RD.tup_ h
    cases e
    exact call_len_seq pins s σ H _ us Q I rs ⟨a, vs, rfl, .inr h1, by rw [← h2.length]; exact q.here r (.int _)⟩
  · obtain ⟨v, rfl, h⟩ := hd.one
    cases (RD.str_ h)
    split at e
    · cases e
      exact call_len_str pins s σ H _ us Q I rs ⟨_, rfl, by omega, q.here r (.int _)⟩
    · cases e
  · obtain ⟨v, rfl, a, vs, rfl, h1, h2⟩ := hd.one
    rename_i ds'
    cases qq : intsOf ds' with
    | none => rw [qq] at e; cases e
    | some ns =>
      rw [qq] at e
      cases e
      rw [intsOf_rd h2 qq] at h1
      exact cr_sum hc pins s σ H _ us Q I rs ⟨a, ns, rfl, h1, q.here r (.int _)⟩
  · obtain ⟨v, rfl, a, vs, rfl, h1, h2⟩ := hd.one
    rename_i ds'
    cases qq : intsOf ds' with
    | none => rw [qq] at e; cases e
    | some ns =>
      rw [qq] at e
      simp only [Option.bind_some] at e
      cases qm : maxI ns with
      | none => rw [qm] at e; cases e
      | some k =>
        rw [qm] at e
        cases e
        rw [intsOf_rd h2 qq] at h1
        exact cr_max hc pins s σ H _ us Q I rs ⟨a, ns, rfl, h1, maxI_pos qm, fun m h3 h4 => by rw [maxI_is qm h3 h4]; exact q.here r (.int _)⟩
  · obtain ⟨v, rfl, a, vs, rfl, h1, h2⟩ := hd.one
    rename_i ds'
    cases qq : intsOf ds' with
    | none => rw [qq] at e; cases e
    | some ns =>
      rw [qq] at e
      simp only [Option.bind_some] at e
      cases qm : minI ns with
      | none => rw [qm] at e; cases e
      | some k =>
        rw [qm] at e
        cases e
        rw [intsOf_rd h2 qq] at h1
        exact cr_min hc pins s σ H _ us Q I rs ⟨a, ns, rfl, h1, minI_pos qm, fun m h3 h4 => by rw [minI_is qm h3 h4]; exact q.here r (.int _)⟩
  · obtain ⟨v, rfl, h⟩ := hd.one
    obtain ⟨a, vs, rfl, h1, h2⟩ := RD.tup_ h
    rename_i ds'
    cases qq : intsOf ds' with
    | none => rw [qq] at e; cases e
    | some ns =>
      rw [qq] at e
      simp only [Option.bind_some] at e
      cases qm : maxI ns with
      | none => rw [qm] at e; cases e
      | some k =>
        rw [qm] at e
        cases e
        rw [intsOf_rd h2 qq] at h1
        exact cr_maxT hc pins s σ H _ us Q I rs ⟨a, ns, rfl, h1, maxI_pos qm, fun m h3 h4 => by rw [maxI_is qm h3 h4]; exact q.here r (.int _)⟩
  · obtain ⟨v, rfl, h⟩ := hd.one
    obtain ⟨a, vs, rfl, h1, h2⟩ := RD.tup_ h
    rename_i ds'
    cases qq : intsOf ds' with
    | none => rw [qq] at e; cases e
    | some ns =>
      rw [qq] at e
      simp only [Option.bind_some] at e
      cases qm : minI ns with
      | none => rw [qm] at e; cases e
      | some k =>
        rw [qm] at e
        cases e
        rw [intsOf_rd h2 qq] at h1
        exact cr_minT hc pins s σ H _ us Q I rs ⟨a, ns, rfl, h1, minI_pos qm, fun m h3 h4 => by rw [minI_is qm h3 h4]; exact q.here r (.int _)⟩
  · obtain ⟨v, u, rfl, h1, h2⟩ := hd.two
    cases (RD.int_ h1); cases (RD.int_ h2)
    cases e
    exact call_max2 hc pins s σ H _ us Q I rs ⟨_, _, rfl, q.here r (.int _)⟩
  · obtain ⟨v, u, rfl, h1, h2⟩ := hd.two
    cases (RD.int_ h1); cases (RD.int_ h2)
    cases e
    exact call_min2 hc pins s σ H _ us Q I rs ⟨_, _, rfl, q.here r (.int _)⟩
  · obtain ⟨v, rfl, a, vs, rfl, h1, h2⟩ := hd.one
    rename_i ds'
    cases qq : boolsOf ds' with
    | none => rw [qq] at e; cases e
    | some ns =>
      rw [qq] at e
      cases e
      rw [boolsOf_rd h2 qq] at h1
      exact cr_all hc pins s σ H _ us Q I rs ⟨a, ns, rfl, h1, q.here r (.bl _)⟩
  · obtain ⟨v, rfl, a, vs, rfl, h1, h2⟩ := hd.one
    rename_i ds'
    cases qq : boolsOf ds' with
    | none => rw [qq] at e; cases e
    | some ns =>
      rw [qq] at e
      cases e
      rw [boolsOf_rd h2 qq] at h1
      exact cr_any hc pins s σ H _ us Q I rs ⟨a, ns, rfl, h1, q.here r (.bl _)⟩
  · obtain ⟨v, rfl, h⟩ := hd.one
    cases (RD.int_ h)
    cases e
    exact call_int1 pins s σ H _ us Q I rs (.inl ⟨_, rfl, q.here r (.int _)⟩)
  · obtain ⟨v, rfl, h⟩ := hd.one
    cases h
    cases e
    exact call_int1 pins s σ H _ us Q I rs (.inr ⟨_, rfl, q.here r (.int _)⟩)
  · obtain ⟨v, rfl, h⟩ := hd.one
    cases (RD.int_ h)
    cases e
    rename_i i
    refine call_abs pins s σ H _ us Q I rs ⟨_, rfl, ?_⟩
    have ei : (if i < 0 then -i else i) = (i.natAbs : Int) := by split <;> omega
    rw [ei]
    exact q.here r (.int _)
  · obtain ⟨v, rfl, a, vs, rfl, h1, h2⟩ := hd.one
    cases e
    exact call_tuple_of pins s σ H _ us Q I rs ⟨a, vs, rfl, .inl ⟨h1, q.newT r h2⟩⟩
  · obtain ⟨v, rfl, h⟩ := hd.one
    obtain ⟨a, vs, rfl, h1, h2⟩ := RD.tup_ h
    cases e
    exact call_tuple_of pins s σ H _ us Q I rs ⟨a, vs, rfl, .inr ⟨h1, q.here r (.tup h1 h2)⟩⟩
  · obtain ⟨v, rfl, a, ks, vs, dd, rfl, hr, rfl, hl, hd2⟩ := hd.one
    cases e
    have e1 : (((ks.map PyData.str).zip dd).length : Int) = (((ks.map fun k => (Sum.inr k : Key)).zip vs).length : Int) := by
      have := hd2.length
      simp only [List.length_zip, List.length_map]
      omega
    rw [e1] at q
    obtain ⟨u, rfl, ru⟩ := vals1 rs
    cases ru
    exact d_len I (by first | exact hr | exact hr.elim .inl .inr | exact .inl hr) fun t s' I' => ⟨.int _, H, I', ⟨t, rfl⟩, q.here r (.int _)⟩
  · obtain ⟨v, rfl, a, vs, rfl, h1, h2⟩ := hd.one
    rename_i ds'
    cases qq : strsOf ds' with
    | none => rw [qq] at e; cases e
    | some ss =>
      rw [qq, Option.bind_some] at e
      split at e
      · rename_i few
        cases e
        rw [(strsOf_rd h2 qq).1] at h1
        refine L2.cr_sortedS pins s σ H _ us Q I rs ⟨a, ss, rfl, h1, few, fun ys p g1 g2 np => ?_⟩
        rw [sorted_one g1 (sortedS_le g2)]
        exact q.newL r (rds_strs _) p np
      · cases e
  · obtain ⟨v, rfl, h⟩ := hd.one
    obtain ⟨a, vs, rfl, h1, h2⟩ := RD.tup_ h
    rename_i ds'
    cases qq : strsOf ds' with
    | none => rw [qq] at e; cases e
    | some ss =>
      rw [qq, Option.bind_some] at e
      split at e
      · rename_i few
        cases e
        rw [(strsOf_rd h2 qq).1] at h1
        refine cr_sortT pins s σ H _ us Q I rs ⟨a, ss, rfl, h1, few, fun ys p g1 g2 np => ?_⟩
        rw [sorted_one g1 (sortedS_le g2)]
        exact q.newL r (rds_strs _) p np
      · cases e
  · obtain ⟨v, rfl, a, ks, vs, dd, rfl, hr, rfl, hl, hd2⟩ := hd.one
    cases qq : keysD ((ks.map PyData.str).zip dd) with
    | none => rw [qq] at e; cases e
    | some ss =>
      rw [qq, Option.bind_some] at e
      split at e
      · rename_i few
        cases e
        have ek := keysD_map ks dd ss hl qq
        subst ek
        refine call_sortedD hc pins s σ H _ us Q I rs ⟨a, _, ks, rfl, hr, zip_fst ks vs (hl.trans hd2.length), few, fun ys p g1 g2 np => ?_⟩
        rw [sorted_one g1 (sortedS_le g2)]
        exact q.newL r (rds_strs _) p np
      · cases e
  · obtain ⟨v, rfl, h⟩ := hd.one
    cases (RD.str_ h)
    cases e
    exact SkE.call_str_str pins s σ H _ us Q I rs ⟨_, rfl, q.here r (.str _)⟩
  · cases e
/-! ### isinstance -/
def tyS : Ty → String
  | .int => "int" | .bool => "bool" | .str => "str" | .list => "list" | .tuple => "tuple"
theorem ty_kit (K : PySem.W.Frag) (t u : Ty) : PySem.W.kitOne K (.type (tyS t)) (.type (tyS u)) = some (tyLe t u) := by
  refine kit_ty ?_
  cases t <;> cases u <;> decide +kernel
theorem ty_kitN (K : PySem.W.Frag) (u : Ty) : PySem.W.kitOne K (.type "NoneType") (.type (tyS u)) = some false := by
  refine kit_ty ?_
  cases u <;> decide +kernel
theorem kitAny_map {K : PySem.W.Frag} {t : Value} {f : Ty → Bool} (h : ∀ u, PySem.W.kitOne K t (.type (tyS u)) = some (f u)) : ∀ ts : List Ty, PySem.W.kitAny K t (ts.map fun u => .type (tyS u)) = some (ts.any f)
  | [] => rfl
  | u :: r => by
    rw [List.map_cons]
    refine kitAny_cons (h u) (fun e => ?_) fun e => ?_
    · rw [kitAny_map h r, List.any_cons, e]; rfl
    · rw [List.any_cons, e]; rfl
theorem PD.tyx {d : PyData} {v : V} (h : PD K w H d v) (nd : ∀ kvs, d ≠ .dict kvs) : (∃ t, tyOf d = some t ∧ TyX K H v (.type (tyS t))) ∨ (tyOf d = none ∧ TyX K H v (.type "NoneType")) := by
  cases d with
  | none => cases h; exact .inr ⟨rfl, .base .non⟩
  | bool b => cases h; exact .inl ⟨_, rfl, .base (.bl _)⟩
  | int b => cases h; exact .inl ⟨_, rfl, .base (.int _)⟩
  | str b => cases h; exact .inl ⟨_, rfl, .base (.str _)⟩
  | list ds =>
    obtain ⟨a, xs, rfl, hq, _⟩ := h
    refine .inl ⟨_, rfl, ?_⟩
    rcases hq with (hq | ⟨o, hq⟩) | ⟨o, its, n, hk, hc, _⟩
    · exact .base (.lst hq)
    · exact .base (.frz hq)
    · exact .kList hk hc
  | tuple ds =>
    obtain ⟨a, xs, rfl, hq, _⟩ := RD.tup_ h
    refine .inl ⟨_, rfl, ?_⟩
    rcases hq with (hq | ⟨o, hq⟩) | ⟨o, its, n, hk, hc, _⟩
    · exact .base (.tup hq)
    · exact .fTuple hq
    · exact .kTuple hk hc
  | dict kvs => exact absurd rfl (nd kvs)
end
end Z
set_option maxHeartbeats 1000000
/-! Z5: what the evaluator's answer means for the machine. -/
namespace Z
open PySem PySem.Spec PyProof.Rows L2
/-- how an exception lies: its class, its own dict -/
def RX (K : PySem.W.Frag) (w : Wd) (H : Hp) (x : Ex) (cls : Value) (d : Option Addr) : Prop :=
  ∃ C, PySem.W.nsIn K mainGlobals x.c = some (some (.ref C)) ∧ cls = .ref C ∧ RXf K w H x.fs d
abbrev St := L2.St
abbrev EW := Ex → Wd → Mem → Hp → Prop
section
variable {K : PySem.W.Frag} {w w1 w' : Wd} {H H1 H' : Hp} {m : Mem} {α β γ δ : Type}
def Cont (K : PySem.W.Frag) (w : Wd) (H : Hp) (rel : Wd → Hp → α → β → Prop) (Q : β → Hp → Prop) (E : EW) : R α → Prop
  | .ok a m => ∀ v w' H', Ext w H w' H' → Rl K w' m H' → rel w' H' a v → Q v H'
  | .err x m => ∀ w' H', Ext w H w' H' → Rl K w' m H' → E x w' m H'
  | .bad => False
variable {rel : Wd → Hp → α → β → Prop} {Q : β → Hp → Prop} {E : EW} {r : R α}
theorem Cont.later (e : Ext w H w1 H1) (h : Cont K w H rel Q E r) : Cont K w1 H1 rel Q E r := by
  cases r with
  | ok a m => exact fun v w' H' e' => h v w' H' (e.trans e')
  | err x m => exact fun w' H' e' => h w' H' (e.trans e')
  | bad => exact h
/-- the rest behind a value -/
structure Rest (K : PySem.W.Frag) (w : Wd) (H : Hp) (rel : Wd → Hp → α → β → Prop) (f : α → Mem → R γ) (relg : Wd → Hp → γ → δ → Prop) (Q : δ → Hp → Prop) (E : EW) (v : β) (H1 : Hp) (a : α) (m1 : Mem) (w1 : Wd) : Prop where
  e : Ext w H w1 H1
  r : Rl K w1 m1 H1
  v : rel w1 H1 a v
  c : Cont K w1 H1 relg Q E (f a m1)
theorem Cont.bind {f : α → Mem → R γ} {relg : Wd → Hp → γ → δ → Prop} {Q : δ → Hp → Prop} (rel : Wd → Hp → α → β → Prop) (h : Cont K w H relg Q E (r.b f)) : Cont K w H rel (fun v H1 => ∃ a m1 w1, Rest K w H rel f relg Q E v H1 a m1 w1) E r := by
  cases r with
  | ok a m => exact fun v w' H' e rl rv => ⟨a, m, w', e, rl, rv, Cont.later e h⟩
  | err x m => exact h
  | bad => exact h
theorem Cont.imp {Q' : β → Hp → Prop} (h : Cont K w H rel Q E r) (i : ∀ v H', Q v H' → Q' v H') : Cont K w H rel Q' E r := by
  cases r with
  | ok a m => exact fun v w' H' e rl rv => i _ _ (h v w' H' e rl rv)
  | err x m => exact h
  | bad => exact h
theorem Cont.o {o : Option α} {f : α → Mem → R γ} {relg : Wd → Hp → γ → δ → Prop} {Q : δ → Hp → Prop} (h : Cont K w H relg Q E ((ofO o m).b f)) : ∃ a, o = some a ∧ Cont K w H relg Q E (f a m) := by
  cases o with
  | none => exact h.elim
  | some a => exact ⟨a, rfl, h⟩
theorem Cont.o0 {o : Option α} (h : Cont K w H rel Q E (ofO o m)) : ∃ a, o = some a ∧ Cont K w H rel Q E (.ok a m) := by
  cases o with
  | none => exact h.elim
  | some a => exact ⟨a, rfl, h⟩
end
/-- the slots -/
structure RE (K : PySem.W.Frag) (w : Wd) (H : Hp) (ρ : Env) (σ : St) : Prop where
  len : ρ.length = σ.length
  get : ∀ (i : Nat) (a : W), ρ[i]? = some (some a) → ∃ v, σ[i]? = some (some v) ∧ RW K w H a v
theorem RE.ext {K : PySem.W.Frag} {w w' : Wd} {H H' : Hp} {ρ : Env} {σ : St} (h : RE K w H ρ σ) (e : Ext w H w' H') : RE K w' H' ρ σ := ⟨h.len, fun i a q => by
  obtain ⟨v, h1, h2⟩ := h.get i a q
  exact ⟨v, h1, h2.ext e⟩⟩
theorem RE.set {K : PySem.W.Frag} {w : Wd} {H : Hp} {ρ : Env} {σ : St} {i : Nat} {a : W} {v : V} (h : RE K w H ρ σ) (r : RW K w H a v) : RE K w H (ρ.set i (some a)) (σ.set i (some v)) := by
  refine ⟨by simp [h.len], fun j b q => ?_⟩
  by_cases hj : i = j
  · subst hj
    by_cases hi : i < ρ.length
    · rw [List.getElem?_set_self hi] at q
      cases q
      exact ⟨v, by rw [List.getElem?_set_self (by rw [← h.len]; exact hi)], r⟩
    · rw [List.getElem?_eq_none (by simpa using hi)] at q
      cases q
  · rw [List.getElem?_set_ne hj] at q
    obtain ⟨u, h1, h2⟩ := h.get j b q
    exact ⟨u, by rw [List.getElem?_set_ne hj]; exact h1, h2⟩
theorem RE.set0 {K : PySem.W.Frag} {w : Wd} {H : Hp} {ρ : Env} {σ : St} {i : Nat} (h : RE K w H ρ σ) : RE K w H (ρ.set i none) (σ.set i none) := by
  refine ⟨by simp [h.len], fun j b q => ?_⟩
  by_cases hj : i = j
  · subst hj
    by_cases hi : i < ρ.length
    · rw [List.getElem?_set_self hi] at q
      cases q
    · rw [List.getElem?_eq_none (by simpa using hi)] at q
      cases q
  · rw [List.getElem?_set_ne hj] at q
    obtain ⟨u, h1, h2⟩ := h.get j b q
    exact ⟨u, by rw [List.getElem?_set_ne hj]; exact h1, h2⟩
theorem RE.wipe {K : PySem.W.Frag} {w : Wd} {H : Hp} {ρ : Env} {σ : St} (h : RE K w H ρ σ) : ∀ vs : List Nat, RE K w H (Z.wipe ρ vs) (L2.wipe σ vs)
  | [] => h
  | _ :: vs => (RE.wipe h vs).set0
/-! ### readings -/
def tE (K : PySem.W.Frag) (C : Orc) (ω : St → EW) (e : E) : TE := fun σ H Q => ∃ ρ m w, RE K w H ρ σ ∧ Rl K w m H ∧ Cont K w H (RW K) Q (ω σ) (ev C e ρ m)
def tT (K : PySem.W.Frag) (C : Orc) (ω : St → EW) (e : E) : TT := fun σ H Q => ∃ ρ m w, RE K w H ρ σ ∧ Rl K w m H ∧ Cont K w H (fun _ _ a b => a = b) Q (ω σ) ((ev C e ρ m).b fun x m => ofO (truW m x) m)
def tA (K : PySem.W.Frag) (C : Orc) (ω : St → EW) (es : ES) : TA := fun σ H Q => ∃ ρ m w, RE K w H ρ σ ∧ Rl K w m H ∧ Cont K w H (RWs K) Q (ω σ) (evs C es ρ m)
theorem tE.of {K : PySem.W.Frag} {C : Orc} {ω : St → EW} {e : E} {σ : St} {H : Hp} {Q : VK} {ρ : Env} {m : Mem} {w : Wd} (h1 : RE K w H ρ σ) (h2 : Rl K w m H) (h : Cont K w H (RW K) Q (ω σ) (ev C e ρ m)) : tE K C ω e σ H Q := ⟨ρ, m, w, h1, h2, h⟩
/-- what a def promises -/
def spZ (K : PySem.W.Frag) (C : Orc) (f : Nat) (n : Nat) : Sp := fun vs H Q Ek => ∃ ws w S, ws.length = n ∧ RWs K w H ws vs ∧ args ws = true ∧ Rl K w ⟨[], S⟩ H ∧
  Cont K w H (RW K) Q (fun x w' _ H' => ∀ cls d, RX K w' H' x cls d → Ek cls d H') (C f ws S)
/-- a def that may be called: its number, how many parameters, the defaults of the last ones -/
structure FI where
  id : Nat
  n : Nat
  ds : List PyData
/-- what is known of names where the text is looked at -/
structure Gm where
  N : List Str
  nm : List (Str × NameKind)
  on : List (Str × NameKind)
  fn : List (Str × FI)
  gc : List (Str × PyData)
  mt : List ((Str × Str) × FI)
  pr : List ((Str × Str) × Nat)
  cl : List Str
  fl : List (Str × Str)
  gd : List (Str × List (Str × PyData))
  xc : List (Str × List Str)
def bltNames : List Str := ["len", "sum", "min", "max", "all", "any", "int", "abs", "list", "tuple", "isinstance", "str", "bool", "range", "enumerate", "zip", "sorted", "set", "dict", "LookupError", "ValueError"]
/-- the def at fa keeps the promise of the number fi.id -/
structure FnZ (P : Program) (W0 : World) (K : PySem.W.Frag) (mg : Str → Option Value) (base : Heap) (A : Around) (C : Orc) (fi : FI) (fa : Addr) : Prop where
  ex : ∃ fd ps k, FnOk P W0 K mg base (L2.CX P W0) k fa fd ps (spZ K C fi.id fi.n) ∧ Room (k + 1) A ∧ Binds K fd ps [] ∧
    ∀ j, j ≤ fi.ds.length → ∃ vs us, Vals vs us ∧ Binds K fd ps us ∧ ∀ w H, RDs K w H (fi.ds.drop j) vs
/-- the world behind all that: the module's names, the defs that may be called, the classes -/
structure Cok0 (P : Program) (W0 : World) (K : PySem.W.Frag) (mg : Str → Option Value) (base : Heap) (A : Around) (Γ : Gm) (C : Orc) : Prop where
  un : A.units + 65 < cLine
  bl : ∀ x ∈ bltNames, mg x = none
  fn : ∀ x fi, Γ.fn.lookup x = some fi → ∃ fa, mg x = some (.ref fa) ∧ PySem.W.keepIn K (.ref fa) = true ∧ FnZ P W0 K mg base A C fi fa
  gc : ∀ x d, Γ.gc.lookup x = some d → ∃ u v, mg x = some u ∧ RelV v u ∧ ∀ w H, RD K w H d v
  cl : ∀ c ∈ Γ.cl, ∃ Cc, PySem.W.nsIn K mainGlobals c = some (some (.ref Cc)) ∧ mg c = some (.ref Cc) ∧ Cls K Cc ∧ PySem.W.noSeq K Cc = true ∧ PySem.W.selfFirst K Cc = true ∧ PySem.W.makesIn K Cc = true ∧ PySem.W.keepIn K (.ref Cc) = true
  fl : ∀ c f, (c, f) ∈ Γ.fl → ∀ Cc, PySem.W.nsIn K mainGlobals c = some (some (.ref Cc)) → NoAttr K Cc f
  mt : ∀ c m fi, Γ.mt.lookup (c, m) = some fi → c ∈ Γ.cl ∧ ∀ Cc, PySem.W.nsIn K mainGlobals c = some (some (.ref Cc)) → ∃ fa, Meth K Cc m fa ∧ FnZ P W0 K mg base A C fi fa
  pr : ∀ c p id, Γ.pr.lookup (c, p) = some id → c ∈ Γ.cl ∧ ∀ Cc, PySem.W.nsIn K mainGlobals c = some (some (.ref Cc)) → ∃ pa ga, PropOf K Cc p pa ga ∧ FnZ P W0 K mg base A C ⟨id, 1, []⟩ ga
  xc : ∀ c, (Γ.xc.lookup c).isSome = true → True
structure Cok (X : Cx) (Γ : Gm) (C : Orc) (ω : St → EW) : Prop where
  N : X.N = Γ.N
  nd : X.N.Nodup
  nm : X.env.scope.names = Γ.nm
  kd : X.env.scope.kind = .function
  calm : X.calm = true
  g : Cok0 X.prog X.w X.K X.mg X.base X.A Γ C
  hx : ∀ σ, PassesAt (L2.CX X.prog X.w) X σ (fun cls d H' => ∃ x w m, Rl X.K w m H' ∧ RX X.K w H' x cls d ∧ ω σ x w m H')
theorem PEimp {X : Cx} {e : Expr} {t t' : TE} (h : PE X e t) (i : ∀ σ H Q, t' σ H Q → t σ H Q) : PE X e t' := ⟨fun pins s σ H Q I q => h.run pins s σ H Q I (i _ _ _ q)⟩
theorem PTimp {X : Cx} {e : Expr} {t t' : TT} (h : L2.PT X e t) (i : ∀ σ H Q, t' σ H Q → t σ H Q) : L2.PT X e t' := ⟨fun pins s σ H Q I q => h.run pins s σ H Q I (i _ _ _ q)⟩
theorem PAimp {X : Cx} {e : List Expr} {t t' : TA} (h : PA X e t) (i : ∀ σ H Q, t' σ H Q → t σ H Q) : PA X e t' := ⟨fun pos pins s σ H Q I q => h.run pos pins s σ H Q I (i _ _ _ q)⟩
end Z
set_option maxHeartbeats 1000000
/-! Y5b: a list under construction. -/
namespace Z
open PySem PySem.Spec PyProof.Rows L2
/-! ### a list under construction -/
section
variable {K : PySem.W.Frag} {w w' : Wd} {H H' : Hp} {D : Addr}
def Wd.add (w : Wd) (D : Addr) : Wd := { w with p := fun a => w.p a ∨ a = D }
theorem Wd.add_live {a : Addr} : (w.add D).live a ↔ w.live a ∨ a = D := by
  simp only [Wd.live, Wd.add]
  constructor
  · rintro (h | h | h | h)
    · exact .inl (.inl h)
    · exact .inl (.inr (.inl h))
    · exact .inl (.inr (.inr h))
    · exact .inr h
  · rintro ((h | h | h) | h)
    · exact .inl h
    · exact .inr (.inl h)
    · exact .inr (.inr (.inl h))
    · exact .inr (.inr (.inr h))
theorem sqT_upd {o : HO} {a : Addr} {xs : List V} (hD : H D = none) (h : SqT K H a xs) : SqT K (upd H D o) a xs := by
  rcases h with (h | ⟨u, h⟩) | h
  · exact .inl (.inl (by rw [upd_ne (ne_of_none h hD)]; exact h))
  · exact .inl (.inr ⟨u, by rw [upd_ne (ne_of_none h hD)]; exact h⟩)
  · exact .inr h
mutual
theorem RD.add {o : HO} (hD : H D = none) : ∀ {d : PyData} {v : V}, RD K w H d v → RD K (w.add D) (upd H D o) d v
  | _, _, .non => .non
  | _, _, .bl b => .bl b
  | _, _, .int i => .int i
  | _, _, .str x => .str x
  | _, _, .lst h n r => .lst (by rw [upd_ne (ne_of_none h hD)]; exact h) (fun z => (Wd.add_live.mp z).elim n fun e => ne_of_none h hD e) (RDs.add hD r)
  | _, _, .tup h r => .tup (sqT_upd hD h) (RDs.add hD r)
  | _, _, .dct h l r => .dct (by rw [upd_ne (ne_of_none h hD)]; exact h) l (RDs.add hD r)
theorem RDs.add {o : HO} (hD : H D = none) : ∀ {ds : List PyData} {vs : List V}, RDs K w H ds vs → RDs K (w.add D) (upd H D o) ds vs
  | _, _, .nil => .nil
  | _, _, .cons a b => .cons (RD.add hD a) (RDs.add hD b)
end
theorem sqR_add {o : HO} {a : Addr} {xs : List V} (hD : H D = none) (h : SqR K H a xs) : SqR K (upd H D o) a xs := by
  rcases h with ⟨u, h⟩ | h
  · exact .inl ⟨u, by rw [upd_ne (ne_of_none h hD)]; exact h⟩
  · exact .inr h
theorem RXf.add {o : HO} (hD : H D = none) {fs : Option (List Str × List PyData)} {d : Option Addr} (h : RXf K w H fs d) : RXf K (w.add D) (upd H D o) fs d := by
  cases fs with
  | none => exact h
  | some p =>
    obtain ⟨ns, ds⟩ := p
    obtain ⟨dx, vs, h1, h2, h3, h4⟩ := h
    exact ⟨dx, vs, h1, by rw [upd_ne (ne_of_none h2 hD)]; exact h2, fun z => (Wd.add_live.mp z).elim h3 fun e => ne_of_none h2 hD e, h4.add hD⟩
theorem RW.add {o : HO} {x : W} {v : V} (hD : H D = none) (h : RW K w H x v) : RW K (w.add D) (upd H D o) x v := by
  cases h with
  | v h => exact .v (h.add hD)
  | ro h1 h2 => exact .ro (sqR_add hD h1) (h2.add hD)
  | tv h1 h2 => exact .tv (let ⟨its, n, q⟩ := h1; ⟨its, n, by rw [upd_ne (ne_of_none q hD)]; exact q⟩) (h2.add hD)
  | exc h1 h2 h3 h4 h5 h6 => exact .exc (by rw [upd_ne (ne_of_none h1 hD)]; exact h1) (fun z => (Wd.add_live.mp z).elim h2 fun e => ne_of_none h1 hD e) h3 h4 h5 (h6.add hD)
  | ref h => exact .ref h
  | loc h1 h2 => exact .loc h1 h2
theorem Rl.add {m : Mem} {o : HO} (r : Rl K w m H) (hD : H D = none) : Rl K (w.add D) m (upd H D o) where
  lenS := r.lenS
  lenL := r.lenL
  ndS := r.ndS
  ndL := r.ndL
  ap := r.ap
  apP := fun a h => by
    rcases h with h | h
    · obtain ⟨h1, h2, u, h3⟩ := r.apP a h
      exact ⟨h1, h2, u, by rw [upd_ne (ne_of_none h3 hD)]; exact h3⟩
    · subst h
      exact ⟨fun z => r.fresh hD (.inl z), fun z => r.fresh hD (.inr (.inl z)), o, upd_same⟩
  s := fun n u a h1 h2 => by
    have z := r.s n u a h1 h2
    cases u with
    | lst ds => obtain ⟨xs, e1, q⟩ := z; exact ⟨xs, by rw [upd_ne (ne_of_none e1 hD)]; exact e1, q.add hD⟩
    | ro ds => obtain ⟨u, xs, e1, q⟩ := z; exact ⟨u, xs, by rw [upd_ne (ne_of_none e1 hD)]; exact e1, q.add hD⟩
    | ins c fs => obtain ⟨C, dx, gs, e0, e1, q, l⟩ := z; exact ⟨C, dx, gs, e0, by rw [upd_ne (ne_of_none e1 hD)]; exact e1, paired_imp (fun _ _ z => ⟨z.1, z.2.add hD⟩) q, l⟩
  l := fun n u x h1 h2 => by
    have z := r.l n u x h1 h2
    cases u with
    | dead => exact z
    | lst ds => obtain ⟨a, xs, e0, e1, q⟩ := z; exact ⟨a, xs, e0, by rw [upd_ne (ne_of_none e1 hD)]; exact e1, paired_imp (fun _ _ r => r.add hD) q⟩
    | dic ks ws => obtain ⟨a, vs, e0, e1, l, q⟩ := z; exact ⟨a, vs, e0, by rw [upd_ne (ne_of_none e1 hD)]; exact e1, l, paired_imp (fun _ _ z => z.add hD) q⟩
/-- the heap without D -/
def cutH (H : Hp) (D : Addr) : Hp := fun a => if a = D then none else H a
theorem cutH_ne {a : Addr} (h : a ≠ D) : cutH H D a = H a := if_neg h
theorem cutH_self : cutH H D D = none := if_pos rfl
theorem upd_cut {o : HO} (h : H D = some o) : upd (cutH H D) D o = H := by
  funext a
  by_cases e : a = D
  · subst e
    rw [upd_same, h]
  · rw [upd_ne e, cutH_ne e]
def Wd.sub (w : Wd) (p : Addr → Prop) : Wd := { w with p := p }
section
variable {P : Addr → Prop} {acc : List V}
theorem sqT_cut {a : Addr} {xs : List V} (hD : H D = some (.lst acc)) (h : SqT K H a xs) : SqT K (cutH H D) a xs := by
  rcases h with (h | ⟨u, h⟩) | h
  · exact .inl (.inl (by rw [cutH_ne (fun e => by subst e; rw [hD] at h; cases h)]; exact h))
  · exact .inl (.inr ⟨u, by rw [cutH_ne (fun e => by subst e; rw [hD] at h; cases h)]; exact h⟩)
  · exact .inr h
mutual
theorem RD.cut (hD : H D = some (.lst acc)) (hl : w.live D) (i : ∀ a, P a → w.p a) : ∀ {d : PyData} {v : V}, RD K w H d v → RD K (w.sub P) (cutH H D) d v
  | _, _, .non => .non
  | _, _, .bl b => .bl b
  | _, _, .int i => .int i
  | _, _, .str x => .str x
  | _, _, .lst h n r => .lst (by rw [cutH_ne (fun e => n (by rw [e]; exact hl))]; exact h) (fun z => n (z.elim .inl fun z => z.elim (fun z => .inr (.inl z)) fun z => .inr (.inr (i _ z)))) (RDs.cut hD hl i r)
  | _, _, .tup h r => .tup (sqT_cut hD h) (RDs.cut hD hl i r)
  | _, _, .dct h l r => .dct (by rw [cutH_ne (fun e => by subst e; rw [hD] at h; cases h)]; exact h) l (RDs.cut hD hl i r)
theorem RDs.cut (hD : H D = some (.lst acc)) (hl : w.live D) (i : ∀ a, P a → w.p a) : ∀ {ds : List PyData} {vs : List V}, RDs K w H ds vs → RDs K (w.sub P) (cutH H D) ds vs
  | _, _, .nil => .nil
  | _, _, .cons a b => .cons (RD.cut hD hl i a) (RDs.cut hD hl i b)
end
theorem sqR_cut {a : Addr} {xs : List V} (hD : H D = some (.lst acc)) (h : SqR K H a xs) : SqR K (cutH H D) a xs := by
  rcases h with ⟨u, h⟩ | h
  · exact .inl ⟨u, by rw [cutH_ne (fun e => by subst e; rw [hD] at h; cases h)]; exact h⟩
  · exact .inr h
theorem RXf.cut (hD : H D = some (.lst acc)) (hl : w.live D) (i : ∀ a, P a → w.p a) {fs : Option (List Str × List PyData)} {d : Option Addr} (h : RXf K w H fs d) : RXf K (w.sub P) (cutH H D) fs d := by
  cases fs with
  | none => exact h
  | some p =>
    obtain ⟨ns, ds⟩ := p
    obtain ⟨dx, vs, h1, h2, h3, h4⟩ := h
    exact ⟨dx, vs, h1, by rw [cutH_ne (fun e => h3 (by rw [e]; exact hl))]; exact h2, fun z => h3 (z.elim .inl fun z => z.elim (fun z => .inr (.inl z)) fun z => .inr (.inr (i _ z))), h4.cut hD hl i⟩
theorem RW.cut (hD : H D = some (.lst acc)) (hl : w.live D) (i : ∀ a, P a → w.p a) {x : W} {v : V} (h : RW K w H x v) : RW K (w.sub P) (cutH H D) x v := by
  cases h with
  | v h => exact .v (h.cut hD hl i)
  | ro h1 h2 => exact .ro (sqR_cut hD h1) (h2.cut hD hl i)
  | tv h1 h2 => exact .tv (let ⟨its, n, q⟩ := h1; ⟨its, n, by rw [cutH_ne (fun e => by subst e; rw [hD] at q; cases q)]; exact q⟩) (h2.cut hD hl i)
  | exc h1 h2 h3 h4 h5 h6 => exact .exc (by rw [cutH_ne (fun e => h2 (by rw [e]; exact hl))]; exact h1) (fun z => h2 (z.elim .inl fun z => z.elim (fun z => .inr (.inl z)) fun z => .inr (.inr (i _ z)))) h3 h4 h5 (h6.cut hD hl i)
  | ref h => exact .ref h
  | loc h1 h2 => exact .loc h1 h2
theorem Rl.cut {m : Mem} (r : Rl K w m H) (hD : H D = some (.lst acc)) (hl : w.p D) (i : ∀ a, P a → w.p a ∧ a ≠ D) : Rl K (w.sub P) m (cutH H D) where
  lenS := r.lenS
  lenL := r.lenL
  ndS := r.ndS
  ndL := r.ndL
  ap := r.ap
  apP := fun a h => by
    obtain ⟨h1, h2, u, h3⟩ := r.apP a (i a h).1
    exact ⟨h1, h2, u, by rw [cutH_ne (i a h).2]; exact h3⟩
  s := fun n u a h1 h2 => by
    have ne : a ≠ D := fun e => by subst e; exact (r.apP _ hl).1 (List.mem_of_getElem? h2)
    have z := r.s n u a h1 h2
    cases u with
    | lst ds => obtain ⟨xs, e1, q⟩ := z; exact ⟨xs, by rw [cutH_ne ne]; exact e1, q.cut hD (.inr (.inr hl)) fun a h => (i a h).1⟩
    | ro ds => obtain ⟨u, xs, e1, q⟩ := z; exact ⟨u, xs, by rw [cutH_ne ne]; exact e1, q.cut hD (.inr (.inr hl)) fun a h => (i a h).1⟩
    | ins c fs => obtain ⟨C, dx, gs, e0, e1, q, l⟩ := z; exact ⟨C, dx, gs, e0, by rw [cutH_ne ne]; exact e1, paired_imp (fun _ _ z => ⟨z.1, z.2.cut hD (.inr (.inr hl)) fun a h => (i a h).1⟩) q, l⟩
  l := fun n u x h1 h2 => by
    have z := r.l n u x h1 h2
    cases u with
    | dead => exact z
    | lst ds =>
      obtain ⟨a, xs, e0, e1, q⟩ := z
      subst e0
      have ne : a ≠ D := fun e => by subst e; exact (r.apP _ hl).2.1 (List.mem_of_getElem? h2)
      exact ⟨a, xs, rfl, by rw [cutH_ne ne]; exact e1, paired_imp (fun _ _ r => r.cut hD (.inr (.inr hl)) fun a h => (i a h).1) q⟩
    | dic ks ws =>
      obtain ⟨a, vs, e0, e1, l, q⟩ := z
      subst e0
      have ne : a ≠ D := fun e => by subst e; exact (r.apP _ hl).2.1 (List.mem_of_getElem? h2)
      exact ⟨a, vs, rfl, by rw [cutH_ne ne]; exact e1, l, paired_imp (fun _ _ z => z.cut hD (.inr (.inr hl)) fun a h => (i a h).1) q⟩
theorem Ext.cut {o : HO} (e : Ext (w.add D) (upd H D o) w' H') (hD : H D = none) (hw : ¬ w.live D) : Ext w H (w'.sub w.p) (cutH H' D) where
  mu := e.mu
  ln := e.ln
  l := e.l
  p := rfl
  keep := fun a u h n => by
    have ne := ne_of_none h hD
    obtain ⟨h1, h2⟩ := e.keep a u (by rw [upd_ne ne]; exact h) fun z => (Wd.add_live.mp z).elim n ne
    refine ⟨by rw [cutH_ne ne]; exact h1, fun z => h2 ?_⟩
    rcases z with z | z | z
    · exact .inl z
    · exact .inr (.inl z)
    · exact .inr (.inr (by rw [e.p]; exact .inl z))
  pk := fun a u hp h => by
    have ne := ne_of_none h hD
    rw [cutH_ne ne]
    exact e.pk a u (.inl hp) (by rw [upd_ne ne]; exact h)
  tup := fun a xs h => by
    have ne := ne_of_none h hD
    rw [cutH_ne ne]
    exact e.tup a xs (by rw [upd_ne ne]; exact h)
  frz := fun a x u h => by
    have ne := ne_of_none h hD
    rw [cutH_ne ne]
    exact e.frz a x u (by rw [upd_ne ne]; exact h)
end
section
variable {acc acc' : List V}
theorem sqT_wr {a : Addr} {xs : List V} (hD : H D = some (.lst acc)) (h : SqT K H a xs) : SqT K (upd H D (.lst acc')) a xs := by
  rcases h with (h | ⟨u, h⟩) | h
  · exact .inl (.inl (by rw [upd_ne (fun e => by subst e; rw [hD] at h; cases h)]; exact h))
  · exact .inl (.inr ⟨u, by rw [upd_ne (fun e => by subst e; rw [hD] at h; cases h)]; exact h⟩)
  · exact .inr h
mutual
theorem RD.wr (hD : H D = some (.lst acc)) (hl : w.live D) : ∀ {d : PyData} {v : V}, RD K w H d v → RD K w (upd H D (.lst acc')) d v
  | _, _, .non => .non
  | _, _, .bl b => .bl b
  | _, _, .int i => .int i
  | _, _, .str x => .str x
  | _, _, .lst h n r => .lst (by rw [upd_ne (fun e => n (by rw [e]; exact hl))]; exact h) n (RDs.wr hD hl r)
  | _, _, .tup h r => .tup (sqT_wr hD h) (RDs.wr hD hl r)
  | _, _, .dct h l r => .dct (by rw [upd_ne (fun e => by subst e; rw [hD] at h; cases h)]; exact h) l (RDs.wr hD hl r)
theorem RDs.wr (hD : H D = some (.lst acc)) (hl : w.live D) : ∀ {ds : List PyData} {vs : List V}, RDs K w H ds vs → RDs K w (upd H D (.lst acc')) ds vs
  | _, _, .nil => .nil
  | _, _, .cons a b => .cons (RD.wr hD hl a) (RDs.wr hD hl b)
end
theorem sqR_wr {a : Addr} {xs : List V} (hD : H D = some (.lst acc)) (h : SqR K H a xs) : SqR K (upd H D (.lst acc')) a xs := by
  rcases h with ⟨u, h⟩ | h
  · exact .inl ⟨u, by rw [upd_ne (fun e => by subst e; rw [hD] at h; cases h)]; exact h⟩
  · exact .inr h
theorem RXf.wr (hD : H D = some (.lst acc)) (hl : w.live D) {fs : Option (List Str × List PyData)} {d : Option Addr} (h : RXf K w H fs d) : RXf K w (upd H D (.lst acc')) fs d := by
  cases fs with
  | none => exact h
  | some p =>
    obtain ⟨ns, ds⟩ := p
    obtain ⟨dx, vs, h1, h2, h3, h4⟩ := h
    exact ⟨dx, vs, h1, by rw [upd_ne (fun e => h3 (by rw [e]; exact hl))]; exact h2, h3, h4.wr hD hl⟩
theorem RW.wr (hD : H D = some (.lst acc)) (hl : w.live D) {x : W} {v : V} (h : RW K w H x v) : RW K w (upd H D (.lst acc')) x v := by
  cases h with
  | v h => exact .v (h.wr hD hl)
  | ro h1 h2 => exact .ro (sqR_wr hD h1) (h2.wr hD hl)
  | tv h1 h2 => exact .tv (let ⟨its, n, q⟩ := h1; ⟨its, n, by rw [upd_ne (fun e => by subst e; rw [hD] at q; cases q)]; exact q⟩) (h2.wr hD hl)
  | exc h1 h2 h3 h4 h5 h6 => exact .exc (by rw [upd_ne (fun e => h2 (by rw [e]; exact hl))]; exact h1) h2 h3 h4 h5 (h6.wr hD hl)
  | ref h => exact .ref h
  | loc h1 h2 => exact .loc h1 h2
theorem Rl.wr {m : Mem} (r : Rl K w m H) (hD : H D = some (.lst acc)) (hl : w.p D) : Rl K w m (upd H D (.lst acc')) where
  lenS := r.lenS
  lenL := r.lenL
  ndS := r.ndS
  ndL := r.ndL
  ap := r.ap
  apP := fun a h => by
    obtain ⟨h1, h2, u, h3⟩ := r.apP a h
    refine ⟨h1, h2, ?_⟩
    by_cases e : a = D
    · exact ⟨_, by rw [e, upd_same]⟩
    · exact ⟨u, by rw [upd_ne e]; exact h3⟩
  s := fun n u a h1 h2 => by
    have ne : a ≠ D := fun e => by subst e; exact (r.apP _ hl).1 (List.mem_of_getElem? h2)
    have z := r.s n u a h1 h2
    cases u with
    | lst ds => obtain ⟨xs, e1, q⟩ := z; exact ⟨xs, by rw [upd_ne ne]; exact e1, q.wr hD (.inr (.inr hl))⟩
    | ro ds => obtain ⟨u, xs, e1, q⟩ := z; exact ⟨u, xs, by rw [upd_ne ne]; exact e1, q.wr hD (.inr (.inr hl))⟩
    | ins c fs => obtain ⟨C, dx, gs, e0, e1, q, l⟩ := z; exact ⟨C, dx, gs, e0, by rw [upd_ne ne]; exact e1, paired_imp (fun _ _ z => ⟨z.1, z.2.wr hD (.inr (.inr hl))⟩) q, l⟩
  l := fun n u x h1 h2 => by
    have z := r.l n u x h1 h2
    cases u with
    | dead => exact z
    | lst ds =>
      obtain ⟨a, xs, e0, e1, q⟩ := z
      subst e0
      have ne : a ≠ D := fun e => by subst e; exact (r.apP _ hl).2.1 (List.mem_of_getElem? h2)
      exact ⟨a, xs, rfl, by rw [upd_ne ne]; exact e1, paired_imp (fun _ _ r => r.wr hD (.inr (.inr hl))) q⟩
    | dic ks ws =>
      obtain ⟨a, vs, e0, e1, l, q⟩ := z
      subst e0
      have ne : a ≠ D := fun e => by subst e; exact (r.apP _ hl).2.1 (List.mem_of_getElem? h2)
      exact ⟨a, vs, rfl, by rw [upd_ne ne]; exact e1, l, paired_imp (fun _ _ z => z.wr hD (.inr (.inr hl))) q⟩
end
section
variable {w1 w2 : Wd} {H1 H2 : Hp} {acc : List V}
theorem Ext.cut2 (e : Ext w1 H1 w2 H2) (hp : w1.p = (w.add D).p) (hD : H1 D = some (.lst acc)) : Ext (w1.sub w.p) (cutH H1 D) (w2.sub w.p) (cutH H2 D) where
  mu := e.mu
  ln := e.ln
  l := e.l
  p := rfl
  keep := fun a u h n => by
    have ne : a ≠ D := fun z => by rw [z, cutH_self] at h; cases h
    rw [cutH_ne ne] at h ⊢
    have n1 : ¬ w1.live a := by
      rintro (z | z | z)
      · exact n (.inl z)
      · exact n (.inr (.inl z))
      · rw [hp] at z
        rcases z with z | z
        · exact n (.inr (.inr z))
        · exact ne z
    obtain ⟨g1, g2⟩ := e.keep a u h n1
    refine ⟨g1, fun z => g2 ?_⟩
    rcases z with z | z | z
    · exact .inl z
    · exact .inr (.inl z)
    · exact .inr (.inr (by rw [e.p, hp]; exact .inl z))
  pk := fun a u q h => by
    have ne : a ≠ D := fun z => by rw [z, cutH_self] at h; cases h
    rw [cutH_ne ne] at h ⊢
    exact e.pk a u (by rw [hp]; exact .inl q) h
  tup := fun a xs h => by
    have ne : a ≠ D := fun z => by rw [z, cutH_self] at h; cases h
    rw [cutH_ne ne] at h ⊢
    exact e.tup a xs h
  frz := fun a x u h => by
    have ne : a ≠ D := fun z => by rw [z, cutH_self] at h; cases h
    rw [cutH_ne ne] at h ⊢
    exact e.frz a x u h
theorem Ext.cut2G (e : Ext w1 H1 w2 H2) (hp : w1.p = (w.add D).p) : Ext (w1.sub w.p) (cutH H1 D) (w2.sub w.p) (cutH H2 D) where
  mu := e.mu
  ln := e.ln
  l := e.l
  p := rfl
  keep := fun a u h n => by
    have ne : a ≠ D := fun z => by rw [z, cutH_self] at h; cases h
    rw [cutH_ne ne] at h ⊢
    have n1 : ¬ w1.live a := by
      rintro (z | z | z)
      · exact n (.inl z)
      · exact n (.inr (.inl z))
      · rw [hp] at z
        rcases z with z | z
        · exact n (.inr (.inr z))
        · exact ne z
    obtain ⟨g1, g2⟩ := e.keep a u h n1
    refine ⟨g1, fun z => g2 ?_⟩
    rcases z with z | z | z
    · exact .inl z
    · exact .inr (.inl z)
    · exact .inr (.inr (by rw [e.p, hp]; exact .inl z))
  pk := fun a u q h => by
    have ne : a ≠ D := fun z => by rw [z, cutH_self] at h; cases h
    rw [cutH_ne ne] at h ⊢
    exact e.pk a u (by rw [hp]; exact .inl q) h
  tup := fun a xs h => by
    have ne : a ≠ D := fun z => by rw [z, cutH_self] at h; cases h
    rw [cutH_ne ne] at h ⊢
    exact e.tup a xs h
  frz := fun a x u h => by
    have ne : a ≠ D := fun z => by rw [z, cutH_self] at h; cases h
    rw [cutH_ne ne] at h ⊢
    exact e.frz a x u h
theorem cut_upd {o : HO} : cutH (upd H D o) D = cutH H D := by
  funext a
  by_cases e : a = D
  · rw [e, cutH_self, cutH_self]
  · rw [cutH_ne e, cutH_ne e, upd_ne e]
theorem cut_none (h : H D = none) : cutH H D = H := by
  funext a
  by_cases e : a = D
  · rw [e, cutH_self, h]
  · rw [cutH_ne e]
end
/-! ### the same for any object that is written -/
def NoFz (h0 : HO) : Prop := (∀ xs, h0 ≠ .tup xs) ∧ ∀ o u, h0 ≠ .frz o u
section
variable {P : Addr → Prop} {h0 : HO}
theorem sqT_cutG {a : Addr} {xs : List V} (hD : H D = some h0) (n0 : NoFz h0) (h : SqT K H a xs) : SqT K (cutH H D) a xs := by
  rcases h with (h | ⟨u, h⟩) | h
  · exact .inl (.inl (by rw [cutH_ne (fun e => by subst e; rw [hD] at h; cases h; first | exact n0.1 _ rfl | exact n0.2 _ _ rfl)]; exact h))
  · exact .inl (.inr ⟨u, by rw [cutH_ne (fun e => by subst e; rw [hD] at h; cases h; first | exact n0.1 _ rfl | exact n0.2 _ _ rfl)]; exact h⟩)
  · exact .inr h
mutual
theorem RD.cutG (hD : H D = some h0) (n0 : NoFz h0) (hl : w.live D) (i : ∀ a, P a → w.p a) : ∀ {d : PyData} {v : V}, RD K w H d v → RD K (w.sub P) (cutH H D) d v
  | _, _, .non => .non
  | _, _, .bl b => .bl b
  | _, _, .int i => .int i
  | _, _, .str x => .str x
  | _, _, .lst h n r => .lst (by rw [cutH_ne (fun e => n (by rw [e]; exact hl))]; exact h) (fun z => n (z.elim .inl fun z => z.elim (fun z => .inr (.inl z)) fun z => .inr (.inr (i _ z)))) (RDs.cutG hD n0 hl i r)
  | _, _, .tup h r => .tup (sqT_cutG hD n0 h) (RDs.cutG hD n0 hl i r)
  | _, _, .dct h l r => .dct (by rw [cutH_ne (fun e => by subst e; rw [hD] at h; cases h; first | exact n0.1 _ rfl | exact n0.2 _ _ rfl)]; exact h) l (RDs.cutG hD n0 hl i r)
theorem RDs.cutG (hD : H D = some h0) (n0 : NoFz h0) (hl : w.live D) (i : ∀ a, P a → w.p a) : ∀ {ds : List PyData} {vs : List V}, RDs K w H ds vs → RDs K (w.sub P) (cutH H D) ds vs
  | _, _, .nil => .nil
  | _, _, .cons a b => .cons (RD.cutG hD n0 hl i a) (RDs.cutG hD n0 hl i b)
end
theorem sqR_cutG {a : Addr} {xs : List V} (hD : H D = some h0) (n0 : NoFz h0) (h : SqR K H a xs) : SqR K (cutH H D) a xs := by
  rcases h with ⟨u, h⟩ | h
  · exact .inl ⟨u, by rw [cutH_ne (fun e => by subst e; rw [hD] at h; cases h; first | exact n0.1 _ rfl | exact n0.2 _ _ rfl)]; exact h⟩
  · exact .inr h
theorem RXf.cutG (hD : H D = some h0) (n0 : NoFz h0) (hl : w.live D) (i : ∀ a, P a → w.p a) {fs : Option (List Str × List PyData)} {d : Option Addr} (h : RXf K w H fs d) : RXf K (w.sub P) (cutH H D) fs d := by
  cases fs with
  | none => exact h
  | some p =>
    obtain ⟨ns, ds⟩ := p
    obtain ⟨dx, vs, h1, h2, h3, h4⟩ := h
    exact ⟨dx, vs, h1, by rw [cutH_ne (fun e => h3 (by rw [e]; exact hl))]; exact h2, fun z => h3 (z.elim .inl fun z => z.elim (fun z => .inr (.inl z)) fun z => .inr (.inr (i _ z))), h4.cutG hD n0 hl i⟩
theorem RW.cutG (hD : H D = some h0) (n0 : NoFz h0) (hl : w.live D) (i : ∀ a, P a → w.p a) {x : W} {v : V} (h : RW K w H x v) : RW K (w.sub P) (cutH H D) x v := by
  cases h with
  | v h => exact .v (h.cutG hD n0 hl i)
  | ro h1 h2 => exact .ro (sqR_cutG hD n0 h1) (h2.cutG hD n0 hl i)
  | tv h1 h2 => exact .tv (let ⟨its, n, q⟩ := h1; ⟨its, n, by rw [cutH_ne (fun e => by subst e; rw [hD] at q; cases q; first | exact n0.1 _ rfl | exact n0.2 _ _ rfl)]; exact q⟩) (h2.cutG hD n0 hl i)
  | exc h1 h2 h3 h4 h5 h6 => exact .exc (by rw [cutH_ne (fun e => h2 (by rw [e]; exact hl))]; exact h1) (fun z => h2 (z.elim .inl fun z => z.elim (fun z => .inr (.inl z)) fun z => .inr (.inr (i _ z)))) h3 h4 h5 (h6.cutG hD n0 hl i)
  | ref h => exact .ref h
  | loc h1 h2 => exact .loc h1 h2
theorem Rl.cutG {m : Mem} (r : Rl K w m H) (hD : H D = some h0) (n0 : NoFz h0) (hl : w.p D) (i : ∀ a, P a → w.p a ∧ a ≠ D) : Rl K (w.sub P) m (cutH H D) where
  lenS := r.lenS
  lenL := r.lenL
  ndS := r.ndS
  ndL := r.ndL
  ap := r.ap
  apP := fun a h => by
    obtain ⟨h1, h2, u, h3⟩ := r.apP a (i a h).1
    exact ⟨h1, h2, u, by rw [cutH_ne (i a h).2]; exact h3⟩
  s := fun n u a h1 h2 => by
    have ne : a ≠ D := fun e => by subst e; exact (r.apP _ hl).1 (List.mem_of_getElem? h2)
    have z := r.s n u a h1 h2
    cases u with
    | lst ds => obtain ⟨xs, e1, q⟩ := z; exact ⟨xs, by rw [cutH_ne ne]; exact e1, q.cutG hD n0 (.inr (.inr hl)) fun a h => (i a h).1⟩
    | ro ds => obtain ⟨u, xs, e1, q⟩ := z; exact ⟨u, xs, by rw [cutH_ne ne]; exact e1, q.cutG hD n0 (.inr (.inr hl)) fun a h => (i a h).1⟩
    | ins c fs => obtain ⟨C, dx, gs, e0, e1, q, l⟩ := z; exact ⟨C, dx, gs, e0, by rw [cutH_ne ne]; exact e1, paired_imp (fun _ _ z => ⟨z.1, z.2.cutG hD n0 (.inr (.inr hl)) fun a h => (i a h).1⟩) q, l⟩
  l := fun n u x h1 h2 => by
    have z := r.l n u x h1 h2
    cases u with
    | dead => exact z
    | lst ds =>
      obtain ⟨a, xs, e0, e1, q⟩ := z
      subst e0
      have ne : a ≠ D := fun e => by subst e; exact (r.apP _ hl).2.1 (List.mem_of_getElem? h2)
      exact ⟨a, xs, rfl, by rw [cutH_ne ne]; exact e1, paired_imp (fun _ _ r => r.cutG hD n0 (.inr (.inr hl)) fun a h => (i a h).1) q⟩
    | dic ks ws =>
      obtain ⟨a, vs, e0, e1, l, q⟩ := z
      subst e0
      have ne : a ≠ D := fun e => by subst e; exact (r.apP _ hl).2.1 (List.mem_of_getElem? h2)
      exact ⟨a, vs, rfl, by rw [cutH_ne ne]; exact e1, l, paired_imp (fun _ _ z => z.cutG hD n0 (.inr (.inr hl)) fun a h => (i a h).1) q⟩
end
section
variable {h0 h1 : HO}
theorem sqT_wrG {a : Addr} {xs : List V} (hD : H D = some h0) (n0 : NoFz h0) (h : SqT K H a xs) : SqT K (upd H D h1) a xs := by
  rcases h with (h | ⟨u, h⟩) | h
  · exact .inl (.inl (by rw [upd_ne (fun e => by subst e; rw [hD] at h; cases h; first | exact n0.1 _ rfl | exact n0.2 _ _ rfl)]; exact h))
  · exact .inl (.inr ⟨u, by rw [upd_ne (fun e => by subst e; rw [hD] at h; cases h; first | exact n0.1 _ rfl | exact n0.2 _ _ rfl)]; exact h⟩)
  · exact .inr h
mutual
theorem RD.wrG (hD : H D = some h0) (n0 : NoFz h0) (hl : w.live D) : ∀ {d : PyData} {v : V}, RD K w H d v → RD K w (upd H D h1) d v
  | _, _, .non => .non
  | _, _, .bl b => .bl b
  | _, _, .int i => .int i
  | _, _, .str x => .str x
  | _, _, .lst h n r => .lst (by rw [upd_ne (fun e => n (by rw [e]; exact hl))]; exact h) n (RDs.wrG hD n0 hl r)
  | _, _, .tup h r => .tup (sqT_wrG hD n0 h) (RDs.wrG hD n0 hl r)
  | _, _, .dct h l r => .dct (by rw [upd_ne (fun e => by subst e; rw [hD] at h; cases h; first | exact n0.1 _ rfl | exact n0.2 _ _ rfl)]; exact h) l (RDs.wrG hD n0 hl r)
theorem RDs.wrG (hD : H D = some h0) (n0 : NoFz h0) (hl : w.live D) : ∀ {ds : List PyData} {vs : List V}, RDs K w H ds vs → RDs K w (upd H D h1) ds vs
  | _, _, .nil => .nil
  | _, _, .cons a b => .cons (RD.wrG hD n0 hl a) (RDs.wrG hD n0 hl b)
end
theorem sqR_wrG {a : Addr} {xs : List V} (hD : H D = some h0) (n0 : NoFz h0) (h : SqR K H a xs) : SqR K (upd H D h1) a xs := by
  rcases h with ⟨u, h⟩ | h
  · exact .inl ⟨u, by rw [upd_ne (fun e => by subst e; rw [hD] at h; cases h; first | exact n0.1 _ rfl | exact n0.2 _ _ rfl)]; exact h⟩
  · exact .inr h
theorem RXf.wrG (hD : H D = some h0) (n0 : NoFz h0) (hl : w.live D) {fs : Option (List Str × List PyData)} {d : Option Addr} (h : RXf K w H fs d) : RXf K w (upd H D h1) fs d := by
  cases fs with
  | none => exact h
  | some p =>
    obtain ⟨ns, ds⟩ := p
    obtain ⟨dx, vs, h1, h2, h3, h4⟩ := h
    exact ⟨dx, vs, h1, by rw [upd_ne (fun e => h3 (by rw [e]; exact hl))]; exact h2, h3, h4.wrG hD n0 hl⟩
theorem RW.wrG (hD : H D = some h0) (n0 : NoFz h0) (hl : w.live D) {x : W} {v : V} (h : RW K w H x v) : RW K w (upd H D h1) x v := by
  cases h with
  | v h => exact .v (h.wrG hD n0 hl)
  | ro h1 h2 => exact .ro (sqR_wrG hD n0 h1) (h2.wrG hD n0 hl)
  | tv h1 h2 => exact .tv (let ⟨its, n, q⟩ := h1; ⟨its, n, by rw [upd_ne (fun e => by subst e; rw [hD] at q; cases q; first | exact n0.1 _ rfl | exact n0.2 _ _ rfl)]; exact q⟩) (h2.wrG hD n0 hl)
  | exc h1 h2 h3 h4 h5 h6 => exact .exc (by rw [upd_ne (fun e => h2 (by rw [e]; exact hl))]; exact h1) h2 h3 h4 h5 (h6.wrG hD n0 hl)
  | ref h => exact .ref h
  | loc h1 h2 => exact .loc h1 h2
theorem Rl.wrG {m : Mem} (r : Rl K w m H) (hD : H D = some h0) (n0 : NoFz h0) (hl : w.p D) : Rl K w m (upd H D h1) where
  lenS := r.lenS
  lenL := r.lenL
  ndS := r.ndS
  ndL := r.ndL
  ap := r.ap
  apP := fun a h => by
    obtain ⟨h1, h2, u, h3⟩ := r.apP a h
    refine ⟨h1, h2, ?_⟩
    by_cases e : a = D
    · exact ⟨_, by rw [e, upd_same]⟩
    · exact ⟨u, by rw [upd_ne e]; exact h3⟩
  s := fun n u a h1 h2 => by
    have ne : a ≠ D := fun e => by subst e; exact (r.apP _ hl).1 (List.mem_of_getElem? h2)
    have z := r.s n u a h1 h2
    cases u with
    | lst ds => obtain ⟨xs, e1, q⟩ := z; exact ⟨xs, by rw [upd_ne ne]; exact e1, q.wrG hD n0 (.inr (.inr hl))⟩
    | ro ds => obtain ⟨u, xs, e1, q⟩ := z; exact ⟨u, xs, by rw [upd_ne ne]; exact e1, q.wrG hD n0 (.inr (.inr hl))⟩
    | ins c fs => obtain ⟨C, dx, gs, e0, e1, q, l⟩ := z; exact ⟨C, dx, gs, e0, by rw [upd_ne ne]; exact e1, paired_imp (fun _ _ z => ⟨z.1, z.2.wrG hD n0 (.inr (.inr hl))⟩) q, l⟩
  l := fun n u x h1 h2 => by
    have z := r.l n u x h1 h2
    cases u with
    | dead => exact z
    | lst ds =>
      obtain ⟨a, xs, e0, e1, q⟩ := z
      subst e0
      have ne : a ≠ D := fun e => by subst e; exact (r.apP _ hl).2.1 (List.mem_of_getElem? h2)
      exact ⟨a, xs, rfl, by rw [upd_ne ne]; exact e1, paired_imp (fun _ _ r => r.wrG hD n0 (.inr (.inr hl))) q⟩
    | dic ks ws =>
      obtain ⟨a, vs, e0, e1, l, q⟩ := z
      subst e0
      have ne : a ≠ D := fun e => by subst e; exact (r.apP _ hl).2.1 (List.mem_of_getElem? h2)
      exact ⟨a, vs, rfl, by rw [upd_ne ne]; exact e1, l, paired_imp (fun _ _ z => z.wrG hD n0 (.inr (.inr hl))) q⟩
end
end
end Z
set_option maxHeartbeats 1000000
/-! Y6: targets, what is walked. -/
namespace Z
open PySem PySem.Spec PyProof.Rows L2 RZ
/-! ### targets -/
mutual
def slots : G → List Nat
  | .nm i => [i]
  | .tp gs => slotss gs
def slotss : GS → List Nat
  | .nil => []
  | .cons g r => slots g ++ slotss r
end
/-- unlike only at some slots -/
def Like (vs : List Nat) (σ σ' : St) : Prop := σ'.length = σ.length ∧ ∀ j, j ∉ vs → σ'[j]? = σ[j]?
theorem Like.trans {a b : List Nat} {σ σ1 σ2 : St} (h : Like a σ σ1) (k : Like b σ1 σ2) : Like (a ++ b) σ σ2 := ⟨k.1.trans h.1, fun j hj => (k.2 j fun z => hj (List.mem_append_right _ z)).trans (h.2 j fun z => hj (List.mem_append_left _ z))⟩
def tG (K : PySem.W.Frag) (g : G) : TG := fun v σ H Q => ∃ ρ w a ρ', RE K w H ρ σ ∧ RW K w H a v ∧ asg g a ρ = some ρ' ∧ ∀ σ', RE K w H ρ' σ' → Like (slots g) σ σ' → Q σ' H
def tGs (K : PySem.W.Frag) (gs : GS) : TGs := fun vs σ H Q => ∃ ρ w as ρ', RE K w H ρ σ ∧ RWs K w H as vs ∧ asgs gs as ρ = some ρ' ∧ ∀ σ', RE K w H ρ' σ' → Like (slotss gs) σ σ' → Q σ' H
theorem PGimp {X : Cx} {e : Expr} {t t' : TG} (h : PG X e t) (i : ∀ v σ H Q, t' v σ H Q → t v σ H Q) : PG X e t' := ⟨fun pins s σ H v u Q I r q => h.run pins s σ H v u Q I r (i _ _ _ _ q)⟩
theorem PGsimp {X : Cx} {e : List Expr} {t t' : TGs} (h : PGs X e t) (i : ∀ v σ H Q, t' v σ H Q → t v σ H Q) : PGs X e t' := ⟨fun pins s σ H v u Q I r q => h.run pins s σ H v u Q I r (i _ _ _ _ q)⟩
theorem PG.or {X : Cx} {e : Expr} {t u : TG} (h : PG X e t) (k : PG X e u) : PG X e (fun v σ H Q => t v σ H Q ∨ u v σ H Q) := ⟨fun pins s σ H v x Q I r q => q.elim (fun q => h.run pins s σ H v x Q I r q) (fun q => k.run pins s σ H v x Q I r q)⟩
def lenGS : GS → Nat
  | .nil => 0
  | .cons _ r => lenGS r + 1
/-- a name that may be stored -/
def locN (Γ : Gm) (x : Str) : Bool := decide (Γ.on.lookup x = some .local) || decide (Γ.on.lookup x = some .cell)
mutual
/-- own: the names whose cells are made here (a comprehension's), none: a def -/
def chkG (Γ : Gm) : G → Expr → Bool
  | .nm i, .Name x _ => decide (Γ.N[i]? = some x) && locN Γ x
  | .tp gs, .Tuple es _ _ => chkGs Γ gs es
  | _, _ => false
def chkGs (Γ : Gm) : GS → List Expr → Bool
  | .nil, [] => true
  | .cons g r, e :: es => chkG Γ g e && chkGs Γ r es
  | _, _ => false
end
theorem asgs_len : ∀ {gs : GS} {as : List W} {ρ ρ' : Env}, asgs gs as ρ = some ρ' → as.length = lenGS gs
  | .nil, [], _, _, _ => rfl
  | .cons g r, a :: as, ρ, ρ', h => by
    unfold asgs at h
    cases q : asg g a ρ with
    | none => rw [q] at h; cases h
    | some ρ1 =>
      rw [q] at h
      exact congrArg (· + 1) (asgs_len (gs := r) (as := as) h)
  | .nil, _ :: _, _, _, h => by unfold asgs at h; cases h
  | .cons _ _, [], _, _, h => by unfold asgs at h; cases h
theorem assignEach_cons {e : Expr} {es : List Expr} {env : PySem.Env} (h : ∀ t p, e ≠ .Starred t p) : assignEach (e :: es) env = (false, assign e env) :: assignEach es env := by
  cases e <;> first | rfl | exact absurd rfl (h _ _)
theorem chkG_star {Γ : Gm} {g : G} {e : Expr} (h : chkG Γ g e = true) : ∀ t p, e ≠ .Starred t p := by
  intro t p z
  subst z
  cases g <;> exact absurd h (by unfold chkG; exact Bool.false_ne_true)
theorem chkGs_each {Γ : Gm} {env : PySem.Env} : ∀ {gs : GS} {es : List Expr}, chkGs Γ gs es = true → (assignEach es env).length = lenGS gs ∧ (assignEach es env).findIdx? (·.1) = none
  | .nil, [], _ => ⟨rfl, rfl⟩
  | .cons g r, e :: es, h => by
    unfold chkGs at h
    rw [Bool.and_eq_true] at h
    obtain ⟨i1, i2⟩ := chkGs_each (env := env) (gs := r) (es := es) h.2
    rw [assignEach_cons (chkG_star h.1)]
    refine ⟨congrArg (· + 1) i1, ?_⟩
    rw [List.findIdx?_cons]
    simp only [Bool.false_eq_true, if_false, i2, Option.map_none]
  | .nil, _ :: _, h => by unfold chkGs at h; cases h
  | .cons _ _, [], h => by unfold chkGs at h; cases h
theorem asg_nm {i : Nat} {a : W} {ρ ρ' : Env} (h : asg (.nm i) a ρ = some ρ') : i < ρ.length ∧ ρ' = ρ.set i (some a) := by
  simp only [asg] at h
  split at h
  · rename_i hi
    cases h
    exact ⟨hi, rfl⟩
  · cases h
theorem asg_tp {gs : GS} {a : W} {ρ ρ' : Env} (h : asg (.tp gs) a ρ = some ρ') : ∃ ds, (a = .v (.tuple ds) ∨ a = .v (.list ds)) ∧ asgs gs (ds.map .v) ρ = some ρ' := by
  cases a with
  | v d => cases d with
    | tuple ds => simp only [asg] at h; exact ⟨ds, .inl rfl, h⟩
    | list ds => simp only [asg] at h; exact ⟨ds, .inr rfl, h⟩
    | _ => simp only [asg] at h; cases h
  | _ => simp only [asg] at h; cases h
theorem asgs_nil {as : List W} {ρ ρ' : Env} (h : asgs .nil as ρ = some ρ') : as = [] ∧ ρ' = ρ := by
  cases as with
  | nil => simp only [asgs] at h; cases h; exact ⟨rfl, rfl⟩
  | cons a r => simp only [asgs] at h; cases h
theorem asgs_cons {g : G} {r : GS} {as : List W} {ρ ρ' : Env} (h : asgs (.cons g r) as ρ = some ρ') : ∃ a t ρ1, as = a :: t ∧ asg g a ρ = some ρ1 ∧ asgs r t ρ1 = some ρ' := by
  cases as with
  | nil => simp only [asgs] at h; cases h
  | cons a t =>
    simp only [asgs] at h
    cases q : asg g a ρ with
    | none => rw [q] at h; cases h
    | some ρ1 => rw [q] at h; exact ⟨a, t, ρ1, rfl, q, h⟩
theorem chkG_nm {Γ : Gm} {i : Nat} {e : Expr} (h : chkG Γ (.nm i) e = true) : ∃ x p, e = .Name x p ∧ Γ.N[i]? = some x ∧ locN Γ x = true := by
  cases e <;> first | exact absurd h Bool.false_ne_true | skip
  rename_i x p
  have h : (decide (Γ.N[i]? = some x) && locN Γ x) = true := h
  rw [Bool.and_eq_true, decide_eq_true_eq] at h
  exact ⟨x, p, rfl, h⟩
theorem chkG_tp {Γ : Gm} {gs : GS} {e : Expr} (h : chkG Γ (.tp gs) e = true) : ∃ es k p, e = .Tuple es k p ∧ chkGs Γ gs es = true := by
  cases e <;> first | exact absurd h Bool.false_ne_true | exact ⟨_, _, _, rfl, h⟩
theorem chkGs_nil {Γ : Gm} {es : List Expr} (h : chkGs Γ .nil es = true) : es = [] := by
  cases es with
  | nil => rfl
  | cons _ _ => exact absurd h Bool.false_ne_true
theorem chkGs_cons {Γ : Gm} {g : G} {r : GS} {es : List Expr} (h : chkGs Γ (.cons g r) es = true) : ∃ e t, es = e :: t ∧ chkG Γ g e = true ∧ chkGs Γ r t = true := by
  cases es with
  | nil => exact absurd h Bool.false_ne_true
  | cons e t => exact ⟨e, t, rfl, Bool.and_eq_true_iff.mp h⟩
/-- where names may be stored: in a def all, in a comprehension's block its own -/
structure Sto (X : Cx) (Γ : Gm) : Prop where
  N : X.N = Γ.N
  nd : X.N.Nodup
  calm : X.calm = true
  s : ∀ x, locN Γ x = true → Loc X.env.scope x ∧ (X.fn x = true ∨ X.env.scope.names.lookup x = some .local)
section
variable {X : Cx} {Γ : Gm}
mutual
theorem pgZ (S : Sto X Γ) : ∀ (g : G) (e : Expr), chkG Γ g e = true → PG X e (tG X.K g)
  | .nm i, e, h => by
    obtain ⟨x, p, rfl, h1, h2⟩ := chkG_nm h
    obtain ⟨l1, l2⟩ := S.s x h2
    refine PGimp (pg_name (i := i) S.nd (by rw [S.N]; exact h1) l1 l2) fun v σ H Q q => ?_
    obtain ⟨ρ, w, a, ρ', re, r, e, q⟩ := q
    obtain ⟨_, rfl⟩ := asg_nm e
    refine q _ (re.set r) ⟨by simp, fun j hj => ?_⟩
    have : i ≠ j := fun z => hj (by simp [slots, z])
    rw [List.getElem?_set_ne this]
  | .tp gs, e, h => by
    obtain ⟨es, k, p, rfl, h⟩ := chkG_tp h
    have ih := pgsZ S gs es h
    obtain ⟨c1, c2⟩ := chkGs_each (env := X.env) h
    refine PGimp (PG.or (pg_tup (n := lenGS gs) S.calm ih c1 c2) (pg_unl (n := lenGS gs) S.calm ih c1 c2)) fun v σ H Q q => ?_
    obtain ⟨ρ, w, a, ρ', re, r, e, q⟩ := q
    obtain ⟨ds, rfl | rfl, e⟩ := asg_tp e
    · cases r with
      | v r =>
        obtain ⟨p, xs, rfl, h1, h2⟩ := RD.tup_ r
        have hl := asgs_len e
        rw [List.length_map, h2.length] at hl
        exact .inl ⟨p, xs, rfl, h1, hl, ρ, w, _, ρ', re, h2.ws, e, q⟩
    · cases r with
      | v r =>
        cases r with
        | lst h1 _ h2 =>
          have hl := asgs_len e
          rw [List.length_map, h2.length] at hl
          exact .inr ⟨_, _, rfl, SqL.of h1, hl, ρ, w, _, ρ', re, h2.ws, e, q⟩
theorem pgsZ (S : Sto X Γ) : ∀ (gs : GS) (es : List Expr), chkGs Γ gs es = true → PGs X es (tGs X.K gs)
  | .nil, es, h => by
    obtain rfl := chkGs_nil h
    refine PGsimp pgs_nil fun v σ H Q q => ?_
    obtain ⟨ρ, w, as, ρ', re, r, e, q⟩ := q
    obtain ⟨rfl, rfl⟩ := asgs_nil e
    cases r
    exact ⟨rfl, q _ re ⟨rfl, fun _ _ => rfl⟩⟩
  | .cons g r, es, h => by
    obtain ⟨e, t, rfl, h1, h2⟩ := chkGs_cons h
    have i1 := pgZ S g e h1
    have i2 := pgsZ S r t h2
    refine PGsimp (pgs_cons i1 i2 (by rw [assignEach_cons (chkG_star h1)]; rfl)) fun v σ H Q q => ?_
    obtain ⟨ρ, w, as, ρ', re, rr, e, q⟩ := q
    obtain ⟨a, t, ρ1, rfl, e1, e2⟩ := asgs_cons e
    cases rr with
    | cons r1 r2 =>
      refine ⟨_, _, rfl, ρ, w, a, ρ1, re, r1, e1, fun σ1 re1 l1 => ?_⟩
      exact ⟨ρ1, w, _, ρ', re1, r2, e2, fun σ2 re2 l2 => q σ2 re2 (l1.trans l2)⟩
end
end
/-! ### what is walked -/
/-- an iterator that gives these data, one behind another, as long as G stands -/
structure WalkZ (K : PySem.W.Frag) (J : It) (ds : List PyData) (G : Wd → Hp → Prop) : Prop where
  ext : ∀ w H w' H', G w H → Ext w H w' H' → G w' H'
  go : ∀ i w H, i < ds.length → G w H → J.go i H
  stop : ∀ w H, G w H → J.stop ds.length H
  add : ∀ w H D o, H D = none → G w H → G (w.add D) (upd H D o)
  wr : ∀ w H D acc acc', w.live D → H D = some (.lst acc) → G w H → G w (upd H D (.lst acc'))
  yld : ∀ i w m H x H' d, ds[i]? = some d → G w H → Rl K w m H → J.yld i H x H' → Ext w H w H' ∧ Rl K w m H' ∧ RD K w H' d x
def relI (K : PySem.W.Frag) : Wd → Hp → List PyData → It → Prop := fun w H ds J => ∃ G, WalkZ K J ds G ∧ G w H
def tI (K : PySem.W.Frag) (C : Orc) (ω : St → EW) (it : IT) : TI := fun σ H R => ∃ ρ m w, RE K w H ρ σ ∧ Rl K w m H ∧ Cont K w H (relI K) R (ω σ) (evI C it ρ m)
theorem PIimp {X : Cx} {tg e : Expr} {t t' : TI} (h : PI X tg e t) (i : ∀ σ H R, t' σ H R → t σ H R) : PI X tg e t' := ⟨fun pins s σ H R I q => h.run pins s σ H R I (i _ _ _ q)⟩
section
variable {K : PySem.W.Frag} {a b : Addr} {xs ys : List V} {ds es : List PyData}
abbrev gL (K : PySem.W.Frag) (a : Addr) (xs : List V) (ds : List PyData) (w : Wd) (H : Hp) : Prop := H a = some (.lst xs) ∧ ¬ w.live a ∧ RDs K w H ds xs
abbrev gT (K : PySem.W.Frag) (a : Addr) (xs : List V) (ds : List PyData) (w : Wd) (H : Hp) : Prop := SqT K H a xs ∧ RDs K w H ds xs
theorem gL_add {w : Wd} {H : Hp} {D : Addr} {o : HO} (hD : H D = none) (g : gL K a xs ds w H) : gL K a xs ds (w.add D) (upd H D o) :=
  ⟨by rw [upd_ne (ne_of_none g.1 hD)]; exact g.1, fun z => (Wd.add_live.mp z).elim g.2.1 fun e => ne_of_none g.1 hD e, g.2.2.add hD⟩
theorem gL_wr {w : Wd} {H : Hp} {D : Addr} {acc acc' : List V} (hl : w.live D) (hD : H D = some (.lst acc)) (g : gL K a xs ds w H) : gL K a xs ds w (upd H D (.lst acc')) :=
  ⟨by rw [upd_ne (fun e => g.2.1 (by rw [e]; exact hl))]; exact g.1, g.2.1, g.2.2.wr hD hl⟩
theorem gT_add {w : Wd} {H : Hp} {D : Addr} {o : HO} (hD : H D = none) (g : gT K a xs ds w H) : gT K a xs ds (w.add D) (upd H D o) := ⟨sqT_upd hD g.1, g.2.add hD⟩
theorem gT_wr {w : Wd} {H : Hp} {D : Addr} {acc acc' : List V} (hl : w.live D) (hD : H D = some (.lst acc)) (g : gT K a xs ds w H) : gT K a xs ds w (upd H D (.lst acc')) := ⟨sqT_wr hD g.1, g.2.wr hD hl⟩
theorem wz_list (G : Wd → Hp → Prop) (hG : ∀ w H, G w H → H a = some (.lst xs) ∧ ¬ w.live a ∧ RDs K w H ds xs) (ext : ∀ w H w' H', G w H → Ext w H w' H' → G w' H')
    (add : ∀ w H D o, H D = none → G w H → G (w.add D) (upd H D o)) (wr : ∀ w H D acc acc', w.live D → H D = some (.lst acc) → G w H → G w (upd H D (.lst acc'))) : WalkZ K (Itl K a) ds G where
  ext := ext
  add := add
  wr := wr
  go := fun i w H hi g => by
    obtain ⟨h1, _, h2⟩ := hG w H g
    rw [h2.length] at hi
    exact ⟨xs, xs[i], SqL.of h1, by simp [hi]⟩
  stop := fun w H g => by
    obtain ⟨h1, _, h2⟩ := hG w H g
    exact ⟨xs, SqL.of h1, by rw [h2.length]; exact Nat.le_refl _⟩
  yld := fun i w m H x H' d e g r y => by
    obtain ⟨h1, _, h2⟩ := hG w H g
    obtain ⟨rfl, y⟩ := y
    obtain ⟨v, e1, e2⟩ := h2.get e
    have := y xs (SqL.of h1)
    rw [e1] at this
    cases this
    exact ⟨Ext.refl _ _, r, e2⟩
theorem wz_ro : WalkZ K (Itl K a) ds (fun w H => (∃ o, H a = some (.frz o (.lst xs))) ∧ RDs K w H ds xs) where
  ext := fun w H w' H' g e => ⟨by obtain ⟨o, h⟩ := g.1; exact ⟨o, e.frz _ _ _ h⟩, g.2.ext e⟩
  add := fun w H D o hD g => ⟨by obtain ⟨u, h⟩ := g.1; exact ⟨u, by rw [upd_ne (ne_of_none h hD)]; exact h⟩, g.2.add hD⟩
  wr := fun w H D acc acc' hl hD g => ⟨by obtain ⟨u, h⟩ := g.1; exact ⟨u, by rw [upd_ne (fun e => by subst e; rw [hD] at h; cases h)]; exact h⟩, g.2.wr hD hl⟩
  go := fun i w H hi g => by
    rw [g.2.length] at hi
    exact ⟨xs, xs[i], .inl (.inr g.1), by simp [hi]⟩
  stop := fun w H g => ⟨xs, .inl (.inr g.1), by rw [g.2.length]; exact Nat.le_refl _⟩
  yld := fun i w m H x H' d e g r y => by
    obtain ⟨rfl, y⟩ := y
    obtain ⟨v, e1, e2⟩ := g.2.get e
    have := y xs (.inl (.inr g.1))
    rw [e1] at this
    cases this
    exact ⟨Ext.refl _ _, r, e2⟩
theorem wz_roR : WalkZ K (Itl K a) ds (fun w H => SqR K H a xs ∧ RDs K w H ds xs) where
  ext := fun w H w' H' g e => ⟨g.1.elim (fun ⟨o, z⟩ => .inl ⟨o, e.frz _ _ _ z⟩) .inr, g.2.ext e⟩
  add := fun w H D o hD g => ⟨sqR_add hD g.1, g.2.add hD⟩
  wr := fun w H D acc acc' hl hD g => ⟨sqR_wr hD g.1, g.2.wr hD hl⟩
  go := fun i w H hi g => by
    rw [g.2.length] at hi
    exact ⟨xs, xs[i], g.1.l, by simp [hi]⟩
  stop := fun w H g => ⟨xs, g.1.l, by rw [g.2.length]; exact Nat.le_refl _⟩
  yld := fun i w m H x H' d e g r y => by
    obtain ⟨rfl, y⟩ := y
    obtain ⟨v, e1, e2⟩ := g.2.get e
    have := y xs g.1.l
    rw [e1] at this
    cases this
    exact ⟨Ext.refl _ _, r, e2⟩
theorem wz_tup : WalkZ K (Itt K a) ds (fun w H => SqT K H a xs ∧ RDs K w H ds xs) where
  ext := fun w H w' H' g e => ⟨sqT_ext e g.1, g.2.ext e⟩
  add := fun w H D o hD g => gT_add hD g
  wr := fun w H D acc acc' hl hD g => gT_wr hl hD g
  go := fun i w H hi g => by
    have hi : i < ds.length := hi
    rw [g.2.length] at hi
    exact ⟨xs, xs[i], g.1, by simp [hi]⟩
  stop := fun w H g => ⟨xs, g.1, by rw [g.2.length]; exact Nat.le_refl _⟩
  yld := fun i w m H x H' d e g r y => by
    obtain ⟨rfl, y⟩ := y
    obtain ⟨v, e1, e2⟩ := g.2.get e
    have := y xs g.1
    rw [e1] at this
    cases this
    exact ⟨Ext.refl _ _, r, e2⟩
theorem wz_listG : WalkZ K (Itl K a) ds (fun w H => H a = some (.lst xs) ∧ ¬ w.live a ∧ RDs K w H ds xs) :=
  wz_list _ (fun _ _ g => g) (fun w H w' H' g e => ⟨(e.keep _ _ g.1 g.2.1).1, (e.keep _ _ g.1 g.2.1).2, g.2.2.ext e⟩) (fun w H D o hD g => gL_add hD g) (fun w H D acc acc' hl hD g => gL_wr hl hD g)
theorem rgI_get : ∀ (n i : Nat) (a : Int), i < n → (rgI a n)[i]? = some (.int (a + i))
  | n + 1, 0, a, _ => by simp [rgI]
  | n + 1, i + 1, a, h => by
    rw [rgI, List.getElem?_cons_succ, rgI_get n i (a + 1) (Nat.lt_of_succ_lt_succ h)]
    congr 2
    push_cast
    omega
theorem rgI_len : ∀ (n : Nat) (a : Int), (rgI a n).length = n
  | 0, _ => rfl
  | n + 1, a => congrArg (· + 1) (rgI_len n (a + 1))
theorem wz_range {lo : Int} {n : Nat} : WalkZ K (Itr lo n) (rgI lo n) (fun _ _ => True) where
  ext := fun _ _ _ _ _ _ => trivial
  add := fun _ _ _ _ _ _ => trivial
  wr := fun _ _ _ _ _ _ _ _ => trivial
  go := fun i w H hi _ => by rw [rgI_len] at hi; exact hi
  stop := fun w H _ => by rw [rgI_len]; exact Nat.le_refl n
  yld := fun i w m H x H' d e _ r y => by
    obtain ⟨rfl, rfl⟩ := y
    have hi : i < n := by
      have := (List.getElem?_eq_some_iff.mp e).1
      rw [rgI_len] at this
      exact this
    rw [rgI_get n i lo hi] at e
    cases e
    exact ⟨Ext.refl _ _, r, .int _⟩
theorem wz_str {z : Str} : WalkZ K (Its z) (z.cps.toList.map fun c => .str ⟨#[c]⟩) (fun _ _ => True) where
  ext := fun _ _ _ _ _ _ => trivial
  add := fun _ _ _ _ _ _ => trivial
  wr := fun _ _ _ _ _ _ _ _ => trivial
  go := fun i w H hi _ => by
    show i < z.cps.size
    simpa using hi
  stop := fun w H _ => by simp [Its]
  yld := fun i w m H x H' d e _ r y => by
    obtain ⟨rfl, c, h, rfl⟩ := y
    rw [List.getElem?_map, Array.getElem?_toList, h] at e
    cases e
    exact ⟨Ext.refl _ _, r, .str _⟩
theorem enmD_get : ∀ (ds : List PyData) (i : Nat) (k : Int), (enmD k ds)[i]? = (ds[i]?).map fun d => .tuple [.int (k + i), d]
  | [], i, k => by simp [enmD]
  | d :: r, 0, k => by simp [enmD]
  | d :: r, i + 1, k => by
    rw [enmD, List.getElem?_cons_succ, List.getElem?_cons_succ, enmD_get r i (k + 1)]
    congr 2
    funext d
    congr 3
    push_cast
    omega
theorem enmD_len : ∀ (ds : List PyData) (k : Int), (enmD k ds).length = ds.length
  | [], _ => rfl
  | _ :: r, k => congrArg (· + 1) (enmD_len r (k + 1))
theorem wz_enum : WalkZ K (Ite K a) (enmD 0 ds) (fun w H => H a = some (.lst xs) ∧ ¬ w.live a ∧ RDs K w H ds xs) where
  ext := fun w H w' H' g e => ⟨(e.keep _ _ g.1 g.2.1).1, (e.keep _ _ g.1 g.2.1).2, g.2.2.ext e⟩
  add := fun w H D o hD g => gL_add hD g
  wr := fun w H D acc acc' hl hD g => gL_wr hl hD g
  go := fun i w H hi g => by
    rw [enmD_len, g.2.2.length] at hi
    exact ⟨xs, xs[i], SqL.of g.1, by simp [hi]⟩
  stop := fun w H g => ⟨xs, SqL.of g.1, by rw [enmD_len, g.2.2.length]; exact Nat.le_refl _⟩
  yld := fun i w m H x H' d e g r y => by
    obtain ⟨T, z, rfl, hT, rfl, y⟩ := y
    rw [enmD_get] at e
    cases q : ds[i]? with
    | none => rw [q] at e; cases e
    | some d0 =>
      rw [q] at e
      cases e
      obtain ⟨v, e1, e2⟩ := g.2.2.get q
      have := y xs (SqL.of g.1)
      rw [e1] at this
      cases this
      have ex := ext_upd (o := .tup [.int (i : Nat), z]) r hT
      refine ⟨ex, r.upd_ hT, .tup (SqT.of upd_same) (.cons ?_ (.cons (e2.ext ex) .nil))⟩
      rw [Int.zero_add]
      exact .int _
theorem wz_enumT : WalkZ K (ItU K a) (enmD 0 ds) (fun w H => SqT K H a xs ∧ RDs K w H ds xs) where
  ext := fun w H w' H' g e => ⟨sqT_ext e g.1, g.2.ext e⟩
  add := fun w H D o hD g => gT_add hD g
  wr := fun w H D acc acc' hl hD g => gT_wr hl hD g
  go := fun i w H hi g => by
    rw [enmD_len, g.2.length] at hi
    exact ⟨xs, xs[i], g.1, by simp [hi]⟩
  stop := fun w H g => ⟨xs, g.1, by rw [enmD_len, g.2.length]; exact Nat.le_refl _⟩
  yld := fun i w m H x H' d e g r y => by
    obtain ⟨T, z, rfl, hT, rfl, y⟩ := y
    rw [enmD_get] at e
    cases q : ds[i]? with
    | none => rw [q] at e; cases e
    | some d0 =>
      rw [q] at e
      cases e
      obtain ⟨v, e1, e2⟩ := g.2.get q
      have := y xs g.1
      rw [e1] at this
      cases this
      have ex := ext_upd (o := .tup [.int (i : Nat), z]) r hT
      refine ⟨ex, r.upd_ hT, .tup (SqT.of upd_same) (.cons ?_ (.cons (e2.ext ex) .nil))⟩
      rw [Int.zero_add]
      exact .int _
theorem zipD_get : ∀ (ds es : List PyData) (i : Nat) (d : PyData), (zipD ds es)[i]? = some d → ∃ x y, ds[i]? = some x ∧ es[i]? = some y ∧ d = .tuple [x, y]
  | x :: xs, y :: ys, 0, d, h => by
    simp [zipD] at h
    exact ⟨x, y, rfl, rfl, h.symm⟩
  | x :: xs, y :: ys, i + 1, d, h => by
    rw [zipD, List.getElem?_cons_succ] at h
    exact zipD_get xs ys i d h
  | [], _, i, d, h => by simp [zipD] at h
  | _ :: _, [], i, d, h => by simp [zipD] at h
theorem zipD_len : ∀ (ds es : List PyData), (zipD ds es).length = min ds.length es.length
  | x :: xs, y :: ys => by
    rw [zipD, List.length_cons, zipD_len xs ys, List.length_cons, List.length_cons]
    omega
  | [], es => by simp [zipD]
  | _ :: _, [] => by simp [zipD]
theorem wz_zip : WalkZ K (Itz K a b) (zipD ds es) (fun w H => (H a = some (.lst xs) ∧ ¬ w.live a ∧ RDs K w H ds xs) ∧ H b = some (.lst ys) ∧ ¬ w.live b ∧ RDs K w H es ys) where
  ext := fun w H w' H' g e => ⟨⟨(e.keep _ _ g.1.1 g.1.2.1).1, (e.keep _ _ g.1.1 g.1.2.1).2, g.1.2.2.ext e⟩, (e.keep _ _ g.2.1 g.2.2.1).1, (e.keep _ _ g.2.1 g.2.2.1).2, g.2.2.2.ext e⟩
  add := fun w H D o hD g => ⟨gL_add hD g.1, gL_add hD g.2⟩
  wr := fun w H D acc acc' hl hD g => ⟨gL_wr hl hD g.1, gL_wr hl hD g.2⟩
  go := fun i w H hi g => by
    rw [zipD_len, g.1.2.2.length, g.2.2.2.length] at hi
    have h1 : i < xs.length := by omega
    have h2 : i < ys.length := by omega
    exact ⟨xs, ys, xs[i], ys[i], SqL.of g.1.1, SqL.of g.2.1, by simp [h1], by simp [h2]⟩
  stop := fun w H g => ⟨xs, ys, SqL.of g.1.1, SqL.of g.2.1, by rw [zipD_len, g.1.2.2.length, g.2.2.2.length]; omega⟩
  yld := fun i w m H x H' d e g r y => by
    obtain ⟨T, u, v, rfl, hT, rfl, y1, y2⟩ := y
    obtain ⟨d1, d2, q1, q2, rfl⟩ := zipD_get _ _ _ _ e
    obtain ⟨v1, e1, r1⟩ := g.1.2.2.get q1
    obtain ⟨v2, e2, r2⟩ := g.2.2.2.get q2
    have z1 := y1 xs (SqL.of g.1.1)
    have z2 := y2 ys (SqL.of g.2.1)
    rw [e1] at z1
    rw [e2] at z2
    cases z1
    cases z2
    have ex := ext_upd (o := .tup [u, v]) r hT
    exact ⟨ex, r.upd_ hT, .tup (SqT.of upd_same) (.cons (r1.ext ex) (.cons (r2.ext ex) .nil))⟩
theorem wz_zipT : WalkZ K (ItzT K a b) (zipD ds es) (fun w H => (SqT K H a xs ∧ RDs K w H ds xs) ∧ SqT K H b ys ∧ RDs K w H es ys) where
  ext := fun w H w' H' g e => ⟨⟨sqT_ext e g.1.1, g.1.2.ext e⟩, sqT_ext e g.2.1, g.2.2.ext e⟩
  add := fun w H D o hD g => ⟨gT_add hD g.1, gT_add hD g.2⟩
  wr := fun w H D acc acc' hl hD g => ⟨gT_wr hl hD g.1, gT_wr hl hD g.2⟩
  go := fun i w H hi g => by
    rw [zipD_len, g.1.2.length, g.2.2.length] at hi
    have h1 : i < xs.length := by omega
    have h2 : i < ys.length := by omega
    exact ⟨xs, ys, xs[i], ys[i], g.1.1, g.2.1, by simp [h1], by simp [h2]⟩
  stop := fun w H g => ⟨xs, ys, g.1.1, g.2.1, by rw [zipD_len, g.1.2.length, g.2.2.length]; omega⟩
  yld := fun i w m H x H' d e g r y => by
    obtain ⟨T, u, v, rfl, hT, rfl, y1, y2⟩ := y
    obtain ⟨d1, d2, q1, q2, rfl⟩ := zipD_get _ _ _ _ e
    obtain ⟨v1, e1, r1⟩ := g.1.2.get q1
    obtain ⟨v2, e2, r2⟩ := g.2.2.get q2
    have z1 := y1 xs g.1.1
    have z2 := y2 ys g.2.1
    rw [e1] at z1
    rw [e2] at z2
    cases z1
    cases z2
    have ex := ext_upd (o := .tup [u, v]) r hT
    exact ⟨ex, r.upd_ hT, .tup (SqT.of upd_same) (.cons (r1.ext ex) (.cons (r2.ext ex) .nil))⟩
end
end Z
set_option maxHeartbeats 1000000
/-! Y7: places, slices, new lists, methods, truth, by values. -/
namespace Z
open PySem PySem.Spec PyProof.Rows L2
section
variable {K : PySem.W.Frag} {w w' : Wd} {H H' : Hp} {m : Mem}
theorem szL_eq : sizeLine = szL := sizeLine_eq
theorem pd_tru {d : PyData} {v : V} {k : Bool} (h : PD K w H d v) (e : truD d = some k) : TruV K v H k := by
  have hs := szL_eq
  cases d with
  | none => cases h; cases e; exact rfl
  | bool b => cases h; cases e; exact rfl
  | int i => cases h; cases e; exact rfl
  | str x =>
    cases h
    unfold truD at e
    simp only at e
    split at e
    · cases e; exact ⟨by omega, rfl⟩
    · cases e
  | list ds =>
    obtain ⟨a, xs, rfl, hq, r⟩ := h
    cases e
    refine .inl ⟨xs, hq, ?_⟩
    cases r <;> rfl
  | tuple ds =>
    obtain ⟨a, xs, rfl, hq, r⟩ := RD.tup_ h
    cases e
    refine .inr (.inl ⟨xs, hq, ?_⟩)
    cases r <;> rfl
  | dict kvs => cases e
theorem truW_ok {x : W} {v : V} {k : Bool} (r : Rl K w m H) (h : RW K w H x v) (e : truW m x = some k) : TruV K v H k := by
  cases x with
  | v d =>
    cases h with
    | v h => exact pd_tru h.pd e
  | ro ds =>
    cases h with
    | ro h1 h2 =>
      cases e
      refine .inl ⟨_, h1.l, ?_⟩
      cases h2 <;> rfl
  | ref n =>
    cases h with
    | ref h =>
      unfold truW at e
      cases q : m.S[n]? with
      | none => simp only [q] at e; cases e
      | some o =>
        simp only [q] at e
        have z := r.mu_ h q
        cases o with
        | lst ds =>
          cases e
          obtain ⟨xs, e1, e2⟩ := z
          refine .inl ⟨xs, SqL.of e1, ?_⟩
          cases e2 <;> rfl
        | ro ds =>
          cases e
          obtain ⟨o, xs, e1, e2⟩ := z
          refine .inl ⟨xs, .inl (.inr ⟨o, e1⟩), ?_⟩
          cases e2 <;> rfl
        | ins c fs => cases e
  | loc n =>
    unfold truW at e
    cases q : m.L[n]? with
    | none => simp only [q] at e; cases e
    | some o =>
      simp only [q] at e
      cases o with
      | lst ws =>
        obtain ⟨a, xs, rfl, h1, h2, h3⟩ := r.l_ (o := .dead) h q
        cases e
        refine .inl ⟨xs, SqL.of h2, ?_⟩
        cases h3 <;> rfl
      | dead => cases e
      | dic _ _ => cases e
  | exc x => cases e
  | tv ds =>
    cases h with
    | tv h1 h2 =>
      cases e
      refine .inr (.inl ⟨_, h1.sq, ?_⟩)
      cases h2 <;> rfl
/-- what itemsW says -/
theorem itemsW_ok {x : W} {v : V} {ws : List W} (r : Rl K w m H) (h : RW K w H x v) (e : itemsW m x = some ws) : ∃ a xs, v = .ref a ∧ (SqL K H a xs ∨ SqT K H a xs) ∧ RWs K w H ws xs := by
  cases x with
  | v d =>
    cases h with
    | v h =>
      cases d with
      | list ds =>
        cases e
        obtain ⟨a, xs, rfl, hq, r⟩ := h.pd
        exact ⟨a, xs, rfl, .inl hq, r.ws⟩
      | tuple ds =>
        cases e
        obtain ⟨a, xs, rfl, hq, r⟩ := RD.tup_ h
        exact ⟨a, xs, rfl, .inr hq, r.ws⟩
      | _ => cases e
  | ro ds =>
    cases h with
    | ro h1 h2 =>
      cases e
      exact ⟨_, _, rfl, .inl h1.l, h2.ws⟩
  | ref n =>
    cases h with
    | ref h =>
      unfold itemsW at e
      cases q : m.S[n]? with
      | none => simp only [q] at e; cases e
      | some o =>
        simp only [q] at e
        have z := r.mu_ h q
        cases o with
        | lst ds =>
          cases e
          obtain ⟨xs, e1, e2⟩ := z
          exact ⟨_, xs, rfl, .inl (SqL.of e1), e2.ws⟩
        | ro ds =>
          cases e
          obtain ⟨o, xs, e1, e2⟩ := z
          exact ⟨_, xs, rfl, .inl (.inl (.inr ⟨o, e1⟩)), e2.ws⟩
        | ins c fs => cases e
  | loc n =>
    unfold itemsW at e
    cases q : m.L[n]? with
    | none => simp only [q] at e; cases e
    | some o =>
      simp only [q] at e
      cases o with
      | lst ws =>
        obtain ⟨a, xs, rfl, h1, h2, h3⟩ := r.l_ (o := .dead) h q
        cases e
        exact ⟨a, xs, rfl, .inl (SqL.of h2), h3⟩
      | dead => cases e
      | dic _ _ => cases e
  | exc x => cases e
  | tv ds =>
    cases h with
    | tv h1 h2 =>
      cases e
      exact ⟨_, _, rfl, .inr h1.sq, h2.ws⟩
theorem atI_rel {ws : List W} {xs : List V} {i : Int} {a : W} (h : RWs K w H ws xs) (e : Z.atI ws i = some a) : ∃ v, L2.atI xs i = some v ∧ RW K w H a v := by
  unfold Z.atI at e
  unfold L2.atI
  have hl := h.length
  rw [← hl]
  cases q : Z.ixN ws.length i with
  | none => rw [q] at e; cases e
  | some j =>
    rw [q] at e
    have q' : L2.ixN ws.length i = some j := q
    rw [q']
    exact h.get e
/-- a subscript of a dict -/
theorem ix_dK {X : Cx} (hu : X.A.units + 1 < cLine) : IxR X (fun x y H Q => ∃ a v, x = .ref a ∧ DGet H a y (some v) ∧ Q v H) := by
  intro value slice pins s σ H x y v u Q I rx ry h hs
  obtain ⟨a, r, rfl, g, q⟩ := h
  obtain rfl : v = Value.ref a := rx
  exact tail_any (dict_typeIs I g) PySem.F.slot_dict_getitem.lookup (d_getItem hu I g ry fun w' s' I' rw' => ⟨r, H, I', rw', q⟩) hs
theorem ix_ok {X : Cx} (hu : X.A.units + 1 < cLine) : IxR X (fun x y H Q => ∃ w m a b c, Rl X.K w m H ∧ RW X.K w H a x ∧ RW X.K w H b y ∧ ixW m a b = some c ∧ ∀ v, RW X.K w H c v → Q v H) := by
  intro value slice pins s σ H x y v u Q I rx ry h hs
  obtain ⟨w, m, a, b, c, r, ha, hb, e, q⟩ := h
  unfold ixW at e
  split at e
  · rename_i i
    cases hb with
    | v hb =>
      cases (RD.int_ hb)
      split at e
      · rename_i z
        cases ha with
        | v ha =>
          cases (RD.str_ ha)
          split at e
          · rename_i hz
            cases qq : Z.atI z.cps.toList i with
            | none => rw [qq] at e; cases e
            | some c' =>
              rw [qq] at e
              cases e
              exact ix_str value slice pins s σ H _ _ v u Q I rx ry ⟨z, i, c', rfl, rfl, by rw [szL_eq]; exact hz, qq, q _ (.v (.str _))⟩ hs
          · cases e
      · rename_i w0 hw
        cases qq : itemsW m a with
        | none => rw [qq] at e; cases e
        | some ws =>
          rw [qq] at e
          obtain ⟨p, xs, rfl, hq, hr⟩ := itemsW_ok r ha qq
          obtain ⟨v', e1, e2⟩ := atI_rel hr e
          rcases hq with hq | hq
          · exact ix_list value slice pins s σ H _ _ v u Q I rx ry ⟨p, xs, i, v', rfl, rfl, hq, e1, q _ e2⟩ hs
          · exact ix_tup value slice pins s σ H _ _ v u Q I rx ry ⟨p, xs, i, v', rfl, rfl, hq, e1, q _ e2⟩ hs
  · rename_i kk
    cases hb with
    | v hb =>
      cases (RD.str_ hb)
      cases qq : peek m a with
      | none => rw [qq] at e; cases e
      | some d' =>
        rw [qq] at e
        have hp := peek_ok r ha qq
        cases d' with
        | dict kvs =>
          obtain ⟨p, o, rfl, g, g1, g2⟩ := PD.dget kk hp
          cases qd : dgetD kk kvs with
          | none => simp only [qd, Option.bind_some, Option.map_none] at e; cases e
          | some d2 =>
            simp only [qd, Option.bind_some, Option.map_some] at e
            cases e
            obtain ⟨y, rfl, ry'⟩ := g2 _ qd
            exact ix_dK hu value slice pins s σ H _ _ v u Q I rx ry ⟨p, y, rfl, g, q _ (.v ry')⟩ hs
        | _ => simp only [Option.bind_some] at e; cases e
  · cases e
theorem cut_rel {ds : List PyData} {xs : List V} (lo hi : Option Int) (h : RDs K w H ds xs) : RDs K w H (Z.cut ds lo hi) (cutV xs lo hi) := by
  have e : ∀ (n d : Nat) (o : Option Int), Z.sIx n d o = HT.sIx n d o := fun n d o => by cases o <;> rfl
  unfold Z.cut cutV
  rw [e, e, h.length]
  exact (h.drop _).take _
theorem sl_ok {X : Cx} : SlR X (fun x lo hi H Q => ∃ w m a d, Rl X.K w m H ∧ RW X.K w H a x ∧ slW m a lo hi = some d ∧ Same X.K w m H (fun w H v => RD X.K w H d v) Q) := by
  intro pins s σ H x v vl vu lo hi sl Q I rx hs pl pu h
  obtain ⟨w, m, a, d, r, ha, e, q⟩ := h
  unfold slW at e
  cases qq : peek m a with
  | none => rw [qq] at e; cases e
  | some d' =>
    rw [qq] at e
    have hp := peek_ok r ha qq
    cases d' with
    | list ds =>
      cases e
      obtain ⟨p, xs, rfl, hq, hr⟩ := hp
      exact sl_list pins s σ H _ v vl vu lo hi sl Q I rx hs pl pu ⟨p, xs, rfl, hq, q.newL r (cut_rel lo hi hr)⟩
    | tuple ds =>
      cases e
      obtain ⟨p, xs, rfl, hq, hr⟩ := RD.tup_ hp
      refine sl_tupA pins s σ H _ v vl vu lo hi sl Q I rx hs pl pu ⟨p, xs, rfl, hq, fun z => ?_, fun _ => q.newT r (cut_rel lo hi hr)⟩
      refine q.here r (.tup hq ?_)
      have := cut_rel lo hi hr
      have e : cutV xs lo hi = xs := by
        unfold cutV
        rw [z.1, z.2]
        simp
      rw [e] at this
      exact this
    | str z =>
      simp only [Option.bind_some] at e
      split at e
      · rename_i hz
        cases e
        obtain rfl : x = V.str z := RD.str_ hp
        refine sl_str pins s σ H _ v vl vu lo hi sl Q I rx hs pl pu ⟨z, rfl, by rw [szL_eq]; exact hz, q.here r ?_⟩
        have ee : ∀ (n d : Nat) (o : Option Int), Z.sIx n d o = HT.sIx n d o := fun n d o => by cases o <;> rfl
        have : Z.cut z.cps.toList lo hi = (cutS z lo hi).cps.toList := by
          unfold Z.cut cutS
          rw [ee, ee, Array.length_toList]
          rfl
        rw [this]
        exact .str _
      · cases e
    | _ => cases e
/-! ### new lists, writing -/
/-- a new object that is the program's own -/
theorem ext_newL {m : Mem} {p : Addr} {xs : List V} (r : Rl K w m H) (h : H p = none) : Ext w H { w with l := w.l ++ [some p] } (upd H p (.lst xs)) := by
  have e := ext_upd (o := .lst xs) r h
  have hp : ∀ a o, H a = some o → a ≠ p := fun a o q => ne_of_none q h
  refine ⟨⟨[], by simp⟩, by simp, fun n hn => .inl (by rw [List.getElem?_append_left hn]), rfl, fun a o q n => ⟨(e.keep a o q n).1, fun z => ?_⟩, e.pk, e.tup, e.frz⟩
  rcases z with z | z | z
  · exact n (.inl z)
  · have z : some a ∈ w.l ++ [some p] := z
    rcases List.mem_append.mp z with z | z
    · exact n (.inr (.inl z))
    · simp at z
      exact hp a o q z
  · exact n (.inr (.inr z))
theorem Rl.newL {m : Mem} {p : Addr} {ws : List W} {xs : List V} (r : Rl K w m H) (h : H p = none) (hw : RWs K w H ws xs) :
    Rl K { w with l := w.l ++ [some p] } { m with L := m.L ++ [.lst ws] } (upd H p (.lst xs)) := by
  have e := ext_newL (xs := xs) r h
  have r0 := r.upd_ (o := .lst xs) h
  have nl : ¬ w.live p := r.fresh h
  refine ⟨r.lenS, by simp [r.lenL], r.ndS, fun i j a hi hj => ?_, fun a ha z => ?_, fun a ha => ?_, fun n o a h1 h2 => ?_, fun n o x h1 h2 => ?_⟩
  · have ap : ∀ k : Nat, (w.l ++ [some p])[k]? = some (some a) → (k < w.l.length ∧ w.l[k]? = some (some a)) ∨ (k = w.l.length ∧ a = p) := fun k hk => by
      by_cases hlt : k < w.l.length
      · rw [List.getElem?_append_left hlt] at hk
        exact .inl ⟨hlt, hk⟩
      · rw [List.getElem?_append_right (by omega)] at hk
        have hk' := (List.getElem?_eq_some_iff.mp hk).1
        simp at hk'
        have ek : k = w.l.length := by omega
        subst ek
        simp at hk
        exact .inr ⟨rfl, hk.symm⟩
    rcases ap i hi with ⟨h1, h2⟩ | ⟨h1, h2⟩ <;> rcases ap j hj with ⟨h3, h4⟩ | ⟨h3, h4⟩
    · exact r.ndL i j a h2 h4
    · subst h4; exact absurd (.inr (.inl (List.mem_of_getElem? h2))) nl
    · subst h2; exact absurd (.inr (.inl (List.mem_of_getElem? h4))) nl
    · omega
  · have z : some a ∈ w.l ++ [some p] := z
    rcases List.mem_append.mp z with z | z
    · exact r.ap a ha z
    · simp at z
      subst z
      exact nl (.inl ha)
  · obtain ⟨h1, h2, h3⟩ := r0.apP a ha
    refine ⟨h1, fun z => ?_, h3⟩
    have z : some a ∈ w.l ++ [some p] := z
    rcases List.mem_append.mp z with z | z
    · exact h2 z
    · simp at z
      subst z
      exact nl (.inr (.inr ha))
  · refine (r.s n o a h1 h2).ext e ?_
    rw [upd_ne]
    rintro rfl
    exact nl (.inl (List.mem_of_getElem? (show w.mu[n]? = _ from h2)))
  · replace h1 : (m.L ++ [.lst ws])[n]? = some o := h1
    replace h2 : (w.l ++ [some p])[n]? = some x := h2
    by_cases hn : n < w.l.length
    · rw [List.getElem?_append_left (by rw [r.lenL]; exact hn)] at h1
      rw [List.getElem?_append_left hn] at h2
      refine (r.l n o x h1 h2).ext e fun a q => ?_
      rw [q] at h2
      have : a ≠ p := fun z => nl (by rw [← z]; exact .inr (.inl (List.mem_of_getElem? h2)))
      rw [upd_ne this]
    · rw [List.getElem?_append_right (by rw [r.lenL]; omega)] at h1
      rw [List.getElem?_append_right (by omega)] at h2
      rw [r.lenL] at h1
      have hk := (List.getElem?_eq_some_iff.mp h2).1
      simp at hk
      have en : n = w.l.length := by omega
      subst en
      simp at h1 h2
      subst h1 h2
      exact ⟨p, xs, rfl, upd_same, hw.ext e⟩
theorem ext_newS {m : Mem} {p : Addr} {o : HO} (r : Rl K w m H) (h : H p = none) : Ext w H { w with mu := w.mu ++ [p] } (upd H p o) := by
  have e := ext_upd (o := o) r h
  have hp : ∀ a o, H a = some o → a ≠ p := fun a o q => ne_of_none q h
  refine ⟨⟨[p], rfl⟩, Nat.le_refl _, fun n hn => .inl rfl, rfl, fun a o q n => ⟨(e.keep a o q n).1, fun z => ?_⟩, e.pk, e.tup, e.frz⟩
  rcases z with z | z | z
  · have z : a ∈ w.mu ++ [p] := z
    rcases List.mem_append.mp z with z | z
    · exact n (.inl z)
    · simp at z
      exact hp a o q z
  · exact n (.inr (.inl z))
  · exact n (.inr (.inr z))
theorem Rl.newS {m : Mem} {p : Addr} {os : OS} {o : HO} (r : Rl K w m H) (h : H p = none) (hw : RS K { w with mu := w.mu ++ [p] } (upd H p o) p os) :
    Rl K { w with mu := w.mu ++ [p] } { m with S := m.S ++ [os] } (upd H p o) := by
  have e := ext_newS (o := o) r h
  have r0 := r.upd_ (o := o) h
  have nl : ¬ w.live p := r.fresh h
  refine ⟨by simp [r.lenS], r.lenL, ?_, r.ndL, fun a ha z => ?_, fun a ha => ?_, fun n u a h1 h2 => ?_, fun n u x h1 h2 => ?_⟩
  · show (w.mu ++ [p]).Nodup
    rw [List.nodup_append]
    refine ⟨r.ndS, by simp, fun a ha b hb => ?_⟩
    simp at hb
    subst hb
    rintro rfl
    exact nl (.inl ha)
  · have ha : a ∈ w.mu ++ [p] := ha
    rcases List.mem_append.mp ha with ha | ha
    · exact r.ap a ha z
    · simp at ha
      subst ha
      exact nl (.inr (.inl z))
  · obtain ⟨h1, h2, h3⟩ := r0.apP a ha
    refine ⟨fun z => ?_, h2, h3⟩
    have z : a ∈ w.mu ++ [p] := z
    rcases List.mem_append.mp z with z | z
    · exact h1 z
    · simp at z
      subst z
      exact nl (.inr (.inr ha))
  · replace h1 : (m.S ++ [os])[n]? = some u := h1
    replace h2 : (w.mu ++ [p])[n]? = some a := h2
    by_cases hn : n < w.mu.length
    · rw [List.getElem?_append_left (by rw [r.lenS]; exact hn)] at h1
      rw [List.getElem?_append_left hn] at h2
      refine (r.s n u a h1 h2).ext e ?_
      have : a ≠ p := fun z => nl (by rw [← z]; exact .inl (List.mem_of_getElem? h2))
      rw [upd_ne this]
    · rw [List.getElem?_append_right (by rw [r.lenS]; omega)] at h1
      rw [List.getElem?_append_right (by omega)] at h2
      rw [r.lenS] at h1
      have hk := (List.getElem?_eq_some_iff.mp h2).1
      simp at hk
      have en : n = w.mu.length := by omega
      subst en
      simp at h1 h2
      subst h1 h2
      exact hw
  · refine (r.l n u x h1 h2).ext e fun a q => ?_
    subst q
    rw [upd_ne]
    rintro rfl
    exact nl (.inr (.inl (List.mem_of_getElem? (show w.l[n]? = _ from h2))))
/-- a new list is laid -/
theorem mk_ok {k : Kd} {ws : List W} {vs : List V} {Q : VK} {ω : EW} (r : Rl K w m H) (hw : RWs K w H ws vs) (h : Cont K w H (RW K) Q ω (mk k ws m)) : vs.length ≤ sizeLine ∧ ∀ p, H p = none → Q (.ref p) (upd H p (.lst vs)) := by
  unfold mk at h
  split at h
  · rename_i hz
    refine ⟨by rw [szL_eq, ← hw.length]; exact hz, fun p hp => ?_⟩
    cases k with
    | fz =>
      simp only at h
      obtain ⟨d, e, h⟩ := Cont.o0 h
      cases qq : allV ws with
      | none => rw [qq] at e; cases e
      | some ds =>
        rw [qq] at e
        cases e
        refine h _ _ _ (ext_upd r hp) (r.upd_ hp) (.v (.lst upd_same (r.fresh hp) ?_))
        exact (RDs.of_ws hw qq).ext (ext_upd r hp)
    | loc =>
      refine h _ _ _ (ext_newL r hp) (r.newL hp hw) ?_
      refine .loc (by show m.L.length < (w.l ++ [some p]).length; rw [r.lenL]; simp) fun a ha => ?_
      have ha : (w.l ++ [some p])[m.L.length]? = some (some a) := ha
      rw [r.lenL, List.getElem?_append_right (Nat.le_refl _)] at ha
      simp at ha
      rw [ha]
    | shr =>
      simp only at h
      split at h
      · rename_i ds qq
        have hd := (RDs.of_ws hw qq).ext (ext_newS (o := .lst vs) r hp)
        refine h _ _ _ (ext_newS r hp) (r.newS hp ⟨vs, upd_same, hd⟩) (.ref ?_)
        show (w.mu ++ [p])[m.S.length]? = some p
        rw [r.lenS, List.getElem?_append_right (Nat.le_refl _)]
        simp
      · exact h.elim
  · exact h.elim
/-- a local object is written -/
theorem Rl.setO {n : Nat} {a : Addr} {h0 h1 : HO} {ol : OL} (r : Rl K w m H) (hn : w.l[n]? = some (some a)) (hH : H a = some h0) (nt : ∀ xs, h0 ≠ .tup xs) (nf : ∀ o u, h0 ≠ .frz o u)
    (hw : Ext w H w (upd H a h1) → RL K w (upd H a h1) (some a) ol) :
    Ext w H w (upd H a h1) ∧ Rl K w { m with L := m.L.set n ol } (upd H a h1) := by
  have lv : w.live a := .inr (.inl (List.mem_of_getElem? hn))
  have e : Ext w H w (upd H a h1) := by
    refine ⟨⟨[], by simp⟩, Nat.le_refl _, fun _ _ => .inl rfl, rfl, fun b o q nb => ⟨by rw [upd_ne (fun z => nb (by rw [z]; exact lv))]; exact q, nb⟩, fun b o hp q => ?_, fun b u q => ?_, fun b o u q => ?_⟩
    · rw [upd_ne]
      · exact q
      · rintro rfl
        exact (r.apP b hp).2.1 (List.mem_of_getElem? hn)
    · rw [upd_ne]
      · exact q
      · rintro rfl
        rw [hH] at q
        cases q
        exact nt _ rfl
    · rw [upd_ne]
      · exact q
      · rintro rfl
        rw [hH] at q
        cases q
        exact nf _ _ rfl
  refine ⟨e, ⟨r.lenS, by simp [r.lenL], r.ndS, r.ndL, r.ap, fun b hb => ?_, fun k o b h1 h2 => ?_, fun k o x h1 h2 => ?_⟩⟩
  · obtain ⟨h1, h2, o, h3⟩ := r.apP b hb
    refine ⟨h1, h2, o, ?_⟩
    rw [upd_ne]
    · exact h3
    · rintro rfl
      exact h2 (List.mem_of_getElem? hn)
  · refine (r.s k o b h1 h2).ext e ?_
    rw [upd_ne]
    rintro rfl
    exact r.ap b (List.mem_of_getElem? h2) (List.mem_of_getElem? hn)
  · have h1 : (m.L.set n ol)[k]? = some o := h1
    by_cases hk : n = k
    · subst hk
      have hlt : n < m.L.length := by rw [r.lenL]; exact (List.getElem?_eq_some_iff.mp hn).1
      rw [List.getElem?_set_self hlt] at h1
      rw [hn] at h2
      cases h1
      cases h2
      exact hw e
    · rw [List.getElem?_set_ne hk] at h1
      refine (r.l k o x h1 h2).ext e fun b q => ?_
      subst q
      rw [upd_ne]
      rintro rfl
      exact hk (r.ndL n k b hn h2)
theorem Rl.setL {n : Nat} {a : Addr} {ws : List W} {xs xs' : List V} (r : Rl K w m H) (hn : w.l[n]? = some (some a)) (hH : H a = some (.lst xs)) (hw : RWs K w H ws xs') :
    Ext w H w (upd H a (.lst xs')) ∧ Rl K w { m with L := m.L.set n (.lst ws) } (upd H a (.lst xs')) :=
  r.setO hn hH (fun _ z => by cases z) (fun _ _ z => by cases z) fun e => ⟨a, xs', rfl, upd_same, hw.ext e⟩
/-- a shared object is written -/
theorem Rl.setSO {n : Nat} {a : Addr} {h0 h1 : HO} {os : OS} (r : Rl K w m H) (hn : w.mu[n]? = some a) (hH : H a = some h0) (nt : ∀ xs, h0 ≠ .tup xs) (nf : ∀ o u, h0 ≠ .frz o u)
    (hw : Ext w H w (upd H a h1) → RS K w (upd H a h1) a os) :
    Ext w H w (upd H a h1) ∧ Rl K w { m with S := m.S.set n os } (upd H a h1) := by
  have lv : w.live a := .inl (List.mem_of_getElem? hn)
  have e : Ext w H w (upd H a h1) := by
    refine ⟨⟨[], by simp⟩, Nat.le_refl _, fun _ _ => .inl rfl, rfl, fun b o q nb => ⟨by rw [upd_ne (fun z => nb (by rw [z]; exact lv))]; exact q, nb⟩, fun b o hp q => ?_, fun b u q => ?_, fun b o u q => ?_⟩
    · rw [upd_ne]
      · exact q
      · rintro rfl
        exact (r.apP b hp).1 (List.mem_of_getElem? hn)
    · rw [upd_ne]
      · exact q
      · rintro rfl
        rw [hH] at q
        cases q
        exact nt _ rfl
    · rw [upd_ne]
      · exact q
      · rintro rfl
        rw [hH] at q
        cases q
        exact nf _ _ rfl
  refine ⟨e, ⟨by simp [r.lenS], r.lenL, r.ndS, r.ndL, r.ap, fun b hb => ?_, fun k o b h1 h2 => ?_, fun k o x h1 h2 => ?_⟩⟩
  · obtain ⟨h1, h2, o, h3⟩ := r.apP b hb
    refine ⟨h1, h2, o, ?_⟩
    rw [upd_ne]
    · exact h3
    · rintro rfl
      exact h1 (List.mem_of_getElem? hn)
  · have h1 : (m.S.set n os)[k]? = some o := h1
    by_cases hk : n = k
    · subst hk
      have hlt : n < m.S.length := by rw [r.lenS]; exact (List.getElem?_eq_some_iff.mp hn).1
      rw [List.getElem?_set_self hlt] at h1
      rw [hn] at h2
      cases h1
      cases h2
      exact hw e
    · rw [List.getElem?_set_ne hk] at h1
      refine (r.s k o b h1 h2).ext e ?_
      rw [upd_ne]
      rintro rfl
      exact hk ((List.getElem_inj r.ndS).mp (((List.getElem?_eq_some_iff.mp hn).2).trans ((List.getElem?_eq_some_iff.mp h2).2).symm))
  · refine (r.l k o x h1 h2).ext e fun b q => ?_
    subst q
    rw [upd_ne]
    rintro rfl
    exact r.ap b (List.mem_of_getElem? hn) (List.mem_of_getElem? h2)
theorem Rl.setS {n : Nat} {a : Addr} {ds : List PyData} {xs xs' : List V} (r : Rl K w m H) (hn : w.mu[n]? = some a) (hH : H a = some (.lst xs)) (hw : RDs K w H ds xs') :
    Ext w H w (upd H a (.lst xs')) ∧ Rl K w { m with S := m.S.set n (.lst ds) } (upd H a (.lst xs')) :=
  r.setSO hn hH (fun _ z => by cases z) (fun _ _ z => by cases z) fun e => ⟨xs', upd_same, hw.ext e⟩
/-- a local list is given up: it is data from now on -/
theorem Rl.kill {n : Nat} {a : Addr} {ds : List PyData} {ws : List W} {xs : List V} (r : Rl K w m H) (hn : w.l[n]? = some (some a)) (hH : H a = some (.lst xs)) (hw : RDs K w H ds xs) :
    Ext w H { w with l := w.l.set n none } H ∧ Rl K { w with l := w.l.set n none } { m with L := m.L.set n .dead } H ∧ RD K { w with l := w.l.set n none } H (.list ds) (.ref a) := by
  have nlt : n < w.l.length := (List.getElem?_eq_some_iff.mp hn).1
  have sub : ∀ b, some b ∈ w.l.set n none → some b ∈ w.l := fun b hb => by
    rcases List.mem_or_eq_of_mem_set hb with h | h
    · exact h
    · cases h
  have lv : ∀ b, ({ w with l := w.l.set n none } : Wd).live b → w.live b := fun b hb => by
    rcases hb with h | h | h
    · exact .inl h
    · exact .inr (.inl (sub b h))
    · exact .inr (.inr h)
  have e : Ext w H { w with l := w.l.set n none } H := by
    refine ⟨⟨[], by simp⟩, by simp, fun k hk => ?_, rfl, fun b o q nb => ⟨q, fun z => nb (lv b z)⟩, fun b o _ q => q, fun _ _ q => q, fun _ _ _ q => q⟩
    by_cases hkn : n = k
    · subst hkn
      exact .inr (by rw [List.getElem?_set_self nlt])
    · exact .inl (by rw [List.getElem?_set_ne hkn])
  have get : ∀ (k : Nat) (b : Addr), (w.l.set n none)[k]? = some (some b) → k ≠ n ∧ w.l[k]? = some (some b) := fun k b hk => by
    by_cases hkn : n = k
    · subst hkn
      rw [List.getElem?_set_self nlt] at hk
      cases hk
    · rw [List.getElem?_set_ne hkn] at hk
      exact ⟨fun z => hkn z.symm, hk⟩
  refine ⟨e, ⟨r.lenS, by simp [r.lenL], r.ndS, fun i j b hi hj => r.ndL i j b (get i b hi).2 (get j b hj).2, fun b hb z => r.ap b hb (sub b z), fun b hb => ?_, fun k o b h1 h2 => (r.s k o b h1 h2).ext e rfl, fun k o x h1 h2 => ?_⟩, .lst hH (fun z => ?_) (hw.ext e)⟩
  · obtain ⟨h1, h2, h3⟩ := r.apP b hb
    exact ⟨h1, fun z => h2 (sub b z), h3⟩
  · have h1 : (m.L.set n .dead)[k]? = some o := h1
    have h2 : (w.l.set n none)[k]? = some x := h2
    by_cases hkn : n = k
    · subst hkn
      rw [List.getElem?_set_self nlt] at h2
      rw [List.getElem?_set_self (by rw [r.lenL]; exact nlt)] at h1
      cases h1
      cases h2
      exact rfl
    · rw [List.getElem?_set_ne hkn] at h1 h2
      exact (r.l k o x h1 h2).ext e fun _ _ => rfl
  · rcases z with z | z | z
    · exact r.ap a z (List.mem_of_getElem? hn)
    · obtain ⟨k, hk⟩ := List.getElem?_of_mem z
      obtain ⟨k1, k2⟩ := get k a hk
      exact k1 (r.ndL k n a k2 hn)
    · exact (r.apP a z).2.1 (List.mem_of_getElem? hn)
theorem freeze_ok {x : W} {v : V} {Q : VK} {ω : EW} (r : Rl K w m H) (h : RW K w H x v) (c : Cont K w H (RW K) Q ω (freeze m x)) : Q v H := by
  cases x with
  | v d => exact c _ _ _ (Ext.refl _ _) r h
  | ref n => exact c _ _ _ (Ext.refl _ _) r h
  | ro ds => exact c _ _ _ (Ext.refl _ _) r h
  | exc x => exact c _ _ _ (Ext.refl _ _) r h
  | tv ds => exact c _ _ _ (Ext.refl _ _) r h
  | loc n =>
    unfold freeze at c
    cases q : m.L[n]? with
    | none => simp only [q] at c; exact c.elim
    | some o =>
      simp only [q] at c
      cases o with
      | lst ws =>
        obtain ⟨a, xs, rfl, h1, h2, h3⟩ := r.l_ (o := .dead) h q
        cases qa : allV ws with
        | none => simp only [qa] at c; exact c.elim
        | some ds =>
          simp only [qa] at c
          obtain ⟨e1, e2, e3⟩ := r.kill (ws := ws) h1 h2 (RDs.of_ws h3 qa)
          exact c _ _ _ e1 e2 (.v e3)
      | dead => exact c.elim
      | dic _ _ => exact c.elim
theorem Cont.bad_ {α β : Type} {rel : Wd → Hp → α → β → Prop} {Q : β → Hp → Prop} {ω : EW} (c : Cont K w H rel Q ω (.bad : R α)) : False := c
theorem itemsL_ok {x : W} {v : V} {ws : List W} (r : Rl K w m H) (h : RW K w H x v) (e : itemsL m x = some ws) : ∃ a xs, v = .ref a ∧ H a = some (.lst xs) ∧ RWs K w H ws xs := by
  cases x with
  | v d =>
    cases h with
    | v h =>
      cases d with
      | list ds =>
        cases e
        cases h with
        | lst h1 h2 h3 => exact ⟨_, _, rfl, h1, h3.ws⟩
      | _ => cases e
  | ro ds => cases e
  | ref n =>
    cases h with
    | ref h =>
      unfold itemsL at e
      cases q : m.S[n]? with
      | none => simp only [q] at e; cases e
      | some o =>
        simp only [q] at e
        have z := r.mu_ h q
        cases o with
        | lst ds =>
          cases e
          obtain ⟨xs, e1, e2⟩ := z
          exact ⟨_, xs, rfl, e1, e2.ws⟩
        | ro ds => cases e
        | ins c fs => cases e
  | loc n =>
    unfold itemsL at e
    cases q : m.L[n]? with
    | none => simp only [q] at e; cases e
    | some o =>
      simp only [q] at e
      cases o with
      | lst ws =>
        obtain ⟨a, xs, rfl, h1, h2, h3⟩ := r.l_ (o := .dead) h q
        cases e
        exact ⟨a, xs, rfl, h2, h3⟩
      | dead => cases e
      | dic _ _ => cases e
  | exc x => cases e
  | tv ds => cases e
theorem RWs.dropLast {xs : List W} {us : List V} (h : RWs K w H xs us) : RWs K w H xs.dropLast us.dropLast := by
  induction h with
  | nil => exact .nil
  | cons a t ih =>
    cases t with
    | nil => exact .nil
    | cons b t => exact .cons a ih
theorem RDs.dropLast {xs : List PyData} {us : List V} (h : RDs K w H xs us) : RDs K w H xs.dropLast us.dropLast := by
  rw [List.dropLast_eq_take, List.dropLast_eq_take, h.length]
  exact h.take _
theorem app_loc {Q : VK} {ω : EW} {n : Nat} {w0 : W} {v : V} {vs : List V} (r : Rl K w m H) (ho : RW K w H (.loc n) v) (hw : RWs K w H [w0] vs) (c : Cont K w H (RW K) Q ω (mthW .append (.loc n) [w0] m)) : rAppend v vs H Q := by
  simp only [mthW] at c
  cases q : m.L[n]? with
  | none => simp only [q] at c; exact c.elim
  | some ob =>
    simp only [q] at c
    cases ob with
    | lst xs =>
      simp only at c
      obtain ⟨a, ys, rfl, h1, h2, h3⟩ := r.l_ (o := .dead) ho q
      split at c
      · rename_i hz
        cases hw with
        | cons hw1 hw2 =>
          cases hw2
          refine ⟨a, ys, _, rfl, rfl, h2, by rw [← h3.length, szL_eq]; exact hz, ?_⟩
          obtain ⟨e1, e2⟩ := r.setL (ws := xs ++ [w0]) (xs' := ys ++ [_]) h1 h2 (h3.append (.cons hw1 .nil))
          exact c _ _ _ e1 e2 (.v .non)
      · exact c.elim
    | dead => exact c.elim
    | dic _ _ => exact c.elim
theorem app_ref {Q : VK} {ω : EW} {n : Nat} {d0 : PyData} {v : V} {vs : List V} (r : Rl K w m H) (ho : RW K w H (.ref n) v) (hw : RWs K w H [.v d0] vs) (c : Cont K w H (RW K) Q ω (mthW .append (.ref n) [.v d0] m)) : rAppend v vs H Q := by
  simp only [mthW] at c
  cases ho with
  | ref ho =>
    cases q : m.S[n]? with
    | none => simp only [q] at c; exact c.bad_.elim
    | some ob =>
      simp only [q] at c
      have z := r.mu_ ho q
      cases ob with
      | lst xs =>
        simp only at c
        obtain ⟨ys, h2, h3⟩ := z
        split at c
        · rename_i hz
          cases hw with
          | cons hw1 hw2 =>
            cases hw2
            cases hw1 with
            | v hw1 =>
              refine ⟨_, ys, _, rfl, rfl, h2, by rw [← h3.length, szL_eq]; exact hz, ?_⟩
              obtain ⟨e1, e2⟩ := r.setS (ds := xs ++ [d0]) (xs' := ys ++ [_]) ho h2 (h3.append (.cons hw1 .nil))
              exact c _ _ _ e1 e2 (.v .non)
        · exact c.bad_.elim
      | ro _ => exact c.bad_.elim
      | ins _ _ => exact c.bad_.elim
def rExtT (K : PySem.W.Frag) : V → List V → Hp → VK → Prop := fun x vs H Q => ∃ l b xs zs, x = .ref l ∧ vs = [.ref b] ∧ H l = some (.lst xs) ∧ (H b = some (.lst zs) ∨ SqT K H b zs) ∧ xs.length + zs.length ≤ sizeLine ∧ Q .non (upd H l (.lst (xs ++ zs)))
theorem itemsT_ok {x : W} {v : V} {ws : List W} (r : Rl K w m H) (h : RW K w H x v) (e : itemsT m x = some ws) : ∃ a xs, v = .ref a ∧ (H a = some (.lst xs) ∨ SqT K H a xs) ∧ RWs K w H ws xs := by
  unfold itemsT at e
  split at e
  · cases e
    cases h with
    | v h =>
      obtain ⟨a, xs, rfl, h1, h2⟩ := RD.tup_ h
      exact ⟨a, xs, rfl, .inr h1, h2.ws⟩
  · obtain ⟨a, xs, h1, h2, h3⟩ := itemsL_ok r h e
    exact ⟨a, xs, h1, .inl h2, h3⟩
theorem ext_loc {Q : VK} {ω : EW} {n : Nat} {w0 : W} {v : V} {vs : List V} (r : Rl K w m H) (ho : RW K w H (.loc n) v) (hw : RWs K w H [w0] vs) (c : Cont K w H (RW K) Q ω (mthW .extend (.loc n) [w0] m)) : rExtT K v vs H Q := by
  simp only [mthW] at c
  cases q : m.L[n]? with
  | none => simp only [q] at c; exact c.elim
  | some ob =>
    simp only [q] at c
    cases ob with
    | lst xs =>
      simp only at c
      obtain ⟨a, ys, rfl, h1, h2, h3⟩ := r.l_ (o := .dead) ho q
      cases qi : itemsT m w0 with
      | none => rw [qi] at c; exact c.elim
      | some us =>
        rw [qi] at c
        simp only at c
        cases hw with
        | cons hw1 hw2 =>
          cases hw2
          obtain ⟨b, zs, rfl, k1, k2⟩ := itemsT_ok r hw1 qi
          split at c
          · rename_i hz
            refine ⟨a, b, ys, zs, rfl, rfl, h2, k1, by rw [← h3.length, ← k2.length, szL_eq]; exact hz, ?_⟩
            obtain ⟨e1, e2⟩ := r.setL (ws := xs ++ us) (xs' := ys ++ zs) h1 h2 (h3.append k2)
            exact c _ _ _ e1 e2 (.v .non)
          · exact c.elim
    | dead => exact c.elim
    | dic _ _ => exact c.elim
theorem pop_loc {Q : VK} {ω : EW} {n : Nat} {v : V} {vs : List V} (r : Rl K w m H) (ho : RW K w H (.loc n) v) (hw : RWs K w H [] vs) (c : Cont K w H (RW K) Q ω (mthW .pop (.loc n) [] m)) : rPop v vs H Q := by
  simp only [mthW] at c
  cases q : m.L[n]? with
  | none => simp only [q] at c; exact c.elim
  | some ob =>
    simp only [q] at c
    cases ob with
    | lst xs =>
      simp only at c
      obtain ⟨a, ys, rfl, h1, h2, h3⟩ := r.l_ (o := .dead) ho q
      cases qi : xs[xs.length - 1]? with
      | none => simp only [qi] at c; exact c.elim
      | some w0 =>
        simp only [qi] at c
        cases hw
        obtain ⟨y, k1, k2⟩ := h3.get qi
        rw [h3.length] at k1
        refine ⟨a, ys, y, rfl, rfl, h2, k1, ?_⟩
        obtain ⟨e1, e2⟩ := r.setL (ws := xs.dropLast) (xs' := ys.dropLast) h1 h2 h3.dropLast
        exact c _ _ _ e1 e2 (k2.ext e1)
    | dead => exact c.elim
    | dic _ _ => exact c.elim
theorem pop_ref {Q : VK} {ω : EW} {n : Nat} {v : V} {vs : List V} (r : Rl K w m H) (ho : RW K w H (.ref n) v) (hw : RWs K w H [] vs) (c : Cont K w H (RW K) Q ω (mthW .pop (.ref n) [] m)) : rPop v vs H Q := by
  simp only [mthW] at c
  cases ho with
  | ref ho =>
    cases q : m.S[n]? with
    | none => simp only [q] at c; exact c.bad_.elim
    | some ob =>
      simp only [q] at c
      have z := r.mu_ ho q
      cases ob with
      | lst xs =>
        simp only at c
        obtain ⟨ys, h2, h3⟩ := z
        cases qi : xs[xs.length - 1]? with
        | none => simp only [qi] at c; exact c.bad_.elim
        | some d0 =>
          simp only [qi] at c
          cases hw
          obtain ⟨y, k1, k2⟩ := h3.get qi
          rw [h3.length] at k1
          refine ⟨_, ys, y, rfl, rfl, h2, k1, ?_⟩
          obtain ⟨e1, e2⟩ := r.setS (ds := xs.dropLast) (xs' := ys.dropLast) ho h2 h3.dropLast
          exact c _ _ _ e1 e2 (.v (k2.ext e1))
      | ro _ => exact c.bad_.elim
      | ins _ _ => exact c.bad_.elim
def rM (K : PySem.W.Frag) (t : Mth) : V → List V → Hp → VK → Prop := match t with
  | .append => rAppend
  | .extend => rExtT K
  | .pop => rPop
theorem mth_ok {X : Cx} {t : Mth} {Q : VK} {ω : EW} {w : Wd} {m : Mem} {H : Hp} {o : W} {ws : List W} {v : V} {vs : List V} (r : Rl X.K w m H) (ho : RW X.K w H o v) (hw : RWs X.K w H ws vs) (c : Cont X.K w H (RW X.K) Q ω (mthW t o ws m)) :
    rM X.K t v vs H Q := by
  cases t with
  | append =>
    cases o with
    | loc n =>
      match ws, hw, c with
      | [w0], hw, c => exact app_loc r ho hw c
      | [], _, c => exact c.elim
      | _ :: _ :: _, _, c => exact c.elim
    | ref n =>
      match ws, hw, c with
      | [.v d], hw, c => exact app_ref r ho hw c
      | [.ref _], _, c => exact c.elim
      | [.loc _], _, c => exact c.elim
      | [.ro _], _, c => exact c.elim
      | [.exc _], _, c => exact c.elim
      | [.tv _], _, c => exact c.elim
      | [], _, c => exact c.elim
      | .v _ :: _ :: _, _, c => exact c.elim
      | .ref _ :: _ :: _, _, c => exact c.elim
      | .loc _ :: _ :: _, _, c => exact c.elim
      | .ro _ :: _ :: _, _, c => exact c.elim
      | .exc _ :: _ :: _, _, c => exact c.elim
      | .tv _ :: _ :: _, _, c => exact c.elim
    | v _ => exact c.elim
    | ro _ => exact c.elim
    | exc _ => exact c.elim
    | tv _ => exact c.elim
  | extend =>
    cases o with
    | loc n =>
      match ws, hw, c with
      | [w0], hw, c => exact ext_loc r ho hw c
      | [], _, c => exact c.elim
      | _ :: _ :: _, _, c => exact c.elim
    | ref n => exact c.elim
    | v _ => exact c.elim
    | ro _ => exact c.elim
    | exc _ => exact c.elim
    | tv _ => exact c.elim
  | pop =>
    cases o with
    | loc n =>
      match ws, hw, c with
      | [], hw, c => exact pop_loc r ho hw c
      | _ :: _, _, c => exact c.elim
    | ref n =>
      match ws, hw, c with
      | [], hw, c => exact pop_ref r ho hw c
      | _ :: _, _, c => exact c.elim
    | v _ => exact c.elim
    | ro _ => exact c.elim
    | exc _ => exact c.elim
    | tv _ => exact c.elim
theorem mty_loc {X : Cx} {w : Wd} {m : Mem} {H : Hp} {n : Nat} {v : V} (r : Rl X.K w m H) (ho : RW X.K w H (.loc n) v) (e : (match m.L[n]? with | some (.lst _) => true | _ => false) = true) : tyV X.K "list" v H := by
  cases q : m.L[n]? with
  | none => simp only [q] at e; cases e
  | some ob =>
    simp only [q] at e
    cases ob with
    | lst xs =>
      obtain ⟨a, ys, rfl, h1, h2, h3⟩ := r.l_ (o := .dead) ho q
      exact .inl ⟨rfl, ys, SqL.of h2⟩
    | dead => cases e
    | dic _ _ => cases e
theorem mty_ref {X : Cx} {w : Wd} {m : Mem} {H : Hp} {n : Nat} {v : V} (r : Rl X.K w m H) (ho : RW X.K w H (.ref n) v) (e : (match m.S[n]? with | some (.lst _) => true | _ => false) = true) : tyV X.K "list" v H := by
  cases ho with
  | ref ho =>
    cases q : m.S[n]? with
    | none => simp only [q] at e; cases e
    | some ob =>
      simp only [q] at e
      have z := r.mu_ ho q
      cases ob with
      | lst xs =>
        obtain ⟨ys, h2, h3⟩ := z
        exact .inl ⟨rfl, ys, SqL.of h2⟩
      | ro _ => cases e
      | ins _ _ => cases e
theorem mty_ok {X : Cx} {t : Mth} {w : Wd} {m : Mem} {H : Hp} {o : W} {v : V} (r : Rl X.K w m H) (ho : RW X.K w H o v) (e : mtyW t m o = true) : tyV X.K "list" v H := by
  cases o with
  | loc n => cases t <;> exact mty_loc r ho e
  | ref n => cases t <;> exact mty_ref r ho e
  | v _ => cases t <;> cases e
  | ro _ => cases t <;> cases e
  | exc _ => cases t <;> cases e
  | tv _ => cases t <;> cases e
theorem setIxW_ok {X : Cx} {w : Wd} {m m' : Mem} {H : Hp} {Q : Hp → Prop} {o i a : W} {x y z : V} (r : Rl X.K w m H) (ho : RW X.K w H o x) (hi : RW X.K w H i y) (ha : RW X.K w H a z) (e : setIxW m o i a = some m')
    (q : ∀ w' H', Ext w H w' H' → Rl X.K w' m' H' → Q H') : rSetL x y z H Q := by
  unfold setIxW at e
  split at e
  · rename_i k
    cases hi with
    | v hi =>
      cases (RD.int_ hi)
      split at e
      · rename_i n
        cases qq : m.L[n]? with
        | none => simp only [qq] at e; cases e
        | some ob =>
          simp only [qq] at e
          cases ob with
          | lst ws =>
            simp only at e
            obtain ⟨p, ys, rfl, h1, h2, h3⟩ := r.l_ (o := .dead) ho qq
            cases qi : Z.ixN ws.length k with
            | none => rw [qi] at e; cases e
            | some j =>
              rw [qi] at e
              cases e
              obtain ⟨e1, e2⟩ := r.setL (ws := ws.set j a) (xs' := ys.set j z) h1 h2 (h3.set j ha)
              exact ⟨p, ys, k, j, rfl, rfl, h2, by rw [← h3.length]; exact qi, q _ _ e1 e2⟩
          | dead => cases e
          | dic _ _ => cases e
      · rename_i n
        cases ho with
        | @ref _ p ho =>
          cases qq : m.S[n]? with
          | none => simp only [qq] at e; cases e
          | some ob =>
            simp only [qq] at e
            cases ob with
            | lst ds =>
              cases a with
              | v d =>
                cases ha with
                | v ha =>
                  simp only at e
                  obtain ⟨ys, h2, h3⟩ := r.mu_ ho qq
                  cases qi : Z.ixN ds.length k with
                  | none => rw [qi] at e; cases e
                  | some j =>
                    rw [qi] at e
                    cases e
                    obtain ⟨e1, e2⟩ := r.setS (ds := ds.set j d) (xs' := ys.set j z) ho h2 (h3.set j ha)
                    exact ⟨p, ys, k, j, rfl, rfl, h2, by rw [← h3.length]; exact qi, q _ _ e1 e2⟩
              | ref _ => cases e
              | loc _ => cases e
              | ro _ => cases e
              | exc _ => cases e
              | tv _ => cases e
            | ro ds => cases e
            | ins _ _ => cases e
      · cases e
  · cases e
end
end Z
set_option maxHeartbeats 4000000
/-! Y8: the text against the small language: expressions. -/
namespace Z
open PySem PySem.Spec PyProof.Rows L2
theorem R.b_assoc {α β γ : Type} (r : R α) (f : α → Mem → R β) (g : β → Mem → R γ) : (r.b f).b g = r.b fun a m => (f a m).b g := by cases r <;> rfl
theorem R.b_ok {α β : Type} (a : α) (m : Mem) (f : α → Mem → R β) : (R.ok a m).b f = f a m := rfl
/-! ### the checker -/
def dbg (x : Str) : Bool := !(x == ("__debug__" : Str)) && !(x == ("__classdict__" : Str)) && !(x == ("__name__" : Str))
def glb (Γ : Gm) (x : Str) : Bool := decide (Γ.nm.lookup x = some .globalImplicit)
def vis (Γ : Gm) (x : Str) : Bool := match Γ.nm.lookup x with
  | some .local => true
  | some .cell => true
  | some .free => true
  | _ => false
def constIs : Const → PyData → Bool
  | .none, .none => true
  | .bool a, .bool b => decide (a = b)
  | .int a, .int b => decide (a = b)
  | .str a, .str b => decide (a = b)
  | _, _ => false
mutual
def sameD : PyData → PyData → Bool
  | .none, .none => true
  | .bool a, .bool b => decide (a = b)
  | .int a, .int b => decide (a = b)
  | .str a, .str b => decide (a = b)
  | .tuple xs, .tuple ys => sameDs xs ys
  | _, _ => false
def sameDs : List PyData → List PyData → Bool
  | [], [] => true
  | x :: xs, y :: ys => sameD x y && sameDs xs ys
  | _, _ => false
end
mutual
theorem sameD_eq : ∀ {a b : PyData}, sameD a b = true → a = b
  | .none, .none, _ => rfl
  | .bool a, .bool b, h => by simp only [sameD, decide_eq_true_eq] at h; rw [h]
  | .int a, .int b, h => by simp only [sameD, decide_eq_true_eq] at h; rw [h]
  | .str a, .str b, h => by simp only [sameD, decide_eq_true_eq] at h; rw [h]
  | .tuple xs, .tuple ys, h => by simp only [sameD] at h; rw [sameDs_eq h]
  | .list _, b, h => by simp [sameD] at h
  | .dict _, b, h => by simp [sameD] at h
  | .none, .bool _, h | .none, .int _, h | .none, .str _, h | .none, .tuple _, h | .none, .list _, h | .none, .dict _, h => by simp [sameD] at h
  | .bool _, .none, h | .bool _, .int _, h | .bool _, .str _, h | .bool _, .tuple _, h | .bool _, .list _, h | .bool _, .dict _, h => by simp [sameD] at h
  | .int _, .none, h | .int _, .bool _, h | .int _, .str _, h | .int _, .tuple _, h | .int _, .list _, h | .int _, .dict _, h => by simp [sameD] at h
  | .str _, .none, h | .str _, .bool _, h | .str _, .int _, h | .str _, .tuple _, h | .str _, .list _, h | .str _, .dict _, h => by simp [sameD] at h
  | .tuple _, .none, h | .tuple _, .bool _, h | .tuple _, .int _, h | .tuple _, .str _, h | .tuple _, .list _, h | .tuple _, .dict _, h => by simp [sameD] at h
theorem sameDs_eq : ∀ {a b : List PyData}, sameDs a b = true → a = b
  | [], [], _ => rfl
  | x :: xs, y :: ys, h => by
    simp only [sameDs, Bool.and_eq_true] at h
    rw [sameD_eq h.1, sameDs_eq h.2]
  | [], _ :: _, h => by simp [sameDs] at h
  | _ :: _, [], h => by simp [sameDs] at h
end
/-- no displays of sets, no slices, no stars -/
def okX : Expr → Bool
  | .Set .. => false
  | .Slice .. => false
  | .Starred .. => false
  | _ => true
def notStar : Expr → Bool
  | .Starred .. => false
  | _ => true
def plain (xs : List Expr) : Bool := !xs.isEmpty && xs.all notStar
/-- may stand as a test -/
def tst : E → Bool
  | .frz _ => false
  | .ite _ a b => tst a && tst b
  | _ => true
def tstS : ES → Bool
  | .nil => true
  | .cons e r => tst e && tstS r
  | .star _ _ => false
def relN (nm : List (Str × NameKind)) (sc : Scope) : List (Str × NameKind) := sc.names.map fun (n, k) => if (k == .free && nm.lookup n == some .cell) then (n, .cell) else (n, k)
def Gm.blk (Γ : Gm) (sc : Scope) : Gm := { Γ with nm := relN Γ.nm sc, on := sc.names }
def ownOf (Γ : Gm) (own : List Nat) : List (Str × Nat) := own.map fun i => (Γ.N.getD i "", i)
def scOf (Γ : Gm) : Scope := { kind := .function, names := Γ.nm, isGenerator := false, isCoroutine := false }
def isTup : Expr → Bool
  | .Tuple .. => true
  | _ => false
def chkTy (Γ : Gm) (t : Ty) : Expr → Bool
  | .Name x _ => decide (x = (tyS t : Str)) && glb Γ x
  | _ => false
def chkTys (Γ : Gm) : List Ty → List Expr → Bool
  | [], [] => true
  | t :: ts, x :: xs => chkTy Γ t x && chkTys Γ ts xs
  | _, _ => false
def mthN : Mth → Str
  | .append => "append"
  | .extend => "extend"
  | .pop => "pop"
def notSuper : Expr → Bool
  | .Call .. => false
  | _ => true
/-- ds are the last defaults; n parameters, k written -/
def dflt (fi : FI) (ds : List PyData) (k : Nat) : Bool := decide (k + ds.length = fi.n) && decide (ds.length ≤ fi.ds.length) && sameDs ds (fi.ds.drop (fi.ds.length - ds.length))
def isNone : Expr → Bool
  | .Constant .none _ _ => true
  | _ => false
def isZero : Int → Bool
  | 0 => true
  | _ => false
mutual
def chk (Γ : Gm) : E → Expr → Bool
  | .var i, .Name x _ => decide (Γ.N[i]? = some x) && vis Γ x && dbg x
  | .cst d, .Constant c _ _ => constIs c d
  | .cst d, .Name x _ => (match Γ.gc.lookup x with | some d' => sameD d' d | none => false) && glb Γ x && dbg x
  | .bin o a b, .BinOp x op y _ => decide (op = opB o) && chk Γ a x && chk Γ b y
  | .neg a, .UnaryOp op x _ => decide (op = .USub) && chk Γ a x
  | .cmp o a b, .Compare x [op] [y] _ => decide (op = opC o) && chk Γ a x && chk Γ b y
  | .chn o1 o2 a b c, .Compare x [p1, p2] [y, z] _ => decide (p1 = opC o1) && decide (p2 = opC o2) && chk Γ a x && chk Γ b y && chk Γ c z
  | .isN a, .Compare x [op] [y] _ => decide (op = .Is) && isNone y && chk Γ a x
  | .notN a, .Compare x [op] [y] _ => decide (op = .IsNot) && isNone y && chk Γ a x
  | .not a, .UnaryOp op x _ => decide (op = .Not) && tst a && chk Γ a x
  | .and es, .BoolOp op xs _ => decide (op = .And) && tstS es && chkB Γ es xs
  | .or es, .BoolOp op xs _ => decide (op = .Or) && tstS es && chkB Γ es xs
  | .ite c a b, .IfExp x y z _ => tst c && chk Γ c x && chk Γ a y && chk Γ b z
  | .tup es, .Tuple xs _ _ => chkS Γ es xs
  | .tupS es, .Tuple xs _ _ => chkS Γ es xs
  | .catS a b, .BinOp x op y _ => decide (op = .Add) && chk Γ a x && chk Γ b y
  | .lst _ l, x => chkL Γ l x
  | .ix a i, .Subscript x y _ => chk Γ a x && chk Γ i y
  | .sl a lo hi, .Subscript x (.Slice l h none _) _ => chk Γ a x && chkO Γ lo l && chkO Γ hi h
  | .call f es, .Call (.Name x _) xs [] _ => (match Γ.fn.lookup x with | some fi => decide (fi.id = f) && decide (fi.n = xs.length) | none => false) && glb Γ x && dbg x && xs.all notStar && chkS Γ es xs
  | .callD f es ds, .Call (.Name x _) xs [] _ => (match Γ.fn.lookup x with | some fi => decide (fi.id = f) && dflt fi ds xs.length | none => false) && glb Γ x && dbg x && xs.all notStar && chkS Γ es xs
  | .new c f es ds, .Call (.Name x _) xs [] _ => decide (x = c) && decide (c ∈ Γ.cl) && (match Γ.mt.lookup (c, ("__init__" : Str)) with | some fi => decide (fi.id = f) && dflt fi ds (xs.length + 1) | none => false) && glb Γ x && dbg x && xs.all notStar && chkS Γ es xs
  | .mc (.meth n) c f o es ds, .Call (.Attribute y m p) xs [] q => decide (m = n) && notSuper y && (match Γ.mt.lookup (c, m) with | some fi => decide (fi.id = f) && dflt fi ds (xs.length + 1) | none => false) && (p.endLine == q.line) && decide (xs.length < 29) && xs.all notStar && chk Γ o y && chkS Γ es xs
  | .prp c n f o, .Attribute y m _ => decide (m = n) && notSuper y && decide (Γ.pr.lookup (c, m) = some f) && chk Γ o y
  | .fld c o n, .Attribute y m _ => decide (m = n) && notSuper y && decide ((c, m) ∈ Γ.fl) && decide (c ∈ Γ.cl) && chk Γ o y
  | .never, x => okX x
  | .dnew .fz, .Dict [] [] _ => true
  | .dstar d k v, .Dict [none, some y] [x, z] _ => chk Γ d x && chk Γ k y && chk Γ v z
  | .sset e, .Call (.Name x _) [.Call (.Name y _) [z] [] _] [] _ => decide (x = ("sorted" : Str)) && decide (y = ("set" : Str)) && glb Γ x && glb Γ y && notStar z && chk Γ e z
  | .dm .index o es, .Call (.Attribute y m p) xs [] q => decide (m = ("index" : Str)) && notSuper y && (p.endLine == q.line) && plain xs && decide (xs.length < 29) && chk Γ o y && chkS Γ es xs
  | .blt b es, .Call (.Name x _) xs [] _ => decide (x = bltN b) && glb Γ x && plain xs && chkS Γ es xs
  | .isi ts a, .Call (.Name x _) [y, t] [] _ => decide (x = ("isinstance" : Str)) && glb Γ x && notStar y && chk Γ a y && (match t with
    | .Name n p => (match ts with | [t] => chkTy Γ t (.Name n p) | _ => false)
    | .Tuple ns _ _ => decide (ts.length ≤ 100) && chkTys Γ ts ns
    | _ => false)
  | .frz a, x => chk Γ a x
  | .mth t o es, .Call (.Attribute x n p) xs [] q => decide (n = mthN t) && notSuper x && (p.endLine == q.line) && plain xs && decide (xs.length < 29) && chk Γ o x && chkS Γ es xs
  | _, _ => false
def chkS (Γ : Gm) : ES → List Expr → Bool
  | .nil, [] => true
  | .cons e r, x :: xs => notStar x && chk Γ e x && chkS Γ r xs
  | .star e r, .Starred x _ :: xs => chk Γ e x && chkS Γ r xs
  | _, _ => false
def chkB (Γ : Gm) : ES → List Expr → Bool
  | .cons e .nil, [x] => chk Γ e x
  | .cons e (.cons e2 r), x :: y :: xs => chk Γ e x && chkB Γ (.cons e2 r) (y :: xs)
  | _, _ => false
def chkO (Γ : Gm) : OE → Option Expr → Bool
  | .none, none => true
  | .some e, some x => chk Γ e x
  | _, _ => false
def chkL (Γ : Gm) : LE → Expr → Bool
  | .disp es, .List xs _ => chkS Γ es xs
  | .cat a b, .BinOp x op y _ => decide (op = .Add) && chk Γ a x && chk Γ b y
  | .of e, .Call (.Name x _) [y] [] _ => decide (x = ("list" : Str)) && glb Γ x && notStar y && chk Γ e y
  | .comp2 own own2 g src ifs g2 src2 ifs2 elt, .ListComp el [⟨tg, it, fs, as⟩, ⟨tg2, it2, fs2, as2⟩] sc _ => isZero as && isZero as2 && blkC Γ.N (scOf Γ) sc (ownOf Γ own) && (slots g).all (fun i => own.contains i) && (slots g2).all (fun i => own2.contains i) && own2.all (fun i => own.contains i) && chkI Γ src tg it && chkG (Γ.blk sc) g tg && chkF (Γ.blk sc) ifs fs && chkI (Γ.blk sc) src2 tg2 it2 && chkG (Γ.blk sc) g2 tg2 && chkF (Γ.blk sc) ifs2 fs2 && chk (Γ.blk sc) elt el
  | .comp own g src ifs elt, .ListComp el [⟨tg, it, fs, as⟩] sc _ => isZero as && blkC Γ.N (scOf Γ) sc (ownOf Γ own) && (slots g).all (fun i => own.contains i) && chkI Γ src tg it && chkG (Γ.blk sc) g tg && chkF (Γ.blk sc) ifs fs && chk (Γ.blk sc) elt el
  | _, _ => false
def chkF (Γ : Gm) : ES → List Expr → Bool
  | .nil, [] => true
  | .cons e .nil, [x] => tst e && chk Γ e x
  | _, _ => false
def chkI (Γ : Gm) : IT → Expr → Expr → Bool
  | .seq e, _, x => chk Γ e x
  | .rng1 e, _, .Call (.Name n _) [x] [] _ => decide (n = ("range" : Str)) && glb Γ n && notStar x && chk Γ e x
  | .rng2 a b, _, .Call (.Name n _) [x, y] [] _ => decide (n = ("range" : Str)) && glb Γ n && notStar x && notStar y && chk Γ a x && chk Γ b y
  | .enm e, tg, .Call (.Name n _) [x] [] _ => decide (n = ("enumerate" : Str)) && glb Γ n && isTup tg && notStar x && chk Γ e x
  | .zip a b, tg, .Call (.Name n _) [x, y] [] _ => decide (n = ("zip" : Str)) && glb Γ n && isTup tg && notStar x && notStar y && chk Γ a x && chk Γ b y
  | _, _, _ => false
end
end Z
set_option maxHeartbeats 4000000
/-! Y9: expressions: the machine does what the evaluator says. -/
namespace Z
open PySem PySem.Spec PyProof.Rows L2 RZ
/-! ### inversions -/
section
variable {Γ : Gm} {x : Expr}
theorem chk_bin {o : Bop} {a b : E} (h : chk Γ (.bin o a b) x = true) : ∃ y z p, x = .BinOp y (opB o) z p ∧ chk Γ a y = true ∧ chk Γ b z = true := by
  cases x <;> first | exact absurd h Bool.false_ne_true | skip
  rename_i y op z p
  simp only [chk, Bool.and_eq_true, decide_eq_true_eq] at h
  exact ⟨y, z, p, by rw [h.1.1], h.1.2, h.2⟩
theorem chk_neg {a : E} (h : chk Γ (.neg a) x = true) : ∃ y p, x = .UnaryOp .USub y p ∧ chk Γ a y = true := by
  cases x <;> first | exact absurd h Bool.false_ne_true | skip
  rename_i op y p
  simp only [chk, Bool.and_eq_true, decide_eq_true_eq] at h
  exact ⟨y, p, by rw [h.1], h.2⟩
theorem chk_not {a : E} (h : chk Γ (.not a) x = true) : ∃ y p, x = .UnaryOp .Not y p ∧ tst a = true ∧ chk Γ a y = true := by
  cases x <;> first | exact absurd h Bool.false_ne_true | skip
  rename_i op y p
  simp only [chk, Bool.and_eq_true, decide_eq_true_eq] at h
  exact ⟨y, p, by rw [h.1.1], h.1.2, h.2⟩
theorem chk_and {es : ES} (h : chk Γ (.and es) x = true) : ∃ xs p, x = .BoolOp .And xs p ∧ tstS es = true ∧ chkB Γ es xs = true := by
  cases x <;> first | exact absurd h Bool.false_ne_true | skip
  rename_i op y p
  simp only [chk, Bool.and_eq_true, decide_eq_true_eq] at h
  exact ⟨y, p, by rw [h.1.1], h.1.2, h.2⟩
theorem chk_or {es : ES} (h : chk Γ (.or es) x = true) : ∃ xs p, x = .BoolOp .Or xs p ∧ tstS es = true ∧ chkB Γ es xs = true := by
  cases x <;> first | exact absurd h Bool.false_ne_true | skip
  rename_i op y p
  simp only [chk, Bool.and_eq_true, decide_eq_true_eq] at h
  exact ⟨y, p, by rw [h.1.1], h.1.2, h.2⟩
theorem chk_ite {c a b : E} (h : chk Γ (.ite c a b) x = true) : ∃ u v y p, x = .IfExp u v y p ∧ tst c = true ∧ chk Γ c u = true ∧ chk Γ a v = true ∧ chk Γ b y = true := by
  cases x <;> first | exact absurd h Bool.false_ne_true | skip
  simp only [chk, Bool.and_eq_true] at h
  exact ⟨_, _, _, _, rfl, h.1.1.1, h.1.1.2, h.1.2, h.2⟩
theorem chk_tup {es : ES} (h : chk Γ (.tup es) x = true) : ∃ xs k p, x = .Tuple xs k p ∧ chkS Γ es xs = true := by
  cases x <;> first | exact absurd h Bool.false_ne_true | exact ⟨_, _, _, rfl, h⟩
theorem chk_tupS {es : ES} (h : chk Γ (.tupS es) x = true) : ∃ xs k p, x = .Tuple xs k p ∧ chkS Γ es xs = true := by
  cases x <;> first | exact absurd h Bool.false_ne_true | exact ⟨_, _, _, rfl, h⟩
theorem chk_catS {a b : E} (h : chk Γ (.catS a b) x = true) : ∃ y z p, x = .BinOp y .Add z p ∧ chk Γ a y = true ∧ chk Γ b z = true := by
  cases x <;> first | exact absurd h Bool.false_ne_true | skip
  rename_i y op z p
  simp only [chk, Bool.and_eq_true, decide_eq_true_eq] at h
  exact ⟨y, z, p, by rw [h.1.1], h.1.2, h.2⟩
theorem chk_ix {a i : E} (h : chk Γ (.ix a i) x = true) : ∃ y z p, x = .Subscript y z p ∧ chk Γ a y = true ∧ chk Γ i z = true := by
  cases x <;> first | exact absurd h Bool.false_ne_true | skip
  simp only [chk, Bool.and_eq_true] at h
  exact ⟨_, _, _, rfl, h⟩
theorem chk_sl {a : E} {lo hi : OE} (h : chk Γ (.sl a lo hi) x = true) : ∃ y l u p q, x = .Subscript y (.Slice l u none q) p ∧ chk Γ a y = true ∧ chkO Γ lo l = true ∧ chkO Γ hi u = true := by
  cases x <;> first | exact absurd h Bool.false_ne_true | skip
  rename_i y z p
  cases z <;> first | exact absurd h Bool.false_ne_true | skip
  rename_i l u st q
  cases st <;> first | exact absurd h Bool.false_ne_true | skip
  simp only [chk, Bool.and_eq_true] at h
  exact ⟨_, _, _, _, _, rfl, h.1.1, h.1.2, h.2⟩
theorem chk_cmp {o : Cop} {a b : E} (h : chk Γ (.cmp o a b) x = true) : ∃ y z p, x = .Compare y [opC o] [z] p ∧ chk Γ a y = true ∧ chk Γ b z = true := by
  cases x <;> first | exact absurd h Bool.false_ne_true | skip
  rename_i y ops zs p
  rcases ops with _ | ⟨op, _ | ⟨op2, ops⟩⟩ <;> rcases zs with _ | ⟨z, _ | ⟨z2, zs⟩⟩ <;> first | exact absurd h Bool.false_ne_true | skip
  simp only [chk, Bool.and_eq_true, decide_eq_true_eq] at h
  exact ⟨_, _, _, by rw [h.1.1], h.1.2, h.2⟩
theorem chk_chn {o1 o2 : Cop} {a b c : E} (h : chk Γ (.chn o1 o2 a b c) x = true) : ∃ y z u p, x = .Compare y [opC o1, opC o2] [z, u] p ∧ chk Γ a y = true ∧ chk Γ b z = true ∧ chk Γ c u = true := by
  cases x <;> first | exact absurd h Bool.false_ne_true | skip
  rename_i y ops zs p
  rcases ops with _ | ⟨op, _ | ⟨op2, _ | ⟨op3, ops⟩⟩⟩ <;> rcases zs with _ | ⟨z, _ | ⟨z2, _ | ⟨z3, zs⟩⟩⟩ <;> first | exact absurd h Bool.false_ne_true | skip
  simp only [chk, Bool.and_eq_true, decide_eq_true_eq] at h
  exact ⟨_, _, _, _, by rw [h.1.1.1.1, h.1.1.1.2], h.1.1.2, h.1.2, h.2⟩
theorem isNone_eq {y : Expr} (h : isNone y = true) : ∃ k p, y = .Constant .none k p := by
  cases y <;> first | exact absurd h Bool.false_ne_true | skip
  rename_i c k p
  cases c <;> first | exact absurd h Bool.false_ne_true | exact ⟨_, _, rfl⟩
theorem chk_isN {a : E} (h : chk Γ (.isN a) x = true) : ∃ y k p q, x = .Compare y [.Is] [.Constant .none k q] p ∧ chk Γ a y = true := by
  cases x <;> first | exact absurd h Bool.false_ne_true | skip
  rename_i y ops zs p
  rcases ops with _ | ⟨op, _ | ⟨op2, ops⟩⟩ <;> rcases zs with _ | ⟨z, _ | ⟨z2, zs⟩⟩ <;> first | exact absurd h Bool.false_ne_true | skip
  simp only [chk, Bool.and_eq_true, decide_eq_true_eq] at h
  obtain ⟨k, q, rfl⟩ := isNone_eq h.1.2
  exact ⟨_, _, _, _, by rw [h.1.1], h.2⟩
theorem chk_notN {a : E} (h : chk Γ (.notN a) x = true) : ∃ y k p q, x = .Compare y [.IsNot] [.Constant .none k q] p ∧ chk Γ a y = true := by
  cases x <;> first | exact absurd h Bool.false_ne_true | skip
  rename_i y ops zs p
  rcases ops with _ | ⟨op, _ | ⟨op2, ops⟩⟩ <;> rcases zs with _ | ⟨z, _ | ⟨z2, zs⟩⟩ <;> first | exact absurd h Bool.false_ne_true | skip
  simp only [chk, Bool.and_eq_true, decide_eq_true_eq] at h
  obtain ⟨k, q, rfl⟩ := isNone_eq h.1.2
  exact ⟨_, _, _, _, by rw [h.1.1], h.2⟩
theorem dflt_ok {fi : FI} {ds : List PyData} {k : Nat} (h : dflt fi ds k = true) : k + ds.length = fi.n ∧ ds.length ≤ fi.ds.length ∧ ds = fi.ds.drop (fi.ds.length - ds.length) := by
  simp only [dflt, Bool.and_eq_true, decide_eq_true_eq] at h
  exact ⟨h.1.1, h.1.2, sameDs_eq h.2⟩
theorem chk_call {f : Nat} {es : ES} (h : chk Γ (.call f es) x = true) : ∃ n xs p q fi, x = .Call (.Name n p) xs [] q ∧ Γ.fn.lookup n = some fi ∧ fi.id = f ∧ fi.n = xs.length ∧ glb Γ n = true ∧ dbg n = true ∧ xs.all notStar = true ∧ chkS Γ es xs = true := by
  cases x <;> first | exact absurd h Bool.false_ne_true | skip
  rename_i fn xs kw q
  cases fn <;> first | exact absurd h Bool.false_ne_true | skip
  rename_i n p
  cases kw <;> first | exact absurd h Bool.false_ne_true | skip
  simp only [chk, Bool.and_eq_true] at h
  obtain ⟨⟨⟨⟨h1, h2⟩, h3⟩, h4⟩, h5⟩ := h
  split at h1
  · rename_i fi e
    simp only [Bool.and_eq_true, decide_eq_true_eq] at h1
    exact ⟨n, xs, p, q, fi, rfl, e, h1.1, h1.2, h2, h3, h4, h5⟩
  · cases h1
theorem chk_callD {f : Nat} {es : ES} {ds : List PyData} (h : chk Γ (.callD f es ds) x = true) : ∃ n xs p q fi, x = .Call (.Name n p) xs [] q ∧ Γ.fn.lookup n = some fi ∧ fi.id = f ∧ dflt fi ds xs.length = true ∧ glb Γ n = true ∧ dbg n = true ∧ xs.all notStar = true ∧ chkS Γ es xs = true := by
  cases x <;> first | exact absurd h Bool.false_ne_true | skip
  rename_i fn xs kw q
  cases fn <;> first | exact absurd h Bool.false_ne_true | skip
  rename_i n p
  cases kw <;> first | exact absurd h Bool.false_ne_true | skip
  simp only [chk, Bool.and_eq_true] at h
  obtain ⟨⟨⟨⟨h1, h2⟩, h3⟩, h4⟩, h5⟩ := h
  split at h1
  · rename_i fi e
    simp only [Bool.and_eq_true, decide_eq_true_eq] at h1
    exact ⟨n, xs, p, q, fi, rfl, e, h1.1, h1.2, h2, h3, h4, h5⟩
  · cases h1
theorem chk_new {c : Str} {f : Nat} {es : ES} {ds : List PyData} (h : chk Γ (.new c f es ds) x = true) : ∃ xs p q fi, x = .Call (.Name c p) xs [] q ∧ c ∈ Γ.cl ∧ Γ.mt.lookup (c, ("__init__" : Str)) = some fi ∧ fi.id = f ∧ dflt fi ds (xs.length + 1) = true ∧ glb Γ c = true ∧ dbg c = true ∧ xs.all notStar = true ∧ chkS Γ es xs = true := by
  cases x <;> first | exact absurd h Bool.false_ne_true | skip
  rename_i fn xs kw q
  cases fn <;> first | exact absurd h Bool.false_ne_true | skip
  rename_i n p
  cases kw <;> first | exact absurd h Bool.false_ne_true | skip
  simp only [chk, Bool.and_eq_true, decide_eq_true_eq] at h
  obtain ⟨⟨⟨⟨⟨⟨h0, hc⟩, h1⟩, h2⟩, h3⟩, h4⟩, h5⟩ := h
  subst h0
  split at h1
  · rename_i fi e
    simp only [Bool.and_eq_true, decide_eq_true_eq] at h1
    exact ⟨xs, p, q, fi, rfl, hc, e, h1.1, h1.2, h2, h3, h4, h5⟩
  · cases h1
theorem chk_mc {k : Mk} {c : Str} {f : Nat} {o : E} {es : ES} {ds : List PyData} (h : chk Γ (.mc k c f o es ds) x = true) : ∃ n y xs p q fi, k = .meth n ∧ x = .Call (.Attribute y n p) xs [] q ∧ notSuper y = true ∧ Γ.mt.lookup (c, n) = some fi ∧ fi.id = f ∧ dflt fi ds (xs.length + 1) = true ∧ (p.endLine == q.line) = true ∧ xs.length < 29 ∧ xs.all notStar = true ∧ chk Γ o y = true ∧ chkS Γ es xs = true := by
  cases k <;> first | exact absurd h Bool.false_ne_true | skip
  rename_i n0
  cases x <;> first | exact absurd h Bool.false_ne_true | skip
  rename_i fn xs kw q
  cases fn <;> first | exact absurd h Bool.false_ne_true | skip
  rename_i y n p
  cases kw <;> first | exact absurd h Bool.false_ne_true | skip
  simp only [chk, Bool.and_eq_true, decide_eq_true_eq] at h
  obtain ⟨⟨⟨⟨⟨⟨⟨h0, h1⟩, h2⟩, h3⟩, h4⟩, h5⟩, h6⟩, h7⟩ := h
  subst h0
  split at h2
  · rename_i fi e
    simp only [Bool.and_eq_true, decide_eq_true_eq] at h2
    exact ⟨n, y, xs, p, q, fi, rfl, rfl, h1, e, h2.1, h2.2, h3, h4, h5, h6, h7⟩
  · cases h2
theorem chk_prp {c n : Str} {f : Nat} {o : E} (h : chk Γ (.prp c n f o) x = true) : ∃ y p, x = .Attribute y n p ∧ notSuper y = true ∧ Γ.pr.lookup (c, n) = some f ∧ chk Γ o y = true := by
  cases x <;> first | exact absurd h Bool.false_ne_true | skip
  simp only [chk, Bool.and_eq_true, decide_eq_true_eq] at h
  obtain ⟨⟨⟨h0, h1⟩, h2⟩, h3⟩ := h
  subst h0
  exact ⟨_, _, rfl, h1, h2, h3⟩
theorem chk_fld {c n : Str} {o : E} (h : chk Γ (.fld c o n) x = true) : ∃ y p, x = .Attribute y n p ∧ notSuper y = true ∧ (c, n) ∈ Γ.fl ∧ c ∈ Γ.cl ∧ chk Γ o y = true := by
  cases x <;> first | exact absurd h Bool.false_ne_true | skip
  simp only [chk, Bool.and_eq_true, decide_eq_true_eq] at h
  obtain ⟨⟨⟨⟨h0, h1⟩, h2⟩, h3⟩, h4⟩ := h
  subst h0
  exact ⟨_, _, rfl, h1, h2, h3, h4⟩
theorem chk_dnew {k : Kd} (h : chk Γ (.dnew k) x = true) : ∃ p, k = .fz ∧ x = .Dict [] [] p := by
  cases k <;> first | exact absurd h Bool.false_ne_true | skip
  cases x <;> first | exact absurd h Bool.false_ne_true | skip
  rename_i ks vs p
  rcases ks with _ | ⟨k1, _ | ⟨k2, ks⟩⟩ <;> rcases vs with _ | ⟨v1, _ | ⟨v2, vs⟩⟩ <;> first | exact absurd h Bool.false_ne_true | skip
  exact ⟨p, rfl, rfl⟩
theorem chk_dstar {d k v : E} (h : chk Γ (.dstar d k v) x = true) : ∃ a b c p, x = .Dict [none, some b] [a, c] p ∧ chk Γ d a = true ∧ chk Γ k b = true ∧ chk Γ v c = true := by
  cases x <;> first | exact absurd h Bool.false_ne_true | skip
  rename_i ks vs p
  rcases ks with _ | ⟨_ | k1, _ | ⟨_ | k2, _ | ⟨k3, ks⟩⟩⟩ <;> rcases vs with _ | ⟨v1, _ | ⟨v2, _ | ⟨v3, vs⟩⟩⟩ <;> first | exact absurd h Bool.false_ne_true | skip
  simp only [chk, Bool.and_eq_true] at h
  exact ⟨_, _, _, p, rfl, h.1.1, h.1.2, h.2⟩
theorem chk_sset {e : E} (h : chk Γ (.sset e) x = true) : ∃ z p1 p2 q1 q2, x = .Call (.Name ("sorted" : Str) p1) [.Call (.Name ("set" : Str) p2) [z] [] q2] [] q1 ∧ glb Γ ("sorted" : Str) = true ∧ glb Γ ("set" : Str) = true ∧ notStar z = true ∧ chk Γ e z = true := by
  cases x <;> first | exact absurd h Bool.false_ne_true | skip
  rename_i fn xs kw q
  cases fn <;> first | exact absurd h Bool.false_ne_true | skip
  rcases xs with _ | ⟨y, _ | ⟨y2, xs⟩⟩ 
  · exact absurd h Bool.false_ne_true
  · cases y <;> first | exact absurd h Bool.false_ne_true | skip
    rename_i fn xs kw' q
    cases fn <;> first | exact absurd h Bool.false_ne_true | skip
    rcases xs with _ | ⟨y, _ | ⟨y2, xs⟩⟩
    · exact absurd h Bool.false_ne_true
    · cases kw' with
      | nil =>
        cases kw with
        | nil =>
          simp only [chk, Bool.and_eq_true, decide_eq_true_eq] at h
          obtain ⟨⟨⟨⟨⟨h0, h1⟩, h2⟩, h3⟩, h4⟩, h5⟩ := h
          subst h0
          subst h1
          exact ⟨_, _, _, _, _, rfl, h2, h3, h4, h5⟩
        | cons _ _ => exact absurd h Bool.false_ne_true
      | cons _ _ => exact absurd h Bool.false_ne_true
    · exact absurd h (by simp [chk])
  · exact absurd h (by simp [chk])
theorem chk_dm {t : Dm} {o : E} {es : ES} (h : chk Γ (.dm t o es) x = true) : ∃ y xs p q, t = .index ∧ x = .Call (.Attribute y ("index" : Str) p) xs [] q ∧ notSuper y = true ∧ (p.endLine == q.line) = true ∧ plain xs = true ∧ xs.length < 29 ∧ chk Γ o y = true ∧ chkS Γ es xs = true := by
  cases t <;> first | exact absurd h Bool.false_ne_true | skip
  cases x <;> first | exact absurd h Bool.false_ne_true | skip
  rename_i fn xs kw q
  cases fn <;> first | exact absurd h Bool.false_ne_true | skip
  rename_i y n p
  cases kw <;> first | exact absurd h Bool.false_ne_true | skip
  simp only [chk, Bool.and_eq_true, decide_eq_true_eq] at h
  obtain ⟨⟨⟨⟨⟨⟨h1, h2⟩, h3⟩, h4⟩, h5⟩, h6⟩, h7⟩ := h
  subst h1
  exact ⟨y, xs, p, q, rfl, rfl, h2, h3, h4, h5, h6, h7⟩
theorem chk_blt {b : Blt} {es : ES} (h : chk Γ (.blt b es) x = true) : ∃ xs p q, x = .Call (.Name (bltN b) p) xs [] q ∧ glb Γ (bltN b) = true ∧ plain xs = true ∧ chkS Γ es xs = true := by
  cases x <;> first | exact absurd h Bool.false_ne_true | skip
  rename_i fn xs kw q
  cases fn <;> first | exact absurd h Bool.false_ne_true | skip
  rename_i n p
  cases kw <;> first | exact absurd h Bool.false_ne_true | skip
  simp only [chk, Bool.and_eq_true, decide_eq_true_eq] at h
  obtain ⟨⟨⟨h1, h2⟩, h3⟩, h4⟩ := h
  subst h1
  exact ⟨xs, p, q, rfl, h2, h3, h4⟩
theorem chk_mth {t : Mth} {o : E} {es : ES} (h : chk Γ (.mth t o es) x = true) : ∃ y xs p q, x = .Call (.Attribute y (mthN t) p) xs [] q ∧ notSuper y = true ∧ (p.endLine == q.line) = true ∧ plain xs = true ∧ xs.length < 29 ∧ chk Γ o y = true ∧ chkS Γ es xs = true := by
  cases x <;> first | exact absurd h Bool.false_ne_true | skip
  rename_i fn xs kw q
  cases fn <;> first | exact absurd h Bool.false_ne_true | skip
  rename_i y n p
  cases kw <;> first | exact absurd h Bool.false_ne_true | skip
  simp only [chk, Bool.and_eq_true, decide_eq_true_eq] at h
  obtain ⟨⟨⟨⟨⟨⟨h1, h2⟩, h3⟩, h4⟩, h5⟩, h6⟩, h7⟩ := h
  subst h1
  exact ⟨y, xs, p, q, rfl, h2, h3, h4, h5, h6, h7⟩
end
theorem chkL_ok {Γ : Gm} {l : LE} {x : Expr} (h : chkL Γ l x = true) : okX x = true := by
  cases l <;> cases x <;> first | rfl | exact absurd h Bool.false_ne_true
theorem chk_ok {Γ : Gm} {x : Expr} : ∀ {e : E}, chk Γ e x = true → okX x = true
  | .frz a, h => chk_ok (e := a) h
  | .lst _ l, h => chkL_ok (l := l) h
  | .var _, h | .cst _, h | .bin .., h | .neg _, h | .cmp .., h | .chn .., h | .isN _, h | .notN _, h | .not _, h | .and _, h | .or _, h | .ite .., h | .tup _, h | .ix .., h | .sl .., h | .call .., h | .blt .., h | .isi .., h | .mth .., h | .callD .., h | .new .., h | .prp .., h | .fld .., h | .dstar .., h | .sset .., h | .xfld .., h | .isx .., h | .mIn .., h | .lset .., h | .gix .., h | .tupS .., h | .catS .., h => by
    cases x <;> first | rfl | exact absurd h Bool.false_ne_true
  | .never, h => h
  | .mc k .., h => by
    obtain ⟨n, y, xs, p, q, fi, rfl, rfl, _⟩ := chk_mc h
    rfl
  | .dnew k, h => by
    obtain ⟨p, rfl, rfl⟩ := chk_dnew h
    rfl
  | .dm t .., h => by
    obtain ⟨y, xs, p, q, rfl, rfl, _⟩ := chk_dm h
    rfl
theorem starEach_one {x : Expr} {xs : List Expr} {env : PySem.Env} (h : notStar x = true) : starEach (x :: xs) env = (false, eval x env) :: starEach xs env := by
  cases x <;> first | rfl | exact absurd h Bool.false_ne_true
theorem starEach_plain {pos : Pos} {env : PySem.Env} : ∀ {xs : List Expr}, xs.all notStar = true → (backTo pos (starEach xs env)).any (·.1) = false
  | [], _ => rfl
  | x :: xs, h => by
    rw [List.all_cons, Bool.and_eq_true] at h
    rw [starEach_one h.1]
    show (false || (backTo pos (starEach xs env)).any (·.1)) = false
    rw [starEach_plain h.2]
    rfl
theorem starEach_all {pos : Pos} {env : PySem.Env} : ∀ {xs : List Expr}, xs.all notStar = true → (backTo pos (starEach xs env)).all (fun x => !x.1) = true
  | [], _ => rfl
  | x :: xs, h => by
    rw [List.all_cons, Bool.and_eq_true] at h
    rw [starEach_one h.1]
    show (!false && (backTo pos (starEach xs env)).all (fun x => !x.1)) = true
    rw [starEach_all h.2]
    rfl
theorem plain_cons {xs : List Expr} (h : plain xs = true) : ∃ y ys, xs = y :: ys ∧ notStar y = true ∧ ys.all notStar = true := by
  cases xs with
  | nil => exact absurd h Bool.false_ne_true
  | cons y ys =>
    have h : (!List.isEmpty (y :: ys) && (y :: ys).all notStar) = true := h
    rw [Bool.and_eq_true, List.all_cons, Bool.and_eq_true] at h
    exact ⟨y, ys, rfl, h.2⟩
theorem nomarkZ {x : Expr} {op : CmpOp} (h : okX x = true) : behindInMarks op x = false := by
  cases x <;> first | rfl | exact absurd h Bool.false_ne_true
theorem folded_ok {x : Expr} (h : okX x = true) (env : PySem.Env) (v : Value) : foldedSetIterable x env v = pure v := by
  cases x <;> first | rfl | exact absurd h Bool.false_ne_true
section
variable {X : Cx} {Γ : Gm} {C : Orc} {ω : St → EW}
theorem Cok.gl (k : Cok X Γ C ω) {x : Str} (h : glb Γ x = true) : Gl X x := by
  show X.env.scope.names.lookup x = _
  rw [k.nm]
  simpa [glb] using h
theorem Cok.vis (k : Cok X Γ C ω) {x : Str} (h : vis Γ x = true) : Vis X.env.scope x := by
  unfold Vis
  rw [k.nm]
  unfold Z.vis at h
  split at h
  · rename_i e; exact .inl e
  · rename_i e; exact .inr (.inl e)
  · rename_i e; exact .inr (.inr e)
  · cases h
theorem dbg_1 {x : Str} (h : dbg x = true) : (x == ("__debug__" : Str)) = false ∧ (x == ("__classdict__" : Str)) = false ∧ x ≠ "__name__" := by
  simp only [dbg, Bool.and_eq_true, Bool.not_eq_true'] at h
  exact ⟨h.1.1, h.1.2, by simpa using h.2⟩
structure Snd (X : Cx) (C : Orc) (ω : St → EW) (e : E) (x : Expr) : Prop where
  pe : PE X x (tE X.K C ω e)
  pt : tst e = true → L2.PT X x (tT X.K C ω e)
theorem ptOf {e : E} {x : Expr} (h : PE X x (tE X.K C ω e)) (he : ∀ whole, isTrue x X.env whole = (do let v ← whole; standAt x.pos; holding [v] (truthy v))) : L2.PT X x (tT X.K C ω e) :=
  PTimp (pt_truth h he) fun σ H Q q => by
    obtain ⟨ρ, m, w, re, rl, c⟩ := q
    refine ⟨ρ, m, w, re, rl, (Cont.bind (RW X.K) c).imp ?_⟩
    rintro v H' ⟨a, m1, w1, R⟩
    obtain ⟨k, e, c⟩ := Cont.o0 R.c
    exact ⟨k, truW_ok R.r R.v e, c k w1 H' (Ext.refl _ _) R.r rfl⟩
theorem Snd.of {e : E} {x : Expr} (h : PE X x (tE X.K C ω e)) (he : ∀ whole, isTrue x X.env whole = (do let v ← whole; standAt x.pos; holding [v] (truthy v))) : Snd X C ω e x := ⟨h, fun _ => ptOf h he⟩
/-- a test's truth handed on -/
theorem Cont.mapT {K : PySem.W.Frag} {w : Wd} {H : Hp} {Q : Bool → Hp → Prop} {ω : EW} {r : R Bool} {f : Bool → Mem → R Bool} (g : Bool → Bool) (hf : ∀ k m, f k m = .ok (g k) m) (h : Cont K w H (fun _ _ a b => a = b) Q ω (r.b f)) : Cont K w H (fun _ _ a b => a = b) (fun k H => Q (g k) H) ω r := by
  cases r with
  | ok a m =>
    intro v w' H' e rl rv
    subst rv
    have h : Cont K w H (fun _ _ a b => a = b) Q ω (f a m) := h
    rw [hf] at h
    exact h _ w' H' e rl rfl
  | err x m => exact h
  | bad => exact h
theorem pt_ifZ {c a b : Expr} {tc ta tb : TT} {pos : Pos} (hc : L2.PT X c tc) (ha : L2.PT X a ta) (hb : L2.PT X b tb) : L2.PT X (.IfExp c a b pos) (fun σ H Q => tc σ H fun k H1 => if k = true then ta σ H1 Q else tb σ H1 Q) := by
  refine ⟨fun pins s σ H Q I h => ?_⟩
  refine isTrue_IfExp (thn (hc.run pins s σ H _ I h) fun d s1 ⟨H1, I1, q1⟩ => ?_)
  cases d with
  | true => exact ha.run pins s1 σ H1 Q I1 q1
  | false => exact hb.run pins s1 σ H1 Q I1 q1
end
end Z
set_option maxHeartbeats 4000000
/-! Y10: each node by its parts. -/
namespace Z
open PySem PySem.Spec PyProof.Rows L2 RZ
section
variable {X : Cx} {Γ : Gm} {C : Orc} {ω : St → EW} {a b c : E} {y z u : Expr} {p : Pos}
theorem s_var {i : Nat} {x : Expr} (k : Cok X Γ C ω) (h : chk Γ (.var i) x = true) : Snd X C ω (.var i) x := by
  cases x <;> first | exact absurd h Bool.false_ne_true | skip
  rename_i n p
  simp only [chk, Bool.and_eq_true, decide_eq_true_eq] at h
  obtain ⟨⟨h1, h2⟩, h3⟩ := h
  obtain ⟨d1, d2, d3⟩ := dbg_1 h3
  refine Snd.of (PEimp (pe_var (i := i) (by rw [k.N]; exact h1) (k.vis h2) d1 d2) fun σ H Q q => ?_) (fun _ => rfl)
  obtain ⟨ρ, m, w, re, rl, c⟩ := q
  simp only [ev] at c
  split at c
  · rename_i a e
    obtain ⟨v, e1, e2⟩ := re.get i a e
    exact ⟨v, e1, c v w H (Ext.refl _ _) rl e2⟩
  · exact c.elim
theorem s_cst {d : PyData} {x : Expr} (k : Cok X Γ C ω) (h : chk Γ (.cst d) x = true) : Snd X C ω (.cst d) x := by
  cases x <;> first | exact absurd h Bool.false_ne_true | skip
  · rename_i cc kk p
    have h : constIs cc d = true := h
    unfold constIs at h
    split at h
    · refine Snd.of (PEimp pe_non fun σ H Q q => ?_) (fun _ => rfl)
      obtain ⟨ρ, m, w, re, rl, c⟩ := q
      exact c _ w H (Ext.refl _ _) rl (.v .non)
    · rw [decide_eq_true_eq] at h
      subst h
      refine Snd.of (PEimp pe_bl fun σ H Q q => ?_) (fun _ => rfl)
      obtain ⟨ρ, m, w, re, rl, c⟩ := q
      exact c _ w H (Ext.refl _ _) rl (.v (.bl _))
    · rw [decide_eq_true_eq] at h
      subst h
      refine Snd.of (PEimp pe_int fun σ H Q q => ?_) (fun _ => rfl)
      obtain ⟨ρ, m, w, re, rl, c⟩ := q
      exact c _ w H (Ext.refl _ _) rl (.v (.int _))
    · rw [decide_eq_true_eq] at h
      subst h
      refine Snd.of (PEimp pe_str fun σ H Q q => ?_) (fun _ => rfl)
      obtain ⟨ρ, m, w, re, rl, c⟩ := q
      exact c _ w H (Ext.refl _ _) rl (.v (.str _))
    · cases h
  · rename_i n p
    simp only [chk, Bool.and_eq_true] at h
    obtain ⟨⟨h1, h2⟩, h3⟩ := h
    obtain ⟨d1, d2, d3⟩ := dbg_1 h3
    split at h1
    · rename_i d' e
      obtain rfl := sameD_eq h1
      obtain ⟨u, v, e1, e2, e3⟩ := k.g.gc _ _ e
      refine Snd.of (PEimp (pe_glob (k.gl h2) e1 e2 d1) fun σ H Q q => ?_) (fun _ => rfl)
      obtain ⟨ρ, m, w, re, rl, c⟩ := q
      exact c _ w H (Ext.refl _ _) rl (.v (e3 w H))
    · cases h1
theorem s_bin {o : Bop} (ha : Snd X C ω a y) (hb : Snd X C ω b z) : Snd X C ω (.bin o a b) (.BinOp y (opB o) z p) := by
  refine Snd.of (PEimp (pe_op (bin_ok o) ha.pe hb.pe) fun σ H Q q => ?_) (fun _ => rfl)
  obtain ⟨ρ, m, w, re, rl, c⟩ := q
  simp only [ev] at c
  refine ⟨ρ, m, w, re, rl, (Cont.bind (RW X.K) c).imp ?_⟩
  rintro v H1 ⟨a1, m1, w1, R1⟩
  refine ⟨ρ, m1, w1, re.ext R1.e, R1.r, (Cont.bind (RW X.K) R1.c).imp ?_⟩
  rintro u H2 ⟨a2, m2, w2, R2⟩
  obtain ⟨d, e, c⟩ := Cont.o0 R2.c
  cases e1 : peekT m2 a1 with
  | none => rw [e1] at e; cases e
  | some d1 =>
    rw [e1, Option.bind_some] at e
    cases e2 : peekT m2 a2 with
    | none => rw [e2] at e; cases e
    | some d2 =>
      rw [e2, Option.bind_some] at e
      cases e3 : binD o d1 d2 with
      | none => rw [e3] at e; cases e
      | some d3 =>
        rw [e3] at e
        cases e
        exact ⟨w2, m2, d1, d2, d3, R2.r, peekT_ok R2.r (R1.v.ext R2.e) e1, peekT_ok R2.r R2.v e2, e3, fun v H' ex rl r => c v w2 H' ex rl (.v r)⟩
theorem s_neg (ha : Snd X C ω a y) : Snd X C ω (.neg a) (.UnaryOp .USub y p) := by
  refine Snd.of (PEimp (pe_un un_neg ha.pe) fun σ H Q q => ?_) (fun _ => rfl)
  obtain ⟨ρ, m, w, re, rl, c⟩ := q
  simp only [ev] at c
  refine ⟨ρ, m, w, re, rl, (Cont.bind (RW X.K) c).imp ?_⟩
  rintro v H1 ⟨a1, m1, w1, R1⟩
  have c := R1.c
  have hv := R1.v
  split at c
  · cases hv with
    | v hv =>
      cases (RD.int_ hv)
      exact ⟨_, rfl, c _ w1 H1 (Ext.refl _ _) R1.r (.v (.int _))⟩
  · exact c.elim
theorem cmp_read {o : Cop} {γ δ : Type} {relg : Wd → Hp → γ → δ → Prop} {Q : δ → Hp → Prop} {f : W → Mem → R γ} {σ : St} {H : Hp} {Q' : VK}
    (hq : ∀ (k : Bool) (m : Mem) (w : Wd) (H : Hp), Rl X.K w m H → Cont X.K w H relg Q (ω σ) (f (.v (.bool k)) m) → Q' (.bl k) H)
    (q : ∃ ρ m w, RE X.K w H ρ σ ∧ Rl X.K w m H ∧ Cont X.K w H relg Q (ω σ) ((ev C (.cmp o a b) ρ m).b f)) : tOp (rC X.K o) (tE X.K C ω a) (tE X.K C ω b) σ H Q' := by
  obtain ⟨ρ, m, w, re, rl, c⟩ := q
  simp only [ev, R.b_assoc] at c
  refine ⟨ρ, m, w, re, rl, (Cont.bind (RW X.K) c).imp ?_⟩
  rintro v H1 ⟨a1, m1, w1, R1⟩
  refine ⟨ρ, m1, w1, re.ext R1.e, R1.r, (Cont.bind (RW X.K) R1.c).imp ?_⟩
  rintro u H2 ⟨a2, m2, w2, R2⟩
  obtain ⟨d, e, c⟩ := Cont.o R2.c
  cases e1 : peek m2 a1 with
  | none => rw [e1] at e; cases e
  | some d1 =>
    rw [e1, Option.bind_some] at e
    cases e2 : peek m2 a2 with
    | none => rw [e2] at e; cases e
    | some d2 =>
      rw [e2, Option.bind_some] at e
      cases e3 : cmpD o d1 d2 with
      | none => rw [e3] at e; cases e
      | some k =>
        rw [e3] at e
        cases e
        exact ⟨w2, m2, d1, d2, k, R2.r, peek_ok R2.r (R1.v.ext R2.e) e1, peek_ok R2.r R2.v e2, e3, hq k m2 w2 H2 R2.r c⟩
theorem R.b_pure {α : Type} (r : R α) : r.b R.ok = r := by cases r <;> rfl
theorem s_cmp {o : Cop} (k : Cok X Γ C ω) (ha : Snd X C ω a y) (hb : Snd X C ω b z) (hz : okX z = true) : Snd X C ω (.cmp o a b) (.Compare y [opC o] [z] p) := by
  refine ⟨PEimp (pe_cmpR (cmp_ok k.g.un o) ha.pe hb.pe (nomarkZ hz)) fun σ H Q q => ?_, fun _ => PTimp (pt_cmpR (cmp_ok k.g.un o) ha.pe hb.pe (nomarkZ hz)) fun σ H Q q => ?_⟩
  · obtain ⟨ρ, m, w, re, rl, c⟩ := q
    refine cmp_read (relg := RW X.K) (Q := Q) (f := R.ok) (fun k m w H r c => c _ w H (Ext.refl _ _) r (.v (.bl _))) ⟨ρ, m, w, re, rl, ?_⟩
    rw [R.b_pure]
    exact c
  · exact cmp_read (relg := fun _ _ a b => a = b) (Q := Q) (f := fun x m => ofO (truW m x) m) (fun k m w H r c => ⟨k, rfl, c k w H (Ext.refl _ _) r rfl⟩) q
theorem chn_read {o1 o2 : Cop} {γ δ : Type} {relg : Wd → Hp → γ → δ → Prop} {Q : δ → Hp → Prop} {f : W → Mem → R γ} {σ : St} {H : Hp} {Q' : VK}
    (hq : ∀ (k : Bool) (m : Mem) (w : Wd) (H : Hp), Rl X.K w m H → Cont X.K w H relg Q (ω σ) (f (.v (.bool k)) m) → Q' (.bl k) H)
    (q : ∃ ρ m w, RE X.K w H ρ σ ∧ Rl X.K w m H ∧ Cont X.K w H relg Q (ω σ) ((ev C (.chn o1 o2 a b c) ρ m).b f)) : tChain (rC X.K o1) (rC X.K o2) (tE X.K C ω a) (tE X.K C ω b) (tE X.K C ω c) σ H Q' := by
  obtain ⟨ρ, m, w, re, rl, cc⟩ := q
  simp only [ev, R.b_assoc] at cc
  refine ⟨ρ, m, w, re, rl, (Cont.bind (RW X.K) cc).imp ?_⟩
  rintro v H1 ⟨a1, m1, w1, R1⟩
  refine ⟨ρ, m1, w1, re.ext R1.e, R1.r, (Cont.bind (RW X.K) R1.c).imp ?_⟩
  rintro u H2 ⟨a2, m2, w2, R2⟩
  obtain ⟨k, e, c2⟩ := Cont.o R2.c
  cases e1 : peek m2 a1 with
  | none => rw [e1] at e; cases e
  | some d1 =>
    rw [e1, Option.bind_some] at e
    cases e2 : peek m2 a2 with
    | none => rw [e2] at e; cases e
    | some d2 =>
      rw [e2, Option.bind_some] at e
      refine ⟨w2, m2, d1, d2, k, R2.r, peek_ok R2.r (R1.v.ext R2.e) e1, peek_ok R2.r R2.v e2, e, k, rfl, ?_⟩
      cases k with
      | false =>
        simp only [Bool.false_eq_true, if_false, R.b_ok] at c2 ⊢
        exact hq _ _ _ _ R2.r c2
      | true =>
        simp only [if_true, R.b_assoc] at c2 ⊢
        refine ⟨ρ, m2, w2, (re.ext R1.e).ext R2.e, R2.r, (Cont.bind (RW X.K) c2).imp ?_⟩
        rintro t H3 ⟨a3, m3, w3, R3⟩
        obtain ⟨d, e3, c3⟩ := Cont.o R3.c
        cases e4 : peek m3 a2 with
        | none => rw [e4] at e3; cases e3
        | some d4 =>
          rw [e4, Option.bind_some] at e3
          cases e5 : peek m3 a3 with
          | none => rw [e5] at e3; cases e3
          | some d5 =>
            rw [e5, Option.bind_some] at e3
            cases e6 : cmpD o2 d4 d5 with
            | none => rw [e6] at e3; cases e3
            | some k2 =>
              rw [e6] at e3
              cases e3
              exact ⟨w3, m3, d4, d5, k2, R3.r, peek_ok R3.r (R2.v.ext R3.e) e4, peek_ok R3.r R3.v e5, e6, hq k2 m3 w3 H3 R3.r c3⟩
theorem lastZ {o : CmpOp} {p1 : CmpOp} {z u : Expr} (h : okX u = true) : lastMarks [p1, o] [z, u] = false := nomarkZ h
theorem s_chn {o1 o2 : Cop} (k : Cok X Γ C ω) (ha : Snd X C ω a y) (hb : Snd X C ω b z) (hc : Snd X C ω c u) (hz : okX u = true) : Snd X C ω (.chn o1 o2 a b c) (.Compare y [opC o1, opC o2] [z, u] p) := by
  refine ⟨PEimp (pe_chain (cmp_ok k.g.un o1) (cmp_ok k.g.un o2) ha.pe hb.pe hc.pe (lastZ hz)) fun σ H Q q => ?_, fun _ => PTimp (pt_chain (cmp_ok k.g.un o1) (cmp_ok k.g.un o2) ha.pe hb.pe hc.pe (lastZ hz)) fun σ H Q q => ?_⟩
  · obtain ⟨ρ, m, w, re, rl, c⟩ := q
    refine chn_read (relg := RW X.K) (Q := Q) (f := R.ok) (fun k m w H r c => c _ w H (Ext.refl _ _) r (.v (.bl _))) ⟨ρ, m, w, re, rl, ?_⟩
    rw [R.b_pure]
    exact c
  · exact chn_read (relg := fun _ _ a b => a = b) (Q := Q) (f := fun x m => ofO (truW m x) m) (fun k m w H r c => ⟨k, rfl, c k w H (Ext.refl _ _) r rfl⟩) q
theorem isN_iff {K : PySem.W.Frag} {w : Wd} {H : Hp} {a : W} {v : V} {k : Bool} (h : RW K w H a v) (e : isNW a = some k) : decide (v = V.non) = k := by
  cases h with
  | v h => cases h <;> (cases e; rfl)
  | ref h => cases e; rfl
  | ro h1 h2 => cases e; rfl
  | exc h1 h2 h3 h4 h5 h6 => cases e; rfl
  | tv h1 h2 => cases e; rfl
  | loc h1 h2 => cases e
theorem isN_read {γ δ : Type} {relg : Wd → Hp → γ → δ → Prop} {Q : δ → Hp → Prop} {f : W → Mem → R γ} {σ : St} {H : Hp} {Q' : VK}
    (hq : ∀ (k : Bool) (m : Mem) (w : Wd) (H : Hp), Rl X.K w m H → Cont X.K w H relg Q (ω σ) (f (.v (.bool k)) m) → Q' (.bl k) H)
    (q : ∃ ρ m w, RE X.K w H ρ σ ∧ Rl X.K w m H ∧ Cont X.K w H relg Q (ω σ) ((ev C (.isN a) ρ m).b f)) : tIsN (tE X.K C ω a) σ H Q' := by
  obtain ⟨ρ, m, w, re, rl, c⟩ := q
  simp only [ev, R.b_assoc] at c
  refine ⟨ρ, m, w, re, rl, (Cont.bind (RW X.K) c).imp ?_⟩
  rintro v H1 ⟨a1, m1, w1, R1⟩
  obtain ⟨d, e, c⟩ := Cont.o R1.c
  cases q : isNW a1 with
  | none => rw [q] at e; cases e
  | some k =>
    rw [q] at e
    cases e
    rw [isN_iff R1.v q]
    exact hq _ _ _ _ R1.r c
theorem notN_read {γ δ : Type} {relg : Wd → Hp → γ → δ → Prop} {Q : δ → Hp → Prop} {f : W → Mem → R γ} {σ : St} {H : Hp} {Q' : VK}
    (hq : ∀ (k : Bool) (m : Mem) (w : Wd) (H : Hp), Rl X.K w m H → Cont X.K w H relg Q (ω σ) (f (.v (.bool k)) m) → Q' (.bl k) H)
    (q : ∃ ρ m w, RE X.K w H ρ σ ∧ Rl X.K w m H ∧ Cont X.K w H relg Q (ω σ) ((ev C (.notN a) ρ m).b f)) : tNotN (tE X.K C ω a) σ H Q' := by
  obtain ⟨ρ, m, w, re, rl, c⟩ := q
  simp only [ev, R.b_assoc] at c
  refine ⟨ρ, m, w, re, rl, (Cont.bind (RW X.K) c).imp ?_⟩
  rintro v H1 ⟨a1, m1, w1, R1⟩
  obtain ⟨d, e, c⟩ := Cont.o R1.c
  cases q : isNW a1 with
  | none => rw [q] at e; cases e
  | some k =>
    rw [q] at e
    cases e
    rw [isN_iff R1.v q]
    exact hq _ _ _ _ R1.r c
theorem s_isN {k : Nat} {q : Pos} (ha : Snd X C ω a y) : Snd X C ω (.isN a) (.Compare y [.Is] [.Constant .none k q] p) := by
  refine ⟨PEimp (pe_cmp (pc_isN ha.pe)) fun σ H Q q => ?_, fun _ => PTimp (pt_cmp (pc_isN ha.pe)) fun σ H Q q => ?_⟩
  · obtain ⟨ρ, m, w, re, rl, c⟩ := q
    refine isN_read (relg := RW X.K) (Q := Q) (f := R.ok) (fun k m w H r c => c _ w H (Ext.refl _ _) r (.v (.bl _))) ⟨ρ, m, w, re, rl, ?_⟩
    rw [R.b_pure]
    exact c
  · exact isN_read (relg := fun _ _ a b => a = b) (Q := Q) (f := fun x m => ofO (truW m x) m) (fun k m w H r c => ⟨k, rfl, c k w H (Ext.refl _ _) r rfl⟩) q
theorem s_notN {k : Nat} {q : Pos} (ha : Snd X C ω a y) : Snd X C ω (.notN a) (.Compare y [.IsNot] [.Constant .none k q] p) := by
  refine ⟨PEimp (pe_cmp (pc_notN ha.pe)) fun σ H Q q => ?_, fun _ => PTimp (pt_cmp (pc_notN ha.pe)) fun σ H Q q => ?_⟩
  · obtain ⟨ρ, m, w, re, rl, c⟩ := q
    refine notN_read (relg := RW X.K) (Q := Q) (f := R.ok) (fun k m w H r c => c _ w H (Ext.refl _ _) r (.v (.bl _))) ⟨ρ, m, w, re, rl, ?_⟩
    rw [R.b_pure]
    exact c
  · exact notN_read (relg := fun _ _ a b => a = b) (Q := Q) (f := fun x m => ofO (truW m x) m) (fun k m w H r c => ⟨k, rfl, c k w H (Ext.refl _ _) r rfl⟩) q
theorem s_not (ha : Snd X C ω a y) (ht : tst a = true) : Snd X C ω (.not a) (.UnaryOp .Not y p) := by
  refine ⟨PEimp (pe_notT ha.pe) fun σ H Q q => ?_, fun _ => PTimp (pt_not (ha.pt ht)) fun σ H Q q => ?_⟩
  · obtain ⟨ρ, m, w, re, rl, c⟩ := q
    simp only [ev] at c
    refine ⟨ρ, m, w, re, rl, (Cont.bind (RW X.K) c).imp ?_⟩
    rintro v H1 ⟨a1, m1, w1, R1⟩
    obtain ⟨k, e, c⟩ := Cont.o R1.c
    exact ⟨k, truW_ok R1.r R1.v e, c _ w1 H1 (Ext.refl _ _) R1.r (.v (.bl _))⟩
  · obtain ⟨ρ, m, w, re, rl, c⟩ := q
    simp only [ev, R.b_assoc, R.b_ok] at c
    refine ⟨ρ, m, w, re, rl, ?_⟩
    have : ∀ (r : R W), (r.b fun a m => (ofO (truW m a) m).b fun k m => ofO (truW m (.v (.bool (!k)))) m) = ((r.b fun a m => ofO (truW m a) m).b fun k m => R.ok (!k) m) := fun r => by
      rw [R.b_assoc]
      rfl
    rw [this] at c
    exact Cont.mapT (fun k => !k) (fun _ _ => rfl) c
theorem s_ite (hc : Snd X C ω c u) (ha : Snd X C ω a y) (hb : Snd X C ω b z) (ht : tst c = true) : Snd X C ω (.ite c a b) (.IfExp u y z p) := by
  refine ⟨PEimp (pe_ifExp (hc.pt ht) ha.pe hb.pe) fun σ H Q q => ?_, fun hh => PTimp (pt_ifZ (hc.pt ht) (ha.pt ?_) (hb.pt ?_)) fun σ H Q q => ?_⟩
  · obtain ⟨ρ, m, w, re, rl, cc⟩ := q
    simp only [ev] at cc
    have : ∀ (r : R W) (f : Bool → Mem → R W), (r.b fun a m => (ofO (truW m a) m).b f) = ((r.b fun a m => ofO (truW m a) m).b f) := fun r f => by rw [R.b_assoc]
    rw [this] at cc
    refine ⟨ρ, m, w, re, rl, (Cont.bind (fun _ _ a b => a = b) cc).imp ?_⟩
    rintro k H1 ⟨k', m1, w1, R1⟩
    obtain rfl := R1.v
    have c1 := R1.c
    cases k' with
    | true => rw [if_pos rfl] at c1 ⊢; exact ⟨ρ, m1, w1, re.ext R1.e, R1.r, c1⟩
    | false => rw [if_neg Bool.false_ne_true] at c1 ⊢; exact ⟨ρ, m1, w1, re.ext R1.e, R1.r, c1⟩
  · exact (Bool.and_eq_true_iff.mp hh).1
  · exact (Bool.and_eq_true_iff.mp hh).2
  · obtain ⟨ρ, m, w, re, rl, cc⟩ := q
    simp only [ev, R.b_assoc] at cc
    have : ∀ (r : R W) (f : Bool → Mem → R W) (g : W → Mem → R Bool), (r.b fun a m => (ofO (truW m a) m).b fun k m => (f k m).b g) = ((r.b fun a m => ofO (truW m a) m).b fun k m => (f k m).b g) := fun r f g => by rw [R.b_assoc]
    rw [this _ (fun k m => if k = true then ev C a ρ m else ev C b ρ m)] at cc
    refine ⟨ρ, m, w, re, rl, (Cont.bind (fun _ _ a b => a = b) cc).imp ?_⟩
    rintro k H1 ⟨k', m1, w1, R1⟩
    obtain rfl := R1.v
    have c1 := R1.c
    cases k' with
    | true => simp only [if_true] at c1 ⊢; exact ⟨ρ, m1, w1, re.ext R1.e, R1.r, c1⟩
    | false => simp only [Bool.false_eq_true, if_false] at c1 ⊢; exact ⟨ρ, m1, w1, re.ext R1.e, R1.r, c1⟩
end
end Z
set_option maxHeartbeats 4000000
/-! Y11: and, or; displays; subscripts; arguments. -/
namespace Z
open PySem PySem.Spec PyProof.Rows L2 RZ
section
variable {X : Cx} {Γ : Gm} {C : Orc} {ω : St → EW} {a b c e e2 : E} {r es : ES} {x y z u : Expr} {xs : List Expr} {p : Pos}
structure SndB (X : Cx) (C : Orc) (ω : St → EW) (es : ES) (xs : List Expr) : Prop where
  pa : ∀ p, PE X (.BoolOp .And xs p) (tE X.K C ω (.and es))
  wa : tstS es = true → ∀ p, PW X (.BoolOp .And xs p) (tT X.K C ω (.and es))
  po : ∀ p, PE X (.BoolOp .Or xs p) (tE X.K C ω (.or es))
  wo : tstS es = true → ∀ p, PW X (.BoolOp .Or xs p) (tT X.K C ω (.or es))
theorem PWimp {X : Cx} {e : Expr} {t t' : TT} (h : PW X e t) (i : ∀ σ H Q, t' σ H Q → t σ H Q) : PW X e t' := ⟨fun wh pins s σ H Q I q => h.run wh pins s σ H Q I (i _ _ _ q)⟩
theorem tst_c (h : tstS (.cons e r) = true) : tst e = true ∧ tstS r = true := Bool.and_eq_true_iff.mp h
theorem sB_one (h : Snd X C ω e x) : SndB X C ω (.cons e .nil) [x] where
  pa := fun p => PEimp (pe_one h.pe) fun σ H Q q => by
    obtain ⟨ρ, m, w, re, rl, c⟩ := q
    exact ⟨ρ, m, w, re, rl, by simpa only [ev, evAnd] using c⟩
  wa := fun ht p => PWimp (pw_and1 (h.pt (tst_c ht).1)) fun σ H Q q => by
    obtain ⟨ρ, m, w, re, rl, c⟩ := q
    exact ⟨ρ, m, w, re, rl, by simpa only [ev, evAnd] using c⟩
  po := fun p => PEimp (pe_one h.pe) fun σ H Q q => by
    obtain ⟨ρ, m, w, re, rl, c⟩ := q
    exact ⟨ρ, m, w, re, rl, by simpa only [ev, evOr] using c⟩
  wo := fun ht p => PWimp (pw_or1 (h.pt (tst_c ht).1)) fun σ H Q q => by
    obtain ⟨ρ, m, w, re, rl, c⟩ := q
    exact ⟨ρ, m, w, re, rl, by simpa only [ev, evOr] using c⟩
theorem sB_cons (h : Snd X C ω e x) (k : SndB X C ω (.cons e2 r) (y :: xs)) : SndB X C ω (.cons e (.cons e2 r)) (x :: y :: xs) where
  pa := fun p => PEimp (pe_andT h.pe (k.pa p)) fun σ H Q q => by
    obtain ⟨ρ, m, w, re, rl, c⟩ := q
    simp only [ev, evAnd] at c
    refine ⟨ρ, m, w, re, rl, (Cont.bind (RW X.K) c).imp ?_⟩
    rintro v H1 ⟨a1, m1, w1, R1⟩
    obtain ⟨k, e, c⟩ := Cont.o R1.c
    refine ⟨k, truW_ok R1.r R1.v e, ?_⟩
    cases k with
    | true => simp only [if_true] at c ⊢; exact ⟨ρ, m1, w1, re.ext R1.e, R1.r, by simpa only [ev] using c⟩
    | false => simp only [Bool.false_eq_true, if_false] at c ⊢; exact c v w1 H1 (Ext.refl _ _) R1.r R1.v
  po := fun p => PEimp (pe_orT h.pe (k.po p)) fun σ H Q q => by
    obtain ⟨ρ, m, w, re, rl, c⟩ := q
    simp only [ev, evOr] at c
    refine ⟨ρ, m, w, re, rl, (Cont.bind (RW X.K) c).imp ?_⟩
    rintro v H1 ⟨a1, m1, w1, R1⟩
    obtain ⟨k, e, c⟩ := Cont.o R1.c
    refine ⟨k, truW_ok R1.r R1.v e, ?_⟩
    cases k with
    | false => simp only [Bool.false_eq_true, if_false] at c ⊢; exact ⟨ρ, m1, w1, re.ext R1.e, R1.r, by simpa only [ev] using c⟩
    | true => simp only [if_true] at c ⊢; exact c v w1 H1 (Ext.refl _ _) R1.r R1.v
  wa := fun ht p => PWimp (pw_and (h.pt (tst_c ht).1) (k.wa (tst_c ht).2 p)) fun σ H Q q => by
    obtain ⟨ρ, m, w, re, rl, c⟩ := q
    simp only [ev, evAnd] at c
    have ex : ∀ q : R W, (q.b fun x m => (ofO (truW m x) m).b fun k m => if k = true then evAnd C (.cons e2 r) ρ m else .ok x m).b (fun x m => ofO (truW m x) m) = (q.b fun x m => ofO (truW m x) m).b (fun k m => if k = true then (evAnd C (.cons e2 r) ρ m).b fun x m => ofO (truW m x) m else .ok false m) := fun q => by
      cases q with
      | ok a m =>
        simp only [R.b]
        cases hh : truW m a with
        | none => rfl
        | some k =>
          cases k
          · simp only [ofO, Bool.false_eq_true, if_false, hh]
          · simp only [ofO, if_true]
      | err x m => rfl
      | bad => rfl
    rw [ex] at c
    refine ⟨ρ, m, w, re, rl, (Cont.bind (fun _ _ a b => a = b) c).imp ?_⟩
    rintro v H1 ⟨a1, m1, w1, R1⟩
    obtain rfl := R1.v
    have c1 := R1.c
    cases a1 with
    | true => simp only [if_true] at c1 ⊢; exact ⟨ρ, m1, w1, re.ext R1.e, R1.r, by simpa only [ev] using c1⟩
    | false => simp only [Bool.false_eq_true, if_false] at c1 ⊢; exact c1 false w1 H1 (Ext.refl _ _) R1.r rfl
  wo := fun ht p => PWimp (pw_or (h.pt (tst_c ht).1) (k.wo (tst_c ht).2 p)) fun σ H Q q => by
    obtain ⟨ρ, m, w, re, rl, c⟩ := q
    simp only [ev, evOr] at c
    have ex : ∀ q : R W, (q.b fun x m => (ofO (truW m x) m).b fun k m => if k = true then .ok x m else evOr C (.cons e2 r) ρ m).b (fun x m => ofO (truW m x) m) = (q.b fun x m => ofO (truW m x) m).b (fun k m => if k = true then .ok true m else (evOr C (.cons e2 r) ρ m).b fun x m => ofO (truW m x) m) := fun q => by
      cases q with
      | ok a m =>
        simp only [R.b]
        cases hh : truW m a with
        | none => rfl
        | some k =>
          cases k
          · simp only [ofO, Bool.false_eq_true, if_false]
          · simp only [ofO, if_true, hh]
      | err x m => rfl
      | bad => rfl
    rw [ex] at c
    refine ⟨ρ, m, w, re, rl, (Cont.bind (fun _ _ a b => a = b) c).imp ?_⟩
    rintro v H1 ⟨a1, m1, w1, R1⟩
    obtain rfl := R1.v
    have c1 := R1.c
    cases a1 with
    | false => simp only [Bool.false_eq_true, if_false] at c1 ⊢; exact ⟨ρ, m1, w1, re.ext R1.e, R1.r, by simpa only [ev] using c1⟩
    | true => simp only [if_true] at c1 ⊢; exact c1 true w1 H1 (Ext.refl _ _) R1.r rfl
theorem s_and (h : SndB X C ω es xs) (ht : tstS es = true) : Snd X C ω (.and es) (.BoolOp .And xs p) := ⟨h.pa p, fun _ => (h.wa ht p).pt⟩
theorem s_or (h : SndB X C ω es xs) (ht : tstS es = true) : Snd X C ω (.or es) (.BoolOp .Or xs p) := ⟨h.po p, fun _ => (h.wo ht p).pt⟩
/-! ### arguments -/
theorem a_nil : PA X [] (tA X.K C ω .nil) := PAimp pa_nil fun σ H Q q => by
  obtain ⟨ρ, m, w, re, rl, c⟩ := q
  simp only [evs] at c
  exact c _ w H (Ext.refl _ _) rl .nil
theorem a_cons (h : PE X x (tE X.K C ω e)) (k : PA X xs (tA X.K C ω r)) (hs : notStar x = true) : PA X (x :: xs) (tA X.K C ω (.cons e r)) := PAimp (pa_cons h k (starEach_one hs)) fun σ H Q q => by
  obtain ⟨ρ, m, w, re, rl, c⟩ := q
  simp only [evs] at c
  refine ⟨ρ, m, w, re, rl, (Cont.bind (RW X.K) c).imp ?_⟩
  rintro v H1 ⟨a1, m1, w1, R1⟩
  refine ⟨ρ, m1, w1, re.ext R1.e, R1.r, (Cont.bind (RWs X.K) R1.c).imp ?_⟩
  rintro vs H2 ⟨a2, m2, w2, R2⟩
  exact R2.c _ w2 H2 (Ext.refl _ _) R2.r (.cons (R1.v.ext R2.e) R2.v)
theorem a_star (h : PE X x (tE X.K C ω e)) (k : PA X xs (tA X.K C ω r)) : PA X (.Starred x p :: xs) (tA X.K C ω (.star e r)) := PAimp (StX.pa_star h k rfl) fun σ H Q q => by
  obtain ⟨ρ, m, w, re, rl, c⟩ := q
  simp only [evs] at c
  refine ⟨ρ, m, w, re, rl, (Cont.bind (RW X.K) c).imp ?_⟩
  rintro v H1 ⟨a1, m1, w1, R1⟩
  obtain ⟨ws, e, c⟩ := Cont.o R1.c
  obtain ⟨a, ys, rfl, h1, h2⟩ := itemsW_ok R1.r R1.v e
  refine ⟨a, ys, rfl, h1.symm, ρ, m1, w1, re.ext R1.e, R1.r, (Cont.bind (RWs X.K) c).imp ?_⟩
  rintro vs H2 ⟨a2, m2, w2, R2⟩
  exact R2.c _ w2 H2 (Ext.refl _ _) R2.r ((h2.ext R2.e).append R2.v)
/-! ### displays, subscripts -/
theorem s_tup {k : Nat} (h : PA X xs (tA X.K C ω es)) : Snd X C ω (.tup es) (.Tuple xs k p) := Snd.of (PEimp (pe_tup h) fun σ H Q q => by
  obtain ⟨ρ, m, w, re, rl, c⟩ := q
  simp only [ev] at c
  refine ⟨ρ, m, w, re, rl, (Cont.bind (RWs X.K) c).imp ?_⟩
  rintro vs H1 ⟨ws, m1, w1, R1⟩
  have c := R1.c
  split at c
  · rename_i hz
    obtain ⟨d, e, c⟩ := Cont.o0 c
    cases q : allV ws with
    | none => rw [q] at e; cases e
    | some ds =>
      rw [q] at e
      cases e
      refine ⟨by rw [← R1.v.length, szL_eq]; exact hz, Same.newT R1.r (fun v H' e r h => c v w1 H' e r (.v h)) (RDs.of_ws R1.v q)⟩
  · exact c.elim) (fun _ => rfl)
theorem s_tupS {k : Nat} (h : PA X xs (tA X.K C ω es)) : Snd X C ω (.tupS es) (.Tuple xs k p) := Snd.of (PEimp (pe_tupS h) fun σ H Q q => by
  obtain ⟨ρ, m, w, re, rl, c⟩ := q
  simp only [ev] at c
  refine ⟨ρ, m, w, re, rl, (Cont.bind (RWs X.K) c).imp ?_⟩
  rintro vs H1 ⟨ws, m1, w1, R1⟩
  have c := R1.c
  split at c
  · rename_i hz
    obtain ⟨d, e, c⟩ := Cont.o0 c
    cases q : allV ws with
    | none => rw [q] at e; cases e
    | some ds =>
      rw [q] at e
      cases e
      refine ⟨by rw [← R1.v.length, szL_eq]; exact hz, fun a its n ha => ?_⟩
      have ex := ext_upd (o := .frz (tupO its n) (.tup vs)) R1.r ha
      exact c _ w1 _ ex (R1.r.upd_ ha) (.tv ⟨its, n, upd_same⟩ ((RDs.of_ws R1.v q).ext ex))
  · exact c.elim) (fun _ => rfl)
theorem s_catS (ha : Snd X C ω a y) (hb : Snd X C ω b z) : Snd X C ω (.catS a b) (.BinOp y .Add z p) := by
  refine Snd.of (PEimp (pe_op op_addS ha.pe hb.pe) fun σ H Q q => ?_) (fun _ => rfl)
  obtain ⟨ρ, m, w, re, rl, c⟩ := q
  simp only [ev] at c
  refine ⟨ρ, m, w, re, rl, (Cont.bind (RW X.K) c).imp ?_⟩
  rintro v H1 ⟨a1, m1, w1, R1⟩
  refine ⟨ρ, m1, w1, re.ext R1.e, R1.r, (Cont.bind (RW X.K) R1.c).imp ?_⟩
  rintro u H2 ⟨a2, m2, w2, R2⟩
  have c := R2.c
  have hv := R1.v.ext R2.e
  have hu := R2.v
  split at c
  · split at c
    · rename_i hz
      cases hv with
      | tv g1 g2 =>
        cases hu with
        | tv f1 f2 =>
          have l1 := g2.length
          have l2 := f2.length
          refine ⟨_, _, _, _, rfl, rfl, g1, f1, by rw [← l1, ← l2, szL_eq]; exact hz, fun e => ?_, fun _ e => ?_, fun _ _ p its n hp => ?_⟩
          · subst e
            cases g2
            exact c _ w2 H2 (Ext.refl _ _) R2.r (.tv f1 f2)
          · subst e
            cases f2
            rw [List.append_nil] at c
            exact c _ w2 H2 (Ext.refl _ _) R2.r (.tv g1 g2)
          · exact c _ w2 _ (ext_upd R2.r hp) (R2.r.upd_ hp) (.tv ⟨its, n, upd_same⟩ ((g2.append f2).ext (ext_upd R2.r hp)))
    · exact c.elim
  · exact c.elim
theorem s_lst {k : Kd} (h : PA X xs (tA X.K C ω es)) : Snd X C ω (.lst k (.disp es)) (.List xs p) := Snd.of (PEimp (pe_lst h) fun σ H Q q => by
  obtain ⟨ρ, m, w, re, rl, c⟩ := q
  simp only [ev, evL] at c
  refine ⟨ρ, m, w, re, rl, (Cont.bind (RWs X.K) c).imp ?_⟩
  rintro vs H1 ⟨ws, m1, w1, R1⟩
  exact mk_ok R1.r R1.v R1.c) (fun _ => rfl)
theorem s_ix {i : E} (kk : Cok X Γ C ω) (ha : Snd X C ω a y) (hb : Snd X C ω i z) (hz : okX z = true) : Snd X C ω (.ix a i) (.Subscript y z p) := by
  have pl : PlainIx z := by
    cases z <;> first | exact absurd hz Bool.false_ne_true | exact fun _ _ => rfl
  refine Snd.of (PEimp (pe_ix (ix_ok (by have := kk.g.un; omega)) ha.pe hb.pe pl) fun σ H Q q => ?_) (fun _ => rfl)
  obtain ⟨ρ, m, w, re, rl, c⟩ := q
  simp only [ev] at c
  refine ⟨ρ, m, w, re, rl, (Cont.bind (RW X.K) c).imp ?_⟩
  rintro v H1 ⟨a1, m1, w1, R1⟩
  refine ⟨ρ, m1, w1, re.ext R1.e, R1.r, (Cont.bind (RW X.K) R1.c).imp ?_⟩
  rintro u H2 ⟨a2, m2, w2, R2⟩
  obtain ⟨d, e, c⟩ := Cont.o0 R2.c
  exact ⟨w2, m2, a1, a2, d, R2.r, R1.v.ext R2.e, R2.v, e, fun v hv => c v w2 H2 (Ext.refl _ _) R2.r hv⟩
def tO (K : PySem.W.Frag) (C : Orc) (ω : St → EW) (o : OE) : TO := fun σ H Q => ∃ ρ m w, RE K w H ρ σ ∧ Rl K w m H ∧ Cont K w H (fun _ _ a b => a = b) Q (ω σ) (evO C o ρ m)
theorem POimp {X : Cx} {e : Option Expr} {t t' : TO} (h : PO X e t) (i : ∀ σ H Q, t' σ H Q → t σ H Q) : PO X e t' := ⟨fun pins s σ H Q I q => h.run pins s σ H Q I (i _ _ _ q)⟩
theorem o_none : PO X none (tO X.K C ω .none) := POimp po_none fun σ H Q q => by
  obtain ⟨ρ, m, w, re, rl, c⟩ := q
  simp only [evO] at c
  exact c _ w H (Ext.refl _ _) rl rfl
theorem o_some (h : PE X x (tE X.K C ω e)) : PO X (some x) (tO X.K C ω (.some e)) := POimp (po_some h) fun σ H Q q => by
  obtain ⟨ρ, m, w, re, rl, c⟩ := q
  simp only [evO] at c
  refine ⟨ρ, m, w, re, rl, (Cont.bind (RW X.K) c).imp ?_⟩
  rintro v H1 ⟨a1, m1, w1, R1⟩
  have c := R1.c
  have hv := R1.v
  split at c
  · cases hv with
    | v hv =>
      cases (RD.int_ hv)
      exact ⟨_, rfl, c _ w1 H1 (Ext.refl _ _) R1.r rfl⟩
  · exact c.elim
theorem s_sl {lo hi : OE} {l h : Option Expr} {q : Pos} (ha : Snd X C ω a y) (hl : PO X l (tO X.K C ω lo)) (hh : PO X h (tO X.K C ω hi)) : Snd X C ω (.sl a lo hi) (.Subscript y (.Slice l h none q) p) := Snd.of (PEimp (pe_slice sl_ok ha.pe hl hh) fun σ H Q q => by
  obtain ⟨ρ, m, w, re, rl, c⟩ := q
  simp only [ev] at c
  refine ⟨ρ, m, w, re, rl, (Cont.bind (RW X.K) c).imp ?_⟩
  rintro v H1 ⟨a1, m1, w1, R1⟩
  refine ⟨ρ, m1, w1, re.ext R1.e, R1.r, (Cont.bind (fun _ _ a b => a = b) R1.c).imp ?_⟩
  rintro lo' H2 ⟨l2, m2, w2, R2⟩
  obtain rfl := R2.v
  refine ⟨ρ, m2, w2, (re.ext R1.e).ext R2.e, R2.r, (Cont.bind (fun _ _ a b => a = b) R2.c).imp ?_⟩
  rintro hi' H3 ⟨h3, m3, w3, R3⟩
  obtain rfl := R3.v
  obtain ⟨d, e, c⟩ := Cont.o0 R3.c
  cases q : slW m3 a1 l2 h3 with
  | none => rw [q] at e; cases e
  | some d' =>
    rw [q] at e
    cases e
    exact ⟨w3, m3, a1, d', R3.r, (R1.v.ext R2.e).ext R3.e, q, fun v H' e r h => c v w3 H' e r (.v h)⟩) (fun _ => rfl)
theorem s_frz (ha : PE X x (tE X.K C ω a)) : PE X x (tE X.K C ω (.frz a)) := PEimp ha fun σ H Q q => by
  obtain ⟨ρ, m, w, re, rl, c⟩ := q
  simp only [ev] at c
  refine ⟨ρ, m, w, re, rl, (Cont.bind (RW X.K) c).imp ?_⟩
  rintro v H1 ⟨a1, m1, w1, R1⟩
  exact freeze_ok R1.r R1.v R1.c
end
end Z
set_option maxHeartbeats 4000000
/-! Y12: calls. -/
namespace Z
open PySem PySem.Spec PyProof.Rows L2 RZ
section
variable {K : PySem.W.Frag} {w w' : Wd} {H H' : Hp}
mutual
theorem RD.mono (i : ∀ a, w'.live a → w.live a) : ∀ {d : PyData} {v : V}, RD K w H d v → RD K w' H d v
  | _, _, .non => .non
  | _, _, .bl b => .bl b
  | _, _, .int i => .int i
  | _, _, .str x => .str x
  | _, _, .lst h n r => .lst h (fun z => n (i _ z)) (RDs.mono i r)
  | _, _, .tup h r => .tup h (RDs.mono i r)
  | _, _, .dct h l r => .dct h l (RDs.mono i r)
theorem RDs.mono (i : ∀ a, w'.live a → w.live a) : ∀ {ds : List PyData} {vs : List V}, RDs K w H ds vs → RDs K w' H ds vs
  | _, _, .nil => .nil
  | _, _, .cons a b => .cons (RD.mono i a) (RDs.mono i b)
end
theorem RXf.mono (i : ∀ a, w'.live a → w.live a) {fs : Option (List Str × List PyData)} {d : Option Addr} (h : RXf K w H fs d) : RXf K w' H fs d := by
  cases fs with
  | none => exact h
  | some p =>
    obtain ⟨ns, ds⟩ := p
    obtain ⟨dx, vs, h1, h2, h3, h4⟩ := h
    exact ⟨dx, vs, h1, h2, fun z => h3 (i _ z), h4.mono i⟩
theorem RX.mono (i : ∀ a, w'.live a → w.live a) {x : Ex} {cls : Value} {d : Option Addr} (h : RX K w H x cls d) : RX K w' H x cls d := by
  obtain ⟨C, h1, h2, h3⟩ := h
  exact ⟨C, h1, h2, h3.mono i⟩
/-- a value that may go in and out: the shared objects lie where they lay -/
theorem RW.go (i : ∀ a, w'.live a → w.live a) (mu : ∀ (n : Nat) (a : Addr), w.mu[n]? = some a → w'.mu[n]? = some a) {x : W} {v : V} (h : RW K w H x v) (ha : args [x] = true) : RW K w' H x v := by
  cases h with
  | v h => exact .v (h.mono i)
  | ro h1 h2 => exact .ro h1 (h2.mono i)
  | tv h1 h2 => exact .tv h1 (h2.mono i)
  | exc h1 h2 h3 h4 h5 h6 => exact .exc h1 (fun z => h2 (i _ z)) h3 h4 h5 (h6.mono i)
  | ref h => exact .ref (mu _ _ h)
  | loc h1 h2 => cases ha
theorem args_cons {x : W} {r : List W} : args (x :: r) = true ↔ args [x] = true ∧ args r = true := by
  cases x <;> simp [args]
theorem RWs.go (i : ∀ a, w'.live a → w.live a) (mu : ∀ (n : Nat) (a : Addr), w.mu[n]? = some a → w'.mu[n]? = some a) {xs : List W} {vs : List V} (h : RWs K w H xs vs) (ha : args xs = true) : RWs K w' H xs vs := by
  induction h with
  | nil => exact .nil
  | cons r t ih => exact .cons (r.go i mu (args_cons.mp ha).1) (ih (args_cons.mp ha).2)
theorem RFs.go (i : ∀ a, w'.live a → w.live a) (mu : ∀ (n : Nat) (a : Addr), w.mu[n]? = some a → w'.mu[n]? = some a) {fs : List (Str × W)} {gs : List (Str × V)} (h : Paired (fun (p : Str × W) (q : Str × V) => p.1 = q.1 ∧ RW K w H p.2 q.2) fs gs) (ha : args (fs.map (·.2)) = true) :
    Paired (fun (p : Str × W) (q : Str × V) => p.1 = q.1 ∧ RW K w' H p.2 q.2) fs gs := by
  induction h with
  | nil => exact .nil
  | cons r t ih =>
    rw [List.map_cons] at ha
    exact .cons ⟨r.1, r.2.go i mu (args_cons.mp ha).1⟩ (ih (args_cons.mp ha).2)
theorem RS.go (i : ∀ a, w'.live a → w.live a) (mu : ∀ (n : Nat) (a : Addr), w.mu[n]? = some a → w'.mu[n]? = some a) {a : Addr} {o : OS} (h : RS K w H a o) : RS K w' H a o := by
  cases o with
  | lst ds => obtain ⟨xs, e1, q⟩ := h; exact ⟨xs, e1, q.mono i⟩
  | ro ds => obtain ⟨o, xs, e1, q⟩ := h; exact ⟨o, xs, e1, q.mono i⟩
  | ins c fs => obtain ⟨C, dx, gs, e0, e1, q, l⟩ := h; exact ⟨C, dx, gs, e0, e1, RFs.go i mu q l, l⟩
/-- what a called def sees -/
def Wd.inn (w : Wd) : Wd := ⟨w.mu, [], fun a => w.p a ∨ some a ∈ w.l⟩
/-- back in the caller -/
def Wd.out (w w' : Wd) : Wd := ⟨w'.mu, w.l, w.p⟩
theorem Wd.inn_live {a : Addr} : w.inn.live a ↔ w.live a := by
  simp only [Wd.live, Wd.inn, List.not_mem_nil, false_or]
  constructor
  · rintro (h | h | h)
    · exact .inl h
    · exact .inr (.inr h)
    · exact .inr (.inl h)
  · rintro (h | h | h)
    · exact .inl h
    · exact .inr (.inr h)
    · exact .inr (.inl h)
theorem RWs.inn {ws : List W} {vs : List V} (h : RWs K w H ws vs) (ha : args ws = true) : RWs K w.inn H ws vs := RWs.go (fun _ h => Wd.inn_live.mp h) (fun _ _ h => h) h ha
theorem Rl.inn {m : Mem} (r : Rl K w m H) : Rl K w.inn ⟨[], m.S⟩ H where
  lenS := r.lenS
  lenL := rfl
  ndS := r.ndS
  ndL := fun i j a h => by simp [Wd.inn] at h
  ap := fun a _ => by simp [Wd.inn]
  apP := fun a h => by
    refine ⟨?_, by simp [Wd.inn], r.live_some (Wd.inn_live.mp (.inr (.inr h)))⟩
    rcases h with h | h
    · exact (r.apP a h).1
    · exact fun z => r.ap a z h
  s := fun n o a h1 h2 => RS.go (fun a h => Wd.inn_live.mp h) (fun _ _ h => h) (r.s n o a h1 h2)
  l := fun n o x h => by simp at h
theorem out_live (e : Ext w.inn H w' H') {a : Addr} (h : (w.out w').live a) : w'.live a := by
  rcases h with h | h | h
  · exact .inl h
  · exact .inr (.inr (by rw [e.p]; exact .inr h))
  · exact .inr (.inr (by rw [e.p]; exact .inl h))
theorem Ext.out (e : Ext w.inn H w' H') : Ext w H (w.out w') H' where
  mu := e.mu
  ln := Nat.le_refl _
  l := fun n _ => .inl rfl
  p := rfl
  keep := fun a o h n => by
    obtain ⟨h1, h2⟩ := e.keep a o h fun z => n (Wd.inn_live.mp z)
    exact ⟨h1, fun z => h2 (out_live e z)⟩
  pk := fun a o hp h => e.pk a o (.inl hp) h
  tup := e.tup
  frz := e.frz
theorem Rl.out {m m' : Mem} (r : Rl K w m H) (e : Ext w.inn H w' H') (r' : Rl K w' m' H') : Rl K (w.out w') { m with S := m'.S } H' where
  lenS := r'.lenS
  lenL := r.lenL
  ndS := r'.ndS
  ndL := r.ndL
  ap := fun a h1 h2 => (r'.apP a (by rw [e.p]; exact .inr h2)).1 h1
  apP := fun a h => by
    refine ⟨(r'.apP a (by rw [e.p]; exact .inl h)).1, (r.apP a h).2.1, ?_⟩
    obtain ⟨o, q⟩ := (r.apP a h).2.2
    exact ⟨o, e.pk a o (.inl h) q⟩
  s := fun n o a h1 h2 => RS.go (fun a h => out_live e h) (fun _ _ h => h) (r'.s n o a h1 h2)
  l := fun n o x h1 h2 => by
    refine (r.l n o x h1 h2).ext e.out fun a q => ?_
    subst q
    have hl : some a ∈ w.l := List.mem_of_getElem? h2
    obtain ⟨o', q⟩ := r.live_some (.inr (.inl hl))
    rw [q, e.pk a o' (.inr hl) q]
theorem RW.out {x : W} {v : V} (e : Ext w.inn H w' H') (h : RW K w' H' x v) (ha : args [x] = true) : RW K (w.out w') H' x v := h.go (fun _ h => out_live e h) (fun _ _ h => h) ha
/-- a call in the evaluator: what the called def wants -/
theorem call_frame {C : Orc} {f n : Nat} {ws : List W} {vs : List V} {m : Mem} {Q : VK} {ω : EW} (r : Rl K w m H) (hw : RWs K w H ws vs) (hn : ws.length = n)
    (c : Cont K w H (RW K) Q ω (cl C f ws m)) : spZ K C f n vs H Q (fun cls d H' => ∃ x w m, Rl K w m H' ∧ RX K w H' x cls d ∧ ω x w m H') := by
  unfold cl at c
  split at c
  · rename_i ha
    refine ⟨ws, w.inn, m.S, hn, hw.inn ha, ha, r.inn, ?_⟩
    cases q : C f ws m.S with
    | ok a m' =>
      rw [q] at c
      intro v w' H' e r' rv
      dsimp only at c
      split at c
      · rename_i hr
        exact c v (w.out w') H' e.out (r.out e r') (rv.out e hr)
      · exact c.elim
    | err x m' =>
      rw [q] at c
      intro w' H' e r' cls d hx
      exact ⟨x, w.out w', _, r.out e r', hx.mono fun a h => out_live e h, c (w.out w') H' e.out (r.out e r')⟩
    | bad => rw [q] at c; exact c.elim
  · exact c.elim
/-- .. one that raises nothing -/
theorem call_frameN {C : Orc} {f n : Nat} {ws : List W} {vs : List V} {m : Mem} {Q : VK} {ω : EW} (r : Rl K w m H) (hw : RWs K w H ws vs) (hn : ws.length = n)
    (c : Cont K w H (RW K) Q ω (cl C f ws m).ne) : spZ K C f n vs H Q noX := by
  unfold cl at c
  split at c
  · rename_i ha
    refine ⟨ws, w.inn, m.S, hn, hw.inn ha, ha, r.inn, ?_⟩
    cases q : C f ws m.S with
    | ok a m' =>
      rw [q] at c
      intro v w' H' e r' rv
      dsimp only at c
      split at c
      · rename_i hr
        exact c v (w.out w') H' e.out (r.out e r') (rv.out e hr)
      · exact c.elim
    | err x m' => rw [q] at c; exact c.elim
    | bad => rw [q] at c; exact c.elim
  · exact c.elim
/-- an instance of that class -/
theorem isIns_ok {m : Mem} {x : W} {v : V} {c : Str} {Cc : Addr} (r : Rl K w m H) (hn : PySem.W.nsIn K mainGlobals c = some (some (.ref Cc))) (h : RW K w H x v) (e : isIns m x c = true) :
    ∃ n a fs dx gs, x = .ref n ∧ v = .ref a ∧ w.mu[n]? = some a ∧ m.S[n]? = some (.ins c fs) ∧ H a = some (.ins Cc dx gs) ∧ Paired (fun (p : Str × W) (q : Str × V) => p.1 = q.1 ∧ RW K w H p.2 q.2) fs gs ∧ args (fs.map (·.2)) = true := by
  unfold isIns at e
  split at e
  · rename_i n
    split at e
    · rename_i c' fs q
      obtain rfl : c' = c := of_decide_eq_true e
      cases h with
      | @ref _ a h =>
        obtain ⟨C', dx, gs, e0, e1, e2, e3⟩ := r.mu_ h q
        rw [hn] at e0
        cases e0
        exact ⟨n, a, fs, dx, gs, rfl, rfl, h, q, e1, e2, e3⟩
    · cases e
  · cases e
theorem flds_lookup {F : W → V → Prop} {fs : List (Str × W)} {gs : List (Str × V)} (h : Paired (fun (p : Str × W) (q : Str × V) => p.1 = q.1 ∧ F p.2 q.2) fs gs) (f : Str) :
    (∀ x, fs.lookup f = some x → ∃ v, gs.lookup f = some v ∧ F x v) ∧ (fs.lookup f = none → gs.lookup f = none) := by
  induction h with
  | nil => exact ⟨fun x e => (by cases e), fun _ => rfl⟩
  | @cons p q r t hd tl ih =>
    obtain ⟨f1, x1⟩ := p
    obtain ⟨f2, v1⟩ := q
    obtain ⟨e, hx⟩ := hd
    obtain rfl : f1 = f2 := e
    by_cases z : f = f1
    · subst z
      rw [List.lookup_cons_self, List.lookup_cons_self]
      exact ⟨fun x e => by cases e; exact ⟨_, rfl, hx⟩, fun e => by cases e⟩
    · have z1 : (f == f1) = false := by simpa using z
      rw [List.lookup_cons, List.lookup_cons, z1]
      exact ih
end
section
variable {X : Cx} {Γ : Gm} {C : Orc} {ω : St → EW} {a b c e e2 : E} {r es : ES} {x y z u : Expr} {xs : List Expr} {p q : Pos}
theorem evs_len {C : Orc} {ρ : Env} : ∀ {es : ES} {xs : List Expr} {m m' : Mem} {ws : List W}, chkS Γ es xs = true → xs.all notStar = true → evs C es ρ m = .ok ws m' → ws.length = xs.length
  | .nil, [], m, m', ws, _, _, h => by
    simp only [evs] at h
    cases h
    rfl
  | .cons e r, x :: xs, m, m', ws, hc, hs, h => by
    simp only [chkS, Bool.and_eq_true] at hc
    rw [List.all_cons, Bool.and_eq_true] at hs
    simp only [evs] at h
    cases q : ev C e ρ m with
    | ok a m1 =>
      rw [q] at h
      simp only [R.b] at h
      cases q2 : evs C r ρ m1 with
      | ok as m2 =>
        rw [q2] at h
        simp only [R.b] at h
        cases h
        rw [List.length_cons, List.length_cons, evs_len hc.2 hs.2 q2]
      | err _ _ => rw [q2] at h; cases h
      | bad => rw [q2] at h; cases h
    | err _ _ => rw [q] at h; cases h
    | bad => rw [q] at h; cases h
  | .star e r, x :: xs, m, m', ws, hc, hs, h => by
    rw [List.all_cons, Bool.and_eq_true] at hs
    cases x <;> first | exact absurd hc Bool.false_ne_true | exact absurd hs.1 Bool.false_ne_true
  | .nil, _ :: _, _, _, _, hc, _, _ => by cases hc
  | .cons _ _, [], _, _, _, hc, _, _ => by cases hc
  | .star _ _, [], _, _, _, hc, _, _ => by cases hc
theorem Cont.bindE {K : PySem.W.Frag} {w : Wd} {H : Hp} {α β γ δ : Type} {r : R α} {E : EW} {f : α → Mem → R γ} {relg : Wd → Hp → γ → δ → Prop} {Q : δ → Hp → Prop} (rel : Wd → Hp → α → β → Prop) (h : Cont K w H relg Q E (r.b f)) : Cont K w H rel (fun v H1 => ∃ a m1 w1, r = .ok a m1 ∧ Rest K w H rel f relg Q E v H1 a m1 w1) E r := by
  cases r with
  | ok a m => exact fun v w' H' e rl rv => ⟨a, m, w', rfl, e, rl, rv, Cont.later e h⟩
  | err x m => exact h
  | bad => exact h
abbrev EZ (X : Cx) (ω : St → EW) : St → XK := fun σ cls d H' => ∃ x w m, Rl X.K w m H' ∧ RX X.K w H' x cls d ∧ ω σ x w m H'
theorem FnZ.use {P : Program} {W0 : World} {K : PySem.W.Frag} {mg : Str → Option Value} {base : Heap} {A : Around} {fi : FI} {fa : Addr} {ds : List PyData} {n : Nat} (z : FnZ P W0 K mg base A C fi fa) (h : dflt fi ds n = true) :
    ∃ fd ps k dvs, FnOk P W0 K mg base (L2.CX P W0) k fa fd ps (spZ K C fi.id (n + ds.length)) ∧ Room (k + 1) A ∧ Dfl K fd ps dvs ∧ ∀ w H, RDs K w H ds dvs := by
  obtain ⟨fd, ps, k, F, rm, _, df⟩ := z.ex
  obtain ⟨d1, d2, d3⟩ := dflt_ok h
  obtain ⟨vs, us, v1, v2, v3⟩ := df (fi.ds.length - ds.length) (Nat.sub_le ..)
  refine ⟨fd, ps, k, vs, by rw [d1]; exact F, rm, ⟨us, v1, v2⟩, fun w H => ?_⟩
  rw [d3, ← d3]
  rw [d3]
  exact v3 w H
theorem cl_len {ws : List W} {vs : List V} {ds : List PyData} {n : Nat} (hn : ws.length = n) : (ws ++ ds.map W.v).length = n + ds.length := by rw [List.length_append, List.length_map, hn]
theorem s_callD {f : Nat} {n : Str} {fi : FI} {ds : List PyData} (k : Cok X Γ C ω) (h1 : Γ.fn.lookup n = some fi) (h0 : fi.id = f) (hd : dflt fi ds xs.length = true) (h2 : glb Γ n = true) (h3 : dbg n = true) (h4 : xs.all notStar = true) (h5 : chkS Γ es xs = true) (ha : PA X xs (tA X.K C ω es)) : Snd X C ω (.callD f es ds) (.Call (.Name n p) xs [] q) := by
  subst h0
  obtain ⟨fa, e1, e2, fz⟩ := k.g.fn _ _ h1
  obtain ⟨fd, ps, kk, dvs, F, rm, df, rd0⟩ := fz.use hd
  have rm : Room kk X.A := rm.mono (Nat.le_succ _)
  have rd : ∀ (σ : St) (H : Hp) (Q : VK), tE X.K C ω (.callD fi.id es ds) σ H Q → tCallSD (spZ X.K C fi.id (xs.length + ds.length)) dvs (EZ X ω) (tA X.K C ω es) σ H Q := by
    intro σ H Q q
    obtain ⟨ρ, m, w, re, rl, c⟩ := q
    simp only [ev] at c
    refine ⟨ρ, m, w, re, rl, (Cont.bindE (RWs X.K) c).imp ?_⟩
    rintro vs H1 ⟨ws, m1, w1, e, R1⟩
    exact call_frame R1.r (R1.v.append (rd0 w1 H1).ws) (cl_len (vs := vs) (evs_len h5 h4 e)) R1.c
  cases xs with
  | nil =>
    cases es with
    | nil =>
      refine Snd.of (PEimp (pe_own0 F rm (k.gl h2) e1 e2 df k.hx (dbg_1 h3).1) fun σ H Q q => ?_) (fun _ => rfl)
      obtain ⟨ρ, m, w, re, rl, c⟩ := rd σ H Q q
      simp only [evs] at c
      exact c [] w H (Ext.refl _ _) rl .nil
    | cons _ _ => cases h5
    | star _ _ => cases h5
  | cons y ys =>
    rw [List.all_cons, Bool.and_eq_true] at h4
    obtain ⟨us, v1, v2⟩ := df.ex
    exact Snd.of (PEimp (pe_callSD F rm (k.gl h2) e1 e2 v2 v1 k.hx ha (dbg_1 h3).1 (starEach_one h4.1) (starEach_plain h4.2)) rd) (fun _ => rfl)
theorem s_call {f : Nat} {n : Str} {fi : FI} (k : Cok X Γ C ω) (h1 : Γ.fn.lookup n = some fi) (h0 : fi.id = f) (hd : fi.n = xs.length) (h2 : glb Γ n = true) (h3 : dbg n = true) (h4 : xs.all notStar = true) (h5 : chkS Γ es xs = true) (ha : PA X xs (tA X.K C ω es)) : Snd X C ω (.call f es) (.Call (.Name n p) xs [] q) := by
  have z := s_callD (p := p) (q := q) (ds := []) k h1 h0 (by
    simp only [dflt, Bool.and_eq_true, decide_eq_true_eq, List.length_nil]
    exact ⟨⟨by omega, Nat.zero_le _⟩, by rw [Nat.sub_zero, List.drop_length]; rfl⟩) h2 h3 h4 h5 ha
  have e : ∀ ρ m, ev C (.callD f es []) ρ m = ev C (.call f es) ρ m := fun ρ m => by
    simp only [ev, List.map_nil, List.append_nil]
  refine ⟨PEimp z.pe fun σ H Q qq => ?_, fun _ => PTimp (z.pt rfl) fun σ H Q qq => ?_⟩
  · obtain ⟨ρ, m, w, re, rl, c⟩ := qq
    exact ⟨ρ, m, w, re, rl, by rw [e]; exact c⟩
  · obtain ⟨ρ, m, w, re, rl, c⟩ := qq
    exact ⟨ρ, m, w, re, rl, by rw [e]; exact c⟩
theorem meth_tree {X : Cx} {y : Expr} {n : Str} {p q : Pos} {xs : List Expr} (h1 : notSuper y = true) (h2 : (p.endLine == q.line) = true) (h3 : xs.all notStar = true) (h4 : xs.length < 29) :
    ∃ pl : Sem Bool, eval (.Call (.Attribute y n p) xs [] q) X.env = (do
      let ov ← eval y X.env
      standAt p.atName
      let (f, first) ← holding [ov] (getMethod ov n pl)
      callWith q f first (backTo q (starEach xs X.env)) (backToKw q (keywordEach [] X.env))) := by
  refine ⟨do return (← importBound y X.env).getD true, ?_⟩
  have hb : attributeBase y n X.env (eval y X.env) = eval y X.env := by
    cases y <;> first | rfl | exact absurd h1 Bool.false_ne_true
  have hf : methodCallForm (xs.length + ([] : List Keyword).length) (backTo q (starEach xs X.env)) (backToKw q (keywordEach [] X.env)) = true := by
    unfold methodCallForm
    rw [starEach_all h3, Bool.true_and, Bool.and_eq_true]
    refine ⟨rfl, decide_eq_true ?_⟩
    show xs.length + 0 + 0 < 30
    omega
  have hp : methodCallPos true y X.env p q = pure q := by
    unfold methodCallPos
    simp [h2]
  rw [arm_eval_Call, hb]
  unfold methodCall calleeOf
  simp only [hf, hp, if_true, pure_bind]
theorem bltN_mem (b : Blt) : bltN b ∈ bltNames := by cases b <;> decide +kernel
theorem bltN_boot (b : Blt) : bootBuiltins (bltN b) = some (bltV b) := by cases b <;> decide +kernel
theorem bltN_ne (b : Blt) : bltN b ≠ "__name__" ∧ (bltN b == ("__debug__" : Str)) = false := by cases b <;> decide +kernel
theorem s_blt {bb : Blt} (k : Cok X Γ C ω) (h2 : glb Γ (bltN bb) = true) (h3 : plain xs = true) (ha : PA X xs (tA X.K C ω es)) : Snd X C ω (.blt bb es) (.Call (.Name (bltN bb) p) xs [] q) := by
  obtain ⟨y, ys, rfl, h4, h5⟩ := plain_cons h3
  have hm := k.g.bl _ (bltN_mem bb)
  have pe : PE X (.Call (.Name (bltN bb) p) (y :: ys) [] q) (tCB (rBlt X.K bb) (tA X.K C ω es)) := by
    have hv := bltN_boot bb
    have hc := blt_ok k.calm bb
    cases bb <;> first
      | exact pe_callB hc (k.gl h2) hm hv ha (bltN_ne _).1 (bltN_ne _).2 (starEach_one h4) (starEach_plain h5)
      | exact pe_callTy hc (k.gl h2) hm hv ha (bltN_ne _).1 (bltN_ne _).2 (starEach_one h4) (starEach_plain h5)
  refine Snd.of (PEimp pe fun σ H Q q => ?_) (fun _ => rfl)
  obtain ⟨ρ, m, w, re, rl, c⟩ := q
  simp only [ev] at c
  refine ⟨ρ, m, w, re, rl, (Cont.bind (RWs X.K) c).imp ?_⟩
  rintro vs H1 ⟨ws, m1, w1, R1⟩
  obtain ⟨d, e, c⟩ := Cont.o0 R1.c
  cases q : peeks m1 ws with
  | none => rw [q] at e; cases e
  | some ds =>
    rw [q, Option.bind_some] at e
    cases q2 : bltD bb ds with
    | none => rw [q2] at e; cases e
    | some d' =>
      rw [q2] at e
      cases e
      exact ⟨w1, m1, ds, d', R1.r, peeks_ok R1.r R1.v q, q2, fun v H' e r h => c v w1 H' e r (.v h)⟩
theorem s_of {k : Kd} (g : Cok X Γ C ω) (h2 : glb Γ ("list" : Str) = true) (h3 : notStar y = true) (ha : PE X y (tE X.K C ω e)) : Snd X C ω (.lst k (.of e)) (.Call (.Name ("list" : Str) p) [y] [] q) := by
  have hm := g.g.bl ("list" : Str) (bltN_mem .list)
  refine Snd.of (PEimp (pe_callTy call_list_of (g.gl h2) hm (bltN_boot .list) (pa_cons (es := []) ha pa_nil (starEach_one h3)) (bltN_ne .list).1 (bltN_ne .list).2 (starEach_one h3) (starEach_plain rfl)) fun σ H Q q => ?_) (fun _ => rfl)
  obtain ⟨ρ, m, w, re, rl, c⟩ := q
  simp only [ev, evL, R.b_assoc] at c
  refine ⟨ρ, m, w, re, rl, (Cont.bind (RW X.K) c).imp ?_⟩
  rintro v H1 ⟨a1, m1, w1, R1⟩
  obtain ⟨ws, e, c⟩ := Cont.o R1.c
  obtain ⟨a, ys, rfl, h1, h2⟩ := itemsW_ok R1.r R1.v e
  exact ⟨a, ys, rfl, h1, (mk_ok R1.r h2 c).2⟩
theorem boot_isi : bootBuiltins ("isinstance" : Str) = some (.builtin "isinstance") := by decide +kernel
theorem isi_mem : ("isinstance" : Str) ∈ bltNames := by decide +kernel
theorem tyS_mem (t : Ty) : (tyS t : Str) ∈ bltNames := by cases t <;> decide +kernel
theorem tyS_boot (t : Ty) : bootBuiltins (tyS t : Str) = some (.type (tyS t)) := by cases t <;> decide +kernel
theorem tyS_ne (t : Ty) : (tyS t : Str) ≠ "__name__" ∧ ((tyS t : Str) == ("__debug__" : Str)) = false := by cases t <;> decide +kernel
theorem chkTy_pe {t : Ty} (k : Cok X Γ C ω) (h : chkTy Γ t x = true) : PE X x (tC (.ty (tyS t))) := by
  cases x <;> first | exact absurd h Bool.false_ne_true | skip
  simp only [chkTy, Bool.and_eq_true, decide_eq_true_eq] at h
  obtain ⟨rfl, h2⟩ := h
  exact pe_bltn (k.gl h2) (k.g.bl _ (tyS_mem t)) (tyS_boot t) rfl (tyS_ne t).1 (tyS_ne t).2
theorem isiD_in {ts : List Ty} {d : PyData} {b : Bool} {K : PySem.W.Frag} {w : Wd} {H : Hp} {v : V} (h : PD K w H d v) (e : isiD ts d = some b) : ∃ t : Value, TyX K H v t ∧ (∀ u, ts = [u] → PySem.W.kitOne K t (.type (tyS u)) = some b) ∧ PySem.W.kitAny K t (ts.map fun u => .type (tyS u)) = some b := by
  have nd : ∀ kvs, d ≠ .dict kvs := fun kvs z => by subst z; cases e
  have e : (match tyOf d with | none => some false | some t => some (ts.any (tyLe t))) = some b := by
    cases d <;> first | exact e | exact absurd rfl (nd _)
  rcases h.tyx nd with ⟨t, q, hx⟩ | ⟨q, hx⟩
  · rw [q] at e
    cases e
    refine ⟨_, hx, fun u hu => ?_, kitAny_map (fun u => ty_kit K t u) ts⟩
    subst hu
    rw [ty_kit]
    simp
  · rw [q] at e
    cases e
    refine ⟨_, hx, fun u hu => ty_kitN K u, ?_⟩
    rw [kitAny_map (f := fun _ => false) (fun u => ty_kitN K u) ts]
    simp
def tTys : List V → TA := fun vs _ H Q => Q vs H
theorem chkTys_pa (k : Cok X Γ C ω) : ∀ {ts : List Ty} {xs : List Expr}, chkTys Γ ts xs = true → PA X xs (tTys (ts.map fun t => .ty (tyS t)))
  | [], [], _ => PAimp pa_nil fun σ H Q q => q
  | t :: ts, x :: xs, h => by
    simp only [chkTys, Bool.and_eq_true] at h
    have ns : notStar x = true := by cases x <;> first | rfl | exact absurd h.1 Bool.false_ne_true
    exact PAimp (pa_cons (chkTy_pe k h.1) (chkTys_pa k h.2) (starEach_one ns)) fun σ H Q q => q
  | [], _ :: _, h => by cases h
  | _ :: _, [], h => by cases h
theorem clsAll : ∀ ts : List Ty, Paired ClsV (ts.map fun t => V.ty (tyS t)) (ts.map fun t => Value.type (tyS t))
  | [] => .nil
  | t :: ts => .cons (.ty _) (clsAll ts)
theorem s_isi1 {t : Ty} (k : Cok X Γ C ω) (h2 : glb Γ ("isinstance" : Str) = true) (h3 : notStar y = true) (h4 : chkTy Γ t z = true) (ha : PE X y (tE X.K C ω e)) : Snd X C ω (.isi [t] e) (.Call (.Name ("isinstance" : Str) p) [y, z] [] q) := by
  have ns : notStar z = true := by cases z <;> first | rfl | exact absurd h4 Bool.false_ne_true
  refine Snd.of (PEimp (pe_callB call_isi (k.gl h2) (k.g.bl _ isi_mem) boot_isi (pa_cons ha (pa_cons (es := []) (chkTy_pe k h4) pa_nil (starEach_one ns)) (starEach_one h3)) (by decide) (by decide) (starEach_one h3) (starEach_plain (by rw [List.all_cons, ns]; rfl))) fun σ H Q q => ?_) (fun _ => rfl)
  obtain ⟨ρ, m, w, re, rl, c⟩ := q
  simp only [ev] at c
  refine ⟨ρ, m, w, re, rl, (Cont.bind (RW X.K) c).imp ?_⟩
  rintro v H1 ⟨a1, m1, w1, R1⟩
  obtain ⟨d, e, c⟩ := Cont.o0 R1.c
  cases q : peek m1 a1 with
  | none => rw [q] at e; cases e
  | some ds =>
    rw [q, Option.bind_some] at e
    cases q2 : isiD [t] ds with
    | none => rw [q2] at e; cases e
    | some b =>
      rw [q2] at e
      cases e
      obtain ⟨tv, t1, t2, _⟩ := isiD_in (peek_ok R1.r R1.v q) q2
      exact ⟨v, _, tv, _, b, rfl, .ty _, t1, t2 t rfl, c _ w1 H1 (Ext.refl _ _) R1.r (.v (.bl _))⟩
theorem s_isiT {ts : List Ty} {kk : Nat} {pt : Pos} {ns : List Expr} (k : Cok X Γ C ω) (h2 : glb Γ ("isinstance" : Str) = true) (h3 : notStar y = true) (h4 : chkTys Γ ts ns = true) (hz : ts.length ≤ szL) (ha : PE X y (tE X.K C ω e)) : Snd X C ω (.isi ts e) (.Call (.Name ("isinstance" : Str) p) [y, .Tuple ns kk pt] [] q) := by
  refine Snd.of (PEimp (pe_callB call_isiT (k.gl h2) (k.g.bl _ isi_mem) boot_isi (pa_cons ha (pa_cons (es := []) (pe_tup (chkTys_pa k h4)) pa_nil (starEach_one rfl)) (starEach_one h3)) (by decide) (by decide) (starEach_one h3) (starEach_plain rfl)) fun σ H Q q => ?_) (fun _ => rfl)
  obtain ⟨ρ, m, w, re, rl, c⟩ := q
  simp only [ev] at c
  refine ⟨ρ, m, w, re, rl, (Cont.bind (RW X.K) c).imp ?_⟩
  rintro v H1 ⟨a1, m1, w1, R1⟩
  obtain ⟨d, e, c⟩ := Cont.o0 R1.c
  cases q : peek m1 a1 with
  | none => rw [q] at e; cases e
  | some ds =>
    rw [q, Option.bind_some] at e
    cases q2 : isiD ts ds with
    | none => rw [q2] at e; cases e
    | some b =>
      rw [q2] at e
      cases e
      refine ⟨by rw [List.length_map, szL_eq]; exact hz, fun l hl => ?_⟩
      have ex := ext_upd (o := .tup (ts.map fun t => V.ty (tyS t))) R1.r hl
      have rl' := R1.r.upd_ (o := .tup (ts.map fun t => V.ty (tyS t))) hl
      obtain ⟨tv, t1, _, t3⟩ := isiD_in (peek_ok rl' (R1.v.ext ex) (by exact q)) q2
      exact ⟨v, l, _, tv, _, b, rfl, upd_same, clsAll ts, t1, t3, c _ w1 _ ex rl' (.v (.bl _))⟩
end
end Z
set_option maxHeartbeats 4000000
/-! Y12b: instances, sets, methods. -/
namespace Z
open PySem PySem.Spec PyProof.Rows L2 RZ
section
variable {X : Cx} {Γ : Gm} {C : Orc} {ω : St → EW} {a b c e e2 o : E} {r es : ES} {x y z u : Expr} {xs : List Expr} {p q : Pos}
theorem s_never {x : Expr} : Snd X C ω .never x := ⟨⟨fun pins s σ H Q I h => by
  obtain ⟨ρ, m, w, re, rl, cc⟩ := h
  simp only [ev] at cc
  exact cc.elim⟩, fun z => ⟨fun pins s σ H Q I h => by
  obtain ⟨ρ, m, w, re, rl, cc⟩ := h
  simp only [ev] at cc
  exact cc.elim⟩⟩
theorem base_ok {n : Str} (h1 : notSuper y = true) : attributeBase y n X.env (eval y X.env) = eval y X.env := by
  cases y <;> first | rfl | exact absurd h1 Bool.false_ne_true
theorem s_fld {cn n : Str} (k : Cok X Γ C ω) (ho : PE X y (tE X.K C ω o)) (h1 : notSuper y = true) (h2 : (cn, n) ∈ Γ.fl) (h3 : cn ∈ Γ.cl) : Snd X C ω (.fld cn o n) (.Attribute y n p) := by
  obtain ⟨Cc, g1, g2, g3, _⟩ := k.g.cl cn h3
  have na := k.g.fl cn n h2 Cc g1
  refine Snd.of (PEimp (pe_fld ho (base_ok h1)) fun σ H Q qq => ?_) (fun _ => rfl)
  obtain ⟨ρ, m, w, re, rl, cc⟩ := qq
  simp only [ev] at cc
  refine ⟨ρ, m, w, re, rl, (Cont.bind (RW X.K) cc).imp ?_⟩
  rintro v H1 ⟨a1, m1, w1, R1⟩
  have cc := R1.c
  split at cc
  · rename_i hi
    obtain ⟨nn, aa, fs, dx, gs, rfl, rfl, e1, e2, e3, e4, e5⟩ := isIns_ok R1.r g1 R1.v hi
    obtain ⟨d, ed, cc⟩ := Cont.o0 cc
    have ed : fs.lookup n = some d := by simpa only [fldW, e2] using ed
    obtain ⟨v, l1, l2⟩ := (flds_lookup (F := RW X.K w1 H1) e4 n).1 d ed
    exact ⟨aa, Cc, dx, gs, v, rfl, e3, g3, na, l1, cc v w1 H1 (Ext.refl _ _) R1.r l2⟩
  · exact cc.elim
theorem s_prp {cn n : Str} {f : Nat} (k : Cok X Γ C ω) (ho : PE X y (tE X.K C ω o)) (h1 : notSuper y = true) (h2 : Γ.pr.lookup (cn, n) = some f) : Snd X C ω (.prp cn n f o) (.Attribute y n p) := by
  obtain ⟨hc, hp⟩ := k.g.pr cn n f h2
  obtain ⟨Cc, g1, g2, g3, _⟩ := k.g.cl cn hc
  obtain ⟨pa, ga, po, fz⟩ := hp Cc g1
  obtain ⟨fd, ps, kk, dvs, F, rm, df, rd0⟩ := fz.use (ds := []) (n := 1) rfl
  obtain ⟨us, v1, v2⟩ := df.ex
  refine Snd.of (PEimp (pe_prop (E := noX) ho g3 po F rm v2 v1 noX_pass (base_ok h1)) fun σ H Q qq => ?_) (fun _ => rfl)
  obtain ⟨ρ, m, w, re, rl, cc⟩ := qq
  simp only [ev] at cc
  refine ⟨ρ, m, w, re, rl, (Cont.bind (RW X.K) cc).imp ?_⟩
  rintro v H1 ⟨a1, m1, w1, R1⟩
  have cc := R1.c
  split at cc
  · rename_i hi
    obtain ⟨nn, aa, fs, dx, gs, rfl, rfl, e1, e2, e3, e4, e5⟩ := isIns_ok R1.r g1 R1.v hi
    refine ⟨aa, dx, gs, rfl, e3, ?_⟩
    have z : dvs = [] := by
      have := rd0 w1 H1
      cases this
      rfl
    subst z
    exact call_frameN R1.r (.cons R1.v .nil) rfl cc
  · exact cc.elim
theorem s_mc {cn n : Str} {f : Nat} {fi : FI} {ds : List PyData} (k : Cok X Γ C ω) (ho : PE X y (tE X.K C ω o)) (h1 : notSuper y = true) (h2 : Γ.mt.lookup (cn, n) = some fi) (h0 : fi.id = f) (hd : dflt fi ds (xs.length + 1) = true)
    (h3 : (p.endLine == q.line) = true) (h4 : xs.length < 29) (h5 : xs.all notStar = true) (h6 : chkS Γ es xs = true) (ha : PA X xs (tA X.K C ω es)) : Snd X C ω (.mc (.meth n) cn f o es ds) (.Call (.Attribute y n p) xs [] q) := by
  subst h0
  obtain ⟨hc, hm⟩ := k.g.mt cn n fi h2
  obtain ⟨Cc, g1, g2, g3, _⟩ := k.g.cl cn hc
  obtain ⟨fa, mt, fz⟩ := hm Cc g1
  obtain ⟨fd, ps, kk, dvs, F, rm, df, rd0⟩ := fz.use hd
  have rm : Room kk X.A := rm.mono (Nat.le_succ _)
  obtain ⟨pl, tree⟩ := meth_tree (X := X) (n := n) h1 h3 h5 h4
  have rd : ∀ (σ : St) (H : Hp) (Q : VK), tE X.K C ω (.mc (.meth n) cn fi.id o es ds) σ H Q → tOwnM Cc n (spZ X.K C fi.id (xs.length + 1 + ds.length)) dvs (EZ X ω) (tE X.K C ω o) (tA X.K C ω es) σ H Q := by
    intro σ H Q qq
    obtain ⟨ρ, m, w, re, rl, cc⟩ := qq
    simp only [ev] at cc
    refine ⟨ρ, m, w, re, rl, (Cont.bind (RW X.K) cc).imp ?_⟩
    rintro v H1 ⟨a1, m1, w1, R1⟩
    have cc := R1.c
    split at cc
    · rename_i hi
      rw [Bool.and_eq_true] at hi
      obtain ⟨nn, aa, fs, dx, gs, rfl, rfl, e1, e2, e3, e4, e5⟩ := isIns_ok R1.r g1 R1.v hi.1
      have nf : fs.lookup n = none := by
        have z := hi.2
        simp only [Mk.pre, noFld, e2, Option.isNone_iff_eq_none] at z
        exact z
      refine ⟨aa, dx, gs, rfl, e3, (flds_lookup (F := RW X.K w1 H1) e4 n).2 nf, ρ, m1, w1, re.ext R1.e, R1.r, (Cont.bindE (RWs X.K) cc).imp ?_⟩
      rintro vs H2 ⟨ws, m2, w2, e, R2⟩
      have cc := R2.c
      split at cc
      · have cc : Cont X.K w2 H2 (RW X.K) Q (ω σ) ((cl C fi.id (.ref nn :: (ws ++ ds.map .v)) m2).b R.ok) := cc
        rw [R.b_pure] at cc
        exact call_frame R2.r (.cons (R1.v.ext R2.e) (R2.v.append (rd0 w2 H2).ws)) (by rw [List.length_cons, cl_len (vs := vs) (evs_len h6 h5 e)]; omega) cc
      · exact cc.elim
    · exact cc.elim
  cases xs with
  | nil =>
    cases es with
    | nil =>
      refine Snd.of (PEimp (pe_ownM0 (E := EZ X ω) ho g3 mt F rm df k.hx tree) fun σ H Q qq => ?_) (fun _ => rfl)
      obtain ⟨ρ, m, w, re, rl, cc⟩ := rd σ H Q qq
      refine ⟨ρ, m, w, re, rl, cc.imp ?_⟩
      rintro v H1 ⟨aa, dx, gs, e1, e2, e3, ρ2, m2, w2, re2, rl2, c2⟩
      simp only [evs] at c2
      exact ⟨aa, dx, gs, e1, e2, e3, c2 [] w2 H1 (Ext.refl _ _) rl2 .nil⟩
    | cons _ _ => cases h6
    | star _ _ => cases h6
  | cons y ys =>
    rw [List.all_cons, Bool.and_eq_true] at h5
    exact Snd.of (PEimp (pe_ownM (E := EZ X ω) ho g3 mt F rm df k.hx ha (starEach_one h5.1) (starEach_plain h5.2) tree) rd) (fun _ => rfl)
theorem s_new {cn : Str} {f : Nat} {fi : FI} {ds : List PyData} (k : Cok X Γ C ω) (hc : cn ∈ Γ.cl) (h2 : Γ.mt.lookup (cn, ("__init__" : Str)) = some fi) (h0 : fi.id = f) (hd : dflt fi ds (xs.length + 1) = true)
    (hg : glb Γ cn = true) (h3 : dbg cn = true) (h5 : xs.all notStar = true) (h6 : chkS Γ es xs = true) (ha : PA X xs (tA X.K C ω es)) : Snd X C ω (.new cn f es ds) (.Call (.Name cn p) xs [] q) := by
  subst h0
  obtain ⟨_, hm⟩ := k.g.mt cn _ fi h2
  obtain ⟨Cc, g1, g2, g3, g4, g5, g6, g7⟩ := k.g.cl cn hc
  obtain ⟨fa, mt, fz⟩ := hm Cc g1
  obtain ⟨fd, ps, kk, dvs, F, rm, df, rd0⟩ := fz.use hd
  have M : L2.Mk X.K Cc fa := ⟨g6, mt.at_, mt.fn, g7⟩
  have rd : ∀ (σ : St) (H : Hp) (Q : VK), tE X.K C ω (.new cn fi.id es ds) σ H Q → tOwnN Cc (spZ X.K C fi.id (xs.length + 1 + ds.length)) dvs (EZ X ω) (tA X.K C ω es) σ H Q := by
    intro σ H Q qq
    obtain ⟨ρ, m, w, re, rl, cc⟩ := qq
    simp only [ev] at cc
    refine ⟨ρ, m, w, re, rl, (Cont.bindE (RWs X.K) cc).imp ?_⟩
    rintro vs H1 ⟨ws, m1, w1, e, R1⟩ ax dx hx hdx ne
    have ex1 := ext_upd (o := .own ax) R1.r hdx
    have r1 := R1.r.upd_ (o := .own ax) hdx
    have hx' : upd H1 dx (.own ax) ax = none := by rw [upd_ne (Ne.symm ne)]; exact hx
    have ex2 := ext_newS (o := .ins Cc dx []) r1 hx'
    have r2 := r1.newS (os := .ins cn []) (o := .ins Cc dx []) hx' ⟨Cc, dx, [], g1, upd_same, .nil, rfl⟩
    have hr : RW X.K { w1 with mu := w1.mu ++ [ax] } (upd (upd H1 dx (.own ax)) ax (.ins Cc dx [])) (.ref m1.S.length) (.ref ax) := by
      refine .ref ?_
      show (w1.mu ++ [ax])[m1.S.length]? = some ax
      rw [R1.r.lenS, List.getElem?_append_right (Nat.le_refl _)]
      simp
    have cc := Cont.later (ex1.trans ex2) R1.c
    refine call_frame (ω := ω σ) r2 (.cons hr (((R1.v.ext ex1).ext ex2).append (rd0 _ _).ws)) (by rw [List.length_cons, cl_len (vs := vs) (evs_len h6 h5 e)]; omega) ((Cont.bind (RW X.K) cc).imp ?_)
    rintro v H3 ⟨a3, m3, w3, R3⟩
    have cc := R3.c
    have hv := R3.v
    split at cc
    · cases hv with
      | v hv =>
        cases hv
        refine ⟨rfl, cc _ w3 H3 (Ext.refl _ _) R3.r (hr.ext R3.e)⟩
    · exact cc.elim
  cases xs with
  | nil =>
    cases es with
    | nil =>
      refine Snd.of (PEimp (pe_ownN0 (E := EZ X ω) M F rm (k.gl hg) g2 df k.hx (dbg_1 h3).1) fun σ H Q qq => ?_) (fun _ => rfl)
      obtain ⟨ρ, m, w, re, rl, cc⟩ := rd σ H Q qq
      simp only [evs] at cc
      exact cc [] w H (Ext.refl _ _) rl .nil
    | cons _ _ => cases h6
    | star _ _ => cases h6
  | cons y ys =>
    rw [List.all_cons, Bool.and_eq_true] at h5
    exact Snd.of (PEimp (pe_ownN (E := EZ X ω) M F rm (k.gl hg) g2 df k.hx ha (dbg_1 h3).1 (starEach_one h5.1) (starEach_plain h5.2)) rd) (fun _ => rfl)
end
end Z
set_option maxHeartbeats 4000000
/-! Y12c: new dicts, sorted sets, methods of built-in types. -/
namespace Z
open PySem PySem.Spec PyProof.Rows L2 RZ
section
variable {X : Cx} {Γ : Gm} {C : Orc} {ω : St → EW} {a b c e e2 o : E} {r es : ES} {x y z u : Expr} {xs : List Expr} {p q : Pos}
theorem s_dnew : Snd X C ω (.dnew .fz) (.Dict [] [] p) := Snd.of (PEimp (pe_frz pe_dnewK) fun σ H Q qq => by
  obtain ⟨ρ, m, w, re, rl, cc⟩ := qq
  simp only [ev] at cc
  intro d hd
  refine ⟨d, .dK [], rfl, upd_same, True.intro, fun od => ?_⟩
  rw [upd_upd]
  exact cc _ w _ (ext_upd rl hd) (rl.upd_ hd) (.v (.dct (ks := []) (vs := []) (ds := []) upd_same rfl .nil))) (fun _ => rfl)
theorem set_mem : ("set" : Str) ∈ bltNames := by decide +kernel
theorem sorted_mem : ("sorted" : Str) ∈ bltNames := by decide +kernel
theorem boot_set0 : bootBuiltins ("set" : Str) = some (.type "set") := by decide +kernel
theorem boot_sorted0 : bootBuiltins ("sorted" : Str) = some (.builtin "sorted") := by decide +kernel
theorem strs_items {K : PySem.W.Frag} {w : Wd} {H : Hp} {ds : List PyData} {vs : List V} {ss : List Str} (h : RDs K w H ds vs) (e : strsOf ds = some ss) : vs = ss.map V.str := (strsOf_rd h e).1
theorem s_sset {p1 p2 q1 q2 : Pos} (k : Cok X Γ C ω) (h1 : glb Γ ("sorted" : Str) = true) (h2 : glb Γ ("set" : Str) = true) (h3 : notStar z = true) (he : PE X z (tE X.K C ω e)) : Snd X C ω (.sset e) (.Call (.Name ("sorted" : Str) p1) [.Call (.Name ("set" : Str) p2) [z] [] q2] [] q1) := by
  have inner := pe_callTy (p := p2) (pos := q2) (cr_setS k.calm) (k.gl h2) (k.g.bl _ set_mem) boot_set0 (pa_cons (es := []) he pa_nil (starEach_one h3)) (by decide) (by decide) (starEach_one h3) (starEach_plain rfl)
  refine Snd.of (PEimp (pe_callB (p := p1) (pos := q1) (cr_sortedS k.calm) (k.gl h1) (k.g.bl _ sorted_mem) boot_sorted0 (pa_cons (es := []) inner pa_nil (starEach_one rfl)) (by decide) (by decide) (starEach_one rfl) (starEach_plain rfl)) fun σ H Q qq => ?_) (fun _ => rfl)
  obtain ⟨ρ, m, w, re, rl, cc⟩ := qq
  simp only [ev] at cc
  refine ⟨ρ, m, w, re, rl, (Cont.bind (RW X.K) cc).imp ?_⟩
  rintro v H1 ⟨a1, m1, w1, R1⟩
  have cc := R1.c
  have hv := R1.v
  have fin : ∀ (a : Addr) (ss : List Str), ss.length < 64 → (∀ v H', Ext w1 H1 w1 H' → Rl X.K w1 m1 H' → RD X.K w1 H' (.list ((usort ss).map .str)) v → Q v H') → ∀ p, H1 p = none → ∃ a xs, [V.ref p] = [V.ref a] ∧ upd H1 p (setO X.w p ss) a = some (setO X.w a xs) ∧ xs.length < 64 ∧
      ∀ d, upd H1 p (setO X.w p ss) d = none → Q (.ref d) (upd (upd H1 p (setO X.w p ss)) d (.lst ((usort xs).map V.str))) := by
    intro a ss few fin p hp
    refine ⟨p, ss, rfl, upd_same, few, fun d hd => ?_⟩
    have ex1 := ext_upd (o := setO X.w p ss) R1.r hp
    have r1 := R1.r.upd_ (o := setO X.w p ss) hp
    have ex2 := ext_upd (o := .lst ((usort ss).map V.str)) r1 hd
    have r2 := r1.upd_ (o := .lst ((usort ss).map V.str)) hd
    refine fin _ _ (ex1.trans ex2) r2 (.lst upd_same (r1.fresh hd) ?_)
    have : ∀ l : List Str, RDs X.K w1 (upd (upd H1 p (setO X.w p ss)) d (.lst ((usort ss).map V.str))) (l.map .str) (l.map V.str) := fun l => by
      induction l with
      | nil => exact .nil
      | cons s r ih => exact .cons (.str s) ih
    exact this _
  split at cc
  · rename_i ds
    obtain ⟨d, ed, cc⟩ := Cont.o0 cc
    cases qs : strsOf ds with
    | none => rw [qs] at ed; cases ed
    | some ss =>
      rw [qs, Option.bind_some] at ed
      split at ed
      · rename_i few
        cases ed
        cases hv with
        | v hv =>
          cases hv with
          | lst g1 g2 g3 =>
            have := strs_items g3 qs
            subst this
            exact ⟨_, ss, rfl, .inl (SqL.of g1), few, fin 0 ss few fun v H' ex r rd => cc v w1 H' ex r (.v rd)⟩
      · cases ed
  · rename_i ds
    obtain ⟨d, ed, cc⟩ := Cont.o0 cc
    cases qs : strsOf ds with
    | none => rw [qs] at ed; cases ed
    | some ss =>
      rw [qs, Option.bind_some] at ed
      split at ed
      · rename_i few
        cases ed
        cases hv with
        | v hv =>
          obtain ⟨pp, vs, rfl, g1, g3⟩ := RD.tup_ hv
          have := strs_items g3 qs
          subst this
          exact ⟨_, ss, rfl, .inr g1, few, fin 0 ss few fun v H' ex r rd => cc v w1 H' ex r (.v rd)⟩
      · cases ed
  · exact cc.elim
theorem few_ok {z : Expr} {zs : List Expr} {qq : Pos} (h5 : notStar z = true) (h6 : zs.all notStar = true) (h4 : (z :: zs).length < 29) : ((backTo qq (starEach (z :: zs) X.env)).all (fun x => !x.1) && (backToKw qq (keywordEach [] X.env)).all (fun x => x.1.isSome)
      && decide ((z :: zs).length + ([] : List Keyword).length + (if ([] : List Keyword).isEmpty then 0 else 1) < 30)) = true := by
  rw [starEach_all (by rw [List.all_cons, h5, h6]; rfl), Bool.true_and, Bool.and_eq_true]
  refine ⟨rfl, decide_eq_true ?_⟩
  show (z :: zs).length + 0 + 0 < 30
  omega
theorem idxS_ok {x : Str} : ∀ {ss : List Str} {i : Nat}, idxS x ss = some i → ss[i]? = some x ∧ ∀ j, j < i → ss[j]? ≠ some x
  | y :: r, i, h => by
    unfold idxS at h
    split at h
    · rename_i e
      cases h
      exact ⟨by rw [e]; rfl, fun j hj => absurd hj (Nat.not_lt_zero _)⟩
    · rename_i ne
      cases q : idxS x r with
      | none => rw [q] at h; cases h
      | some j =>
        rw [q] at h
        cases h
        obtain ⟨h1, h2⟩ := idxS_ok q
        refine ⟨h1, fun l hl => ?_⟩
        cases l with
        | zero => exact fun z => ne (by simpa using z)
        | succ l => exact h2 l (Nat.lt_of_succ_lt_succ hl)
  | [], i, h => by cases h
theorem dm_index {ys ds : List PyData} {d : PyData} (h : dmD .index (.tuple ys) ds = some d) : ∃ x ss i, ds = [.str x] ∧ strsOf ys = some ss ∧ idxS x ss = some i ∧ d = .int (i : Nat) := by
  match ds, h with
  | [.str x], h =>
    simp only [dmD] at h
    cases q : strsOf ys with
    | none => rw [q] at h; cases h
    | some ss =>
      rw [q, Option.bind_some] at h
      cases q2 : idxS x ss with
      | none => rw [q2] at h; cases h
      | some i =>
        rw [q2] at h
        cases h
        exact ⟨x, ss, i, rfl, rfl, q2, rfl⟩
  | [], h => cases h
  | _ :: _ :: _, h => simp [dmD] at h
  | [.none], h | [.bool _], h | [.int _], h | [.list _], h | [.tuple _], h | [.dict _], h => simp [dmD] at h
theorem s_index {qq : Pos} (ho : PE X y (tE X.K C ω o)) (h1 : notSuper y = true) (h2 : (p.endLine == qq.line) = true) (h3 : plain xs = true) (h4 : xs.length < 29) (ha : PA X xs (tA X.K C ω es)) : Snd X C ω (.dm .index o es) (.Call (.Attribute y ("index" : Str) p) xs [] qq) := by
  obtain ⟨z, zs, rfl, h5, h6⟩ := plain_cons h3
  refine Snd.of (PEimp (pe_tupM PySem.F.slot_tuple_index PySem.F.type_tuple_index mt_tup_index ho ha (base_ok h1) (few_ok h5 h6 h4) h2 (starEach_one h5) (starEach_plain h6)) fun σ H Q q => ?_) (fun _ => rfl)
  obtain ⟨ρ, m, w, re, rl, c⟩ := q
  simp only [ev] at c
  refine ⟨ρ, m, w, re, rl, (Cont.bind (RW X.K) c).imp ?_⟩
  rintro v H1 ⟨a1, m1, w1, R1⟩
  have c := R1.c
  have hv := R1.v
  split at c
  · rename_i ys
    cases hv with
    | tv g1 g2 =>
      refine ⟨⟨_, _, rfl, g1⟩, ρ, m1, w1, re.ext R1.e, R1.r, (Cont.bind (RWs X.K) c).imp ?_⟩
      rintro vs H2 ⟨ws, m2, w2, R2⟩
      obtain ⟨d, ed, c⟩ := Cont.o0 R2.c
      cases qp : peeks m2 ws with
      | none => rw [qp] at ed; cases ed
      | some ds =>
        rw [qp, Option.bind_some] at ed
        cases qd : dmD .index (.tuple ys) ds with
        | none => rw [qd] at ed; cases ed
        | some d2 =>
          rw [qd] at ed
          cases ed
          obtain ⟨x, ss, i, rfl, h7, h8, rfl⟩ := dm_index qd
          have pd := peeks_ok R2.r R2.v qp
          cases pd with
          | cons p1 p2 =>
            cases p2
            obtain ⟨i1, i2⟩ := idxS_ok h8
            obtain rfl := RD.str_ p1
            have g3 : StT H2 _ _ := let ⟨its, n, q⟩ := g1; ⟨its, n, R2.e.frz _ _ _ q⟩
            have := strs_items (g2.ext R2.e) h7
            subst this
            exact ⟨_, ss, x, i, rfl, rfl, g3.sq, i1, i2, c _ w2 H2 (Ext.refl _ _) R2.r (.v (.int _))⟩
  · exact c.elim
theorem mt_extA : MtR X "list.extend" (rExtT X.K) := by
  intro pins s σ H x vs v us Q I rx rv h
  obtain ⟨l, b, ys, zs, e1, e2, h1, h2 | h2, h3, q⟩ := h
  · exact mt_extend pins s σ H x vs v us Q I rx rv ⟨l, b, ys, zs, e1, e2, h1, h2, h3, q⟩
  · exact mt_extT pins s σ H x vs v us Q I rx rv ⟨l, b, ys, zs, e1, e2, h1, h2, h3, q⟩
theorem s_mthA {t : Mth} {qq : Pos} (ho : PE X y (tE X.K C ω o)) (h1 : notSuper y = true) (h2 : (p.endLine == qq.line) = true) (h3 : plain xs = true) (h4 : xs.length < 29) (ha : PA X xs (tA X.K C ω es)) : Snd X C ω (.mth t o es) (.Call (.Attribute y (mthN t) p) xs [] qq) := by
  obtain ⟨z, zs, rfl, h5, h6⟩ := plain_cons h3
  have rd : ∀ (σ : St) (H : Hp) (Q : VK), tE X.K C ω (.mth t o es) σ H Q → tBM X.K "list" (rM X.K t) (tE X.K C ω o) (tA X.K C ω es) σ H Q := by
    intro σ H Q q
    obtain ⟨ρ, m, w, re, rl, c⟩ := q
    simp only [ev] at c
    refine ⟨ρ, m, w, re, rl, (Cont.bind (RW X.K) c).imp ?_⟩
    rintro v H1 ⟨a1, m1, w1, R1⟩
    have c := R1.c
    split at c
    · rename_i hh
      refine ⟨mty_ok R1.r R1.v hh, ρ, m1, w1, re.ext R1.e, R1.r, (Cont.bind (RWs X.K) c).imp ?_⟩
      rintro vs H2 ⟨ws, m2, w2, R2⟩
      exact mth_ok R2.r (R1.v.ext R2.e) R2.v R2.c
    · exact c.elim
  cases t with
  | append => exact Snd.of (PEimp (pe_bm PySem.F.plainAttrs_list PySem.F.slot_list_append PySem.F.type_list_append mt_append ho ha (base_ok h1) (few_ok h5 h6 h4) h2 (starEach_one h5) (starEach_plain h6)) rd) (fun _ => rfl)
  | extend => exact Snd.of (PEimp (pe_bm PySem.F.plainAttrs_list PySem.F.slot_list_extend PySem.F.type_list_extend mt_extA ho ha (base_ok h1) (few_ok h5 h6 h4) h2 (starEach_one h5) (starEach_plain h6)) rd) (fun _ => rfl)
  | pop => exact Snd.of (PEimp (pe_bm PySem.F.plainAttrs_list PySem.F.slot_list_pop PySem.F.type_list_pop mt_pop ho ha (base_ok h1) (few_ok h5 h6 h4) h2 (starEach_one h5) (starEach_plain h6)) rd) (fun _ => rfl)
end
end Z
set_option maxHeartbeats 4000000
/-! Y12d: {**d, k: v}. -/
namespace Z
open PySem PySem.Spec PyProof.Rows L2 RZ
section
variable {K : PySem.W.Frag} {w : Wd} {H : Hp} {s : Str} {e : PyData} {v : V}
def reK (s : Str) (v : V) : List Str → List V → List V
  | k :: ks, x :: xs => (if k = s then v else x) :: reK s v ks xs
  | _, _ => []
def reD (s : Str) (e : PyData) : List Str → List PyData → List PyData
  | k :: ks, x :: xs => (if k = s then e else x) :: reD s e ks xs
  | _, _ => []
theorem re_rel (re : RD K w H e v) : ∀ {ks : List Str} {ds : List PyData} {vs : List V}, ks.length = ds.length → RDs K w H ds vs →
    (((ks.map fun k => (Sum.inr k : Key)).zip vs).map (fun kv => if kv.1 = Sum.inr s then (kv.1, v) else kv)) = (ks.map fun k => (Sum.inr k : Key)).zip (reK s v ks vs) ∧
    (((ks.map PyData.str).zip ds).map (fun p => if dkey s p = true then (p.1, e) else p)) = (ks.map PyData.str).zip (reD s e ks ds) ∧ ks.length = (reD s e ks ds).length ∧ RDs K w H (reD s e ks ds) (reK s v ks vs)
  | [], [], _, _, .nil => ⟨rfl, rfl, rfl, .nil⟩
  | k :: ks, d :: ds, _, hl, .cons (v := x) (vs := vs) a t => by
    obtain ⟨h1, h2, h3, h4⟩ := re_rel re (ks := ks) (ds := ds) (by simpa using hl) t
    by_cases hk : k = s
    · subst hk
      refine ⟨?_, ?_, by simp only [reD, List.length_cons, h3], ?_⟩
      · simp only [List.map_cons, List.zip_cons_cons, h1, reK, if_true]
      · have dk : dkey k (PyData.str k, d) = true := decide_eq_true rfl
        simp only [List.map_cons, List.zip_cons_cons, h2, reD, dk, if_true]
      · simp only [reD, reK, if_true]
        exact .cons re h4
    · have hk2 : ¬ (Sum.inr k : Key) = Sum.inr s := fun z => hk (by cases z; rfl)
      refine ⟨?_, ?_, by simp only [reD, List.length_cons, h3], ?_⟩
      · simp only [List.map_cons, List.zip_cons_cons, h1, reK, if_neg hk, if_neg hk2]
      · have dk : ¬ dkey s (PyData.str k, d) = true := fun z => hk (of_decide_eq_true z)
        simp only [List.map_cons, List.zip_cons_cons, h2, reD, if_neg dk, if_neg hk]
      · simp only [reD, reK, if_neg hk]
        exact .cons a h4
  | [], _ :: _, _, hl, _ => by cases hl
  | _ :: _, [], _, hl, _ => by cases hl
theorem any_rel : ∀ {ks : List Str} {ds : List PyData} {vs : List V}, ks.length = ds.length → RDs K w H ds vs →
    (((ks.map fun k => (Sum.inr k : Key)).zip vs).any fun kv => decide (kv.1 = Sum.inr s)) = ((ks.map PyData.str).zip ds).any (dkey s)
  | [], [], _, _, .nil => rfl
  | k :: ks, d :: ds, _, hl, .cons (v := x) (vs := vs) a t => by
    have ih := any_rel (ks := ks) (ds := ds) (by simpa using hl) t
    simp only [List.map_cons, List.zip_cons_cons, List.any_cons, ih, dkey]
    congr 1
    by_cases hk : k = s
    · subst hk
      simp
    · have hk2 : ¬ (Sum.inr k : Key) = Sum.inr s := fun z => hk (by cases z; rfl)
      simp [hk, hk2]
  | [], _ :: _, _, hl, _ => by cases hl
  | _ :: _, [], _, hl, _ => by cases hl
theorem put_rel {ks : List Str} {ds : List PyData} {vs : List V} (hl : ks.length = ds.length) (r : RDs K w H ds vs) (re : RD K w H e v) :
    ∃ (ks' : List Str) (ds' : List PyData) (vs' : List V), putK ((ks.map fun k => (Sum.inr k : Key)).zip vs) (Sum.inr s) v = (ks'.map fun k => (Sum.inr k : Key)).zip vs' ∧ dputD s e ((ks.map PyData.str).zip ds) = (ks'.map PyData.str).zip ds' ∧ ks'.length = ds'.length ∧ RDs K w H ds' vs' := by
  unfold putK dputD
  rw [any_rel hl r]
  by_cases hh : ((ks.map PyData.str).zip ds).any (dkey s) = true
  · rw [if_pos hh, if_pos hh]
    obtain ⟨h1, h2, h3, h4⟩ := re_rel (s := s) re hl r
    exact ⟨ks, _, _, h1, h2, h3, h4⟩
  · rw [if_neg hh, if_neg hh]
    refine ⟨ks ++ [s], ds ++ [e], vs ++ [v], ?_, ?_, by simp [hl], r.append (.cons re .nil)⟩
    · rw [List.map_append, List.zip_append (by rw [List.length_map, hl, r.length])]
      rfl
    · rw [List.map_append, List.zip_append (by rw [List.length_map, hl])]
      rfl
theorem R.ne_b {α β : Type} (r : R α) (f : α → Mem → R β) : r.ne.b f = match r with | .ok a m => f a m | _ => .bad := by cases r <;> rfl
theorem noFz_dK {kvs : List (Key × V)} : NoFz (.dK kvs) := ⟨fun _ z => (by cases z), fun _ _ z => (by cases z)⟩
theorem RE.frame {w w' : Wd} {H H' : Hp} {ρ : Env} {σ : L2.St} (h : RE K w H ρ σ) (f : ∀ a v, RW K w H a v → RW K w' H' a v) : RE K w' H' ρ σ := ⟨h.len, fun i a q => let ⟨v, h1, h2⟩ := h.get i a q; ⟨v, h1, f _ _ h2⟩⟩
end
section
variable {X : Cx} {Γ : Gm} {C : Orc} {ω : St → EW} {d k v : E} {x y z : Expr} {p : Pos}
theorem s_dstar (hd : PE X x (tE X.K C ω d)) (hk : PE X y (tE X.K C ω k)) (hv : PE X z (tE X.K C ω v)) : Snd X C ω (.dstar d k v) (.Dict [none, some y] [x, z] p) := Snd.of (PEimp (pe_frz (pe_dstar hd hk hv)) fun σ H Q q => by
  obtain ⟨ρ, m, w, re, rl, c⟩ := q
  simp only [ev] at c
  rw [R.ne_b] at c
  intro D hD
  have nl : ¬ w.live D := rl.fresh hD
  cases h1 : ev C d ρ m with
  | err _ _ => rw [h1] at c; exact c.elim
  | bad => rw [h1] at c; exact c.elim
  | ok a1 m1 =>
  rw [h1] at c
  dsimp only at c
  rw [R.ne_b] at c
  cases h2 : ev C k ρ m1 with
  | err _ _ => rw [h2] at c; exact c.elim
  | bad => rw [h2] at c; exact c.elim
  | ok a2 m2 =>
  rw [h2] at c
  dsimp only at c
  rw [R.ne_b] at c
  cases h3 : ev C v ρ m2 with
  | err _ _ => rw [h3] at c; exact c.elim
  | bad => rw [h3] at c; exact c.elim
  | ok a3 m3 =>
  rw [h3] at c
  dsimp only at c
  refine ⟨ρ, m, w.add D, re.frame fun _ _ r => r.add hD, rl.add hD, ?_⟩
  rw [h1]
  intro u1 w2 H2 e2 r2 rv1
  have hD2 : H2 D = some (.dK []) := e2.pk D _ (.inr rfl) upd_same
  split at c <;> first | exact c.elim | skip
  rename_i kvs s e
  split at c
  · rename_i few
    cases rv1 with
    | v rv1 =>
    cases rv1 with
    | @dct a o ks vs ds g1 g2 g3 =>
    have nea : a ≠ D := fun z => by
      subst z
      rw [hD2] at g1
      cases g1
    have pD : w2.p D := by rw [e2.p]; exact .inr rfl
    have hlen : ((ks.map fun k => (Sum.inr k : Key)).zip vs).length ≤ 1000 := by
      have := g3.length
      rw [List.length_zip, List.length_map] at few ⊢
      omega
    refine ⟨hD2, a, _, rfl, .inr ⟨o, g1⟩, nea, hlen, fun S hS => ?_⟩
    generalize hkv : (ks.map fun k => (Sum.inr k : Key)).zip vs = kv at g1 hlen ⊢
    have nDS : S ≠ D := fun z => by
      rw [z, hD2] at hS
      cases hS
    have hS' : upd H2 D (.dK kv) S = none := by rw [upd_ne nDS]; exact hS
    have r2' := r2.wrG (h1 := .dK kv) hD2 noFz_dK pD
    have r3 := r2'.add (o := .dK []) hS'
    refine ⟨ρ, m1, w2.add S, ((re.frame fun _ _ r => r.add hD).ext e2).frame fun _ _ r => (r.wrG (h1 := .dK kv) hD2 noFz_dK (.inr (.inr pD))).add hS', r3, ?_⟩
    rw [h2]
    intro u2 w4 H4 e4 r4 rv2
    refine ⟨ρ, m2, w4, (((re.frame fun _ _ r => r.add hD).ext e2).frame fun _ _ r => (r.wrG (h1 := .dK kv) hD2 noFz_dK (.inr (.inr pD))).add hS').ext e4, r4, ?_⟩
    rw [h3]
    intro u3 w5 H5 e5 r5 rv3
    have e45 := e4.trans e5
    cases rv2 with
    | v rv2 =>
    cases rv3 with
    | v rv3 =>
    obtain rfl := RD.str_ rv2
    have hD5 : H5 D = some (.dK kv) := e45.pk D _ (.inl pD) (by rw [upd_ne (Ne.symm nDS), upd_same])
    have hS5 : H5 S = some (.dK []) := e45.pk S _ (.inr rfl) upd_same
    have pS5 : w5.p S := by rw [e45.p]; exact .inr rfl
    have pD5 : w5.p D := by rw [e45.p]; exact .inl pD
    refine ⟨Sum.inr s, rfl, hD5, hS5, D, _, rfl, upd_same, True.intro, fun od => ?_⟩
    rw [upd_upd]
    -- back to the world without the two
    have ea := e2.cut hD nl
    have eb := e45.cut hS' (fun z => r2'.fresh hS' z)
    have ec := Ext.cut2G (w := w) eb (show w2.p = (w.add D).p from e2.p)
    rw [cut_upd] at ec
    have eab := ea.trans ec
    have i1 : ∀ a, w2.p a → w5.p a ∧ a ≠ S := fun a ha => ⟨by rw [e45.p]; exact .inl ha, fun z => by subst z; exact r2'.fresh hS' (.inr (.inr ha))⟩
    have hD5' : cutH H5 S D = some (.dK kv) := by rw [cutH_ne (Ne.symm nDS)]; exact hD5
    have i2 : ∀ a, w.p a → (w5.sub w2.p).p a ∧ a ≠ D := fun a ha => ⟨by show w2.p a; rw [e2.p]; exact .inl ha, fun z => by subst z; exact nl (.inr (.inr ha))⟩
    have r6 := (r5.cutG (P := w2.p) hS5 noFz_dK pS5 i1).cutG (P := w.p) hD5' noFz_dK (show (w5.sub w2.p).p D from pD) i2
    have nS6 : cutH (cutH H5 S) D S = none := by rw [cutH_ne nDS, cutH_self]
    have r7 := r6.upd_ (o := .dK [(Sum.inr s, u3)]) nS6
    have x7 := ext_upd (o := .dK [(Sum.inr s, u3)]) r6 nS6
    have nD7 : upd (cutH (cutH H5 S) D) S (.dK [(Sum.inr s, u3)]) D = none := by rw [upd_ne (Ne.symm nDS), cutH_self]
    have r8 := r7.upd_ (o := .frz od (.dK (putK kv (Sum.inr s) u3))) nD7
    have x8 := ext_upd (o := .frz od (.dK (putK kv (Sum.inr s) u3))) r7 nD7
    have same : upd (upd (cutH (cutH H5 S) D) S (.dK [(Sum.inr s, u3)])) D (.frz od (.dK (putK kv (Sum.inr s) u3))) = upd (upd H5 S (.dK [(Sum.inr s, u3)])) D (.frz od (.dK (putK kv (Sum.inr s) u3))) := by
      funext b
      by_cases hb : b = D
      · rw [hb, upd_same, upd_same]
      · rw [upd_ne hb, upd_ne hb]
        by_cases hb2 : b = S
        · rw [hb2, upd_same, upd_same]
        · rw [upd_ne hb2, upd_ne hb2, cutH_ne hb, cutH_ne hb2]
    have dsr : RDs X.K w5 H5 ds vs := ((g3.wrG (h1 := .dK kv) hD2 noFz_dK (.inr (.inr pD))).add hS').ext e45
    have cutr : ∀ {dd : List PyData} {vv : List V}, RDs X.K w5 H5 dd vv → RDs X.K ((w5.sub w2.p).sub w.p) (upd (upd (cutH (cutH H5 S) D) S (.dK [(Sum.inr s, u3)])) D (.frz od (.dK (putK kv (Sum.inr s) u3)))) dd vv := fun r =>
      (((r.cutG (P := w2.p) hS5 noFz_dK (.inr (.inr pS5)) fun a h => (i1 a h).1).cutG (P := w.p) hD5' noFz_dK (.inr (.inr (show (w5.sub w2.p).p D from pD))) fun a h => (i2 a h).1).ext x7).ext x8
    obtain ⟨ks', ds', vs', q1, q2, q3, q4⟩ := put_rel (s := s) g2 dsr rv3
    rw [hkv] at q1
    have hQ := c (.ref D) _ _ ((eab.trans x7).trans x8) r8 (.v (by
      rw [q2]
      refine .dct (o := od) (vs := vs') ?_ q3 (cutr q4)
      rw [upd_same, q1]))
    rw [same] at hQ
    exact hQ
  · exact c.elim) (fun _ => rfl)
end
end Z
set_option maxHeartbeats 4000000
/-! Y13: what is walked; comprehensions. -/
namespace Z
open PySem PySem.Spec PyProof.Rows L2 RZ
section
variable {X : Cx} {Γ : Gm} {C : Orc} {ω : St → EW} {a b e : E} {x y : Expr} {tg : Expr} {p q : Pos}
theorem PI.or3 {t : TE} (h : PE X x t) : PI X tg x (fun σ H R => t σ H fun v H1 => (∃ a, v = .ref a ∧ (∃ xs, SqL X.K H1 a xs) ∧ R (Itl X.K a) H1) ∨ (∃ a, v = .ref a ∧ (∃ xs, SqT X.K H1 a xs) ∧ R (Itt X.K a) H1) ∨ ∃ z, v = .str z ∧ R (Its z) H1) := by
  refine ⟨fun pins s σ H R I h' => ?_⟩
  refine thn (h.run pins s σ H _ I h') fun v s1 ⟨y, H1, I1, r1, q1⟩ => ?_
  have one : ∀ (R' : It → Hp → Prop) (v' : V) (u : Value) (t' : TE), RelV v' u → ∀ Q', Q' v' H1 → EP X pins σ Q' u s1 := fun _ _ _ _ r Q' q => ⟨_, H1, I1, r, q⟩
  rcases q1 with ⟨a, rfl, ⟨xs, hq⟩, q⟩ | ⟨a, rfl, ⟨xs, hq⟩, q⟩ | ⟨z, rfl, q⟩
  · cases r1
    obtain ⟨its, rv, p, hz⟩ := I1.list hq
    refine wpAny_pyIter_list p.isList ?_
    refine ⟨s1.heap.objs.size, [s1.heap.objs.size], _, _, H1, rfl, I1.kept (t' := s1.toks) fun b o e => Heap.get?_push_of_some _ e, turn_list a _, ⟨_, Heap.get?_push_size _ rfl, rfl, rfl⟩, fun b hb => ?_, q⟩
    have e : b = s1.heap.objs.size := by simpa using hb
    subst e
    exact I1.fpOk (Nat.le_refl _) (I1.hok.fresh (Nat.le_refl _))
  · cases r1
    obtain ⟨its, rv, p, hz⟩ := I1.tuple hq
    refine wpAny_pyIter_tuple (show s1.heap.IsTuple a its.toArray from p) ?_
    refine ⟨s1.heap.objs.size, [s1.heap.objs.size], _, _, H1, rfl, I1.kept (t' := s1.toks) fun b o e => Heap.get?_push_of_some _ e, turn_tuple a _, ⟨_, Heap.get?_push_size _ rfl, rfl, rfl⟩, fun b hb => ?_, q⟩
    have e : b = s1.heap.objs.size := by simpa using hb
    subst e
    exact I1.fpOk (Nat.le_refl _) (I1.hok.fresh (Nat.le_refl _))
  · obtain ⟨t, rfl⟩ := r1
    cases ha : z.cps.all (· < 128)
    · exact wpAny_pyIter_wide ha (pi_one (tk := s1.toks) I1 _ (turn_str _ z t "str_iterator" (.inr rfl)) ⟨_, Heap.get?_push_size _ rfl, rfl, rfl⟩ q)
    · exact wpAny_pyIter_ascii ha (pi_one (tk := s1.toks) I1 _ (turn_str _ z t "str_ascii_iterator" (.inl rfl)) ⟨_, Heap.get?_push_size _ rfl, rfl, rfl⟩ q)
theorem i_seq (ha : PE X x (tE X.K C ω e)) : PI X tg x (tI X.K C ω (.seq e)) := by
  refine PIimp (PI.or3 ha) fun σ H R q => ?_
  obtain ⟨ρ, m, w, re, rl, c⟩ := q
  simp only [evI] at c
  refine ⟨ρ, m, w, re, rl, (Cont.bind (RW X.K) c).imp ?_⟩
  rintro v H1 ⟨a1, m1, w1, R1⟩
  have c := R1.c
  have hv := R1.v
  split at c
  · rename_i z
    cases hv with
    | v hv =>
      cases (RD.str_ hv)
      exact .inr (.inr ⟨z, rfl, c _ w1 H1 (Ext.refl _ _) R1.r ⟨_, wz_str, trivial⟩⟩)
  · rename_i d _
    obtain ⟨ds, e, c⟩ := Cont.o0 c
    cases hv with
    | v hv =>
      cases d <;> first | (cases e; done) | skip
      · cases e
        cases hv with
        | lst h1 h2 h3 => exact .inl ⟨_, rfl, ⟨_, SqL.of h1⟩, c _ w1 H1 (Ext.refl _ _) R1.r ⟨_, wz_listG, h1, h2, h3⟩⟩
      · cases e
        cases hv with
        | tup h1 h2 => exact .inr (.inl ⟨_, rfl, ⟨_, h1⟩, c _ w1 H1 (Ext.refl _ _) R1.r ⟨_, wz_tup, h1, h2⟩⟩)
  · rename_i n
    split at c
    · rename_i ds hq
      cases hv with
      | ref hv =>
        obtain ⟨o, xs, h1, h2⟩ := R1.r.mu_ hv hq
        exact .inl ⟨_, rfl, ⟨_, .inl (.inr ⟨o, h1⟩)⟩, c _ w1 H1 (Ext.refl _ _) R1.r ⟨_, wz_ro, ⟨o, h1⟩, h2⟩⟩
    · exact c.elim
  · rename_i ds
    cases hv with
    | ro h1 h2 => exact .inl ⟨_, rfl, ⟨_, h1.l⟩, c _ w1 H1 (Ext.refl _ _) R1.r ⟨_, wz_roR, h1, h2⟩⟩
  · rename_i ds
    cases hv with
    | tv h1 h2 => exact .inr (.inl ⟨_, rfl, ⟨_, h1.sq⟩, c _ w1 H1 (Ext.refl _ _) R1.r ⟨_, wz_tup, h1.sq, h2⟩⟩)
  · exact c.elim
theorem range_mem : ("range" : Str) ∈ bltNames := by decide +kernel
theorem enum_mem : ("enumerate" : Str) ∈ bltNames := by decide +kernel
theorem zip_mem : ("zip" : Str) ∈ bltNames := by decide +kernel
theorem small_1 {i : Int} (h : small i = true) : -(2 ^ 62) ≤ i ∧ i < 2 ^ 62 := by
  unfold small at h
  rw [Bool.and_eq_true, decide_eq_true_eq, decide_eq_true_eq] at h
  exact h
theorem i_rng1 (k : Cok X Γ C ω) (h2 : glb Γ ("range" : Str) = true) (h3 : notStar x = true) (ha : PE X x (tE X.K C ω e)) : PI X tg (.Call (.Name ("range" : Str) p) [x] [] q) (tI X.K C ω (.rng1 e)) := by
  refine PIimp (pi_range1 (k.gl h2) (k.g.bl _ range_mem) (pa_cons (es := []) ha pa_nil (starEach_one h3)) (starEach_one h3)) fun σ H R q => ?_
  obtain ⟨ρ, m, w, re, rl, c⟩ := q
  simp only [evI] at c
  refine ⟨ρ, m, w, re, rl, (Cont.bind (RW X.K) c).imp ?_⟩
  rintro v H1 ⟨a1, m1, w1, R1⟩
  have c := R1.c
  have hv := R1.v
  split at c
  · cases hv with
    | v hv =>
      cases (RD.int_ hv)
      split at c
      · rename_i hs
        exact ⟨_, rfl, (small_1 hs).1, (small_1 hs).2, c _ w1 H1 (Ext.refl _ _) R1.r ⟨_, wz_range, trivial⟩⟩
      · exact c.elim
  · exact c.elim
theorem i_rng2 (k : Cok X Γ C ω) (h2 : glb Γ ("range" : Str) = true) (h3 : notStar x = true) (h4 : notStar y = true) (ha : PE X x (tE X.K C ω a)) (hb : PE X y (tE X.K C ω b)) : PI X tg (.Call (.Name ("range" : Str) p) [x, y] [] q) (tI X.K C ω (.rng2 a b)) := by
  refine PIimp (pi_range2 (k.gl h2) (k.g.bl _ range_mem) (pa_cons ha (pa_cons (es := []) hb pa_nil (starEach_one h4)) (starEach_one h3)) (by rw [starEach_one h3, starEach_one h4]; rfl) (by rw [starEach_one h4]; rfl)) fun σ H R q => ?_
  obtain ⟨ρ, m, w, re, rl, c⟩ := q
  simp only [evI] at c
  refine ⟨ρ, m, w, re, rl, (Cont.bind (RW X.K) c).imp ?_⟩
  rintro v H1 ⟨a1, m1, w1, R1⟩
  refine ⟨ρ, m1, w1, re.ext R1.e, R1.r, (Cont.bind (RW X.K) R1.c).imp ?_⟩
  rintro u H2 ⟨a2, m2, w2, R2⟩
  have c := R2.c
  have hv := R1.v
  have hu := R2.v
  split at c
  · cases hv with
    | v hv =>
      cases hu with
      | v hu =>
        cases (RD.int_ hv)
        cases (RD.int_ hu)
        split at c
        · rename_i hs
          rw [Bool.and_eq_true] at hs
          exact ⟨_, _, rfl, ⟨(small_1 hs.1).1, (small_1 hs.1).2, (small_1 hs.2).1, (small_1 hs.2).2⟩, c _ w2 H2 (Ext.refl _ _) R2.r ⟨_, wz_range, trivial⟩⟩
        · exact c.elim
  · exact c.elim
theorem i_enum {es : List Expr} {kk : Nat} {pt : Pos} (k : Cok X Γ C ω) (h2 : glb Γ ("enumerate" : Str) = true) (h3 : notStar x = true) (ha : PE X x (tE X.K C ω e)) : PI X (.Tuple es kk pt) (.Call (.Name ("enumerate" : Str) p) [x] [] q) (tI X.K C ω (.enm e)) := by
  refine PIimp (pi_cnt (k.gl h2) (k.g.bl _ enum_mem) (pa_cons (es := []) ha pa_nil (starEach_one h3)) (starEach_one h3)) fun σ H R q => ?_
  obtain ⟨ρ, m, w, re, rl, c⟩ := q
  simp only [evI] at c
  refine ⟨ρ, m, w, re, rl, (Cont.bind (RW X.K) c).imp ?_⟩
  rintro v H1 ⟨a1, m1, w1, R1⟩
  have c := R1.c
  have hv := R1.v
  split at c
  · cases hv with
    | v hv =>
      cases hv with
      | lst h1 h2 h3 => exact ⟨_, _, rfl, .inl ⟨SqL.of h1, c _ w1 H1 (Ext.refl _ _) R1.r ⟨_, wz_enum, h1, h2, h3⟩⟩⟩
  · cases hv with
    | v hv =>
      obtain ⟨pp, us, rfl, g1, g2⟩ := RD.tup_ hv
      exact ⟨_, _, rfl, .inr ⟨g1, c _ w1 H1 (Ext.refl _ _) R1.r ⟨_, wz_enumT, g1, g2⟩⟩⟩
  · exact c.elim
theorem i_zip {es : List Expr} {kk : Nat} {pt : Pos} (k : Cok X Γ C ω) (h2 : glb Γ ("zip" : Str) = true) (h3 : notStar x = true) (h4 : notStar y = true) (ha : PE X x (tE X.K C ω a)) (hb : PE X y (tE X.K C ω b)) : PI X (.Tuple es kk pt) (.Call (.Name ("zip" : Str) p) [x, y] [] q) (tI X.K C ω (.zip a b)) := by
  refine PIimp (RZ.pi_zipA (k.gl h2) (k.g.bl _ zip_mem) (pa_cons ha (pa_cons (es := []) hb pa_nil (starEach_one h4)) (starEach_one h3)) (starEach_one h3) (starEach_plain (by rw [List.all_cons, h4]; rfl))) fun σ H R q => ?_
  obtain ⟨ρ, m, w, re, rl, c⟩ := q
  simp only [evI] at c
  refine ⟨ρ, m, w, re, rl, (Cont.bind (RW X.K) c).imp ?_⟩
  rintro v H1 ⟨a1, m1, w1, R1⟩
  refine ⟨ρ, m1, w1, re.ext R1.e, R1.r, (Cont.bind (RW X.K) R1.c).imp ?_⟩
  rintro u H2 ⟨a2, m2, w2, R2⟩
  have c := R2.c
  have hv := R1.v.ext R2.e
  have hu := R2.v
  split at c
  · rename_i d1 d2
    obtain ⟨ds, e, c⟩ := Cont.o0 c
    cases hv with
    | v hv =>
      cases hu with
      | v hu =>
        unfold zipP at e
        split at e
        · cases e
          cases hv with
          | lst g1 g2 g3 =>
            cases hu with
            | lst f1 f2 f3 => exact ⟨_, _, _, _, rfl, .inl ⟨SqL.of g1, SqL.of f1, c _ w2 H2 (Ext.refl _ _) R2.r ⟨_, wz_zip, ⟨g1, g2, g3⟩, f1, f2, f3⟩⟩⟩
        · cases e
          cases hv with
          | tup g1 g2 =>
            cases hu with
            | tup f1 f2 => exact ⟨_, _, _, _, rfl, .inr ⟨g1, f1, c _ w2 H2 (Ext.refl _ _) R2.r ⟨_, wz_zipT, ⟨g1, g2⟩, f1, f2⟩⟩⟩
        · cases e
  · exact c.elim
end
end Z
set_option maxHeartbeats 4000000
/-! Y14: comprehensions. -/
namespace Z
open PySem PySem.Spec PyProof.Rows L2 RZ
def nope : St → EW := fun _ _ _ _ _ => False
def tIf (K : PySem.W.Frag) (C : Orc) (ω : St → EW) (ifs : ES) : TT := fun σ H Q => ∃ ρ m w, RE K w H ρ σ ∧ Rl K w m H ∧ Cont K w H (fun _ _ a b => a = b) Q (ω σ) (evIf C ifs ρ m)
section
variable {K : PySem.W.Frag} {w w' : Wd} {H H' : Hp} {α β γ δ : Type}
theorem Cont.bindN {E E' : EW} {r : R α} {f : α → Mem → R γ} {relg : Wd → Hp → γ → δ → Prop} {Q : δ → Hp → Prop} (rel : Wd → Hp → α → β → Prop) (h : Cont K w H relg Q E (r.ne.b f)) : Cont K w H rel (fun v H1 => ∃ a m1 w1, Rest K w H rel f relg Q E v H1 a m1 w1) E' r := by
  cases r with
  | ok a m => exact fun v w' H' e rl rv => ⟨a, m, w', e, rl, rv, Cont.later e h⟩
  | err x m => exact h.elim
  | bad => exact h.elim
theorem turns_ne {f : PyData → Mem → R (Option W)} : ∀ {ds : List PyData} {acc : List W} {m : Mem} {x : Ex} {m' : Mem}, turns f ds acc m ≠ .err x m'
  | [], acc, m, x, m' => by unfold turns; exact fun h => nomatch h
  | d :: r, acc, m, x, m' => by
    unfold turns
    rw [R.ne_b]
    cases f d m with
    | ok o m1 =>
      cases o with
      | some w =>
        dsimp only
        split
        · exact turns_ne
        · exact fun h => nomatch h
      | none => exact turns_ne
    | err _ _ => exact fun h => nomatch h
    | bad => exact fun h => nomatch h
theorem wipe_get {σ : St} {j : Nat} : ∀ {vs : List Nat}, j ∉ vs → (L2.wipe σ vs)[j]? = σ[j]?
  | [], _ => rfl
  | v :: vs, h => by
    unfold L2.wipe
    rw [List.mem_cons, not_or] at h
    rw [List.getElem?_set_ne (Ne.symm h.1)]
    exact wipe_get h.2
theorem wipe_in {σ : St} {j : Nat} : ∀ {vs : List Nat}, j ∈ vs → j < σ.length → (L2.wipe σ vs)[j]? = some none
  | v :: vs, h, hl => by
    unfold L2.wipe
    by_cases e : v = j
    · subst e
      rw [List.getElem?_set_self (by rw [wipe_length]; exact hl)]
    · rw [List.getElem?_set_ne e]
      exact wipe_in ((List.mem_cons.mp h).resolve_left (Ne.symm e)) hl
theorem wipe_like {σ σ2 : St} {g vs : List Nat} (h : Like g (L2.wipe σ vs) σ2) (hg : ∀ i ∈ g, i ∈ vs) : L2.wipe σ2 vs = L2.wipe σ vs := by
  have hl : σ2.length = σ.length := by rw [h.1, wipe_length]
  refine List.ext_getElem? fun j => ?_
  by_cases hj : j ∈ vs
  · by_cases hz : j < σ.length
    · rw [wipe_in hj (by omega), wipe_in hj hz]
    · rw [List.getElem?_eq_none (by rw [wipe_length]; omega), List.getElem?_eq_none (by rw [wipe_length]; omega)]
  · rw [wipe_get hj, h.2 j fun z => hj (hg j z)]
/-- what stands when the turns end -/
def Fin (K : PySem.W.Frag) (w : Wd) (H : Hp) (D : Addr) (q : Hp → Prop) : R (List W) → Prop
  | .ok ws m => ∀ w' H' vs, w'.p = (w.add D).p → Ext w H (w'.sub w.p) (cutH H' D) → Rl K w' m H' → H' D = some (.lst vs) → RWs K w' H' ws vs → q H'
  | _ => False
theorem fin_of {f : PyData → Mem → R (Option W)} {ds : List PyData} {k : Kd} {m : Mem} {Q : VK} {E : EW} {D : Addr} (hD : H D = none) (hw : ¬ w.live D) (c : Cont K w H (RW K) Q E ((turns f ds [] m).b fun ws m => mk k ws m)) : Fin K w H D (fun H' => Q (.ref D) H') (turns f ds [] m) := by
  cases h : turns f ds [] m with
  | ok ws m1 =>
    rw [h] at c
    intro w' H' vs hp e r hl hv
    have lD : w'.p D := by rw [hp]; exact .inr rfl
    have r2 := r.cut (P := w.p) hl lD fun a ha => ⟨by rw [hp]; exact .inl ha, fun z => ?_⟩
    · have c2 : Cont K (w'.sub w.p) (cutH H' D) (RW K) Q E (mk k ws m1) := Cont.later e c
      have := (mk_ok r2 (paired_imp (fun _ _ r => r.cut hl (.inr (.inr lD)) fun a ha => by rw [hp]; exact .inl ha) hv) c2).2 D cutH_self
      rw [upd_cut hl] at this
      exact this
    · exact hw (by subst z; exact .inr (.inr ha))
  | err x m1 => exact absurd h turns_ne
  | bad => rw [h] at c; exact c.elim
end
section
variable {X : Cx} {Γ : Gm} {C : Orc} {ω : St → EW} {own : List Nat} {g : G} {src : IT} {ifs : ES} {elt : E} {k : Kd}
theorem rd_comp {σ : St} {H : Hp} {Q : VK} (hs : ∀ i ∈ slots g, i ∈ own) (q : tE X.K C ω (.lst k (.comp own g src ifs elt)) σ H Q) :
    tLc (tI X.K C ω src) (tG X.K g) (tIf X.K C nope ifs) (tE X.K C nope elt) own σ H Q := by
  obtain ⟨ρ, m, w, re, rl, c⟩ := q
  simp only [ev, evL, R.b_assoc] at c
  refine ⟨ρ, m, w, re, rl, (Cont.bind (relI X.K) c).imp ?_⟩
  rintro J H1 ⟨ds, m1, w1, R1⟩
  obtain ⟨G, wz, g0⟩ := R1.v
  intro D hD
  have nl : ¬ w1.live D := R1.r.fresh hD
  have fin := fin_of hD nl R1.c
  have re1 := re.ext R1.e
  generalize hf : (fun d m => match asg g (.v d) (wipe ρ own) with
    | none => R.bad
    | some ρ1 => (evIf C ifs ρ1 m).b fun k m => if k = true then (ev C elt ρ1 m).b fun w m => .ok (some w) m else .ok none m) = f at fin
  refine ⟨fun i n H' => n = ds.length - i ∧ i ≤ ds.length ∧ ∃ w' m' aw av, w'.p = (w1.add D).p ∧ Ext w1 H1 (w'.sub w1.p) (cutH H' D) ∧ Rl X.K w' m' H' ∧ H' D = some (.lst av) ∧ RWs X.K w' H' aw av ∧ RE X.K w' H' ρ σ ∧ G w' H' ∧ Fin X.K w1 H1 D (fun H' => Q (.ref D) H') (turns f (ds.drop i) aw m'),
    ⟨ds.length, by simp, Nat.zero_le _, w1.add D, m1, [], [], rfl, ?_, R1.r.add hD, upd_same, .nil, ?_, wz.add w1 H1 D _ hD g0, fin⟩, ?_⟩
  · rw [cut_upd, cut_none hD]
    exact Ext.refl _ _
  · exact ⟨re1.len, fun i a h => by obtain ⟨v, e1, e2⟩ := re1.get i a h; exact ⟨v, e1, e2.add hD⟩⟩
  · rintro i n H2 ⟨rfl, hi, w2, m2, aw, av, hp, e2, r2, hl, hv, re2, g2, fin⟩
    by_cases hlt : i < ds.length
    · refine .inr ⟨wz.go i w2 H2 hlt g2, fun H' => ∃ w' m' aw av, w'.p = (w1.add D).p ∧ Ext w1 H1 (w'.sub w1.p) (cutH H' D) ∧ Rl X.K w' m' H' ∧ H' D = some (.lst av) ∧ RWs X.K w' H' aw av ∧ RE X.K w' H' ρ σ ∧ G w' H' ∧ Fin X.K w1 H1 D (fun H' => Q (.ref D) H') (turns f (ds.drop (i + 1)) aw m'),
        fun H' h => ⟨ds.length - (i + 1), by omega, rfl, hlt, h⟩, fun x H3 y => ?_⟩
      obtain ⟨e3, r3, v3⟩ := wz.yld i w2 m2 H2 x H3 ds[i] (List.getElem?_eq_getElem hlt) g2 r2 y
      have pD : w2.p D := by rw [hp]; exact .inr rfl
      rw [List.drop_eq_getElem_cons hlt] at fin
      unfold turns at fin
      rw [R.ne_b, ← hf] at fin
      dsimp only at fin
      cases ha : asg g (.v ds[i]) (wipe ρ own) with
      | none => rw [ha] at fin; exact fin.elim
      | some ρ1 =>
        rw [ha] at fin
        dsimp only at fin
        refine ⟨_, w2, _, ρ1, (re2.ext e3).wipe own, .v v3, ha, fun σ3 re3 lk => ⟨wipe_like lk hs, ρ1, m2, w2, re3, r3, ?_⟩⟩
        cases hk : evIf C ifs ρ1 m2 with
        | err _ _ => rw [hk] at fin; exact fin.elim
        | bad => rw [hk] at fin; exact fin.elim
        | ok kk m3 =>
          rw [hk] at fin
          intro v w3 H4 e4 r4 rv
          obtain rfl := rv
          have hD4 : H4 D = some (.lst av) := (e3.trans e4).pk D _ pD hl
          have e24 := e3.trans e4
          have hp3 : w3.p = (w1.add D).p := e24.p.trans hp
          cases kk with
          | false =>
            simp only [Bool.false_eq_true, if_false, R.b_ok] at fin ⊢
            refine ⟨w3, m3, aw, av, hp3, e2.trans (Ext.cut2 e24 hp hl), r4, hD4, hv.ext e24, re2.ext e24, wz.ext _ _ _ _ g2 e24, ?_⟩
            rw [hf] at fin
            exact fin
          | true =>
            simp only [if_true, R.b_ok] at fin ⊢
            refine ⟨ρ1, m3, w3, re3.ext e4, r4, ?_⟩
            cases he : ev C elt ρ1 m3 with
            | err _ _ => rw [he] at fin; exact fin.elim
            | bad => rw [he] at fin; exact fin.elim
            | ok a m4 =>
              rw [he] at fin
              intro v w5 H5 e5 r5 rv
              have hD5 : H5 D = some (.lst av) := e5.pk D _ (by rw [hp3]; exact .inr rfl) hD4
              have e25 := e24.trans e5
              have hp5 : w5.p = (w1.add D).p := e25.p.trans hp
              have pD5 : w5.p D := by rw [hp5]; exact .inr rfl
              have lD5 : w5.live D := .inr (.inr pD5)
              simp only [R.b_ok] at fin
              split at fin
              · rename_i hz
                refine ⟨av, hD5, by rw [← hv.length, szL_eq]; exact hz, w5, m4, aw ++ [a], av ++ [v], hp5, ?_, r5.wr hD5 pD5, upd_same, ?_, ?_, wz.wr _ _ _ _ _ lD5 hD5 (wz.ext _ _ _ _ g2 e25), ?_⟩
                · rw [cut_upd]
                  exact e2.trans (Ext.cut2 e25 hp hl)
                · exact ((hv.ext e25).append (.cons rv .nil)) |> paired_imp (fun _ _ r => r.wr hD5 lD5)
                · exact ⟨(re2.ext e25).len, fun j b h => by obtain ⟨u, q1, q2⟩ := (re2.ext e25).get j b h; exact ⟨u, q1, q2.wr hD5 lD5⟩⟩
                · rw [hf] at fin
                  exact fin
              · exact fin.elim
    · have e : i = ds.length := by omega
      subst e
      rw [List.drop_length] at fin
      exact .inl ⟨wz.stop w2 H2 g2, fin w2 H2 av hp e2 r2 hl hv⟩
end
end Z
set_option maxHeartbeats 4000000
/-! Y14b: comprehensions with two for. -/
namespace Z
open PySem PySem.Spec PyProof.Rows L2 RZ
section
variable {K : PySem.W.Frag} {w w' : Wd} {H H' : Hp}
theorem turnsL_ne {f : PyData → List W → Mem → R (List W)} : ∀ {ds : List PyData} {acc : List W} {m : Mem} {x : Ex} {m' : Mem}, turnsL f ds acc m ≠ .err x m'
  | [], acc, m, x, m' => by unfold turnsL; exact fun h => nomatch h
  | d :: r, acc, m, x, m' => by
    unfold turnsL
    rw [R.ne_b]
    cases f d acc m with
    | ok a m1 => exact turnsL_ne
    | err _ _ => exact fun h => nomatch h
    | bad => exact fun h => nomatch h
theorem fin_ofL {f : PyData → List W → Mem → R (List W)} {ds : List PyData} {k : Kd} {m : Mem} {Q : VK} {E : EW} {D : Addr} (hD : H D = none) (hw : ¬ w.live D) (c : Cont K w H (RW K) Q E ((turnsL f ds [] m).b fun ws m => mk k ws m)) : Fin K w H D (fun H' => Q (.ref D) H') (turnsL f ds [] m) := by
  cases h : turnsL f ds [] m with
  | ok ws m1 =>
    rw [h] at c
    intro w' H' vs hp e r hl hv
    have lD : w'.p D := by rw [hp]; exact .inr rfl
    have sub : ∀ a, w.p a → w'.p a ∧ a ≠ D := fun a ha => ⟨by rw [hp]; exact .inl ha, fun z => hw (by subst z; exact .inr (.inr ha))⟩
    have r2 := r.cut (P := w.p) hl lD sub
    have c2 : Cont K (w'.sub w.p) (cutH H' D) (RW K) Q E (mk k ws m1) := Cont.later e c
    have z := (mk_ok r2 (paired_imp (fun _ _ r => r.cut hl (.inr (.inr lD)) fun a ha => (sub a ha).1) hv) c2).2 D cutH_self
    rw [upd_cut hl] at z
    exact z
  | err x m1 => exact absurd h turnsL_ne
  | bad => rw [h] at c; exact c.elim
/-- what stands between turns -/
structure Com (K : PySem.W.Frag) (w : Wd) (H : Hp) (D : Addr) (ρ : Env) (σ : L2.St) (w' : Wd) (H' : Hp) (m' : Mem) (aw : List W) (av : List V) : Prop where
  p : w'.p = (w.add D).p
  e : Ext w H (w'.sub w.p) (cutH H' D)
  r : Rl K w' m' H'
  l : H' D = some (.lst av)
  v : RWs K w' H' aw av
  re : RE K w' H' ρ σ
theorem Com.pD {D : Addr} {ρ : Env} {σ : L2.St} {m' : Mem} {aw : List W} {av : List V} (c : Com K w H D ρ σ w' H' m' aw av) : w'.p D := by rw [c.p]; exact .inr rfl
theorem Com.ext {D : Addr} {ρ : Env} {σ : L2.St} {m' m2 : Mem} {aw : List W} {av : List V} {w2 : Wd} {H2 : Hp} (c : Com K w H D ρ σ w' H' m' aw av) (e : Ext w' H' w2 H2) (r : Rl K w2 m2 H2) : Com K w H D ρ σ w2 H2 m2 aw av :=
  ⟨e.p.trans c.p, c.e.trans (Ext.cut2 e c.p c.l), r, e.pk D _ c.pD c.l, c.v.ext e, c.re.ext e⟩
theorem Com.app {D : Addr} {ρ : Env} {σ : L2.St} {m' : Mem} {aw : List W} {av : List V} {a : W} {v : V} (c : Com K w H D ρ σ w' H' m' aw av) (h : RW K w' H' a v) : Com K w H D ρ σ w' (upd H' D (.lst (av ++ [v]))) m' (aw ++ [a]) (av ++ [v]) := by
  have lD : w'.live D := .inr (.inr c.pD)
  refine ⟨c.p, by rw [cut_upd]; exact c.e, c.r.wr c.l c.pD, upd_same, (c.v.append (.cons h .nil)) |> paired_imp (fun _ _ r => r.wr c.l lD), c.re.len, fun j b q => ?_⟩
  obtain ⟨u, q1, q2⟩ := c.re.get j b q
  exact ⟨u, q1, q2.wr c.l lD⟩
end
section
variable {X : Cx} {Γ : Gm} {C : Orc} {ω : St → EW} {own own2 : List Nat} {g g2 : G} {src src2 : IT} {ifs ifs2 : ES} {elt : E} {k : Kd}
theorem rd_comp2 {σ : St} {H : Hp} {Q : VK} (hs : ∀ i ∈ slots g, i ∈ own) (hs2 : ∀ i ∈ slots g2, i ∈ own2) (q : tE X.K C ω (.lst k (.comp2 own own2 g src ifs g2 src2 ifs2 elt)) σ H Q) :
    tLc2 (tI X.K C ω src) (tG X.K g) (tIf X.K C nope ifs) (tI X.K C nope src2) (tG X.K g2) (tIf X.K C nope ifs2) (tE X.K C nope elt) own own2 σ H Q := by
  obtain ⟨ρ, m, w, re, rl, c⟩ := q
  simp only [ev, evL, R.b_assoc] at c
  refine ⟨ρ, m, w, re, rl, (Cont.bind (relI X.K) c).imp ?_⟩
  rintro J H1 ⟨ds, m1, w1, R1⟩
  obtain ⟨G, wz, g0⟩ := R1.v
  intro D hD
  have nl : ¬ w1.live D := R1.r.fresh hD
  have fin := fin_ofL hD nl R1.c
  have re1 := re.ext R1.e
  generalize hf : (fun d acc m => match asg g (.v d) (wipe ρ own) with
    | none => R.bad
    | some ρ1 => (evIf C ifs ρ1 m).b fun k m => if k = true then (evI C src2 ρ1 m).b fun ds2 m => turns (fun d m => match asg g2 (.v d) (wipe ρ1 own2) with
      | none => .bad
      | some ρ2 => (evIf C ifs2 ρ2 m).b fun k m => if k = true then (ev C elt ρ2 m).b fun w m => .ok (some w) m else .ok none m) ds2 acc m else .ok acc m) = f at fin
  refine ⟨fun i n H' => n = ds.length - i ∧ i ≤ ds.length ∧ ∃ w' m' aw av, Com X.K w1 H1 D ρ σ w' H' m' aw av ∧ G w' H' ∧ Fin X.K w1 H1 D (fun H' => Q (.ref D) H') (turnsL f (ds.drop i) aw m'),
    ⟨ds.length, by simp, Nat.zero_le _, w1.add D, m1, [], [], ⟨rfl, ?_, R1.r.add hD, upd_same, .nil, ?_⟩, wz.add w1 H1 D _ hD g0, fin⟩, ?_⟩
  · rw [cut_upd, cut_none hD]
    exact Ext.refl _ _
  · exact ⟨re1.len, fun i a h => by obtain ⟨v, e1, e2⟩ := re1.get i a h; exact ⟨v, e1, e2.add hD⟩⟩
  · rintro i n H2 ⟨rfl, hi, w2, m2, aw, av, cm, gg, fin⟩
    by_cases hlt : i < ds.length
    · refine .inr ⟨wz.go i w2 H2 hlt gg, fun H' => ∃ w' m' aw av, Com X.K w1 H1 D ρ σ w' H' m' aw av ∧ G w' H' ∧ Fin X.K w1 H1 D (fun H' => Q (.ref D) H') (turnsL f (ds.drop (i + 1)) aw m'),
        fun H' h => ⟨ds.length - (i + 1), by omega, rfl, hlt, h⟩, fun x H3 y => ?_⟩
      obtain ⟨e3, r3, v3⟩ := wz.yld i w2 m2 H2 x H3 ds[i] (List.getElem?_eq_getElem hlt) gg cm.r y
      have cm3 := cm.ext e3 r3
      have gg3 := wz.ext _ _ _ _ gg e3
      rw [List.drop_eq_getElem_cons hlt] at fin
      unfold turnsL at fin
      rw [R.ne_b] at fin
      have ef : f ds[i] aw m2 = _ := (congrFun (congrFun (congrFun hf ds[i]) aw) m2).symm
      rw [ef] at fin
      cases ha : asg g (.v ds[i]) (wipe ρ own) with
      | none => rw [ha] at fin; exact fin.elim
      | some ρ1 =>
        rw [ha] at fin
        dsimp only at fin
        refine ⟨_, w2, _, ρ1, (cm.re.ext e3).wipe own, .v v3, ha, fun σ3 re3 lk => ⟨wipe_like lk hs, ρ1, m2, w2, re3, r3, ?_⟩⟩
        cases hk : evIf C ifs ρ1 m2 with
        | err _ _ => rw [hk] at fin; exact fin.elim
        | bad => rw [hk] at fin; exact fin.elim
        | ok kk m3 =>
          rw [hk] at fin
          intro v w3 H4 e4 r4 rv
          obtain rfl := rv
          have cm4 := cm3.ext e4 r4
          have gg4 := wz.ext _ _ _ _ gg3 e4
          cases kk with
          | false =>
            simp only [Bool.false_eq_true, if_false, R.b_ok] at fin ⊢
            exact ⟨w3, m3, aw, av, cm4, gg4, fin⟩
          | true =>
            simp only [if_true, R.b_ok] at fin ⊢
            refine ⟨ρ1, m3, w3, re3.ext e4, r4, ?_⟩
            cases hi2 : evI C src2 ρ1 m3 with
            | err _ _ => rw [hi2] at fin; exact fin.elim
            | bad => rw [hi2] at fin; exact fin.elim
            | ok ds2 m4 =>
              rw [hi2] at fin
              simp only [R.b_ok] at fin
              intro J1 w4 H5 e5 r5 ⟨G1, wz1, h0⟩
              have cm5 := cm4.ext e5 r5
              have gg5 := wz.ext _ _ _ _ gg4 e5
              have rho5 := (re3.ext e4).ext e5
              generalize hf2 : (fun d m => match asg g2 (.v d) (wipe ρ1 own2) with
                | none => R.bad
                | some ρ2 => (evIf C ifs2 ρ2 m).b fun k m => if k = true then (ev C elt ρ2 m).b fun w m => .ok (some w) m else .ok none m) = f2 at fin
              have fin0 : Fin X.K w1 H1 D (fun H' => Q (.ref D) H') ((turns f2 ds2 aw m4).b fun acc m => turnsL f (ds.drop (i + 1)) acc m) := by
                cases hz : turns f2 ds2 aw m4 with
                | ok a mm => rw [hz] at fin; exact fin
                | err _ _ => rw [hz] at fin; exact fin.elim
                | bad => rw [hz] at fin; exact fin.elim
              refine ⟨fun j kq H' => kq = ds2.length - j ∧ j ≤ ds2.length ∧ ∃ w' m' aw av, Com X.K w1 H1 D ρ σ w' H' m' aw av ∧ G w' H' ∧ G1 w' H' ∧ RE X.K w' H' ρ1 σ3 ∧ Fin X.K w1 H1 D (fun H' => Q (.ref D) H') ((turns f2 (ds2.drop j) aw m').b fun acc m => turnsL f (ds.drop (i + 1)) acc m),
                ⟨ds2.length, by simp, Nat.zero_le _, w4, m4, aw, av, cm5, gg5, h0, rho5, fin0⟩, ?_⟩
              rintro j kq H6 ⟨rfl, hj, w6, m6, aw6, av6, cm6, gg6, gi6, re6, fin6⟩
              by_cases hlt2 : j < ds2.length
              · refine .inr ⟨wz1.go j w6 H6 hlt2 gi6, fun H' => ∃ w' m' aw av, Com X.K w1 H1 D ρ σ w' H' m' aw av ∧ G w' H' ∧ G1 w' H' ∧ RE X.K w' H' ρ1 σ3 ∧ Fin X.K w1 H1 D (fun H' => Q (.ref D) H') ((turns f2 (ds2.drop (j + 1)) aw m').b fun acc m => turnsL f (ds.drop (i + 1)) acc m),
                  fun H' h => ⟨ds2.length - (j + 1), by omega, rfl, hlt2, h⟩, fun x H7 y => ?_⟩
                obtain ⟨e7, r7, v7⟩ := wz1.yld j w6 m6 H6 x H7 ds2[j] (List.getElem?_eq_getElem hlt2) gi6 cm6.r y
                have cm7 := cm6.ext e7 r7
                have gg7 := wz.ext _ _ _ _ gg6 e7
                have gi7 := wz1.ext _ _ _ _ gi6 e7
                have re7 := re6.ext e7
                rw [List.drop_eq_getElem_cons hlt2] at fin6
                unfold turns at fin6
                rw [R.ne_b] at fin6
                have ef2 : f2 ds2[j] m6 = _ := (congrFun (congrFun hf2 ds2[j]) m6).symm
                rw [ef2] at fin6
                cases ha2 : asg g2 (.v ds2[j]) (wipe ρ1 own2) with
                | none => rw [ha2] at fin6; exact fin6.elim
                | some ρ2 =>
                  rw [ha2] at fin6
                  dsimp only at fin6
                  refine ⟨_, w6, _, ρ2, re7.wipe own2, .v v7, ha2, fun σ4 re8 lk2 => ⟨wipe_like lk2 hs2, ρ2, m6, w6, re8, r7, ?_⟩⟩
                  cases hk2 : evIf C ifs2 ρ2 m6 with
                  | err _ _ => rw [hk2] at fin6; exact fin6.elim
                  | bad => rw [hk2] at fin6; exact fin6.elim
                  | ok kk2 m8 =>
                    rw [hk2] at fin6
                    intro v w8 H8 e8 r8 rv
                    obtain rfl := rv
                    have cm8 := cm7.ext e8 r8
                    have gg8 := wz.ext _ _ _ _ gg7 e8
                    have gi8 := wz1.ext _ _ _ _ gi7 e8
                    have re9 := re7.ext e8
                    cases kk2 with
                    | false =>
                      simp only [Bool.false_eq_true, if_false, R.b_ok] at fin6 ⊢
                      exact ⟨w8, m8, aw6, av6, cm8, gg8, gi8, re9, fin6⟩
                    | true =>
                      simp only [if_true, R.b_ok] at fin6 ⊢
                      refine ⟨ρ2, m8, w8, re8.ext e8, r8, ?_⟩
                      cases he : ev C elt ρ2 m8 with
                      | err _ _ => rw [he] at fin6; exact fin6.elim
                      | bad => rw [he] at fin6; exact fin6.elim
                      | ok a m9 =>
                        rw [he] at fin6
                        intro v w9 H9 e9 r9 rv
                        have cm9 := cm8.ext e9 r9
                        have gg9 := wz.ext _ _ _ _ gg8 e9
                        have gi9 := wz1.ext _ _ _ _ gi8 e9
                        have re10 := re9.ext e9
                        have lD : w9.live D := .inr (.inr cm9.pD)
                        simp only [R.b_ok] at fin6
                        split at fin6
                        · rename_i hz
                          refine ⟨av6, cm9.l, by rw [← cm9.v.length, szL_eq]; exact hz, w9, m9, aw6 ++ [a], av6 ++ [v], cm9.app rv, wz.wr _ _ _ _ _ lD cm9.l gg9, wz1.wr _ _ _ _ _ lD cm9.l gi9, ?_, fin6⟩
                          exact re10.frame fun _ _ r => r.wr cm9.l lD
                        · exact fin6.elim
              · have e : j = ds2.length := by omega
                subst e
                rw [List.drop_length] at fin6
                exact .inl ⟨wz1.stop w6 H6 gi6, w6, m6, aw6, av6, cm6, gg6, fin6⟩
    · have e : i = ds.length := by omega
      subst e
      rw [List.drop_length] at fin
      exact .inl ⟨wz.stop w2 H2 gg, fin w2 H2 av cm.p cm.e cm.r cm.l cm.v⟩
end
end Z
set_option maxHeartbeats 4000000
/-! Y15: expressions: all together. -/
namespace Z
open PySem PySem.Spec PyProof.Rows L2 RZ
section
variable {X : Cx} {Γ : Gm} {C : Orc} {ω : St → EW}
theorem rel_lookup (f : Str → NameKind → Bool) : ∀ {names : List (Str × NameKind)} {x : Str} {k : NameKind}, names.lookup x = some k → k ≠ .free → (names.map fun (n, k) => if (k == .free && f n k) then (n, NameKind.cell) else (n, k)).lookup x = some k
  | [], _, _, h, _ => by cases h
  | (n, k0) :: r, x, k, h, hk => by
    show List.lookup x ((if (k0 == .free && f n k0) = true then (n, NameKind.cell) else (n, k0)) :: _) = _
    by_cases e : x = n
    · subst e
      rw [List.lookup_cons_self] at h
      cases h
      have : (k0 == NameKind.free) = false := by cases k0 <;> first | rfl | exact absurd rfl hk
      rw [this, Bool.false_and, if_neg Bool.false_ne_true, List.lookup_cons_self]
    · have e1 : (x == n) = false := by simpa using e
      rw [List.lookup_cons, e1] at h
      have ih := rel_lookup f h hk
      split
      · rw [List.lookup_cons, e1]; exact ih
      · rw [List.lookup_cons, e1]; exact ih
theorem relN_eq (k : Cok X Γ C ω) (sc : Scope) : (relabel sc X.env).names = relN Γ.nm sc := by
  unfold relabel relN
  have h : (X.env.scope.kind == .function) = true := by rw [k.kd]; rfl
  show List.map _ _ = List.map _ _
  congr 1
  funext ⟨n, kk⟩
  show (if (kk == NameKind.free && X.env.scope.kind == .function && X.env.scope.names.lookup n == some .cell) = true then _ else _) = _
  rw [h, k.nm, Bool.and_true]
theorem blk_ok {sc : Scope} {own : List Nat} (k : Cok X Γ C ω) (h : blkC Γ.N (scOf Γ) sc (ownOf Γ own) = true) : BlkOk X.N X.env.scope sc (ownOf Γ own) := by
  have b := blkOk_by h
  rw [k.N]
  exact ⟨b.kind, b.uniq, b.ix, fun y hy e => by have := b.free y hy e; rw [k.nm]; exact this, b.own⟩
theorem ownOf_2 (own : List Nat) : (ownOf Γ own).map (·.2) = own := by
  unfold ownOf
  rw [List.map_map]
  exact List.map_id' own
theorem Cok.blk {sc : Scope} {own : List (Str × Nat)} (k : Cok X Γ C ω) (ok : BlkOk X.N X.env.scope sc own) (s : Shared) (H : Hp) (Cc : Addr) (cl : List (Str × Addr)) (fp : List Addr) : Cok (X.blk s H sc (compEnvC sc cl Cc X.env) fp) (Γ.blk sc) C nope where
  N := k.N
  nd := k.nd
  nm := relN_eq k sc
  kd := ok.kind
  calm := k.calm
  g := ⟨k.g.un, k.g.bl, k.g.fn, k.g.gc, k.g.cl, k.g.fl, k.g.mt, k.g.pr, k.g.xc⟩
  hx := fun σ pins H s e s' _ c => by
    obtain ⟨_, _, _, _, _, _, _, _, _, _, _, _, hE⟩ := c
    obtain ⟨_, _, _, _, _, z⟩ := hE
    exact z
theorem Sto.blk {sc : Scope} {own : List (Str × Nat)} (k : Cok X Γ C ω) (s : Shared) (H : Hp) (Cc : Addr) (cl : List (Str × Addr)) (fp : List Addr) : Sto (X.blk s H sc (compEnvC sc cl Cc X.env) fp) (Γ.blk sc) where
  N := k.N
  nd := k.nd
  calm := k.calm
  s := fun x h => by
    have e : (X.blk s H sc (compEnvC sc cl Cc X.env) fp).env.scope.names = relN Γ.nm sc := relN_eq k sc
    unfold locN at h
    rw [Bool.or_eq_true, decide_eq_true_eq, decide_eq_true_eq] at h
    unfold L2.Loc
    rw [e]
    rcases h with h | h
    · have := rel_lookup (fun n _ => Γ.nm.lookup n == some .cell) h (by decide)
      exact ⟨.inl this, .inr this⟩
    · have := rel_lookup (fun n _ => Γ.nm.lookup n == some .cell) h (by decide)
      refine ⟨.inr this, .inl ?_⟩
      show (sc.names.lookup x == some .cell) = true
      have h : sc.names.lookup x = some .cell := h
      rw [h]
      rfl
theorem PTsimp {X : Cx} {e : List Expr} {t t' : TT} (h : PTs X e t) (i : ∀ σ H Q, t' σ H Q → t σ H Q) : PTs X e t' := ⟨fun pins s σ H Q I q => h.run pins s σ H Q I (i _ _ _ q)⟩
theorem f_nil : PTs X [] (tIf X.K C ω .nil) := PTsimp pts_nil fun σ H Q q => by
  obtain ⟨ρ, m, w, re, rl, c⟩ := q
  simp only [evIf] at c
  exact c true w H (Ext.refl _ _) rl rfl
theorem f_one {e : E} {x : Expr} (h : Snd X C ω e x) (ht : tst e = true) : PTs X [x] (tIf X.K C ω (.cons e .nil)) := PTsimp (pts_one (h.pt ht)) fun σ H Q q => by
  obtain ⟨ρ, m, w, re, rl, c⟩ := q
  simp only [evIf] at c
  exact ⟨ρ, m, w, re, rl, c⟩
/-! ### the inversions that were left -/
theorem chk_isi {Γ : Gm} {ts : List Ty} {a : E} {x : Expr} (h : chk Γ (.isi ts a) x = true) : ∃ y t p q, x = .Call (.Name ("isinstance" : Str) p) [y, t] [] q ∧ glb Γ ("isinstance" : Str) = true ∧ notStar y = true ∧ chk Γ a y = true ∧ ((∃ u, ts = [u] ∧ chkTy Γ u t = true) ∨ ∃ ns kk pt, t = .Tuple ns kk pt ∧ ts.length ≤ 100 ∧ chkTys Γ ts ns = true) := by
  cases x <;> first | exact absurd h Bool.false_ne_true | skip
  rename_i fn xs kw q
  cases fn <;> first | exact absurd h Bool.false_ne_true | skip
  rename_i n p
  rcases xs with _ | ⟨y, _ | ⟨t, _ | ⟨t2, xs⟩⟩⟩ <;> cases kw <;> first | exact absurd h Bool.false_ne_true | skip
  simp only [chk, Bool.and_eq_true, decide_eq_true_eq] at h
  obtain ⟨⟨⟨⟨h1, h2⟩, h3⟩, h4⟩, h5⟩ := h
  subst h1
  refine ⟨y, t, p, q, rfl, h2, h3, h4, ?_⟩
  split at h5
  · split at h5
    · exact .inl ⟨_, rfl, h5⟩
    · cases h5
  · simp only [Bool.and_eq_true, decide_eq_true_eq] at h5
    exact .inr ⟨_, _, _, rfl, h5⟩
  · cases h5
theorem chkL_of {Γ : Gm} {e : E} {x : Expr} (h : chkL Γ (.of e) x = true) : ∃ y p q, x = .Call (.Name ("list" : Str) p) [y] [] q ∧ glb Γ ("list" : Str) = true ∧ notStar y = true ∧ chk Γ e y = true := by
  cases x <;> first | exact absurd h Bool.false_ne_true | skip
  rename_i fn xs kw q
  cases fn <;> first | exact absurd h Bool.false_ne_true | skip
  rename_i n p
  rcases xs with _ | ⟨y, _ | ⟨t, xs⟩⟩ <;> cases kw <;> first | exact absurd h Bool.false_ne_true | skip
  simp only [chkL, Bool.and_eq_true, decide_eq_true_eq] at h
  obtain ⟨⟨⟨h1, h2⟩, h3⟩, h4⟩ := h
  subst h1
  exact ⟨y, p, q, rfl, h2, h3, h4⟩
theorem chkL_cat {Γ : Gm} {a b : E} {x : Expr} (h : chkL Γ (.cat a b) x = true) : ∃ y z p, x = .BinOp y .Add z p ∧ chk Γ a y = true ∧ chk Γ b z = true := by
  cases x <;> first | exact absurd h Bool.false_ne_true | skip
  simp only [chkL, Bool.and_eq_true, decide_eq_true_eq] at h
  exact ⟨_, _, _, by rw [h.1.1], h.1.2, h.2⟩
theorem chkL_disp {Γ : Gm} {es : ES} {x : Expr} (h : chkL Γ (.disp es) x = true) : ∃ xs p, x = .List xs p ∧ chkS Γ es xs = true := by
  cases x <;> first | exact absurd h Bool.false_ne_true | exact ⟨_, _, rfl, h⟩
theorem chkL_comp {Γ : Gm} {own : List Nat} {g : G} {src : IT} {ifs : ES} {elt : E} {x : Expr} (h : chkL Γ (.comp own g src ifs elt) x = true) : ∃ el tg it fs sc p, x = .ListComp el [⟨tg, it, fs, 0⟩] sc p ∧ blkC Γ.N (scOf Γ) sc (ownOf Γ own) = true ∧ (∀ i ∈ slots g, i ∈ own) ∧ chkI Γ src tg it = true ∧ chkG (Γ.blk sc) g tg = true ∧ chkF (Γ.blk sc) ifs fs = true ∧ chk (Γ.blk sc) elt el = true := by
  cases x <;> first | exact absurd h Bool.false_ne_true | skip
  rename_i el gs sc p
  rcases gs with _ | ⟨⟨tg, it, fs, as⟩, _ | ⟨g2, gs⟩⟩ <;> first | exact absurd h Bool.false_ne_true | skip
  simp only [chkL, Bool.and_eq_true, List.all_eq_true, List.contains_iff_mem] at h
  obtain ⟨⟨⟨⟨⟨⟨h1, h2⟩, h3⟩, h4⟩, h5⟩, h6⟩, h7⟩ := h
  have e : as = 0 := by
    unfold isZero at h1
    split at h1
    · rfl
    · cases h1
  subst e
  exact ⟨el, tg, it, fs, sc, p, rfl, h2, h3, h4, h5, h6, h7⟩
theorem chkL_comp2 {Γ : Gm} {own own2 : List Nat} {g g2 : G} {src src2 : IT} {ifs ifs2 : ES} {elt : E} {x : Expr} (h : chkL Γ (.comp2 own own2 g src ifs g2 src2 ifs2 elt) x = true) : ∃ el tg it fs tg2 it2 fs2 sc p, x = .ListComp el [⟨tg, it, fs, 0⟩, ⟨tg2, it2, fs2, 0⟩] sc p ∧ blkC Γ.N (scOf Γ) sc (ownOf Γ own) = true ∧ (∀ i ∈ slots g, i ∈ own) ∧ (∀ i ∈ slots g2, i ∈ own2) ∧ (∀ i ∈ own2, i ∈ own) ∧
    chkI Γ src tg it = true ∧ chkG (Γ.blk sc) g tg = true ∧ chkF (Γ.blk sc) ifs fs = true ∧ chkI (Γ.blk sc) src2 tg2 it2 = true ∧ chkG (Γ.blk sc) g2 tg2 = true ∧ chkF (Γ.blk sc) ifs2 fs2 = true ∧ chk (Γ.blk sc) elt el = true := by
  cases x <;> first | exact absurd h Bool.false_ne_true | skip
  rename_i el gs sc p
  rcases gs with _ | ⟨⟨tg, it, fs, as⟩, _ | ⟨⟨tg2, it2, fs2, as2⟩, _ | ⟨g3, gs⟩⟩⟩ <;> first | exact absurd h Bool.false_ne_true | skip
  simp only [chkL, Bool.and_eq_true, List.all_eq_true, List.contains_iff_mem] at h
  obtain ⟨⟨⟨⟨⟨⟨⟨⟨⟨⟨⟨⟨h1, h1'⟩, h2⟩, h3⟩, h4⟩, h5⟩, h6⟩, h7⟩, h8⟩, h9⟩, ha⟩, hb⟩, hc⟩ := h
  have z : ∀ {n : Int}, isZero n = true → n = 0 := fun {n} h => by
    unfold isZero at h
    split at h
    · rfl
    · cases h
  obtain rfl := z h1
  obtain rfl := z h1'
  exact ⟨el, tg, it, fs, tg2, it2, fs2, sc, p, rfl, h2, h3, h4, h5, h6, h7, h8, h9, ha, hb, hc⟩
theorem s_cat {a b : E} {y z : Expr} {p : Pos} {k : Kd} (ha : Snd X C ω a y) (hb : Snd X C ω b z) : Snd X C ω (.lst k (.cat a b)) (.BinOp y .Add z p) := by
  refine Snd.of (PEimp (pe_op op_cat ha.pe hb.pe) fun σ H Q q => ?_) (fun _ => rfl)
  obtain ⟨ρ, m, w, re, rl, c⟩ := q
  simp only [ev, evL, R.b_assoc] at c
  refine ⟨ρ, m, w, re, rl, (Cont.bind (RW X.K) c).imp ?_⟩
  rintro v H1 ⟨a1, m1, w1, R1⟩
  refine ⟨ρ, m1, w1, re.ext R1.e, R1.r, (Cont.bind (RW X.K) R1.c).imp ?_⟩
  rintro u H2 ⟨a2, m2, w2, R2⟩
  obtain ⟨d, e, c⟩ := Cont.o R2.c
  cases e1 : itemsL m2 a1 with
  | none => rw [e1] at e; cases e
  | some d1 =>
    rw [e1, Option.bind_some] at e
    cases e2 : itemsL m2 a2 with
    | none => rw [e2] at e; cases e
    | some d2 =>
      rw [e2, Option.bind_some] at e
      split at e
      · rename_i hz
        cases e
        obtain ⟨l, xs, rfl, h1, h2⟩ := itemsL_ok R2.r (R1.v.ext R2.e) e1
        obtain ⟨l2, xs2, rfl, h3, h4⟩ := itemsL_ok R2.r R2.v e2
        exact ⟨l, l2, xs, xs2, rfl, rfl, h1, h3, by rw [← h2.length, ← h4.length, szL_eq]; exact hz, (mk_ok R2.r (h2.append h4) c).2⟩
      · cases e
theorem chkI_okX {Γ : Gm} {it : IT} {tg x : Expr} (h : chkI Γ it tg x = true) : okX x = true := by
  cases it with
  | seq e => exact chk_ok h
  | _ => cases x <;> first | rfl | exact absurd h Bool.false_ne_true
mutual
theorem sndE : ∀ (e : E) (X : Cx) (Γ : Gm) (ω : St → EW) (k : Cok X Γ C ω) (x : Expr), chk Γ e x = true → Snd X C ω e x
  | .var _, X, Γ, ω, k, _, h => s_var k h
  | .cst _, X, Γ, ω, k, _, h => s_cst k h
  | .bin o a b, X, Γ, ω, k, _, h => by obtain ⟨y, z, p, rfl, h1, h2⟩ := chk_bin h; exact s_bin (sndE a _ _ _ k y h1) (sndE b _ _ _ k z h2)
  | .neg a, X, Γ, ω, k, _, h => by obtain ⟨y, p, rfl, h1⟩ := chk_neg h; exact s_neg (sndE a _ _ _ k y h1)
  | .cmp o a b, X, Γ, ω, k, _, h => by obtain ⟨y, z, p, rfl, h1, h2⟩ := chk_cmp h; exact s_cmp k (sndE a _ _ _ k y h1) (sndE b _ _ _ k z h2) (chk_ok h2)
  | .chn o1 o2 a b c, X, Γ, ω, k, _, h => by obtain ⟨y, z, u, p, rfl, h1, h2, h3⟩ := chk_chn h; exact s_chn k (sndE a _ _ _ k y h1) (sndE b _ _ _ k z h2) (sndE c _ _ _ k u h3) (chk_ok h3)
  | .isN a, X, Γ, ω, k, _, h => by obtain ⟨y, kk, p, q, rfl, h1⟩ := chk_isN h; exact s_isN (sndE a _ _ _ k y h1)
  | .notN a, X, Γ, ω, k, _, h => by obtain ⟨y, kk, p, q, rfl, h1⟩ := chk_notN h; exact s_notN (sndE a _ _ _ k y h1)
  | .not a, X, Γ, ω, k, _, h => by obtain ⟨y, p, rfl, h1, h2⟩ := chk_not h; exact s_not (sndE a _ _ _ k y h2) h1
  | .and es, X, Γ, ω, k, _, h => by obtain ⟨xs, p, rfl, h1, h2⟩ := chk_and h; exact s_and (sndB es _ _ _ k xs h2) h1
  | .or es, X, Γ, ω, k, _, h => by obtain ⟨xs, p, rfl, h1, h2⟩ := chk_or h; exact s_or (sndB es _ _ _ k xs h2) h1
  | .ite c a b, X, Γ, ω, k, _, h => by obtain ⟨u, v, y, p, rfl, h0, h1, h2, h3⟩ := chk_ite h; exact s_ite (sndE c _ _ _ k u h1) (sndE a _ _ _ k v h2) (sndE b _ _ _ k y h3) h0
  | .tup es, X, Γ, ω, k, _, h => by obtain ⟨xs, kk, p, rfl, h1⟩ := chk_tup h; exact s_tup (sndA es _ _ _ k xs h1)
  | .lst kd l, X, Γ, ω, k, _, h => sndL l _ _ _ k kd _ h
  | .ix a i, X, Γ, ω, k, _, h => by obtain ⟨y, z, p, rfl, h1, h2⟩ := chk_ix h; exact s_ix k (sndE a _ _ _ k y h1) (sndE i _ _ _ k z h2) (chk_ok h2)
  | .sl a lo hi, X, Γ, ω, k, _, h => by obtain ⟨y, l, u, p, q, rfl, h1, h2, h3⟩ := chk_sl h; exact s_sl (sndE a _ _ _ k y h1) (sndO lo _ _ _ k l h2) (sndO hi _ _ _ k u h3)
  | .call f es, X, Γ, ω, k, _, h => by obtain ⟨n, xs, p, q, fi, rfl, h1, h0, hd, h2, h3, h4, h5⟩ := chk_call h; exact s_call k h1 h0 hd h2 h3 h4 h5 (sndA es _ _ _ k xs h5)
  | .callD f es ds, X, Γ, ω, k, _, h => by obtain ⟨n, xs, p, q, fi, rfl, h1, h0, hd, h2, h3, h4, h5⟩ := chk_callD h; exact s_callD k h1 h0 hd h2 h3 h4 h5 (sndA es _ _ _ k xs h5)
  | .new c f es ds, X, Γ, ω, k, _, h => by obtain ⟨xs, p, q, fi, rfl, hc, h1, h0, hd, h2, h3, h4, h5⟩ := chk_new h; exact s_new k hc h1 h0 hd h2 h3 h4 h5 (sndA es _ _ _ k xs h5)
  | .mc kd c f o es ds, X, Γ, ω, k, _, h => by obtain ⟨n, y, xs, p, q, fi, rfl, rfl, h1, h2, h0, hd, h3, h4, h5, h6, h7⟩ := chk_mc h; exact s_mc k (sndE o _ _ _ k y h6).pe h1 h2 h0 hd h3 h4 h5 h7 (sndA es _ _ _ k xs h7)
  | .prp c n f o, X, Γ, ω, k, _, h => by obtain ⟨y, p, rfl, h1, h2, h3⟩ := chk_prp h; exact s_prp k (sndE o _ _ _ k y h3).pe h1 h2
  | .fld c o n, X, Γ, ω, k, _, h => by obtain ⟨y, p, rfl, h1, h2, h3, h4⟩ := chk_fld h; exact s_fld k (sndE o _ _ _ k y h4).pe h1 h2 h3
  | .never, X, Γ, ω, k, _, h => s_never
  | .dnew kd, X, Γ, ω, k, _, h => by obtain ⟨p, rfl, rfl⟩ := chk_dnew h; exact s_dnew
  | .dstar d kk v, X, Γ, ω, k, _, h => by obtain ⟨a, b, c, p, rfl, h1, h2, h3⟩ := chk_dstar h; exact s_dstar (sndE d _ _ _ k a h1).pe (sndE kk _ _ _ k b h2).pe (sndE v _ _ _ k c h3).pe
  | .sset e, X, Γ, ω, k, _, h => by obtain ⟨z, p1, p2, q1, q2, rfl, h1, h2, h3, h4⟩ := chk_sset h; exact s_sset k h1 h2 h3 (sndE e _ _ _ k z h4).pe
  | .dm t o es, X, Γ, ω, k, _, h => by obtain ⟨y, xs, p, q, rfl, rfl, h1, h2, h3, h4, h5, h6⟩ := chk_dm h; exact s_index (sndE o _ _ _ k y h5).pe h1 h2 h3 h4 (sndA es _ _ _ k xs h6)
  | .tupS es, X, Γ, ω, k, _, h => by obtain ⟨xs, kk, p, rfl, h1⟩ := chk_tupS h; exact s_tupS (sndA es _ _ _ k xs h1)
  | .catS a b, X, Γ, ω, k, _, h => by obtain ⟨y, z, p, rfl, h1, h2⟩ := chk_catS h; exact s_catS (sndE a _ _ _ k y h1) (sndE b _ _ _ k z h2)
  | .xfld .., X, Γ, ω, k, x, h | .isx .., X, Γ, ω, k, x, h | .mIn .., X, Γ, ω, k, x, h | .lset .., X, Γ, ω, k, x, h | .gix .., X, Γ, ω, k, x, h => by
    exfalso
    cases x <;> exact absurd h Bool.false_ne_true
  | .blt b es, X, Γ, ω, k, _, h => by obtain ⟨xs, p, q, rfl, h1, h2, h3⟩ := chk_blt h; exact s_blt k h1 h2 (sndA es _ _ _ k xs h3)
  | .isi ts a, X, Γ, ω, k, _, h => by
    obtain ⟨y, t, p, q, rfl, h1, h2, h3, h4⟩ := chk_isi h
    rcases h4 with ⟨u, rfl, h4⟩ | ⟨ns, kk, pt, rfl, h4, h5⟩
    · exact s_isi1 k h1 h2 h4 (sndE a _ _ _ k y h3).pe
    · exact s_isiT k h1 h2 h5 (Nat.le_trans h4 (by decide)) (sndE a _ _ _ k y h3).pe
  | .frz a, X, Γ, ω, k, x, h => ⟨s_frz (sndE a _ _ _ k x h).pe, fun z => absurd z Bool.false_ne_true⟩
  | .mth t o es, X, Γ, ω, k, _, h => by obtain ⟨y, xs, p, q, rfl, h1, h2, h3, h4, h5, h6⟩ := chk_mth h; exact s_mthA (sndE o _ _ _ k y h5).pe h1 h2 h3 h4 (sndA es _ _ _ k xs h6)
theorem sndA : ∀ (es : ES) (X : Cx) (Γ : Gm) (ω : St → EW) (k : Cok X Γ C ω) (xs : List Expr), chkS Γ es xs = true → PA X xs (tA X.K C ω es)
  | .nil, X, Γ, ω, k, [], _ => a_nil
  | .cons e r, X, Γ, ω, k, x :: xs, h => by
    simp only [chkS, Bool.and_eq_true] at h
    exact a_cons (sndE e _ _ _ k x h.1.2).pe (sndA r _ _ _ k xs h.2) h.1.1
  | .star e r, X, Γ, ω, k, x :: xs, h => by
    cases x <;> first | exact absurd h Bool.false_ne_true | skip
    simp only [chkS, Bool.and_eq_true] at h
    exact a_star (sndE e _ _ _ k _ h.1).pe (sndA r _ _ _ k xs h.2)
  | .nil, X, Γ, ω, k, _ :: _, h => absurd h Bool.false_ne_true
  | .cons _ _, X, Γ, ω, k, [], h => absurd h Bool.false_ne_true
  | .star _ _, X, Γ, ω, k, [], h => absurd h Bool.false_ne_true
theorem sndB : ∀ (es : ES) (X : Cx) (Γ : Gm) (ω : St → EW) (k : Cok X Γ C ω) (xs : List Expr), chkB Γ es xs = true → SndB X C ω es xs
  | .cons e .nil, X, Γ, ω, k, [x], h => sB_one (sndE e _ _ _ k x h)
  | .cons e (.cons e2 r), X, Γ, ω, k, x :: y :: xs, h => by
    simp only [chkB, Bool.and_eq_true] at h
    exact sB_cons (sndE e _ _ _ k x h.1) (sndB (.cons e2 r) _ _ _ k (y :: xs) h.2)
  | .nil, X, Γ, ω, k, _, h => absurd h Bool.false_ne_true
  | .cons _ .nil, X, Γ, ω, k, [], h => absurd h Bool.false_ne_true
  | .cons _ .nil, X, Γ, ω, k, _ :: _ :: _, h => absurd h Bool.false_ne_true
  | .cons _ (.cons _ _), X, Γ, ω, k, [], h => absurd h Bool.false_ne_true
  | .cons _ (.cons _ _), X, Γ, ω, k, [_], h => absurd h Bool.false_ne_true
  | .cons _ (.star _ _), X, Γ, ω, k, _, h => absurd h Bool.false_ne_true
  | .star _ _, X, Γ, ω, k, _, h => absurd h Bool.false_ne_true
theorem sndO : ∀ (o : OE) (X : Cx) (Γ : Gm) (ω : St → EW) (k : Cok X Γ C ω) (x : Option Expr), chkO Γ o x = true → PO X x (tO X.K C ω o)
  | .none, X, Γ, ω, k, none, _ => o_none
  | .some e, X, Γ, ω, k, some x, h => o_some (sndE e _ _ _ k x h).pe
  | .none, X, Γ, ω, k, some _, h => absurd h Bool.false_ne_true
  | .some _, X, Γ, ω, k, none, h => absurd h Bool.false_ne_true
theorem sndL : ∀ (l : LE) (X : Cx) (Γ : Gm) (ω : St → EW) (k : Cok X Γ C ω) (kd : Kd) (x : Expr), chkL Γ l x = true → Snd X C ω (.lst kd l) x
  | .disp es, X, Γ, ω, k, kd, x, h => by obtain ⟨xs, p, rfl, h1⟩ := chkL_disp h; exact s_lst (sndA es _ _ _ k xs h1)
  | .cat a b, X, Γ, ω, k, kd, x, h => by obtain ⟨y, z, p, rfl, h1, h2⟩ := chkL_cat h; exact s_cat (sndE a _ _ _ k y h1) (sndE b _ _ _ k z h2)
  | .of e, X, Γ, ω, k, kd, x, h => by obtain ⟨y, p, q, rfl, h1, h2, h3⟩ := chkL_of h; exact s_of k h1 h2 (sndE e _ _ _ k y h3).pe
  | .comp own g src ifs elt, X, Γ, ω, k, kd, x, h => by
    obtain ⟨el, tg, it, fs, sc, p, rfl, h1, h2, h3, h4, h5, h6⟩ := chkL_comp h
    have ok := blk_ok k h1
    have hi := sndI src _ _ _ k tg it h3
    refine Snd.of (PEimp (pe_lc (g := tG X.K g) (tt := tIf X.K C nope ifs) (te := tE X.K C nope elt) k.calm k.nd hi.1 ok (fun s H Cc cl fp => pgZ (Sto.blk (own := ownOf Γ own) k s H Cc cl fp) g tg h4) (fun s H Cc cl fp => sndF ifs _ _ _ (k.blk ok s H Cc cl fp) fs h5) (fun s H Cc cl fp => (sndE elt _ _ _ (k.blk ok s H Cc cl fp) el h6).pe) (folded_ok hi.2 _)) fun σ H Q q => ?_) (fun _ => rfl)
    rw [ownOf_2]
    exact rd_comp h2 q
  | .comp2 own own2 g src ifs g2 src2 ifs2 elt, X, Γ, ω, k, kd, x, h => by
    obtain ⟨el, tg, it, fs, tg2, it2, fs2, sc, p, rfl, h1, h2, h3, h4, h5, h6, h7, h8, h9, ha, hb⟩ := chkL_comp2 h
    have ok := blk_ok k h1
    have hi := sndI src _ _ _ k tg it h5
    have o2 := ownOf_2 (Γ := Γ) own
    have it2ok : okX it2 = true := chkI_okX h8
    refine Snd.of (PEimp (pe_lc2 (vs1 := own2) (g := tG X.K g) (g1 := tG X.K g2) (tt := tIf X.K C nope ifs) (tt1 := tIf X.K C nope ifs2) (wi1 := tI X.K C nope src2) (te := tE X.K C nope elt) k.calm k.nd hi.1 ok (fun i hi => by rw [o2]; exact h4 i hi) (fun s H Cc cl fp => pgZ (Sto.blk (own := ownOf Γ own) k s H Cc cl fp) g tg h6) (fun s H Cc cl fp => sndF ifs _ _ _ (k.blk ok s H Cc cl fp) fs h7) (fun s H Cc cl fp => (sndI src2 _ _ _ (k.blk ok s H Cc cl fp) tg2 it2 h8).1) (fun s H Cc cl fp => pgZ (Sto.blk (own := ownOf Γ own) k s H Cc cl fp) g2 tg2 h9) (fun s H Cc cl fp => sndF ifs2 _ _ _ (k.blk ok s H Cc cl fp) fs2 ha) (fun s H Cc cl fp => (sndE elt _ _ _ (k.blk ok s H Cc cl fp) el hb).pe) (folded_ok hi.2 _) (fun env => folded_ok it2ok env)) fun σ H Q q => ?_) (fun _ => rfl)
    rw [o2]
    exact rd_comp2 h2 h3 q
  | .step .., X, Γ, ω, k, kd, x, h => by
    exfalso
    cases x <;> exact absurd h Bool.false_ne_true
theorem sndF : ∀ (es : ES) (X : Cx) (Γ : Gm) (ω : St → EW) (k : Cok X Γ C ω) (xs : List Expr), chkF Γ es xs = true → PTs X xs (tIf X.K C ω es)
  | .nil, X, Γ, ω, k, [], _ => f_nil
  | .cons e .nil, X, Γ, ω, k, [x], h => by
    simp only [chkF, Bool.and_eq_true] at h
    exact f_one (sndE e _ _ _ k x h.2) h.1
  | .nil, X, Γ, ω, k, _ :: _, h => absurd h Bool.false_ne_true
  | .cons _ .nil, X, Γ, ω, k, [], h => absurd h Bool.false_ne_true
  | .cons _ .nil, X, Γ, ω, k, _ :: _ :: _, h => absurd h Bool.false_ne_true
  | .cons _ (.cons _ _), X, Γ, ω, k, _, h => absurd h Bool.false_ne_true
  | .cons _ (.star _ _), X, Γ, ω, k, _, h => absurd h Bool.false_ne_true
  | .star _ _, X, Γ, ω, k, _, h => absurd h Bool.false_ne_true
theorem sndI : ∀ (it : IT) (X : Cx) (Γ : Gm) (ω : St → EW) (k : Cok X Γ C ω) (tg x : Expr), chkI Γ it tg x = true → PI X tg x (tI X.K C ω it) ∧ okX x = true
  | .seq e, X, Γ, ω, k, tg, x, h => ⟨i_seq (sndE e _ _ _ k x h).pe, chk_ok h⟩
  | .rng1 e, X, Γ, ω, k, tg, x, h => by
    cases x <;> first | exact absurd h Bool.false_ne_true | skip
    rename_i fn xs kw q
    cases fn <;> first | exact absurd h Bool.false_ne_true | skip
    rename_i n p
    rcases xs with _ | ⟨y, _ | ⟨t, xs⟩⟩ <;> cases kw <;> first | exact absurd h Bool.false_ne_true | skip
    simp only [chkI, Bool.and_eq_true, decide_eq_true_eq] at h
    obtain ⟨⟨⟨h1, h2⟩, h3⟩, h4⟩ := h
    subst h1
    exact ⟨i_rng1 k h2 h3 (sndE e _ _ _ k y h4).pe, rfl⟩
  | .rng2 a b, X, Γ, ω, k, tg, x, h => by
    cases x <;> first | exact absurd h Bool.false_ne_true | skip
    rename_i fn xs kw q
    cases fn <;> first | exact absurd h Bool.false_ne_true | skip
    rename_i n p
    rcases xs with _ | ⟨y, _ | ⟨t, _ | ⟨t2, xs⟩⟩⟩ <;> cases kw <;> first | exact absurd h Bool.false_ne_true | skip
    simp only [chkI, Bool.and_eq_true, decide_eq_true_eq] at h
    obtain ⟨⟨⟨⟨⟨h1, h2⟩, h3⟩, h4⟩, h5⟩, h6⟩ := h
    subst h1
    exact ⟨i_rng2 k h2 h3 h4 (sndE a _ _ _ k y h5).pe (sndE b _ _ _ k t h6).pe, rfl⟩
  | .enm e, X, Γ, ω, k, tg, x, h => by
    cases x <;> first | exact absurd h Bool.false_ne_true | skip
    rename_i fn xs kw q
    cases fn <;> first | exact absurd h Bool.false_ne_true | skip
    rename_i n p
    rcases xs with _ | ⟨y, _ | ⟨t, xs⟩⟩ <;> cases kw <;> first | exact absurd h Bool.false_ne_true | skip
    simp only [chkI, Bool.and_eq_true, decide_eq_true_eq] at h
    obtain ⟨⟨⟨⟨h1, h2⟩, h0⟩, h3⟩, h4⟩ := h
    subst h1
    cases tg <;> first | exact absurd h0 Bool.false_ne_true | skip
    exact ⟨i_enum k h2 h3 (sndE e _ _ _ k y h4).pe, rfl⟩
  | .zip a b, X, Γ, ω, k, tg, x, h => by
    cases x <;> first | exact absurd h Bool.false_ne_true | skip
    rename_i fn xs kw q
    cases fn <;> first | exact absurd h Bool.false_ne_true | skip
    rename_i n p
    rcases xs with _ | ⟨y, _ | ⟨t, _ | ⟨t2, xs⟩⟩⟩ <;> cases kw <;> first | exact absurd h Bool.false_ne_true | skip
    simp only [chkI, Bool.and_eq_true, decide_eq_true_eq] at h
    obtain ⟨⟨⟨⟨⟨⟨h1, h2⟩, h0⟩, h3⟩, h4⟩, h5⟩, h6⟩ := h
    subst h1
    cases tg <;> first | exact absurd h0 Bool.false_ne_true | skip
    exact ⟨i_zip k h2 h3 h4 (sndE a _ _ _ k y h5).pe (sndE b _ _ _ k t h6).pe, rfl⟩
end
end
end Z
set_option maxHeartbeats 4000000
/-! Y16: statements. -/
namespace Z
open PySem PySem.Spec PyProof.Rows L2 RZ
def ContS (K : PySem.W.Frag) (w : Wd) (H : Hp) (D : Ends) (ω : St → EW) : RT → Prop
  | .nx ρ m => ∀ σ w' H', Ext w H w' H' → Rl K w' m H' → RE K w' H' ρ σ → D.nx σ H'
  | .bk ρ m => ∀ σ w' H', Ext w H w' H' → Rl K w' m H' → RE K w' H' ρ σ → D.bk σ H'
  | .ct ρ m => ∀ σ w' H', Ext w H w' H' → Rl K w' m H' → RE K w' H' ρ σ → D.ct σ H'
  | .rt a m => ∀ v w' H', Ext w H w' H' → Rl K w' m H' → RW K w' H' a v → D.rt v H'
  | .err x ρ m => ∀ σ w' H', Ext w H w' H' → Rl K w' m H' → RE K w' H' ρ σ → ω σ x w' m H'
  | .bad => False
section
variable {K : PySem.W.Frag} {w w1 : Wd} {H H1 : Hp} {D : Ends} {ω : St → EW} {ρ : Env} {σ : St} {m : Mem} {α β : Type}
theorem ContS.later {r : RT} (e : Ext w H w1 H1) (h : ContS K w H D ω r) : ContS K w1 H1 D ω r := by
  cases r with
  | nx ρ m => exact fun σ w' H' e' => h σ w' H' (e.trans e')
  | bk ρ m => exact fun σ w' H' e' => h σ w' H' (e.trans e')
  | ct ρ m => exact fun σ w' H' e' => h σ w' H' (e.trans e')
  | rt a m => exact fun v w' H' e' => h v w' H' (e.trans e')
  | err x ρ m => exact fun σ w' H' e' => h σ w' H' (e.trans e')
  | bad => exact h
structure RestS (K : PySem.W.Frag) (w : Wd) (H : Hp) (rel : Wd → Hp → α → β → Prop) (f : α → Mem → RT) (D : Ends) (ω : St → EW) (v : β) (H1 : Hp) (a : α) (m1 : Mem) (w1 : Wd) : Prop where
  e : Ext w H w1 H1
  r : Rl K w1 m1 H1
  v : rel w1 H1 a v
  c : ContS K w1 H1 D ω (f a m1)
theorem ContS.bind {r : R α} {f : α → Mem → RT} (rel : Wd → Hp → α → β → Prop) (re : RE K w H ρ σ) (h : ContS K w H D ω (r.t ρ f)) : Cont K w H rel (fun v H1 => ∃ a m1 w1, RestS K w H rel f D ω v H1 a m1 w1) (ω σ) r := by
  cases r with
  | ok a m => exact fun v w' H' e rl rv => ⟨a, m, w', e, rl, rv, ContS.later e h⟩
  | err x m => exact fun w' H' e rl => h σ w' H' e rl (re.ext e)
  | bad => exact h
theorem ContS.seq {r : RT} {f : Env → Mem → RT} (h : ContS K w H D ω (r.s f)) : ContS K w H { D with nx := fun σ' H' => ∃ ρ m w', RE K w' H' ρ σ' ∧ Rl K w' m H' ∧ ContS K w' H' D ω (f ρ m) } ω r := by
  cases r with
  | nx ρ m => exact fun σ w' H' e rl re => ⟨ρ, m, w', re, rl, ContS.later e h⟩
  | bk ρ m => exact h
  | ct ρ m => exact h
  | rt a m => exact h
  | err x ρ m => exact h
  | bad => exact h
theorem ContS.o {o : Option α} {f : α → Mem → RT} (h : ContS K w H D ω ((ofO o m).t ρ f)) : ∃ a, o = some a ∧ ContS K w H D ω (f a m) := by
  cases o with
  | none => exact h.elim
  | some a => exact ⟨a, rfl, h⟩
theorem R.t_b {γ : Type} (r : R α) (f : α → Mem → R γ) (g : γ → Mem → RT) : (r.b f).t ρ g = r.t ρ fun a m => (f a m).t ρ g := by cases r <;> rfl
end
def tS (K : PySem.W.Frag) (C : Orc) (ω : St → EW) (t : T) : L2.TS := fun D σ H => ∃ ρ m w, RE K w H ρ σ ∧ Rl K w m H ∧ ContS K w H D ω (ex C t ρ m)
def tSs (K : PySem.W.Frag) (C : Orc) (ω : St → EW) (t : TS) : L2.TS := fun D σ H => ∃ ρ m w, RE K w H ρ σ ∧ Rl K w m H ∧ ContS K w H D ω (exs C t ρ m)
theorem PSimp {X : Cx} {st : Stmt} {t t' : L2.TS} (h : PS X st t) (i : ∀ D σ H, t' D σ H → t D σ H) : PS X st t' := ⟨fun pins s σ H D I q => h.run pins s σ H D I (i _ _ _ q)⟩
theorem PSsimp {X : Cx} {st : List Stmt} {t t' : L2.TS} (h : PSs X st t) (i : ∀ D σ H, t' D σ H → t D σ H) : PSs X st t' := ⟨fun pins s σ H D I q => h.run pins s σ H D I (i _ _ _ q)⟩
structure CokS (X : Cx) (Γ : Gm) (C : Orc) (ω : St → EW) : Prop where
  k : Cok X Γ C ω
  s : Sto X Γ
  hp : PassesOwn (model X.prog X.w) X.A X.env X.xe
  tk : L2.Takes X (fun cls d σ H => ∃ x w m, Rl X.K w m H ∧ RX X.K w H x cls d ∧ ω σ x w m H)
/-! ### the checker -/
def isComp : Expr → Bool
  | .ListComp .. => true
  | .SetComp .. => true
  | .DictComp .. => true
  | _ => false
def isLst : E → Bool
  | .lst _ (.comp ..) => true
  | _ => false
/-- a plain store -/
def asgOk (Γ : Gm) (tg v : Expr) : Bool := match tg with
  | .Name x _ => !isComp v || decide (Γ.nm.lookup x = some .cell)
  | .Tuple ts _ _ => match v with
    | .Tuple vs _ _ => vs.all (foldedForSure 8)
    | _ => true
  | _ => false
/-- .. a comprehension, stored by the compiler's own road -/
def asgLc (Γ : Gm) (tg v : Expr) : Bool := match tg, v with
  | .Name x px, .ListComp _ _ sc p => decide (Γ.nm.lookup x = some .local) && (px.line == p.line) && !(sc.names.any fun (n, k) => n == x && (k == .local || k == .cell))
  | _, _ => false
def locs (Γ : Gm) : List Nat → List Expr → Nat → Bool
  | [], [], _ => true
  | i :: is, .Name x p :: xs, l => decide (Γ.N[i]? = some x) && decide (Γ.nm.lookup x = some .local) && (p.line == l) && !(is.contains i) && locs Γ is xs l
  | _, _, _ => false
def line0 : List Expr → Nat
  | x :: _ => x.pos.line
  | [] => 0
def notName : Expr → Bool
  | .Attribute .. => true
  | .Subscript .. => true
  | _ => false
/-- no plain local name -/
def notLoc (Γ : Gm) : Expr → Bool
  | .Attribute .. => true
  | .Subscript .. => true
  | .Name x _ => !decide (Γ.nm.lookup x = some .local)
  | _ => false
def chkTg (Γ : Gm) : Tg → Expr → Bool
  | .nm i, .Name x _ => decide (Γ.N[i]? = some x) && locN Γ x
  | .fld c o f, .Attribute y n _ => decide (n = f) && decide ((c, n) ∈ Γ.fl) && decide (c ∈ Γ.cl) && chk Γ o y
  | .it c f o i, .Subscript y z _ => (match Γ.mt.lookup (c, ("__setitem__" : Str)) with | some fi => decide (fi.id = f) && dflt fi [] 3 | none => false) && okX z && chk Γ o y && chk Γ i z
  | _, _ => false
def chkTgs (Γ : Gm) : List Tg → List Expr → Bool
  | [], [] => true
  | t :: ts, x :: xs => chkTg Γ t x && chkTgs Γ ts xs
  | _, _ => false
def isTupS : Expr → Bool
  | .Tuple .. => true
  | _ => false
mutual
def chkT (Γ : Gm) : T → Stmt → Bool
  | .asg g e, .Assign [tg] v _ => chk Γ e v && chkG Γ g tg && (asgOk Γ tg v || (asgLc Γ tg v && isLst e))
  | .par is es, .Assign [.Tuple ts _ _] (.Tuple vs _ _) _ => decide (is.length = 2 ∨ is.length = 3) && locs Γ is ts (line0 ts) && vs.all notStar && !(vs.all (foldedForSure 8)) && !(vs.all (constantsAlone 8)) && decide (vs.length = ts.length) && chkS Γ es vs
  | .setIx o i e, .Assign [.Subscript x y _] v _ => okX y && !isComp v && chk Γ o x && chk Γ i y && chk Γ e v
  | .st1 t e, .Assign [tg] v _ => notName tg && chkTg Γ t tg && chk Γ e v
  | .unp ts es, .Assign [.Tuple tgs _ _] (.Tuple vs _ _) _ => (tgs.any (notLoc Γ) || decide (3 < tgs.length)) && chkTgs Γ ts tgs && chkS Γ es vs
  | .unpD ts e, .Assign [.Tuple tgs _ _] v _ => !isComp v && !isTupS v && chkTgs Γ ts tgs && chk Γ e v
  | .ex e, .Expr x _ => !isComp x && chk Γ e x
  | .ret e, .Return (some x) _ => chk Γ e x
  | .retN, .Return none _ => true
  | .ife c a b, .If x y z _ => tst c && chk Γ c x && chkTs Γ a y && chkTs Γ b z
  | .forT g it b, .For tg x y [] _ => chkG Γ g tg && chkI Γ it tg x && chkTs Γ b y
  | .while _ c b, .While x y [] _ => tst c && chk Γ c x && chkTs Γ b y
  | .brk, .Break _ => true
  | .cont, .Continue _ => true
  | .pass, .Pass _ => true
  | .tryT b, .Try body (_ :: _) [] [] _ => chkTs Γ b body
  | .never, _ => true
  | _, _ => false
def chkTs (Γ : Gm) : TS → List Stmt → Bool
  | .nil, [] => true
  | .cons t r, x :: xs => chkT Γ t x && chkTs Γ r xs
  | _, _ => false
end
section
variable {X : Cx} {Γ : Gm} {C : Orc} {ω : St → EW}
theorem sw_plain {v : Expr} {t : Option Expr} {l : Nat} {env : PySem.Env} (h : isComp v = false) : swapsWith v t l env = pure false := by
  cases v <;> first | rfl | cases h
theorem kind_blk (k : Cok X Γ C ω) : X.env.blockKind = .function := by
  unfold PySem.Env.blockKind
  rw [k.kd]
  rfl
theorem asg_sw {tg v : Expr} {l : Nat} (k : Cok X Γ C ω) (h : asgOk Γ tg v = true) : swapsWithSole [tg] v l X.env = pure false := by
  show swapsWith v (some tg) l X.env = pure false
  cases hc : isComp v with
  | false => exact sw_plain hc
  | true =>
    cases tg <;> first | exact absurd h Bool.false_ne_true | skip
    · rename_i x px
      simp only [asgOk, hc, Bool.not_true, Bool.false_or, decide_eq_true_eq] at h
      have : X.env.kindOf x = some .cell := by show X.env.scope.names.lookup x = _; rw [k.nm]; exact h
      unfold swapsWith
      cases v <;> first | rfl | skip
      all_goals (simp only [this]; rw [show ((some NameKind.cell : Option NameKind) == some .local) = false from rfl, Bool.and_false, Bool.false_and, Bool.false_and])
    · cases v <;> first | rfl | cases hc
theorem asg_st {tg v : Expr} {g : G} (k : Cok X Γ C ω) (hg : chkG Γ g tg = true) (h : asgOk Γ tg v = true) : swappedStores [tg] v X.env = pure none := by
  cases tg <;> first | exact absurd h Bool.false_ne_true | skip
  · cases v <;> rfl
  · rename_i ts kk p
    cases v <;> first | rfl | skip
    rename_i vs kk2 p2
    have h : vs.all (foldedForSure 8) = true := h
    unfold swappedStores
    simp only [h, if_true]
    split
    · rfl
    · split
      · rfl
      · split
        · rfl
        · rfl
theorem any_star {vs : List Expr} {f : Expr → Bool} (hf : ∀ x, notStar x = true → f x = false) (h : vs.all notStar = true) : ¬ vs.any f = true := by
  rw [Bool.not_eq_true, List.any_eq_false]
  intro x hx
  rw [hf x (List.all_eq_true.mp h x hx)]
  exact Bool.false_ne_true
theorem par_st2 {x y : Str} {px py pt p2 : Pos} {kt k2 : Nat} {vs : List Expr} (k : Cok X Γ C ω) (hx : Γ.nm.lookup x = some .local) (hy : Γ.nm.lookup y = some .local) (hl : (py.line == px.line) = true) (hne : x ≠ y)
    (h1 : vs.all notStar = true) (h2 : vs.all (foldedForSure 8) = false) (h3 : vs.all (constantsAlone 8) = false) (h4 : vs.length = 2) :
    swappedStores [.Tuple [.Name x px, .Name y py] kt pt] (.Tuple vs k2 p2) X.env = pure (some [x, y]) := by
  have e1 : X.env.kindOf x = some .local := by show X.env.scope.names.lookup x = _; rw [k.nm]; exact hx
  have e2 : X.env.kindOf y = some .local := by show X.env.scope.names.lookup y = _; rw [k.nm]; exact hy
  unfold swappedStores
  have hne' : (y == x) = false := by simpa using Ne.symm hne
  have hd : [x, y].eraseDups = [x, y] := by
    rw [List.eraseDups_cons]
    simp [hne', List.eraseDups_cons]
  simp only [kind_blk k, h2, h3, h4, List.length_cons, List.length_nil, List.filterMap_cons, List.filterMap_nil, e1, e2, Expr.pos, List.head?_cons, Option.map_some, Option.getD_some, hl, beq_self_eq_true, Bool.true_and, if_true, hd]
  rw [if_neg (by decide), if_neg (any_star (fun x hx => by cases x <;> first | rfl | exact absurd hx Bool.false_ne_true) h1)]
  rfl
theorem par_st3 {x y z : Str} {px py pz pt p2 : Pos} {kt k2 : Nat} {vs : List Expr} (k : Cok X Γ C ω) (hx : Γ.nm.lookup x = some .local) (hy : Γ.nm.lookup y = some .local) (hz : Γ.nm.lookup z = some .local) (hl : (py.line == px.line) = true) (hl2 : (pz.line == px.line) = true) (hne : x ≠ y) (hne2 : x ≠ z) (hne3 : y ≠ z)
    (h1 : vs.all notStar = true) (h2 : vs.all (foldedForSure 8) = false) (h3 : vs.all (constantsAlone 8) = false) (h4 : vs.length = 3) :
    swappedStores [.Tuple [.Name x px, .Name y py, .Name z pz] kt pt] (.Tuple vs k2 p2) X.env = pure (some [x, y, z]) := by
  have e1 : X.env.kindOf x = some .local := by show X.env.scope.names.lookup x = _; rw [k.nm]; exact hx
  have e2 : X.env.kindOf y = some .local := by show X.env.scope.names.lookup y = _; rw [k.nm]; exact hy
  have e3 : X.env.kindOf z = some .local := by show X.env.scope.names.lookup z = _; rw [k.nm]; exact hz
  unfold swappedStores
  have n1 : (y == x) = false := by simpa using Ne.symm hne
  have n2 : (z == x) = false := by simpa using Ne.symm hne2
  have n3 : (z == y) = false := by simpa using Ne.symm hne3
  have hd : [x, y, z].eraseDups = [x, y, z] := by
    rw [List.eraseDups_cons]
    simp [n1, n2, n3, List.eraseDups_cons]
  simp only [kind_blk k, h2, h3, h4, List.length_cons, List.length_nil, List.filterMap_cons, List.filterMap_nil, e1, e2, e3, Expr.pos, List.head?_cons, Option.map_some, Option.getD_some, hl, hl2, beq_self_eq_true, Bool.true_and, if_true, hd]
  rw [if_neg (by decide), if_neg (any_star (fun x hx => by cases x <;> first | rfl | exact absurd hx Bool.false_ne_true) h1)]
  rfl
/-! ### each statement -/
theorem t_asg {g : G} {e : E} {tg v : Expr} {p : Pos} (k : CokS X Γ C ω) (he : PE X v (tE X.K C ω e)) (hg : chkG Γ g tg = true) (ho : asgOk Γ tg v = true) : PS X (.Assign [tg] v p) (tS X.K C ω (.asg g e)) := by
  refine PSimp (ps_asg he (pgZ k.s g tg hg) (asg_sw k.k ho) (asg_st k.k hg ho) ?_) fun D σ H q => ?_
  · rw [assignEach_cons (chkG_star hg)]
    rfl
  · obtain ⟨ρ, m, w, re, rl, c⟩ := q
    simp only [ex] at c
    refine ⟨ρ, m, w, re, rl, (ContS.bind (RW X.K) re c).imp ?_⟩
    rintro v H1 ⟨a1, m1, w1, R1⟩
    have c := R1.c
    split at c
    · rename_i ρ' e
      exact ⟨ρ, w1, a1, ρ', re.ext R1.e, R1.v, e, fun σ' re' _ => c σ' w1 H1 (Ext.refl _ _) R1.r re'⟩
    · exact c.elim
theorem t_lc {g : G} {kd : Kd} {own : List Nat} {g' : G} {src : IT} {ifs : ES} {elt : E} {tg v : Expr} {p : Pos} (k : CokS X Γ C ω) (he : chkL Γ (.comp own g' src ifs elt) v = true) (hg : chkG Γ g tg = true) (ho : asgLc Γ tg v = true) : PS X (.Assign [tg] v p) (tS X.K C ω (.asg g (.lst kd (.comp own g' src ifs elt)))) := by
  obtain ⟨el, tg', it, fs, sc, p', rfl, h1, h2, h3, h4, h5, h6⟩ := chkL_comp he
  have ok := blk_ok k.k h1
  have hi := sndI src _ _ _ k.k tg' it h3
  cases tg <;> first | exact absurd ho Bool.false_ne_true | skip
  rename_i x px
  cases g <;> first | exact absurd hg Bool.false_ne_true | skip
  rename_i i
  simp only [asgLc, Bool.and_eq_true, decide_eq_true_eq, Bool.not_eq_true'] at ho
  obtain ⟨⟨o1, o2⟩, o3⟩ := ho
  have hN : X.N[i]? = some x := by
    rw [k.k.N]
    have hg : (decide (Γ.N[i]? = some x) && locN Γ x) = true := hg
    rw [Bool.and_eq_true, decide_eq_true_eq] at hg
    exact hg.1
  have hx : X.env.scope.names.lookup x = some .local := by rw [k.k.nm]; exact o1
  refine PSimp (ps_setLc (g := tG X.K g') (tt := tIf X.K C nope ifs) (te := tE X.K C nope elt) k.k.calm k.k.nd hN hx (sw_true k.k.kd hx o2 o3) hi.1 ok (fun s H Cc cl fp => pgZ (Sto.blk (own := ownOf Γ own) k.k s H Cc cl fp) g' tg' h4) (fun s H Cc cl fp => sndF ifs _ _ _ (k.k.blk ok s H Cc cl fp) fs h5) (fun s H Cc cl fp => (sndE elt _ _ _ (k.k.blk ok s H Cc cl fp) el h6).pe) (folded_ok hi.2 _)) fun D σ H q => ?_
  show tLc _ _ _ _ _ σ H fun x H1 => D.nx (σ.set i (some x)) H1
  rw [ownOf_2]
  refine rd_comp (k := kd) h2 ?_
  obtain ⟨ρ, m, w, re, rl, c⟩ := q
  simp only [ex] at c
  refine ⟨ρ, m, w, re, rl, (ContS.bind (RW X.K) re c).imp ?_⟩
  rintro v H1 ⟨a1, m1, w1, R1⟩
  have c := R1.c
  split at c
  · rename_i ρ' e
    obtain ⟨_, rfl⟩ := asg_nm e
    exact c _ w1 H1 (Ext.refl _ _) R1.r ((re.ext R1.e).set R1.v)
  · exact c.elim
theorem nodup_at {α : Type} : ∀ {l : List α} {i j : Nat} {x : α}, l.Nodup → l[i]? = some x → l[j]? = some x → i = j
  | y :: l, 0, 0, x, _, _, _ => rfl
  | y :: l, 0, j + 1, x, nd, h1, h2 => by
    rw [List.getElem?_cons_zero] at h1
    rw [List.getElem?_cons_succ] at h2
    cases h1
    exact absurd (List.mem_of_getElem? h2) (List.nodup_cons.mp nd).1
  | y :: l, i + 1, 0, x, nd, h1, h2 => by
    rw [List.getElem?_cons_zero] at h2
    rw [List.getElem?_cons_succ] at h1
    cases h2
    exact absurd (List.mem_of_getElem? h1) (List.nodup_cons.mp nd).1
  | y :: l, i + 1, j + 1, x, nd, h1, h2 => by
    rw [List.getElem?_cons_succ] at h1 h2
    exact congrArg (· + 1) (nodup_at (List.nodup_cons.mp nd).2 h1 h2)
  | [], _, _, _, _, h, _ => by simp at h
theorem locs_ok {is : List Nat} {ts : List Expr} {l : Nat} (h : locs Γ is ts l = true) : ∃ xs : List (Str × Pos), ts = xs.map (fun y => .Name y.1 y.2) ∧ is.length = xs.length ∧ is.Nodup ∧ ∀ (n i : Nat) (x : Str) (p : Pos), is[n]? = some i → xs[n]? = some (x, p) → Γ.N[i]? = some x ∧ Γ.nm.lookup x = some .local ∧ (p.line == l) = true := by
  induction is generalizing ts with
  | nil =>
    cases ts with
    | nil => exact ⟨[], rfl, rfl, .nil, fun n i x p h => by simp at h⟩
    | cons _ _ => cases h
  | cons i is ih =>
    cases ts with
    | nil => cases h
    | cons t ts =>
      cases t <;> first | exact absurd h Bool.false_ne_true | skip
      rename_i x p
      simp only [locs, Bool.and_eq_true, decide_eq_true_eq, Bool.not_eq_true'] at h
      obtain ⟨⟨⟨⟨h1, h2⟩, h3⟩, h4⟩, h5⟩ := h
      obtain ⟨xs, e1, e2, e3, e4⟩ := ih h5
      refine ⟨(x, p) :: xs, by rw [e1]; rfl, by rw [List.length_cons, List.length_cons, e2], List.nodup_cons.mpr ⟨by simpa using h4, e3⟩, fun n i x p g1 g2 => ?_⟩
      cases n with
      | zero =>
        rw [List.getElem?_cons_zero] at g1 g2
        cases g1
        cases g2
        exact ⟨h1, h2, h3⟩
      | succ n => exact e4 n i x p (by simpa using g1) (by simpa using g2)
theorem t_par {is : List Nat} {es : ES} {ts vs : List Expr} {kt k2 : Nat} {p p2 pos : Pos} (k : CokS X Γ C ω) (h : chkT Γ (.par is es) (.Assign [.Tuple ts kt p] (.Tuple vs k2 p2) pos) = true) : PS X (.Assign [.Tuple ts kt p] (.Tuple vs k2 p2) pos) (tS X.K C ω (.par is es)) := by
  simp only [chkT, Bool.and_eq_true, decide_eq_true_eq, Bool.not_eq_true'] at h
  obtain ⟨⟨⟨⟨⟨⟨h1, h2⟩, h3⟩, h4⟩, h5⟩, h6⟩, h7⟩ := h
  obtain ⟨xs, rfl, e2, nd, e4⟩ := locs_ok h2
  have ha := sndA es _ _ _ k.k vs h7
  have inj : ∀ {i j : Nat} {x y : Str}, Γ.N[i]? = some x → Γ.N[j]? = some y → i ≠ j → x ≠ y := fun {i j x y} g1 g2 hij e => by
    subst e
    have nd := k.k.nd
    rw [k.k.N] at nd
    exact hij (nodup_at nd g1 g2)
  rcases is with _ | ⟨i, _ | ⟨j, _ | ⟨l, _ | ⟨_, _⟩⟩⟩⟩ <;> simp only [List.length_cons, List.length_nil] at h1 <;> first | (exfalso; omega) | skip
  · rcases xs with _ | ⟨⟨x, px⟩, _ | ⟨⟨y, py⟩, _ | ⟨_, _⟩⟩⟩ <;> simp only [List.length_cons, List.length_nil] at e2 <;> first | (exfalso; omega) | skip
    obtain ⟨a1, a2, a3⟩ := e4 0 i x px rfl rfl
    obtain ⟨b1, b2, b3⟩ := e4 1 j y py rfl rfl
    have hij : i ≠ j := fun e => by subst e; simp at nd
    rcases vs with _ | ⟨v1, _ | ⟨v2, _ | ⟨_, _⟩⟩⟩ <;> simp only [List.length_cons, List.length_nil, List.map_cons, List.map_nil] at h6 <;> first | (exfalso; omega) | skip
    refine PSimp (ps_par k.k.calm k.k.nd (by rw [k.k.N]; exact a1) (by rw [k.k.N]; exact b1) hij (by rw [k.k.nm]; exact a2) (by rw [k.k.nm]; exact b2) ha (par_st2 k.k a2 b2 b3 (inj a1 b1 hij) h3 h4 h5 rfl) rfl) fun D σ H q => ?_
    obtain ⟨ρ, m, w, re, rl, c⟩ := q
    simp only [ex] at c
    refine ⟨ρ, m, w, re, rl, (ContS.bind (RWs X.K) re c).imp ?_⟩
    rintro us H1 ⟨ws, m1, w1, R1⟩
    have c := R1.c
    have hv := R1.v
    split at c
    · rename_i ρ' e
      cases hv with
      | nil => cases e
      | cons v1 t1 =>
        cases t1 with
        | nil => simp only [setL] at e; split at e <;> cases e
        | cons v2 t2 =>
          cases t2 with
          | cons _ _ => simp only [setL] at e; split at e <;> first | cases e | (split at e <;> cases e)
          | nil =>
            simp only [setL] at e
            split at e
            · split at e
              · cases e
                exact ⟨_, _, rfl, c _ w1 H1 (Ext.refl _ _) R1.r (((re.ext R1.e).set v1).set v2)⟩
              · cases e
            · cases e
    · exact c.elim
  · rcases xs with _ | ⟨⟨x, px⟩, _ | ⟨⟨y, py⟩, _ | ⟨⟨z, pz⟩, _ | ⟨_, _⟩⟩⟩⟩ <;> simp only [List.length_cons, List.length_nil] at e2 <;> first | (exfalso; omega) | skip
    obtain ⟨a1, a2, a3⟩ := e4 0 i x px rfl rfl
    obtain ⟨b1, b2, b3⟩ := e4 1 j y py rfl rfl
    obtain ⟨c1, c2, c3⟩ := e4 2 l z pz rfl rfl
    have hij : i ≠ j := fun e => by subst e; simp at nd
    have hil : i ≠ l := fun e => by subst e; simp at nd
    have hjl : j ≠ l := fun e => by subst e; simp at nd
    rcases vs with _ | ⟨v1, _ | ⟨v2, _ | ⟨v3, _ | ⟨_, _⟩⟩⟩⟩ <;> simp only [List.length_cons, List.length_nil, List.map_cons, List.map_nil] at h6 <;> first | (exfalso; omega) | skip
    refine PSimp (ps_par3 k.k.calm k.k.nd (by rw [k.k.N]; exact a1) (by rw [k.k.N]; exact b1) (by rw [k.k.N]; exact c1) hij hil hjl (by rw [k.k.nm]; exact a2) (by rw [k.k.nm]; exact b2) (by rw [k.k.nm]; exact c2) ha (par_st3 k.k a2 b2 c2 b3 c3 (inj a1 b1 hij) (inj a1 c1 hil) (inj b1 c1 hjl) h3 h4 h5 rfl) rfl) fun D σ H q => ?_
    obtain ⟨ρ, m, w, re, rl, c⟩ := q
    simp only [ex] at c
    refine ⟨ρ, m, w, re, rl, (ContS.bind (RWs X.K) re c).imp ?_⟩
    rintro us H1 ⟨ws, m1, w1, R1⟩
    have c := R1.c
    have hv := R1.v
    split at c
    · rename_i ρ' e
      have hl : us.length = 3 := by
        rw [← hv.length]
        clear c hv R1
        rcases ws with _ | ⟨_, _ | ⟨_, _ | ⟨_, _ | ⟨_, _⟩⟩⟩⟩ <;> simp only [setL] at e <;> first | rfl | cases e | (split at e <;> first | cases e | (split at e <;> first | cases e | (split at e <;> cases e)))
      cases hv with
      | nil => cases hl
      | cons v1 t1 =>
        cases t1 with
        | nil => cases hl
        | cons v2 t2 =>
          cases t2 with
          | nil => cases hl
          | cons v3 t3 =>
            cases t3 with
            | cons _ _ => simp at hl
            | nil =>
              simp only [setL] at e
              split at e
              · split at e
                · split at e
                  · cases e
                    exact ⟨_, _, _, rfl, c _ w1 H1 (Ext.refl _ _) R1.r ((((re.ext R1.e).set v1).set v2).set v3)⟩
                  · cases e
                · cases e
              · cases e
    · exact c.elim
theorem t_setIx {o i e : E} {x y v : Expr} {p q : Pos} (k : CokS X Γ C ω) (ho : PE X x (tE X.K C ω o)) (hi : PE X y (tE X.K C ω i)) (he : PE X v (tE X.K C ω e)) (hy : okX y = true) (hc : isComp v = false) : PS X (.Assign [.Subscript x y p] v q) (tS X.K C ω (.setIx o i e)) := by
  have ha : ∀ u, assign (.Subscript x y p) X.env u = (do
      let ov ← holding [u] (eval x X.env)
      let iv ← holding [u, ov] (eval y X.env)
      standAt p
      holding [u, ov, iv] (setItem ov iv u)
      release [u, ov, iv] []) := by
    intro u
    cases y <;> first | exact absurd hy Bool.false_ne_true | rfl
  refine PSimp (ps_asg he (pg_sub ho hi set_list ha) (by show swapsWith v (some (.Subscript x y p)) q.line X.env = pure false; exact sw_plain hc) rfl rfl) fun D σ H q => ?_
  obtain ⟨ρ, m, w, re, rl, c⟩ := q
  simp only [ex] at c
  refine ⟨ρ, m, w, re, rl, (ContS.bind (RW X.K) re c).imp ?_⟩
  rintro u H1 ⟨a1, m1, w1, R1⟩
  refine ⟨ρ, m1, w1, re.ext R1.e, R1.r, (ContS.bind (RW X.K) (re.ext R1.e) R1.c).imp ?_⟩
  rintro u2 H2 ⟨a2, m2, w2, R2⟩
  have re2 := (re.ext R1.e).ext R2.e
  refine ⟨ρ, m2, w2, re2, R2.r, (ContS.bind (RW X.K) re2 R2.c).imp ?_⟩
  rintro u3 H3 ⟨a3, m3, w3, R3⟩
  have c := R3.c
  split at c
  · rename_i m' e
    exact setIxW_ok R3.r (R2.v.ext R3.e) R3.v ((R1.v.ext R2.e).ext R3.e) e fun w' H' ex r => c σ w' H' ex r ((re2.ext R3.e).ext ex)
  · exact c.elim
theorem t_ex {e : E} {x : Expr} {p : Pos} (he : PE X x (tE X.K C ω e)) (hc : isComp x = false) : PS X (.Expr x p) (tS X.K C ω (.ex e)) := PSimp (ps_expr he (sw_plain hc)) fun D σ H q => by
  obtain ⟨ρ, m, w, re, rl, c⟩ := q
  simp only [ex] at c
  refine ⟨ρ, m, w, re, rl, (ContS.bind (RW X.K) re c).imp ?_⟩
  rintro u H1 ⟨a1, m1, w1, R1⟩
  exact R1.c σ w1 H1 (Ext.refl _ _) R1.r (re.ext R1.e)
theorem t_ret {e : E} {x : Expr} {p : Pos} (he : PE X x (tE X.K C ω e)) : PS X (.Return (some x) p) (tS X.K C ω (.ret e)) := PSimp (ps_ret he) fun D σ H q => by
  obtain ⟨ρ, m, w, re, rl, c⟩ := q
  simp only [ex] at c
  refine ⟨ρ, m, w, re, rl, (ContS.bind (RW X.K) re c).imp ?_⟩
  rintro u H1 ⟨a1, m1, w1, R1⟩
  have c := R1.c
  cases a1 with
  | loc n => exact c.elim
  | v d => exact c _ w1 H1 (Ext.refl _ _) R1.r R1.v
  | ref n => exact c _ w1 H1 (Ext.refl _ _) R1.r R1.v
  | ro ds => exact c _ w1 H1 (Ext.refl _ _) R1.r R1.v
  | exc x => exact c _ w1 H1 (Ext.refl _ _) R1.r R1.v
  | tv ds => exact c _ w1 H1 (Ext.refl _ _) R1.r R1.v
theorem t_retN {p : Pos} : PS X (.Return none p) (tS X.K C ω .retN) := PSimp ps_retN fun D σ H q => by
  obtain ⟨ρ, m, w, re, rl, c⟩ := q
  simp only [ex] at c
  exact c _ w H (Ext.refl _ _) rl (.v .non)
theorem t_ife {c : E} {a b : TS} {x : Expr} {y z : List Stmt} {p : Pos} (hc : L2.PT X x (tT X.K C ω c)) (ha : PSs X y (tSs X.K C ω a)) (hb : PSs X z (tSs X.K C ω b)) : PS X (.If x y z p) (tS X.K C ω (.ife c a b)) := PSimp (ps_if hc ha hb) fun D σ H q => by
  obtain ⟨ρ, m, w, re, rl, cc⟩ := q
  simp only [ex] at cc
  rw [← R.t_b] at cc
  refine ⟨ρ, m, w, re, rl, (ContS.bind (fun _ _ a b => a = b) re cc).imp ?_⟩
  rintro u H1 ⟨a1, m1, w1, R1⟩
  obtain rfl := R1.v
  have c1 := R1.c
  cases a1 with
  | true => simp only [if_true] at c1 ⊢; exact ⟨ρ, m1, w1, re.ext R1.e, R1.r, c1⟩
  | false => simp only [Bool.false_eq_true, if_false] at c1 ⊢; exact ⟨ρ, m1, w1, re.ext R1.e, R1.r, c1⟩
theorem t_for {g : G} {it : IT} {b : TS} {tg x : Expr} {y : List Stmt} {p : Pos} (k : CokS X Γ C ω) (hi : PI X tg x (tI X.K C ω it)) (hx : okX x = true) (hg : PG X tg (tG X.K g)) (hb : PSs X y (tSs X.K C ω b)) : PS X (.For tg x y [] p) (tS X.K C ω (.forT g it b)) := PSimp (ps_for k.hp k.k.calm hi hg hb (folded_ok hx _)) fun D σ H q => by
  obtain ⟨ρ, m, w, re, rl, cc⟩ := q
  simp only [ex] at cc
  refine ⟨ρ, m, w, re, rl, (ContS.bind (relI X.K) re cc).imp ?_⟩
  rintro J H1 ⟨ds, m1, w1, R1⟩
  obtain ⟨Gz, wz, g0⟩ := R1.v
  have c1 := R1.c
  generalize hf : (fun (d : PyData) (ρ : Env) (m : Mem) => match asg g (.v d) ρ with
    | some ρ => exs C b ρ m
    | none => RT.bad) = f at c1
  refine ⟨fun i n σ H => n = ds.length - i ∧ i ≤ ds.length ∧ ∃ ρ m w', RE X.K w' H ρ σ ∧ Rl X.K w' m H ∧ Gz w' H ∧ ContS X.K w' H D ω (forR f (ds.drop i) ρ m),
    ⟨ds.length, by simp, Nat.zero_le _, ρ, m1, w1, re.ext R1.e, R1.r, g0, c1⟩, ?_⟩
  rintro i n σ2 H2 ⟨rfl, hi, ρ2, m2, w2, re2, r2, g2, c2⟩
  by_cases hlt : i < ds.length
  · refine .inr ⟨wz.go i w2 H2 hlt g2, fun σ H => ∃ ρ m w', RE X.K w' H ρ σ ∧ Rl X.K w' m H ∧ Gz w' H ∧ ContS X.K w' H D ω (forR f (ds.drop (i + 1)) ρ m), fun σ' H' h => ⟨ds.length - (i + 1), by omega, rfl, hlt, h⟩, fun x H3 yy => ?_⟩
    obtain ⟨e3, r3, v3⟩ := wz.yld i w2 m2 H2 x H3 ds[i] (List.getElem?_eq_getElem hlt) g2 r2 yy
    have c3 := ContS.later e3 c2
    rw [List.drop_eq_getElem_cons hlt] at c3
    unfold forR at c3
    rw [← hf] at c3
    dsimp only at c3
    cases ha : asg g (.v ds[i]) ρ2 with
    | none => rw [ha] at c3; exact c3.elim
    | some ρ3 =>
      rw [ha] at c3
      rw [hf] at c3
      dsimp only at c3
      refine ⟨ρ2, w2, _, ρ3, re2.ext e3, .v v3, ha, fun σ4 re4 _ => ⟨ρ3, m2, w2, re4, r3, ?_⟩⟩
      have gn : ∀ {w' H'}, Ext w2 H3 w' H' → Gz w' H' := fun e => wz.ext _ _ _ _ g2 (e3.trans e)
      cases hz : exs C b ρ3 m2 with
      | nx ρ5 m5 => rw [hz] at c3; exact fun σ w' H' e r re => ⟨ρ5, m5, w', re, r, gn e, ContS.later e c3⟩
      | ct ρ5 m5 => rw [hz] at c3; exact fun σ w' H' e r re => ⟨ρ5, m5, w', re, r, gn e, ContS.later e c3⟩
      | bk ρ5 m5 => rw [hz] at c3; exact c3
      | rt a m5 => rw [hz] at c3; exact c3
      | err x ρ5 m5 => rw [hz] at c3; exact c3
      | bad => rw [hz] at c3; exact c3
  · have e : i = ds.length := by omega
    subst e
    rw [List.drop_length] at c2
    exact .inl ⟨wz.stop w2 H2 g2, c2 σ2 w2 H2 (Ext.refl _ _) r2 re2⟩
theorem t_while {n : Nat} {c : E} {b : TS} {x : Expr} {y : List Stmt} {p : Pos} (k : CokS X Γ C ω) (hc : L2.PT X x (tT X.K C ω c)) (hb : PSs X y (tSs X.K C ω b)) : PS X (.While x y [] p) (tS X.K C ω (.while n c b)) := PSimp (ps_while k.hp hc hb) fun D σ H q => by
  obtain ⟨ρ, m, w, re, rl, cc⟩ := q
  simp only [ex] at cc
  generalize hcf : (fun (ρ : Env) (m : Mem) => (ev C c ρ m).b fun x m => ofO (truW m x) m) = cf at cc
  refine ⟨fun n σ H => ∃ ρ m w, RE X.K w H ρ σ ∧ Rl X.K w m H ∧ ContS X.K w H D ω (whileR cf (exs C b) n ρ m), ⟨n, ρ, m, w, re, rl, cc⟩, ?_⟩
  rintro n σ H ⟨ρ, m, w, re, rl, cc⟩
  cases n with
  | zero => exact cc.elim
  | succ n =>
    unfold whileR at cc
    rw [← hcf] at cc
    refine ⟨ρ, m, w, re, rl, (ContS.bind (fun _ _ a b => a = b) re cc).imp ?_⟩
    rw [hcf]
    rintro u H1 ⟨a1, m1, w1, R1⟩
    obtain rfl := R1.v
    have c1 := R1.c
    cases a1 with
    | false => simp only [Bool.false_eq_true, if_false] at c1 ⊢; exact c1 σ w1 H1 (Ext.refl _ _) R1.r (re.ext R1.e)
    | true =>
      simp only [if_true] at c1 ⊢
      refine ⟨fun σ H => ∃ ρ m w, RE X.K w H ρ σ ∧ Rl X.K w m H ∧ ContS X.K w H D ω (whileR cf (exs C b) n ρ m), fun σ' H' h => ⟨n, Nat.lt_succ_self _, h⟩, ρ, m1, w1, re.ext R1.e, R1.r, ?_⟩
      cases hz : exs C b ρ m1 with
      | nx ρ5 m5 => rw [hz] at c1; exact fun σ w' H' e r re => ⟨ρ5, m5, w', re, r, ContS.later e c1⟩
      | ct ρ5 m5 => rw [hz] at c1; exact fun σ w' H' e r re => ⟨ρ5, m5, w', re, r, ContS.later e c1⟩
      | bk ρ5 m5 => rw [hz] at c1; exact c1
      | rt a m5 => rw [hz] at c1; exact c1
      | err x ρ5 m5 => rw [hz] at c1; exact c1
      | bad => rw [hz] at c1; exact c1
theorem ts_nil : PSs X [] (tSs X.K C ω .nil) := PSsimp pss_nil fun D σ H q => by
  obtain ⟨ρ, m, w, re, rl, c⟩ := q
  simp only [exs] at c
  exact c σ w H (Ext.refl _ _) rl re
theorem ts_cons {t : T} {r : TS} {s : Stmt} {ss : List Stmt} (h : PS X s (tS X.K C ω t)) (k : PSs X ss (tSs X.K C ω r)) : PSs X (s :: ss) (tSs X.K C ω (.cons t r)) := PSsimp (pss_cons h k) fun D σ H q => by
  obtain ⟨ρ, m, w, re, rl, c⟩ := q
  simp only [exs] at c
  exact ⟨ρ, m, w, re, rl, ContS.seq c⟩
theorem t_simple {st : Stmt} {t : T} {u : L2.TS} (h : PS X st u) (i : ∀ D σ H ρ m w, RE X.K w H ρ σ → Rl X.K w m H → ContS X.K w H D ω (ex C t ρ m) → u D σ H) : PS X st (tS X.K C ω t) := PSimp h fun D σ H q => by
  obtain ⟨ρ, m, w, re, rl, c⟩ := q
  exact i D σ H ρ m w re rl c
/-! ### targets of any kind -/
def tTg (K : PySem.W.Frag) (C : Orc) (ω : St → EW) (t : Tg) : TG := fun v σ H Q => ∃ ρ m w a, RE K w H ρ σ ∧ Rl K w m H ∧ RW K w H a v ∧ Cont K w H (fun w H ρ σ => RE K w H ρ σ) Q (ω σ) (asT C t a ρ m)
def tTgs (K : PySem.W.Frag) (C : Orc) (ω : St → EW) (ts : List Tg) : TGs := fun vs σ H Q => ∃ ρ m w as, RE K w H ρ σ ∧ Rl K w m H ∧ RWs K w H as vs ∧ Cont K w H (fun w H ρ σ => RE K w H ρ σ) Q (ω σ) (asTs C ts as ρ m).ne
theorem pg_itm {Cc g : Addr} {kk : Nat} {fd : FuncData} {ps : List Str} {sp : Sp} {E : St → XK} {x y : Expr} {p : Pos} {to ti : TE} (c : Cls X.K Cc) (hm : Meth X.K Cc ("__setitem__" : Str) g) (hq : PySem.W.noSeq X.K Cc = true) (F : FnOk X.prog X.w X.K X.mg X.base (L2.CX X.prog X.w) kk g fd ps sp) (hr : Room kk X.A) (b : Dfl X.K fd ps [])
    (hx : ∀ σ, PassesAt (L2.CX X.prog X.w) X σ (E σ)) (ho : PE X x to) (hi : PE X y ti) (hy : okX y = true) : PG X (.Subscript x y p) (fun v σ H Q => to σ H fun o H1 => ti σ H1 fun i H2 => ∃ a dx fs, o = .ref a ∧ H2 a = some (.ins Cc dx fs) ∧ sp [o, i, v] H2 (fun _ H3 => Q σ H3) (E σ)) := by
  have ha : ∀ u, assign (.Subscript x y p) X.env u = (do
      let ov ← holding [u] (eval x X.env)
      let iv ← holding [u, ov] (eval y X.env)
      standAt p
      holding [u, ov, iv] (setItem ov iv u)
      release [u, ov, iv] []) := by
    intro u
    cases y <;> first | exact absurd hy Bool.false_ne_true | rfl
  refine ⟨fun pins s σ H v u Q I r h => ?_⟩
  rw [ha]
  refine wpAny_bind (wpAny_holding (thn (ho.run pins s σ H _ I h) fun ov s1 ⟨o, H1, I1, r1, q1⟩ => ?_))
  refine wpAny_bind (wpAny_holding (thn (hi.run pins s1 σ H1 _ I1 q1) fun iv s2 ⟨i, H2, I2, r2, a, dx, fs, eo, ea, q2⟩ => ?_))
  subst eo
  obtain rfl : ov = Value.ref a := r1
  obtain ⟨mA, O, _, _, _, _⟩ := ins_get I2.hok ea
  obtain ⟨od, J, _⟩ := O.look
  obtain ⟨mm, Fx⟩ := I2.fr
  refine wpAny_bind (wpAny_standAt (wpAny_bind (wpAny_holding (PySem.W.ksp_setItem Fx I2.ok.mod.kin J hq hm.at_ hm.fn ?_))))
  refine wpAny_mono (run_own (E := E) (us := [.ref a, iv, u]) (vs := [.ref a, i, v]) F hr b (hx σ) I2 (.cons rfl (.cons r2 (.cons r .nil))) q2) (fun _ s' ⟨w, H', I', _, q'⟩ => wpAny_release ⟨σ, H', I', q'⟩) fun _ _ z => z
theorem putA_rel {K : PySem.W.Frag} {w : Wd} {H : Hp} {f : Str} {a : W} {v : V} {fs : List (Str × W)} {gs : List (Str × V)} (h : Paired (fun (p : Str × W) (q : Str × V) => p.1 = q.1 ∧ RW K w H p.2 q.2) fs gs) (r : RW K w H a v) :
    Paired (fun (p : Str × W) (q : Str × V) => p.1 = q.1 ∧ RW K w H p.2 q.2) (putA f a fs) (putF f v gs) := by
  induction h with
  | nil => exact .cons ⟨rfl, r⟩ .nil
  | @cons p q r t hd tl ih =>
    obtain ⟨f1, x1⟩ := p
    obtain ⟨f2, v1⟩ := q
    obtain ⟨e, hx⟩ := hd
    obtain rfl : f1 = f2 := e
    unfold putA putF
    by_cases z : f1 = f
    · rw [if_pos z, if_pos z]
      exact .cons ⟨rfl, ‹RW K w H a v›⟩ tl
    · rw [if_neg z, if_neg z]
      exact .cons ⟨rfl, hx⟩ ih
theorem putA_args {f : Str} {a : W} (h : args [a] = true) : ∀ {fs : List (Str × W)}, args (fs.map (·.2)) = true → args ((putA f a fs).map (·.2)) = true
  | [], _ => h
  | (g, x) :: r, z => by
    rw [List.map_cons] at z
    obtain ⟨z1, z2⟩ := args_cons.mp z
    unfold putA
    split
    · rw [List.map_cons]
      exact args_cons.mpr ⟨h, z2⟩
    · rw [List.map_cons]
      exact args_cons.mpr ⟨z1, putA_args h z2⟩
theorem pgTg (k : CokS X Γ C ω) : ∀ (t : Tg) (x : Expr), chkTg Γ t x = true → PG X x (tTg X.K C ω t)
  | .nm i, x, h => by
    cases x <;> first | exact absurd h Bool.false_ne_true | skip
    rename_i n p
    simp only [chkTg, Bool.and_eq_true, decide_eq_true_eq] at h
    obtain ⟨l1, l2⟩ := k.s.s n h.2
    refine PGimp (pg_name (i := i) k.s.nd (by rw [k.s.N]; exact h.1) l1 l2) fun v σ H Q q => ?_
    obtain ⟨ρ, m, w, a, re, rl, r, c⟩ := q
    simp only [asT] at c
    split at c
    · exact c _ w H (Ext.refl _ _) rl (re.set r)
    · exact c.elim
  | .fld cn o f, x, h => by
    cases x <;> first | exact absurd h Bool.false_ne_true | skip
    rename_i y n p
    simp only [chkTg, Bool.and_eq_true, decide_eq_true_eq] at h
    obtain ⟨⟨⟨h0, h1⟩, h2⟩, h3⟩ := h
    subst h0
    obtain ⟨Cc, g1, g2, g3, _⟩ := k.k.g.cl cn h2
    have na := k.k.g.fl cn n h1 Cc g1
    refine PGimp (pg_fldT (sndE o _ _ _ k.k y h3).pe) fun v σ H Q q => ?_
    obtain ⟨ρ, m, w, a, re, rl, r, c⟩ := q
    simp only [asT] at c
    refine ⟨ρ, m, w, re, rl, (Cont.bind (RW X.K) c).imp ?_⟩
    rintro u H1 ⟨a1, m1, w1, R1⟩
    have c := R1.c
    split at c
    · rename_i hi
      obtain ⟨nn, aa, fs, dx, gs, rfl, rfl, e1, e2, e3, e4, e5⟩ := isIns_ok R1.r g1 R1.v hi
      simp only [setFld, e2] at c
      split at c
      · rename_i hs
        split at hs
        · rename_i hargs
          split at hs
          · rename_i hz
            cases hs
            have lg : fs.length = gs.length := Paired.length e4
            obtain ⟨x1, x2⟩ := R1.r.setSO (h1 := .ins Cc dx (putF n v gs)) (os := .ins cn (putA n a fs)) e1 e3 (fun _ z => by cases z) (fun _ _ z => by cases z) fun e =>
              ⟨Cc, dx, _, g1, upd_same, paired_imp (fun _ _ r => ⟨r.1, r.2.ext e⟩) (putA_rel e4 (r.ext R1.e)), putA_args hargs e5⟩
            exact ⟨aa, Cc, dx, gs, rfl, e3, g3, na, by rw [← lg]; exact hz, c σ w1 _ x1 x2 ((re.ext R1.e).ext x1)⟩
          · cases hs
        · cases hs
      · exact c.elim
    · exact c.elim
  | .it cn f o i, x, h => by
    cases x <;> first | exact absurd h Bool.false_ne_true | skip
    rename_i y z p
    simp only [chkTg, Bool.and_eq_true] at h
    obtain ⟨⟨⟨h0, h1⟩, h2⟩, h3⟩ := h
    split at h0
    · rename_i fi e0
      simp only [Bool.and_eq_true, decide_eq_true_eq] at h0
      obtain ⟨rfl, hd⟩ := h0
      obtain ⟨hc, hm⟩ := k.k.g.mt cn _ fi e0
      obtain ⟨Cc, g1, g2, g3, g4, _⟩ := k.k.g.cl cn hc
      obtain ⟨fa, mt, fz⟩ := hm Cc g1
      obtain ⟨fd, ps, kk, dvs, F, rm, df, rd0⟩ := fz.use hd
      have rm : Room kk X.A := rm.mono (Nat.le_succ _)
      have zd : dvs = [] := by
        have := rd0 ⟨[], [], fun _ => False⟩ (fun _ => none)
        cases this
        rfl
      subst zd
      refine PGimp (pg_itm (E := EZ X ω) (p := p) g3 mt g4 F rm df k.k.hx (sndE o _ _ _ k.k y h2).pe (sndE i _ _ _ k.k z h3).pe h1) fun v σ H Q q => ?_
      obtain ⟨ρ, m, w, a, re, rl, r, c⟩ := q
      simp only [asT] at c
      refine ⟨ρ, m, w, re, rl, (Cont.bind (RW X.K) c).imp ?_⟩
      rintro u H1 ⟨a1, m1, w1, R1⟩
      refine ⟨ρ, m1, w1, re.ext R1.e, R1.r, (Cont.bind (RW X.K) R1.c).imp ?_⟩
      rintro u2 H2 ⟨a2, m2, w2, R2⟩
      have c := R2.c
      split at c
      · rename_i hi
        have hv1 := R1.v.ext R2.e
        obtain ⟨nn, aa, fs, dx, gs, rfl, rfl, e1, e2, e3, e4, e5⟩ := isIns_ok R2.r g1 hv1 hi
        refine ⟨aa, dx, gs, rfl, e3, ?_⟩
        refine call_frame (ω := ω σ) R2.r (.cons hv1 (.cons R2.v (.cons ((r.ext R1.e).ext R2.e) .nil))) rfl ((Cont.bind (RW X.K) c).imp ?_)
        rintro v3 H3 ⟨a3, m3, w3, R3⟩
        exact R3.c σ w3 H3 (Ext.refl _ _) R3.r (((re.ext R1.e).ext R2.e).ext R3.e)
      · exact c.elim
    · cases h0
theorem chkTg_star {t : Tg} {x : Expr} (h : chkTg Γ t x = true) : ∀ u p, x ≠ .Starred u p := by
  intro u p z
  subst z
  cases t <;> exact absurd h (by unfold chkTg; exact Bool.false_ne_true)
theorem Cont.neB {K : PySem.W.Frag} {w : Wd} {H : Hp} {α γ δ : Type} {E : EW} {r : R α} {f : α → Mem → R γ} {relg : Wd → Hp → γ → δ → Prop} {Q : δ → Hp → Prop} (h : Cont K w H relg Q E (r.b f).ne) : Cont K w H relg Q E (r.ne.b fun a m => (f a m).ne) := by
  cases r with
  | ok a m => exact h
  | err x m => exact h.elim
  | bad => exact h.elim
theorem pgTgs (k : CokS X Γ C ω) : ∀ (ts : List Tg) (xs : List Expr), chkTgs Γ ts xs = true → PGs X xs (tTgs X.K C ω ts)
  | [], [], _ => PGsimp pgs_nil fun vs σ H Q q => by
    obtain ⟨ρ, m, w, as, re, rl, r, c⟩ := q
    cases r with
    | nil => exact ⟨rfl, c σ w H (Ext.refl _ _) rl re⟩
    | cons _ _ => exact c.elim
  | t :: ts, x :: xs, h => by
    have h : (chkTg Γ t x && chkTgs Γ ts xs) = true := h
    rw [Bool.and_eq_true] at h
    refine PGsimp (pgs_cons (pgTg k t x h.1) (pgTgs k ts xs h.2) (by rw [assignEach_cons (chkTg_star h.1)]; rfl)) fun vs σ H Q q => ?_
    obtain ⟨ρ, m, w, as, re, rl, r, c⟩ := q
    cases r with
    | nil => exact c.elim
    | cons r1 r2 =>
      refine ⟨_, _, rfl, ρ, m, w, _, re, rl, r1, ?_⟩
      have c := Cont.neB c
      refine (Cont.bindN (fun w H ρ σ => RE X.K w H ρ σ) c).imp ?_
      rintro σ1 H1 ⟨ρ1, m1, w1, R1⟩
      exact ⟨ρ1, m1, w1, _, R1.v, R1.r, RWs.ext R1.e r2, by
        have z := R1.c
        generalize asTs C ts _ ρ1 m1 = r at z ⊢
        cases r with
        | ok a m => exact z
        | err _ _ => exact z.elim
        | bad => exact z.elim⟩
  | [], _ :: _, h => by cases h
  | _ :: _, [], h => by cases h
theorem asTs_len {ρ : Env} : ∀ {ts : List Tg} {ws : List W} {ρ ρ' : Env} {m m' : Mem}, asTs C ts ws ρ m = .ok ρ' m' → ts.length = ws.length
  | [], [], _, _, _, _, _ => rfl
  | t :: ts, w :: ws, ρ, ρ', m, m', h => by
    unfold asTs at h
    cases q : asT C t w ρ m with
    | ok ρ1 m1 =>
      rw [q] at h
      exact congrArg (· + 1) (asTs_len (ρ := ρ) h)
    | err _ _ => rw [q] at h; cases h
    | bad => rw [q] at h; cases h
  | [], _ :: _, _, _, _, _, h => by unfold asTs at h; cases h
  | _ :: _, [], _, _, _, _, h => by unfold asTs at h; cases h
theorem chkTgs_each {env : PySem.Env} : ∀ {ts : List Tg} {xs : List Expr}, chkTgs Γ ts xs = true → (assignEach xs env).length = ts.length ∧ (assignEach xs env).findIdx? (·.1) = none
  | [], [], _ => ⟨rfl, rfl⟩
  | t :: ts, x :: xs, h => by
    have h : (chkTg Γ t x && chkTgs Γ ts xs) = true := h
    rw [Bool.and_eq_true] at h
    obtain ⟨i1, i2⟩ := chkTgs_each (env := env) (ts := ts) (xs := xs) h.2
    rw [assignEach_cons (chkTg_star h.1)]
    refine ⟨congrArg (· + 1) i1, ?_⟩
    rw [List.findIdx?_cons]
    simp only [Bool.false_eq_true, if_false, i2, Option.map_none]
  | [], _ :: _, h => by cases h
  | _ :: _, [], h => by cases h
theorem t_st1 {t : Tg} {e : E} {tg v : Expr} {p : Pos} (k : CokS X Γ C ω) (he : PE X v (tE X.K C ω e)) (hn : notName tg = true) (hg : chkTg Γ t tg = true) : PS X (.Assign [tg] v p) (tS X.K C ω (.st1 t e)) := by
  have h1 : swapsWithSole [tg] v p.line X.env = pure false := by
    show swapsWith v (some tg) p.line X.env = pure false
    cases tg <;> first | exact absurd hn Bool.false_ne_true | (cases v <;> rfl)
  have h2 : swappedStores [tg] v X.env = pure none := by
    cases tg <;> first | exact absurd hn Bool.false_ne_true | (cases v <;> rfl)
  refine PSimp (ps_asg he (pgTg k t tg hg) h1 h2 (by rw [assignEach_cons (chkTg_star hg)]; rfl)) fun D σ H q => ?_
  obtain ⟨ρ, m, w, re, rl, c⟩ := q
  simp only [ex] at c
  refine ⟨ρ, m, w, re, rl, (ContS.bind (RW X.K) re c).imp ?_⟩
  rintro u H1 ⟨a1, m1, w1, R1⟩
  refine ⟨ρ, m1, w1, a1, re.ext R1.e, R1.r, R1.v, (ContS.bind (fun w H ρ σ => RE X.K w H ρ σ) (re.ext R1.e) R1.c).imp ?_⟩
  rintro σ2 H2 ⟨ρ2, m2, w2, R2⟩
  exact R2.c σ2 w2 H2 (Ext.refl _ _) R2.r R2.v
theorem swapped_none0 {tgs vs : List Expr} {k1 k2 : Nat} {p1 p2 : Pos} (k : CokS X Γ C ω) (h : tgs.any (notLoc Γ) = true) : swappedStores [.Tuple tgs k1 p1] (.Tuple vs k2 p2) X.env = pure none := by
  unfold swappedStores
  dsimp only
  split
  · rfl
  · split
    · rfl
    · rename_i h1 h2
      rw [if_pos]
      · rw [Bool.or_eq_true, bne_iff_ne]
        refine .inl fun z => ?_
        obtain ⟨x, hx, hn⟩ := List.any_eq_true.mp h
        have key : ∀ (f : Expr → Option Str) (l : List Expr), (l.filterMap f).length = l.length → ∀ x ∈ l, (f x).isSome = true := by
          intro f l
          induction l with
          | nil => intro _ x hx; cases hx
          | cons a r ih =>
            intro hl x hx
            have le : (r.filterMap f).length ≤ r.length := List.length_filterMap_le ..
            cases q : f a with
            | none =>
              rw [List.filterMap_cons_none q, List.length_cons] at hl
              omega
            | some b =>
              rw [List.filterMap_cons_some q, List.length_cons, List.length_cons] at hl
              rcases List.mem_cons.mp hx with e | e
              · rw [e, q]; rfl
              · exact ih (by omega) x e
        have := key _ _ z x hx
        cases x <;> first | exact absurd hn Bool.false_ne_true | (cases this; done) | skip
        rename_i n pn
        have e1 : X.env.kindOf n = Γ.nm.lookup n := by show X.env.scope.names.lookup n = _; rw [k.k.nm]
        have e2 : (X.env.kindOf n == some .local) = false := by
          rw [e1]
          have hn : (!decide (Γ.nm.lookup n = some .local)) = true := hn
          rw [Bool.not_eq_true', decide_eq_false_iff_not] at hn
          simpa using hn
        simp only [e2, Bool.false_and, Bool.false_eq_true, if_false, Option.isSome_none] at this
theorem swapped_none {tgs vs : List Expr} {k1 k2 : Nat} {p1 p2 : Pos} (k : CokS X Γ C ω) (h : (tgs.any (notLoc Γ) || decide (3 < tgs.length)) = true) : swappedStores [.Tuple tgs k1 p1] (.Tuple vs k2 p2) X.env = pure none := by
  rw [Bool.or_eq_true, decide_eq_true_eq] at h
  rcases h with h | h
  · exact swapped_none0 k h
  · unfold swappedStores
    dsimp only
    have e2 : (tgs.length == 2) = false := by simp; omega
    have e3 : (tgs.length == 3) = false := by simp; omega
    rw [e2, e3]
    rfl
theorem t_unp {ts : List Tg} {es : ES} {tgs vs : List Expr} {k1 k2 : Nat} {p1 p2 p : Pos} (k : CokS X Γ C ω) (ha : PA X vs (tA X.K C ω es)) (hn : (tgs.any (notLoc Γ) || decide (3 < tgs.length)) = true) (hg : chkTgs Γ ts tgs = true) : PS X (.Assign [.Tuple tgs k1 p1] (.Tuple vs k2 p2) p) (tS X.K C ω (.unp ts es)) := by
  obtain ⟨c1, c2⟩ := chkTgs_each (env := X.env) hg
  refine PSimp (ps_asg (pe_tup ha) (pg_tup (n := ts.length) k.s.calm (pgTgs k ts tgs hg) c1 c2) rfl (swapped_none k hn) rfl) fun D σ H q => ?_
  obtain ⟨ρ, m, w, re, rl, c⟩ := q
  simp only [ex] at c
  refine ⟨ρ, m, w, re, rl, (ContS.bind (RWs X.K) re c).imp ?_⟩
  rintro us H1 ⟨ws, m1, w1, R1⟩
  have c := R1.c
  split at c
  · rename_i hz
    have lw := R1.v.length
    have big : (1000 : Nat) ≤ sizeLine := by rw [sizeLine_eq]; decide
    refine ⟨by rw [← lw]; omega, fun pp hp => ?_⟩
    have ex := ext_upd (o := .tup us) R1.r hp
    have re2 := (re.ext R1.e).ext ex
    have ln : us.length = ts.length := by
      rw [← lw]
      cases q : asTs C ts ws ρ m1 with
      | ok ρ2 m2 => exact (asTs_len (ρ := ρ) q).symm
      | err _ _ => rw [q] at c; exact c.elim
      | bad => rw [q] at c; exact c.elim
    refine ⟨pp, us, rfl, SqT.of upd_same, ln, ρ, m1, w1, ws, re2, R1.r.upd_ hp, RWs.ext ex R1.v, (ContS.bind (fun w H ρ σ => RE X.K w H ρ σ) re2 (ContS.later ex c)).imp ?_⟩
    rintro σ2 H2 ⟨ρ2, m2, w2, R2⟩
    exact R2.c σ2 w2 H2 (Ext.refl _ _) R2.r R2.v
  · exact c.elim
theorem t_unpD {ts : List Tg} {e : E} {tgs : List Expr} {v : Expr} {k1 : Nat} {p1 p : Pos} (k : CokS X Γ C ω) (he : PE X v (tE X.K C ω e)) (hc : isComp v = false) (ht : isTupS v = false) (hg : chkTgs Γ ts tgs = true) : PS X (.Assign [.Tuple tgs k1 p1] v p) (tS X.K C ω (.unpD ts e)) := by
  obtain ⟨c1, c2⟩ := chkTgs_each (env := X.env) hg
  refine PSimp (ps_asg he (pg_tup (n := ts.length) k.s.calm (pgTgs k ts tgs hg) c1 c2) (by show swapsWith v (some (.Tuple tgs k1 p1)) p.line X.env = pure false; exact sw_plain hc) (by cases v <;> first | rfl | exact absurd ht (by simp [isTupS])) rfl) fun D σ H q => ?_
  obtain ⟨ρ, m, w, re, rl, c⟩ := q
  simp only [ex] at c
  refine ⟨ρ, m, w, re, rl, (ContS.bind (RW X.K) re c).imp ?_⟩
  rintro u H1 ⟨a1, m1, w1, R1⟩
  have c := R1.c
  have hv := R1.v
  split at c
  · rename_i ds
    cases hv with
    | v hv =>
      obtain ⟨pp, us, rfl, g1, g2⟩ := RD.tup_ hv
      have ln : us.length = ts.length := by
        rw [← g2.length]
        cases q : asTs C ts (ds.map .v) ρ m1 with
        | ok ρ2 m2 => exact ((asTs_len (ρ := ρ) q).trans (List.length_map ..)).symm
        | err _ _ => rw [q] at c; exact c.elim
        | bad => rw [q] at c; exact c.elim
      refine ⟨pp, us, rfl, g1, ln, ρ, m1, w1, _, re.ext R1.e, R1.r, g2.ws, (ContS.bind (fun w H ρ σ => RE X.K w H ρ σ) (re.ext R1.e) c).imp ?_⟩
      rintro σ2 H2 ⟨ρ2, m2, w2, R2⟩
      exact R2.c σ2 w2 H2 (Ext.refl _ _) R2.r R2.v
  · exact c.elim
/-- the context that no exception leaves -/
theorem nox_cok (k : CokS X Γ C ω) : CokS X.nox Γ C (fun _ _ _ _ _ => False) where
  k := ⟨k.k.N, k.k.nd, k.k.nm, k.k.kd, k.k.calm, k.k.g, fun σ pins H s er s' I hc => by
    obtain ⟨a, B, H', cls, d, _, _, _, _, _, _, _, x, w, m, _, _, z⟩ := hc
    exact z.elim⟩
  s := ⟨k.s.N, k.s.nd, k.s.calm, k.s.s⟩
  hp := PassesOwn.never
  tk := fun u s' h => by
    obtain ⟨a, B, sI, pins, σ, H, cls, d, e, I, nb, up, sky, na, os, ag, x, w, m, _, _, z⟩ := h
    exact z.elim
theorem t_try {b : TS} {body : List Stmt} {h₀ : ExceptHandler} {hs : List ExceptHandler} {p : Pos} (hb : PSs X.nox body (tSs X.nox.K C (fun _ _ _ _ _ => False) b)) : PS X (.Try body (h₀ :: hs) [] [] p) (tS X.K C ω (.tryT b)) :=
  PSimp (ps_try_thru0 hb) fun D σ H ⟨ρ, m, w, re, rl, c⟩ => ⟨ρ, m, w, re, rl, by
    simp only [ex] at c
    cases e : exs C b ρ m <;> rw [e] at c <;> first | exact c | exact c.elim⟩
mutual
theorem sndT {X : Cx} {ω : St → EW} : ∀ (t : T) (k : CokS X Γ C ω) (s : Stmt), chkT Γ t s = true → PS X s (tS X.K C ω t)
  | .asg g e, k, s, h => by
    cases s <;> first | exact absurd h Bool.false_ne_true | skip
    rename_i tgs v p
    rcases tgs with _ | ⟨tg, _ | ⟨_, _⟩⟩ <;> first | exact absurd h Bool.false_ne_true | skip
    simp only [chkT, Bool.and_eq_true, Bool.or_eq_true] at h
    obtain ⟨⟨h1, h2⟩, h3⟩ := h
    rcases h3 with h3 | ⟨h3, h4⟩
    · exact t_asg k (sndE e _ _ _ k.k v h1).pe h2 h3
    · cases e <;> first | exact absurd h4 Bool.false_ne_true | skip
      rename_i kd l
      cases l <;> first | exact absurd h4 Bool.false_ne_true | skip
      exact t_lc k h1 h2 h3
  | .par is es, k, s, h => by
    cases s <;> first | exact absurd h Bool.false_ne_true | skip
    rename_i tgs v p
    rcases tgs with _ | ⟨tg, tl⟩ <;> first | exact absurd h Bool.false_ne_true | skip
    cases tg <;> first | exact absurd h Bool.false_ne_true | skip
    cases tl <;> first | exact absurd h Bool.false_ne_true | skip
    cases v <;> first | exact absurd h Bool.false_ne_true | skip
    exact t_par k h
  | .setIx o i e, k, s, h => by
    cases s <;> first | exact absurd h Bool.false_ne_true | skip
    rename_i tgs v p
    rcases tgs with _ | ⟨tg, tl⟩ <;> first | exact absurd h Bool.false_ne_true | skip
    cases tg <;> first | exact absurd h Bool.false_ne_true | skip
    cases tl <;> first | exact absurd h Bool.false_ne_true | skip
    simp only [chkT, Bool.and_eq_true, Bool.not_eq_true'] at h
    obtain ⟨⟨⟨⟨h1, h2⟩, h3⟩, h4⟩, h5⟩ := h
    exact t_setIx k (sndE o _ _ _ k.k _ h3).pe (sndE i _ _ _ k.k _ h4).pe (sndE e _ _ _ k.k _ h5).pe h1 h2
  | .st1 t e, k, s, h => by
    cases s <;> first | exact absurd h Bool.false_ne_true | skip
    rename_i tgs v p
    rcases tgs with _ | ⟨tg, _ | ⟨_, _⟩⟩ <;> first | exact absurd h Bool.false_ne_true | skip
    simp only [chkT, Bool.and_eq_true] at h
    exact t_st1 k (sndE e _ _ _ k.k v h.2).pe h.1.1 h.1.2
  | .unp ts es, k, s, h => by
    cases s <;> first | exact absurd h Bool.false_ne_true | skip
    rename_i tgs v p
    rcases tgs with _ | ⟨tg, tl⟩ <;> first | exact absurd h Bool.false_ne_true | skip
    cases tg <;> first | exact absurd h Bool.false_ne_true | skip
    cases tl <;> first | exact absurd h Bool.false_ne_true | skip
    cases v <;> first | exact absurd h Bool.false_ne_true | skip
    simp only [chkT, Bool.and_eq_true] at h
    exact t_unp k (sndA es _ _ _ k.k _ h.2) h.1.1 h.1.2
  | .unpD ts e, k, s, h => by
    cases s <;> first | exact absurd h Bool.false_ne_true | skip
    rename_i tgs v p
    rcases tgs with _ | ⟨tg, tl⟩ <;> first | exact absurd h Bool.false_ne_true | skip
    cases tg <;> first | exact absurd h Bool.false_ne_true | skip
    cases tl <;> first | exact absurd h Bool.false_ne_true | skip
    simp only [chkT, Bool.and_eq_true, Bool.not_eq_true'] at h
    obtain ⟨⟨⟨h1, h2⟩, h3⟩, h4⟩ := h
    exact t_unpD k (sndE e _ _ _ k.k v h4).pe h1 h2 h3
  | .aug .., k, s, h | .raise .., k, s, h => by
    exfalso
    cases s <;> exact absurd h Bool.false_ne_true
  | .tryT b, k, s, h => by
    cases s <;> first | exact absurd h Bool.false_ne_true | skip
    rename_i body hs orelse fin p
    rcases hs with _ | ⟨h0, hs⟩ <;> first | exact absurd h Bool.false_ne_true | skip
    cases orelse <;> first | exact absurd h Bool.false_ne_true | skip
    cases fin <;> first | exact absurd h Bool.false_ne_true | skip
    exact t_try (sndTs b (nox_cok k) body h)
  | .ex e, k, s, h => by
    cases s <;> first | exact absurd h Bool.false_ne_true | skip
    simp only [chkT, Bool.and_eq_true, Bool.not_eq_true'] at h
    exact t_ex (sndE e _ _ _ k.k _ h.2).pe h.1
  | .ret e, k, s, h => by
    cases s <;> first | exact absurd h Bool.false_ne_true | skip
    rename_i x p
    cases x <;> first | exact absurd h Bool.false_ne_true | skip
    exact t_ret (sndE e _ _ _ k.k _ h).pe
  | .retN, k, s, h => by
    cases s <;> first | exact absurd h Bool.false_ne_true | skip
    rename_i x p
    cases x <;> first | exact absurd h Bool.false_ne_true | skip
    exact t_retN
  | .ife c a b, k, s, h => by
    cases s <;> first | exact absurd h Bool.false_ne_true | skip
    simp only [chkT, Bool.and_eq_true] at h
    obtain ⟨⟨⟨h1, h2⟩, h3⟩, h4⟩ := h
    exact t_ife ((sndE c _ _ _ k.k _ h2).pt h1) (sndTs a k _ h3) (sndTs b k _ h4)
  | .forT g it b, k, s, h => by
    cases s <;> first | exact absurd h Bool.false_ne_true | skip
    rename_i tg x y els p
    cases els <;> first | exact absurd h Bool.false_ne_true | skip
    simp only [chkT, Bool.and_eq_true] at h
    obtain ⟨⟨h1, h2⟩, h3⟩ := h
    have hi := sndI it _ _ _ k.k tg x h2
    exact t_for k hi.1 hi.2 (pgZ k.s g tg h1) (sndTs b k _ h3)
  | .while n c b, k, s, h => by
    cases s <;> first | exact absurd h Bool.false_ne_true | skip
    rename_i x y els p
    cases els <;> first | exact absurd h Bool.false_ne_true | skip
    simp only [chkT, Bool.and_eq_true] at h
    obtain ⟨⟨h1, h2⟩, h3⟩ := h
    exact t_while k ((sndE c _ _ _ k.k _ h2).pt h1) (sndTs b k _ h3)
  | .brk, k, s, h => by
    cases s <;> first | exact absurd h Bool.false_ne_true | skip
    exact t_simple ps_break fun D σ H ρ m w re rl c => by simp only [ex] at c; exact c σ w H (Ext.refl _ _) rl re
  | .cont, k, s, h => by
    cases s <;> first | exact absurd h Bool.false_ne_true | skip
    exact t_simple ps_continue fun D σ H ρ m w re rl c => by simp only [ex] at c; exact c σ w H (Ext.refl _ _) rl re
  | .pass, k, s, h => by
    cases s <;> first | exact absurd h Bool.false_ne_true | skip
    exact t_simple ps_pass fun D σ H ρ m w re rl c => by simp only [ex] at c; exact c σ w H (Ext.refl _ _) rl re
  | .never, k, s, h => t_simple ps_never fun D σ H ρ m w re rl c => by simp only [ex] at c; exact c
theorem sndTs {X : Cx} {ω : St → EW} : ∀ (t : TS) (k : CokS X Γ C ω) (s : List Stmt), chkTs Γ t s = true → PSs X s (tSs X.K C ω t)
  | .nil, k, s, h => by
    cases s <;> first | exact absurd h Bool.false_ne_true | exact ts_nil
  | .cons t r, k, s, h => by
    cases s <;> first | exact absurd h Bool.false_ne_true | skip
    simp only [chkTs, Bool.and_eq_true] at h
    exact ts_cons (sndT t k _ h.1) (sndTs r k _ h.2)
end
end
end Z
set_option maxHeartbeats 4000000
/-! Y17: defs, all together; the end of a law. -/
namespace Z
open PySem PySem.Spec PyProof.Rows L2 RZ
/-- where a def is found: a global name, a method of a class, a property of a class -/
inductive Lo where
  | gl (x : Str) | me (c m : Str) | pr (c p : Str)
/-- a def: where it is found, its own name and qualified name, its text, its parameters, the last ones' defaults, its slots, its form in the small language -/
structure Df where
  lo : Lo
  n : Str
  q : Str
  st : Stmt
  ps : List Str
  ds : List PyData
  N : List Str
  fn : Fn
def Df.fi (d : Df) (i : Nat) : FI := ⟨i, d.ps.length, d.ds⟩
def fnsOf : List Df → Nat → List (Str × FI)
  | [], _ => []
  | d :: r, i => match d.lo with
    | .gl x => (x, d.fi i) :: fnsOf r (i + 1)
    | _ => fnsOf r (i + 1)
def mtsOf : List Df → Nat → List ((Str × Str) × FI)
  | [], _ => []
  | d :: r, i => match d.lo with
    | .me c m => ((c, m), d.fi i) :: mtsOf r (i + 1)
    | _ => mtsOf r (i + 1)
def prsOf : List Df → Nat → List ((Str × Str) × Nat)
  | [], _ => []
  | d :: r, i => match d.lo with
    | .pr c p => ((c, p), i) :: prsOf r (i + 1)
    | _ => prsOf r (i + 1)
/-- what all defs know -/
structure Kn where
  gc : List (Str × PyData)
  cl : List Str
  fl : List (Str × Str)
def Df.gm (ds : List Df) (kn : Kn) (d : Df) : Gm := ⟨d.N, (defScope d.st).names, (defScope d.st).names, fnsOf ds 0, kn.gc, mtsOf ds 0, prsOf ds 0, kn.cl, kn.fl, [], []⟩
def scOk (N ps : List Str) (sc : Scope) : Bool :=
  (match sc.kind with | .function => true | _ => false) && !sc.isCoroutine && !sc.isGenerator && decide N.Nodup && decide (N.take ps.length = ps) &&
  ps.all (fun x => decide (sc.names.lookup x = some .local) || decide (sc.names.lookup x = some .cell)) && sc.names.all (fun y => !(y.2 == .free))
def Df.lok (kn : Kn) (d : Df) : Bool := match d.lo with
  | .gl _ => true
  | .me c _ => decide (c ∈ kn.cl)
  | .pr c _ => decide (c ∈ kn.cl) && decide (d.ps.length = 1) && d.ds.isEmpty
def Df.ok (ds : List Df) (kn : Kn) (d : Df) : Bool := d.lok kn && scOk d.N d.ps (defScope d.st) && decide (d.fn.np = d.ps.length) && decide (d.fn.ns = d.N.length) && chkTs (d.gm ds kn) d.fn.body (defBody d.st)
theorem scOk_ok {N ps : List Str} {sc : Scope} (h : scOk N ps sc = true) : FnScope N ps sc := by
  simp only [scOk, Bool.and_eq_true, Bool.not_eq_true', decide_eq_true_eq, List.all_eq_true, Bool.or_eq_true] at h
  obtain ⟨⟨⟨⟨⟨⟨h1, h2⟩, h3⟩, h4⟩, h5⟩, h6⟩, h7⟩ := h
  refine ⟨?_, h2, h3, h4, h5, h6, fun y hy e => ?_⟩
  · split at h1
    · assumption
    · cases h1
  · have := h7 y hy
    rw [e] at this
    cases this
theorem lookup_fns {x : Str} {fi : FI} : ∀ {ds : List Df} {i : Nat}, (fnsOf ds i).lookup x = some fi → ∃ (j : Nat) (d : Df), ds[j]? = some d ∧ d.lo = .gl x ∧ fi = d.fi (i + j)
  | [], _, h => by cases h
  | d :: r, i, h => by
    unfold fnsOf at h
    split at h
    · rename_i y hy
      by_cases e : x = y
      · subst e
        rw [List.lookup_cons_self] at h
        cases h
        exact ⟨0, d, rfl, hy, rfl⟩
      · rw [List.lookup_cons, show (x == y) = false by simpa using e] at h
        obtain ⟨j, d', h1, h2, h3⟩ := lookup_fns (i := i + 1) h
        exact ⟨j + 1, d', h1, h2, by rw [h3, show i + 1 + j = i + (j + 1) by omega]⟩
    · obtain ⟨j, d', h1, h2, h3⟩ := lookup_fns (i := i + 1) h
      exact ⟨j + 1, d', h1, h2, by rw [h3, show i + 1 + j = i + (j + 1) by omega]⟩
theorem lookup_mts {x : Str × Str} {fi : FI} : ∀ {ds : List Df} {i : Nat}, (mtsOf ds i).lookup x = some fi → ∃ (j : Nat) (d : Df), ds[j]? = some d ∧ d.lo = .me x.1 x.2 ∧ fi = d.fi (i + j)
  | [], _, h => by cases h
  | d :: r, i, h => by
    unfold mtsOf at h
    split at h
    · rename_i c m hy
      by_cases e : x = (c, m)
      · subst e
        rw [List.lookup_cons_self] at h
        cases h
        exact ⟨0, d, rfl, hy, rfl⟩
      · rw [List.lookup_cons, show (x == (c, m)) = false by simpa using e] at h
        obtain ⟨j, d', h1, h2, h3⟩ := lookup_mts (i := i + 1) h
        exact ⟨j + 1, d', h1, h2, by rw [h3, show i + 1 + j = i + (j + 1) by omega]⟩
    · obtain ⟨j, d', h1, h2, h3⟩ := lookup_mts (i := i + 1) h
      exact ⟨j + 1, d', h1, h2, by rw [h3, show i + 1 + j = i + (j + 1) by omega]⟩
theorem lookup_prs {x : Str × Str} {n : Nat} : ∀ {ds : List Df} {i : Nat}, (prsOf ds i).lookup x = some n → ∃ (j : Nat) (d : Df), ds[j]? = some d ∧ d.lo = .pr x.1 x.2 ∧ n = i + j
  | [], _, h => by cases h
  | d :: r, i, h => by
    unfold prsOf at h
    split at h
    · rename_i c m hy
      by_cases e : x = (c, m)
      · subst e
        rw [List.lookup_cons_self] at h
        cases h
        exact ⟨0, d, rfl, hy, rfl⟩
      · rw [List.lookup_cons, show (x == (c, m)) = false by simpa using e] at h
        obtain ⟨j, d', h1, h2, h3⟩ := lookup_prs (i := i + 1) h
        exact ⟨j + 1, d', h1, h2, by omega⟩
    · obtain ⟨j, d', h1, h2, h3⟩ := lookup_prs (i := i + 1) h
      exact ⟨j + 1, d', h1, h2, by omega⟩
section
variable {P : Program} {W0 : World} {K : PySem.W.Frag} {mg : Str → Option Value} {base : Heap}
/-- the def at f is there -/
def LoIn (K : PySem.W.Frag) (mg : Str → Option Value) (f : Addr) : Lo → Prop
  | .gl x => mg x = some (.ref f)
  | .me c m => ∀ Cc, PySem.W.nsIn K mainGlobals c = some (some (.ref Cc)) → Meth K Cc m f
  | .pr c p => ∀ Cc, PySem.W.nsIn K mainGlobals c = some (some (.ref Cc)) → ∃ pa, PropOf K Cc p pa f
/-- how its defaults bind -/
def DsIn (K : PySem.W.Frag) (fd : FuncData) (ps : List Str) (ds : List PyData) : Prop := L2.Binds K fd ps [] ∧ (∀ j, j ≤ ds.length → ∃ vs us, Vals vs us ∧ L2.Binds K fd ps us ∧ ∀ w H, RDs K w H (ds.drop j) vs) ∧ (ds = [] → ∀ us : List Value, us.length = ps.length → bindArgs fd ⟨us, []⟩ = pure (ps.zip us))
theorem dsIn_nil {fd : FuncData} {ps : List Str} (h : ∀ us : List Value, us.length = ps.length → bindArgs fd ⟨us, []⟩ = pure (ps.zip us)) : DsIn K fd ps [] :=
  ⟨.all h, fun j hj => ⟨[], [], .nil, .all h, fun w H => by rw [List.drop_nil]; exact .nil⟩, fun _ => h⟩
abbrev FnD (K : PySem.W.Frag) (d : Df) (f : Addr) (fd : FuncData) : Prop := ∃ dvs, L2.FunD K d.n d.q (L2.defArgs d.st) (defBody d.st) (defScope d.st) dvs [] f fd
def DfIn (K : PySem.W.Frag) (mg : Str → Option Value) (d : Df) : Prop := ∃ f fd, FnD K d f fd ∧ LoIn K mg f d.lo ∧ DsIn K fd d.ps d.ds
def ClIn (K : PySem.W.Frag) (mg : Str → Option Value) (c : Str) : Prop := ∃ Cc, PySem.W.nsIn K mainGlobals c = some (some (.ref Cc)) ∧ mg c = some (.ref Cc) ∧ Cls K Cc ∧ PySem.W.noSeq K Cc = true ∧ PySem.W.selfFirst K Cc = true ∧ PySem.W.makesIn K Cc = true ∧ PySem.W.keepIn K (.ref Cc) = true
structure TabIn (K : PySem.W.Frag) (mg : Str → Option Value) (ds : List Df) (kn : Kn) : Prop where
  df : ∀ d ∈ ds, DfIn K mg d
  ok : ∀ d ∈ ds, d.ok ds kn = true
  bl : ∀ x ∈ bltNames, mg x = none
  gc : ∀ x d, kn.gc.lookup x = some d → ∃ u v, mg x = some u ∧ RelV v u ∧ ∀ w H, RD K w H d v
  cl : ∀ c ∈ kn.cl, ClIn K mg c
  fl : ∀ c f, (c, f) ∈ kn.fl → ∀ Cc, PySem.W.nsIn K mainGlobals c = some (some (.ref Cc)) → NoAttr K Cc f
def fnsT (ds : List Df) : List (Option Fn) := ds.map fun d => some d.fn
theorem Wd.dropL_live {w w' : Wd} {a : Addr} (h : (Wd.mk w.mu [] w.p).live a) : w.live a := by
  rcases h with h | h | h
  · exact .inl h
  · cases h
  · exact .inr (.inr h)
theorem Rl.dropL {w : Wd} {m : Mem} {H : Hp} (r : Rl K w m H) : Rl K ⟨w.mu, [], w.p⟩ ⟨[], m.S⟩ H where
  lenS := r.lenS
  lenL := rfl
  ndS := r.ndS
  ndL := fun i j a h => by simp at h
  ap := fun a _ => by simp
  apP := fun a h => ⟨(r.apP a h).1, by simp, (r.apP a h).2.2⟩
  s := fun n o a h1 h2 => RS.go (fun a h => Wd.dropL_live (w' := w) h) (fun _ _ h => h) (r.s n o a h1 h2)
  l := fun n o x h => by simp at h
theorem Ext.dropL {w w' : Wd} {H H' : Hp} (e : Ext w H w' H') (hw : w.l = []) : Ext w H ⟨w'.mu, [], w'.p⟩ H' where
  mu := e.mu
  ln := by rw [hw]; exact Nat.le_refl _
  l := fun n h => by rw [hw] at h; cases h
  p := e.p
  keep := fun a o h n => ⟨(e.keep a o h n).1, fun z => (e.keep a o h n).2 (Wd.dropL_live (w' := w') z)⟩
  pk := e.pk
  tup := e.tup
  frz := e.frz
theorem RW.dropL {w : Wd} {H : Hp} {a : W} {v : V} (h : RW K w H a v) (ha : args [a] = true) : RW K ⟨w.mu, [], w.p⟩ H a v := h.go (fun a h => Wd.dropL_live (w' := w) h) (fun _ _ h => h) ha
theorem start_re {w : Wd} {H : Hp} {N : List Str} {ws : List W} {vs : List V} {n : Nat} (h : RWs K w H ws vs) (hn : n = N.length) : RE K w H (ws.map some ++ List.replicate (n - ws.length) none) (L2.start N vs) := by
  subst hn
  unfold L2.start
  have hl := h.length
  refine ⟨by simp [hl], fun i a e => ?_⟩
  by_cases hi : i < ws.length
  · rw [List.getElem?_append_left (by simpa using hi), List.getElem?_map] at e
    cases q : ws[i]? with
    | none => rw [q] at e; cases e
    | some b =>
      rw [q] at e
      cases e
      obtain ⟨v, e1, e2⟩ := h.get q
      refine ⟨v, ?_, e2⟩
      rw [List.getElem?_append_left (by simpa [← hl] using hi), List.getElem?_map, e1]
      rfl
  · rw [List.getElem?_append_right (by simpa using hi), List.getElem?_replicate] at e
    split at e <;> cases e
theorem outW_rt {a b : W} {m m' : Mem} (h : outW a m = .rt b m') : args [b] = true ∧ b = a ∧ m' = m := by
  cases a with
  | v d => cases h; exact ⟨rfl, rfl, rfl⟩
  | ref n => cases h; exact ⟨rfl, rfl, rfl⟩
  | ro n => cases h; exact ⟨rfl, rfl, rfl⟩
  | exc n => cases h; exact ⟨rfl, rfl, rfl⟩
  | tv n => cases h; exact ⟨rfl, rfl, rfl⟩
  | loc n => cases h
mutual
theorem ex_rt {C : Orc} : ∀ (t : T) {ρ : Env} {m : Mem} {a : W} {m' : Mem}, ex C t ρ m = .rt a m' → args [a] = true
  | .st1 t e, ρ, m, a, m', h => by
    simp only [ex] at h
    cases q : ev C e ρ m with
    | ok w m1 =>
      rw [q] at h; simp only [R.t] at h
      cases q : asT C t w ρ m1 with
      | ok w m1 => rw [q] at h; cases h
      | err _ _ => rw [q] at h; cases h
      | bad => rw [q] at h; cases h
    | err _ _ => rw [q] at h; cases h
    | bad => rw [q] at h; cases h
  | .unp ts es, ρ, m, a, m', h => by
    simp only [ex] at h
    cases q : evs C es ρ m with
    | ok w m1 =>
      rw [q] at h; simp only [R.t] at h
      split at h
      · cases q : (asTs C ts w ρ m1).ne with
        | ok w m1 => rw [q] at h; cases h
        | err _ _ => rw [q] at h; cases h
        | bad => rw [q] at h; cases h
      · cases h
    | err _ _ => rw [q] at h; cases h
    | bad => rw [q] at h; cases h
  | .unpD ts e, ρ, m, a, m', h => by
    simp only [ex] at h
    cases q : ev C e ρ m with
    | ok w m1 =>
      rw [q] at h; simp only [R.t] at h
      split at h
      · rename_i ds
        cases q : (asTs C ts (ds.map .v) ρ m1).ne with
        | ok w m1 => rw [q] at h; cases h
        | err _ _ => rw [q] at h; cases h
        | bad => rw [q] at h; cases h
      · cases h
    | err _ _ => rw [q] at h; cases h
    | bad => rw [q] at h; cases h
  | .aug c f i e, ρ, m, a, m', h => by
    simp only [ex] at h
    split at h
    · rename_i x _
      cases q : ev C e ρ m with
      | ok w m1 =>
        rw [q] at h; simp only [R.t] at h
        split at h
        · cases q : cl C f [x, w] m1 with
          | ok w m1 => rw [q] at h; cases h
          | err _ _ => rw [q] at h; cases h
          | bad => rw [q] at h; cases h
        · cases h
      | err _ _ => rw [q] at h; cases h
      | bad => rw [q] at h; cases h
    · cases h
  | .raise c ns es, ρ, m, a, m', h => by
    simp only [ex] at h
    cases q : evs C es ρ m with
    | ok w m1 =>
      rw [q] at h; simp only [R.t] at h
      cases q : ofO (allV w) m1 with
      | ok w m1 => rw [q] at h; cases h
      | err _ _ => rw [q] at h; cases h
      | bad => rw [q] at h; cases h
    | err _ _ => rw [q] at h; cases h
    | bad => rw [q] at h; cases h
  | .tryT b, ρ, m, a, m', h => by
    simp only [ex] at h
    cases q : exs C b ρ m with
    | rt w m1 => rw [q] at h; cases h; exact exs_rt b q
    | nx _ _ => rw [q] at h; cases h
    | bk _ _ => rw [q] at h; cases h
    | ct _ _ => rw [q] at h; cases h
    | err _ _ _ => rw [q] at h; cases h
    | bad => rw [q] at h; cases h
  | .asg g e, ρ, m, a, m', h => by
    simp only [ex] at h
    cases q : ev C e ρ m with
    | ok w m1 => rw [q] at h; simp only [R.t] at h; split at h <;> cases h
    | err _ _ => rw [q] at h; cases h
    | bad => rw [q] at h; cases h
  | .par is es, ρ, m, a, m', h => by
    simp only [ex] at h
    cases q : evs C es ρ m with
    | ok w m1 => rw [q] at h; simp only [R.t] at h; split at h <;> cases h
    | err _ _ => rw [q] at h; cases h
    | bad => rw [q] at h; cases h
  | .setIx o i e, ρ, m, a, m', h => by
    simp only [ex] at h
    cases q : ev C e ρ m with
    | ok w m1 =>
      rw [q] at h; simp only [R.t] at h
      cases q : ev C o ρ m1 with
      | ok w m1 =>
        rw [q] at h; simp only at h
        cases q : ev C i ρ m1 with
        | ok w m1 => rw [q] at h; simp only at h; split at h <;> cases h
        | err _ _ => rw [q] at h; cases h
        | bad => rw [q] at h; cases h
      | err _ _ => rw [q] at h; cases h
      | bad => rw [q] at h; cases h
    | err _ _ => rw [q] at h; cases h
    | bad => rw [q] at h; cases h
  | .ex e, ρ, m, a, m', h => by
    simp only [ex] at h
    cases q : ev C e ρ m with
    | ok w m1 => rw [q] at h; cases h
    | err _ _ => rw [q] at h; cases h
    | bad => rw [q] at h; cases h
  | .ret e, ρ, m, a, m', h => by
    simp only [ex] at h
    cases q : ev C e ρ m with
    | ok w m1 => rw [q] at h; exact (outW_rt h).1
    | err _ _ => rw [q] at h; cases h
    | bad => rw [q] at h; cases h
  | .retN, ρ, m, a, m', h => by
    simp only [ex] at h
    cases h
    rfl
  | .ife c x y, ρ, m, a, m', h => by
    simp only [ex] at h
    cases q : ev C c ρ m with
    | ok w m1 =>
      rw [q] at h; simp only [R.t] at h
      cases q : ofO (truW m1 w) m1 with
      | ok k m2 =>
        rw [q] at h; simp only at h
        split at h
        · exact exs_rt x h
        · exact exs_rt y h
      | err _ _ => rw [q] at h; cases h
      | bad => rw [q] at h; cases h
    | err _ _ => rw [q] at h; cases h
    | bad => rw [q] at h; cases h
  | .forT g it b, ρ, m, a, m', h => by
    simp only [ex] at h
    cases q : evI C it ρ m with
    | ok ds m1 =>
      rw [q] at h; simp only [R.t] at h
      refine for_rt ?_ h
      intro d ρ m a m' h
      split at h
      · exact exs_rt b h
      · cases h
    | err _ _ => rw [q] at h; cases h
    | bad => rw [q] at h; cases h
  | .while n c b, ρ, m, a, m', h => by
    simp only [ex] at h
    exact while_rt (fun ρ m a m' h => exs_rt b h) h
  | .brk, ρ, m, a, m', h => by simp only [ex] at h; cases h
  | .cont, ρ, m, a, m', h => by simp only [ex] at h; cases h
  | .pass, ρ, m, a, m', h => by simp only [ex] at h; cases h
  | .never, ρ, m, a, m', h => by simp only [ex] at h; cases h
theorem exs_rt {C : Orc} : ∀ (t : TS) {ρ : Env} {m : Mem} {a : W} {m' : Mem}, exs C t ρ m = .rt a m' → args [a] = true
  | .nil, ρ, m, a, m', h => by simp only [exs] at h; cases h
  | .cons t r, ρ, m, a, m', h => by
    simp only [exs] at h
    cases q : ex C t ρ m with
    | nx ρ1 m1 => rw [q] at h; exact exs_rt r h
    | rt b m1 => rw [q] at h; cases h; exact ex_rt t q
    | bk _ _ => rw [q] at h; cases h
    | ct _ _ => rw [q] at h; cases h
    | err _ _ _ => rw [q] at h; cases h
    | bad => rw [q] at h; cases h
theorem for_rt {f : PyData → Env → Mem → RT} (hf : ∀ d ρ m a m', f d ρ m = .rt a m' → args [a] = true) : ∀ {ds : List PyData} {ρ : Env} {m : Mem} {a : W} {m' : Mem}, forR f ds ρ m = .rt a m' → args [a] = true
  | [], ρ, m, a, m', h => by unfold forR at h; cases h
  | d :: r, ρ, m, a, m', h => by
    unfold forR at h
    cases q : f d ρ m with
    | nx ρ1 m1 => rw [q] at h; exact for_rt hf h
    | ct ρ1 m1 => rw [q] at h; exact for_rt hf h
    | rt b m1 => rw [q] at h; cases h; exact hf _ _ _ _ _ q
    | bk _ _ => rw [q] at h; cases h
    | err _ _ _ => rw [q] at h; cases h
    | bad => rw [q] at h; cases h
theorem while_rt {c : Env → Mem → R Bool} {f : Env → Mem → RT} (hf : ∀ ρ m a m', f ρ m = .rt a m' → args [a] = true) : ∀ {n : Nat} {ρ : Env} {m : Mem} {a : W} {m' : Mem}, whileR c f n ρ m = .rt a m' → args [a] = true
  | 0, ρ, m, a, m', h => by unfold whileR at h; cases h
  | n + 1, ρ, m, a, m', h => by
    unfold whileR at h
    cases q : c ρ m with
    | ok k m1 =>
      rw [q] at h; simp only [R.t] at h
      split at h
      · cases q : f ρ m1 with
        | nx ρ1 m1 => rw [q] at h; exact while_rt hf h
        | ct ρ1 m1 => rw [q] at h; exact while_rt hf h
        | rt b m1 => rw [q] at h; cases h; exact hf _ _ _ _ q
        | bk _ _ => rw [q] at h; cases h
        | err _ _ _ => rw [q] at h; cases h
        | bad => rw [q] at h; cases h
      · cases h
    | err _ _ => rw [q] at h; cases h
    | bad => rw [q] at h; cases h
end
theorem tab_ok {ds : List Df} {kn : Kn} (T : TabIn K mg ds kn) : ∀ (k i : Nat) (d : Df), ds[i]? = some d →
    ∃ f fd, FnD K d f fd ∧ LoIn K mg f d.lo ∧ DsIn K fd d.ps d.ds ∧ FnOk P W0 K mg base (L2.CX P W0) (2 * k) f fd d.ps (spZ K (callP (fnsT ds) k) i d.ps.length) := by
  intro k
  induction k with
  | zero =>
    intro i d hd
    obtain ⟨f, fd, h1, h2, h3⟩ := T.df d (List.mem_of_getElem? hd)
    have no : ∀ vs H Q E, ¬ spZ K (callP (fnsT ds) 0) i d.ps.length vs H Q E := by
      rintro vs H Q E ⟨ws, w, S, _, _, _, _, c⟩
      exact c
    exact ⟨f, fd, h1, h2, h3, fun vs H Q E h => absurd h (no _ _ _ _), fun A outer s H args us vs Q E _ _ _ _ h => absurd h (no _ _ _ _)⟩
  | succ k ih =>
    intro i d hd
    have hm := List.mem_of_getElem? hd
    obtain ⟨f, fd, h1, h2, h3⟩ := T.df d hm
    have ok := T.ok d hm
    simp only [Df.ok, Bool.and_eq_true, decide_eq_true_eq] at ok
    obtain ⟨⟨⟨⟨o0, o1⟩, o2⟩, o3⟩, o4⟩ := ok
    have S := scOk_ok o1
    obtain ⟨dvs, h1⟩ := h1
    refine ⟨f, fd, ⟨dvs, h1⟩, h2, h3, h1.ok (CX := L2.CX P W0) (k := 2 * k + 1) S (fun vs H Q E h => ?_) fun cdv A outer s H vs Q E hr h => ?_⟩
    · obtain ⟨ws, w, S, hn, hv, _⟩ := h
      rw [← hv.length]
      exact hn
    · obtain ⟨ws, w, Sm, hn, hv, ha, rl, c⟩ := h
      have hfn : (fnsT ds)[i]? = some (some d.fn) := by unfold fnsT; rw [List.getElem?_map, hd]; rfl
      simp only [callP, hfn, runFn] at c
      rw [if_pos (hn.trans o2.symm)] at c
      generalize hX : cxOf (L2.CX P W0) P W0 K mg base d.N d.q (defScope d.st) f cdv A outer s H E = X
      have eP : X.prog = P := by subst hX; rfl
      have eW : X.w = W0 := by subst hX; rfl
      have eK : X.K = K := by subst hX; rfl
      have eM : X.mg = mg := by subst hX; rfl
      have eB : X.base = base := by subst hX; rfl
      have hr' : Room (2 * k + 1) X.A := by subst hX; exact hr
      have tk : L2.Takes X (fun cls d _ H => E cls d H) := by subst hX; exact takes_of rfl rfl rfl rfl
      have fz : ∀ (j : Nat) (d' : Df), ds[j]? = some d' → ∃ fa, LoIn K mg fa d'.lo ∧ PySem.W.keepIn K (.ref fa) = true ∧ FnZ P W0 K mg base X.A (callP (fnsT ds) k) (d'.fi j) fa := fun j d' e => by
        obtain ⟨f', fd', ⟨dvs', g1⟩, g2, g3, g4⟩ := ih j d' e
        exact ⟨f', g2, g1.kp, ⟨fd', d'.ps, 2 * k, g4, hr', g3.1, g3.2.1⟩⟩
      have ck : CokS X (d.gm ds kn) (callP (fnsT ds) k) (fun _ x w' _ H' => ∀ cls dd, RX K w' H' x cls dd → E cls dd H') := by
        refine ⟨⟨by subst hX; rfl, by subst hX; exact S.nd, by subst hX; rfl, by subst hX; exact S.kind, by subst hX; rfl, ?_, fun σ => ?_⟩, ⟨by subst hX; rfl, by subst hX; exact S.nd, by subst hX; rfl, fun x hx => ?_⟩, by subst hX; exact passes_of rfl, tk.imp fun cls dd σ H' h9 => ?_⟩
        · rw [eP, eW, eK, eM, eB]
          refine ⟨by have := hr'.un; omega, T.bl, fun x fi hx => ?_, T.gc, T.cl, T.fl, fun c m fi hx => ?_, fun c p id hx => ?_, fun _ _ => trivial⟩
          · obtain ⟨j, d', e1, e2, rfl⟩ := lookup_fns hx
            obtain ⟨fa, g1, g2, g3⟩ := fz j d' e1
            rw [e2] at g1
            rw [Nat.zero_add]
            exact ⟨fa, g1, g2, g3⟩
          · obtain ⟨j, d', e1, e2, rfl⟩ := lookup_mts hx
            obtain ⟨fa, g1, g2, g3⟩ := fz j d' e1
            have o := T.ok d' (List.mem_of_getElem? e1)
            simp only [Df.ok, Df.lok, e2, Bool.and_eq_true, decide_eq_true_eq] at o
            rw [e2] at g1
            rw [Nat.zero_add]
            exact ⟨o.1.1.1.1, fun Cc hc => ⟨fa, g1 Cc hc, g3⟩⟩
          · obtain ⟨j, d', e1, e2, rfl⟩ := lookup_prs hx
            obtain ⟨fa, g1, g2, g3⟩ := fz j d' e1
            have o := T.ok d' (List.mem_of_getElem? e1)
            simp only [Df.ok, Df.lok, e2, Bool.and_eq_true, decide_eq_true_eq] at o
            rw [e2] at g1
            rw [Nat.zero_add]
            obtain ⟨⟨o5, o6⟩, o7⟩ := o.1.1.1.1
            refine ⟨o5, fun Cc hc => ?_⟩
            obtain ⟨pa, z⟩ := g1 Cc hc
            refine ⟨pa, fa, z, ?_⟩
            have e : d'.fi j = ⟨j, 1, []⟩ := by
              unfold Df.fi
              rw [o6, List.isEmpty_iff.mp o7]
            rw [← e]
            exact g3
        · intro pins H1 s1 e s2 I cx
          refine passAt tk σ pins H1 s1 e s2 I ?_
          obtain ⟨a, B, H', cls, dd, r1, r2, r3, r4, r5, r6, r7, r8⟩ := cx
          refine ⟨a, B, H', cls, dd, r1, r2, r3, r4, r5, r6, r7, ?_⟩
          obtain ⟨x, w', m', _, hx, hw⟩ := r8
          rw [eK] at hx
          exact hw cls dd hx
        · have hx : (decide ((defScope d.st).names.lookup x = some .local) || decide ((defScope d.st).names.lookup x = some .cell)) = true := hx
          rw [Bool.or_eq_true, decide_eq_true_eq, decide_eq_true_eq] at hx
          refine ⟨by subst hX; exact hx, .inl (by subst hX; rfl)⟩
        · obtain ⟨x, w', m', _, hx, hw⟩ := h9
          rw [eK] at hx
          exact hw cls dd hx
      have hb := sndTs d.fn.body ck (defBody d.st) o4
      refine ⟨_, hb, ws.map some ++ List.replicate (d.fn.ns - d.fn.np) none, ⟨[], Sm⟩, w, ?_, by rw [eK]; exact rl, ?_⟩
      · rw [eK, o2, ← hn]
        exact start_re hv o3
      · rw [eK]
        have hl : w.l = [] := by
          have := rl.lenL
          exact List.eq_nil_of_length_eq_zero this.symm
        cases hz : exs (callP (fnsT ds) k) d.fn.body (ws.map some ++ List.replicate (d.fn.ns - d.fn.np) none) ⟨[], Sm⟩ with
        | nx ρ m =>
          rw [hz] at c
          exact fun σ w' H' e r re => c .non ⟨w'.mu, [], w'.p⟩ H' (e.dropL hl) r.dropL (.v .non)
        | rt a m =>
          rw [hz] at c
          exact fun v w' H' e r rv => c v ⟨w'.mu, [], w'.p⟩ H' (e.dropL hl) r.dropL (rv.dropL (exs_rt _ hz))
        | err x ρ m =>
          rw [hz] at c
          exact fun σ w' H' e r re cls dd hx => c ⟨w'.mu, [], w'.p⟩ H' (e.dropL hl) r.dropL cls dd (hx.mono fun a h => Wd.dropL_live (w' := w') h)
        | bk _ _ => rw [hz] at c; exact c.elim
        | ct _ _ => rw [hz] at c; exact c.elim
        | bad => rw [hz] at c; exact c.elim
end
end Z
set_option maxHeartbeats 4000000
/-! Y18: the end of a law. -/
namespace Z
open PySem PySem.Spec PyProof.Rows L2 RZ
def LoK (K : PySem.W.Frag) (f : Addr) : Lo → Prop
  | .gl x => PySem.W.nsIn K mainGlobals x = some (some (.ref f))
  | .me c m => ∃ C, PySem.W.nsIn K mainGlobals c = some (some (.ref C)) ∧ Meth K C m f
  | .pr c p => ∃ C pa, PySem.W.nsIn K mainGlobals c = some (some (.ref C)) ∧ PropOf K C p pa f
def DfK (K : PySem.W.Frag) (d : Df) : Prop := ∃ f fd, FnD K d f fd ∧ LoK K f d.lo ∧ DsIn K fd d.ps d.ds
def ClK (K : PySem.W.Frag) (fl : List Str) (c : Str) : Prop := ∃ C, PySem.W.nsIn K mainGlobals c = some (some (.ref C)) ∧ Cls K C ∧ PySem.W.noSeq K C = true ∧ PySem.W.selfFirst K C = true ∧ PySem.W.makesIn K C = true ∧ PySem.W.keepIn K (.ref C) = true ∧ ∀ f ∈ fl, NoAttr K C f
structure TabK (K : PySem.W.Frag) (ds : List Df) (kn : Kn) : Prop where
  df : ∀ d ∈ ds, DfK K d
  ok : ∀ d ∈ ds, d.ok ds kn = true
  bl : ∀ x ∈ bltNames, PySem.W.nsIn K mainGlobals x = some none
  gc : ∀ x d, kn.gc.lookup x = some d → ∃ u v, PySem.W.nsIn K mainGlobals x = some (some u) ∧ RelV v u ∧ ∀ w H, RD K w H d v
  cl : ∀ c ∈ kn.cl, ∃ fl, ClK K fl c ∧ ∀ f, (c, f) ∈ kn.fl → f ∈ fl
  fc : ∀ c f, (c, f) ∈ kn.fl → c ∈ kn.cl
theorem lo_gl {K : PySem.W.Frag} {f : Addr} {x : Str} (h : PySem.W.nsIn K mainGlobals x = some (some (.ref f))) : LoK K f (.gl x) := h
theorem lo_me {K : PySem.W.Frag} {f C : Addr} {c m : Str} (h : PySem.W.nsIn K mainGlobals c = some (some (.ref C))) (a : PySem.W.findIn K (.ref C) m = some (some (.ref f))) (b : PySem.W.isFn K (.ref f) = true) (k : PySem.W.keepIn K (.ref f) = true) : LoK K f (.me c m) := ⟨C, h, a, b, k⟩
theorem lo_pr {K : PySem.W.Frag} {f C pa : Addr} {c m : Str} {rest : List Value} (h : PySem.W.nsIn K mainGlobals c = some (some (.ref C))) (a : PySem.W.findIn K (.ref C) m = some (some (.ref pa))) (r : PySem.W.recIn K pa "property" = some (.ref f :: rest)) (b : PySem.W.specialIn K (.ref pa) "__get__" = some (some (.builtin "property.__get__"))) (t : PySem.W.takesIn K (.ref pa) = some true) : LoK K f (.pr c m) := ⟨C, pa, h, a, b, t, ⟨rest, r⟩⟩
theorem cl_mk {K : PySem.W.Frag} {C : Addr} {fl : List Str} {c : Str} (h : PySem.W.nsIn K mainGlobals c = some (some (.ref C))) (c1 : PySem.W.plainGet K C Str.empty = true) (c2 : PySem.W.hasDictIn K C = true) (c3 : PySem.W.plainOver K C = true)
    (c4 : PySem.W.findIn K (.ref C) "__setattr__" = some (some (.builtin "object.__setattr__"))) (h1 : PySem.W.noSeq K C = true) (h2 : PySem.W.selfFirst K C = true) (h3 : PySem.W.makesIn K C = true) (h4 : PySem.W.keepIn K (.ref C) = true) (h5 : ∀ f ∈ fl, NoAttr K C f) : ClK K fl c :=
  ⟨C, h, ⟨c1, c2, c3, c4⟩, h1, h2, h3, h4, h5⟩
theorem na_nil {K : PySem.W.Frag} {C : Addr} : ∀ f ∈ ([] : List Str), NoAttr K C f := fun f h => by cases h
theorem na_cons {K : PySem.W.Frag} {C : Addr} {x : Str} {r : List Str} (h : PySem.W.findIn K (.ref C) x = some none) (t : ∀ f ∈ r, NoAttr K C f) : ∀ f ∈ x :: r, NoAttr K C f := fun f hf => by
  rcases List.mem_cons.mp hf with rfl | hf
  · exact h
  · exact t f hf
theorem cl_one {K : PySem.W.Frag} {c : Str} {fl : List Str} (h : ClK K fl c) : ∀ c' ∈ [c], ∃ fl', ClK K fl' c' ∧ ∀ f, (c', f) ∈ fl.map (fun f => (c, f)) → f ∈ fl' := fun c' hc => by
  obtain rfl := List.mem_singleton.mp hc
  refine ⟨fl, h, fun f hf => ?_⟩
  obtain ⟨g, hg, e⟩ := List.mem_map.mp hf
  cases e
  exact hg
theorem fc_one {c : Str} {fl : List Str} : ∀ c' f, (c', f) ∈ fl.map (fun f => (c, f)) → c' ∈ [c] := fun c' f hf => by
  obtain ⟨g, hg, e⟩ := List.mem_map.mp hf
  cases e
  exact List.mem_singleton.mpr rfl
theorem bl_21 {K : PySem.W.Frag} (b0 : PySem.W.nsIn K mainGlobals "len" = some none) (b1 : PySem.W.nsIn K mainGlobals "sum" = some none) (b2 : PySem.W.nsIn K mainGlobals "min" = some none) (b3 : PySem.W.nsIn K mainGlobals "max" = some none) (b4 : PySem.W.nsIn K mainGlobals "all" = some none) (b5 : PySem.W.nsIn K mainGlobals "any" = some none) (b6 : PySem.W.nsIn K mainGlobals "int" = some none)
    (b7 : PySem.W.nsIn K mainGlobals "abs" = some none) (b8 : PySem.W.nsIn K mainGlobals "list" = some none) (b9 : PySem.W.nsIn K mainGlobals "tuple" = some none) (b10 : PySem.W.nsIn K mainGlobals "isinstance" = some none) (b11 : PySem.W.nsIn K mainGlobals "str" = some none) (b12 : PySem.W.nsIn K mainGlobals "bool" = some none) (b13 : PySem.W.nsIn K mainGlobals "range" = some none)
    (b14 : PySem.W.nsIn K mainGlobals "enumerate" = some none) (b15 : PySem.W.nsIn K mainGlobals "zip" = some none) (b16 : PySem.W.nsIn K mainGlobals "sorted" = some none) (b17 : PySem.W.nsIn K mainGlobals "set" = some none) (b18 : PySem.W.nsIn K mainGlobals "dict" = some none) (b19 : PySem.W.nsIn K mainGlobals "LookupError" = some none) (b20 : PySem.W.nsIn K mainGlobals "ValueError" = some none) :
    ∀ x ∈ bltNames, PySem.W.nsIn K mainGlobals x = some none := by
  intro x hx
  simp only [bltNames, List.mem_cons, List.not_mem_nil, or_false] at hx
  rcases hx with rfl | rfl | rfl | rfl | rfl | rfl | rfl | rfl | rfl | rfl | rfl | rfl | rfl | rfl | rfl | rfl | rfl | rfl | rfl | rfl | rfl <;> assumption
theorem LoK.lo {K : PySem.W.Frag} {h : Heap} {mg : Str → Option Value} {f : Addr} {l : Lo} (X : K.In h) (G : h.Ns mainGlobals mg) (q : LoK K f l) : LoIn K mg f l := by
  cases l with
  | gl x => exact PySem.W.mg_of X G q
  | me c m =>
    obtain ⟨C, h1, h2⟩ := q
    intro Cc hc
    rw [h1] at hc
    cases hc
    exact h2
  | pr c p =>
    obtain ⟨C, pa, h1, h2⟩ := q
    intro Cc hc
    rw [h1] at hc
    cases hc
    exact ⟨pa, h2⟩
theorem TabK.tab {K : PySem.W.Frag} {h : Heap} {mg : Str → Option Value} {ds : List Df} {kn : Kn} (T : TabK K ds kn) (X : K.In h) (G : h.Ns mainGlobals mg) : TabIn K mg ds kn where
  df := fun d hd => by
    obtain ⟨f, fd, h1, h2, h3⟩ := T.df d hd
    exact ⟨f, fd, h1, h2.lo X G, h3⟩
  ok := T.ok
  bl := fun x hx => PySem.W.mg_none_of X G (T.bl x hx)
  gc := fun x d hd => by
    obtain ⟨u, v, h1, h2, h3⟩ := T.gc x d hd
    exact ⟨u, v, PySem.W.mg_of X G h1, h2, h3⟩
  cl := fun c hc => by
    obtain ⟨fl, ⟨C, h1, h2, h3, h4, h5, h6, _⟩, _⟩ := T.cl c hc
    exact ⟨C, h1, PySem.W.mg_of X G h1, h2, h3, h4, h5, h6⟩
  fl := fun c f hf Cc hc => by
    obtain ⟨fl, ⟨C, h1, _, _, _, _, _, h7⟩, h8⟩ := T.cl c (T.fc c f hf)
    rw [h1] at hc
    cases hc
    exact h7 f (h8 f hf)
/-- a def without defaults -/
theorem dfN {K : PySem.W.Frag} {d : Df} {lo : Lo} {n q : Str} {st : Stmt} {ps N : List Str} {fn : Fn} {f : Addr} {oc : Value} {od an : Option Addr} {osl : Array (Option Value)} {kV doc pm cdv ct : Value} (hd : d = ⟨lo, n, q, st, ps, [], N, fn⟩)
    (hl : LoK K f lo) (l : K.lookup f = some ⟨oc, od, .func (PySem.W.fnOf n q (L2.defArgs st) (L2.defBody st) (L2.defScope st) .none kV doc pm an cdv ct), osl⟩)
    (c : PySem.W.codeIn K cdv q = true) (k : PySem.W.keepIn K (.ref f) = true) (b : ∀ (kV doc pm : Value) (an : Option Addr) (cdv ct : Value) (us : List Value), us.length = ps.length → bindArgs (PySem.W.fnOf n q (L2.defArgs st) (L2.defBody st) (L2.defScope st) .none kV doc pm an cdv ct) ⟨us, []⟩ = pure (ps.zip us)) : DfK K d := by
  subst hd
  exact ⟨f, _, ⟨[], ⟨⟨oc, od, .none, kV, doc, pm, an, cdv, ct, osl, rfl, l, c, .inl ⟨rfl, rfl⟩, .inl rfl⟩, k⟩⟩, hl, dsIn_nil (b _ _ _ _ _ _)⟩
/-- a def with one default -/
theorem dfD {K : PySem.W.Frag} {d : Df} {lo : Lo} {n q : Str} {st : Stmt} {ps N : List Str} {d0 : PyData} {fn : Fn} {f T : Addr} {oc : Value} {od an : Option Addr} {osl : Array (Option Value)} {kV doc pm cdv ct u0 : Value} {v0 : V} {oT : Obj} {nT : Nat} (hd : d = ⟨lo, n, q, st, ps, [d0], N, fn⟩)
    (hl : LoK K f lo) (l : K.lookup f = some ⟨oc, od, .func (PySem.W.fnOf n q (L2.defArgs st) (L2.defBody st) (L2.defScope st) (.ref T) kV doc pm an cdv ct), osl⟩)
    (c : PySem.W.codeIn K cdv q = true) (k : PySem.W.keepIn K (.ref f) = true) (hT : K.lookup T = some oT) (hdat : oT.data = .seq [u0].toArray nT) (hv : RelV v0 u0) (hr : ∀ w H, RD K w H d0 v0) (hp : 1 ≤ ps.length)
    (b : ∀ (j : Nat), j ≤ 1 → ∀ (T : Addr) (kV doc pm : Value) (an : Option Addr) (cdv ct : Value) (us its : List Value), us.length + (1 - j) = ps.length → its.length = 1 →
      ∃ kk, bindArgs (PySem.W.fnOf n q (L2.defArgs st) (L2.defBody st) (L2.defScope st) (.ref T) kV doc pm an cdv ct) ⟨us, []⟩ = seqItems? (.ref T) >>= kk ∧ kk (some its.toArray) = pure (ps.zip (us ++ its.drop j))) : DfK K d := by
  subst hd
  have F : L2.FunD K n q (L2.defArgs st) (defBody st) (defScope st) [v0] [] f (PySem.W.fnOf n q (L2.defArgs st) (L2.defBody st) (L2.defScope st) (.ref T) kV doc pm an cdv ct) :=
    ⟨⟨oc, od, .ref T, kV, doc, pm, an, cdv, ct, osl, rfl, l, c, .inr ⟨by simp, T, oT, [u0], nT, rfl, hT, hdat, .cons hv .nil⟩, .inl rfl⟩, k⟩
  have two : ∀ j, j ≤ 1 → ∃ ds, Vals ([v0].drop j) ds ∧ L2.Binds K (PySem.W.fnOf n q (L2.defArgs st) (L2.defBody st) (L2.defScope st) (.ref T) kV doc pm an cdv ct) ps ds := fun j hj =>
    F.binds1 (ps.length - (1 - j)) j (by simp) (by simp; omega) fun T kV doc pm an cdv ct us its h1 h2 => b j hj T kV doc pm an cdv ct us its (by omega) h2
  refine ⟨f, _, ⟨[v0], F⟩, hl, ?_, fun j hj => ?_, fun z => by cases z⟩
  · obtain ⟨ds, h1, h2⟩ := two 1 (Nat.le_refl _)
    cases h1
    exact h2
  · have hj : j ≤ 1 := hj
    obtain ⟨ds, h1, h2⟩ := two j hj
    refine ⟨_, ds, h1, h2, fun w H => ?_⟩
    rcases Nat.le_one_iff_eq_zero_or_eq_one.mp hj with rfl | rfl
    · exact .cons (hr w H) .nil
    · exact .nil
theorem df_nil {K : PySem.W.Frag} : ∀ d ∈ ([] : List Df), DfK K d := fun d h => by cases h
theorem df_cons {K : PySem.W.Frag} {d : Df} {r : List Df} (h : DfK K d) (t : ∀ d ∈ r, DfK K d) : ∀ e ∈ d :: r, DfK K e := fun e he => by
  rcases List.mem_cons.mp he with rfl | he
  · exact h
  · exact t e he
/-- an empty tuple among what the program holds -/
theorem rd_unit {K : PySem.W.Frag} {a : Addr} {o : Obj} {n : Nat} (h : K.lookup a = some o) (hc : o.cls = .type "tuple") (hd : o.data = .seq #[] n) (w : Wd) (H : Hp) : RD K w H (.tuple []) (.ref a) :=
  .tup (.inr ⟨o, #[], n, h, hc, hd, Nat.zero_le _, .nil⟩) .nil
/-- a def whose one default is the empty tuple -/
theorem dfU {K : PySem.W.Frag} {d : Df} {lo : Lo} {n q : Str} {st : Stmt} {ps N : List Str} {fn : Fn} {f T e : Addr} {oc : Value} {od an : Option Addr} {osl : Array (Option Value)} {kV doc pm cdv ct : Value} {oT oe : Obj} {nT ne : Nat} (hd : d = ⟨lo, n, q, st, ps, [.tuple []], N, fn⟩)
    (hl : LoK K f lo) (l : K.lookup f = some ⟨oc, od, .func (PySem.W.fnOf n q (L2.defArgs st) (L2.defBody st) (L2.defScope st) (.ref T) kV doc pm an cdv ct), osl⟩)
    (c : PySem.W.codeIn K cdv q = true) (k : PySem.W.keepIn K (.ref f) = true) (hT : K.lookup T = some oT) (hdat : oT.data = .seq [Value.ref e].toArray nT) (he : K.lookup e = some oe) (hec : oe.cls = .type "tuple") (hed : oe.data = .seq #[] ne) (hp : 1 ≤ ps.length)
    (b : ∀ (j : Nat), j ≤ 1 → ∀ (T : Addr) (kV doc pm : Value) (an : Option Addr) (cdv ct : Value) (us its : List Value), us.length + (1 - j) = ps.length → its.length = 1 →
      ∃ kk, bindArgs (PySem.W.fnOf n q (L2.defArgs st) (L2.defBody st) (L2.defScope st) (.ref T) kV doc pm an cdv ct) ⟨us, []⟩ = seqItems? (.ref T) >>= kk ∧ kk (some its.toArray) = pure (ps.zip (us ++ its.drop j))) : DfK K d :=
  dfD (v0 := .ref e) hd hl l c k hT hdat rfl (rd_unit he hec hed) hp b
theorem gc_nil {K : PySem.W.Frag} : ∀ x d, ([] : List (Str × PyData)).lookup x = some d → ∃ u v, PySem.W.nsIn K mainGlobals x = some (some u) ∧ RelV v u ∧ ∀ w H, RD K w H d v := fun x d h => by cases h
theorem gc_str {K : PySem.W.Frag} {x y z : Str} {t : Tok} {r : List (Str × PyData)} (h : PySem.W.nsIn K mainGlobals x = some (some (.str z t))) (hz : decide (z = y) = true) (k : ∀ x d, r.lookup x = some d → ∃ u v, PySem.W.nsIn K mainGlobals x = some (some u) ∧ RelV v u ∧ ∀ w H, RD K w H d v) :
    ∀ n d, ((x, PyData.str y) :: r).lookup n = some d → ∃ u v, PySem.W.nsIn K mainGlobals n = some (some u) ∧ RelV v u ∧ ∀ w H, RD K w H d v := fun n d e => by
  obtain rfl := of_decide_eq_true hz
  by_cases q : n = x
  · subst q
    rw [List.lookup_cons_self] at e
    cases e
    exact ⟨_, .str z, h, ⟨t, rfl⟩, fun w H => .str z⟩
  · rw [List.lookup_cons, show (n == x) = false by simpa using q] at e
    exact k n d e
theorem sp_law {K : PySem.W.Frag} {C : Orc} {i : Nat} {H : Hp} {a : Addr} {ns : List Int} (hO : Only H) (hS : SqL K H a (ns.map V.int)) (h : ∃ m, C i [.ro (ns.map .int)] [] = .ok (.v (.bool true)) m) :
    spZ K C i 1 [.ref a] H (fun v _ => v = .bl true) fun _ _ _ => False := by
  obtain ⟨m, h⟩ := h
  have hR : SqR K H a (ns.map V.int) := by
    rcases hS with (hS | hS) | hS
    · rcases hO a with z | ⟨o, xs, z⟩
      · rw [z] at hS; cases hS
      · rw [z] at hS; cases hS
    · exact .inl hS
    · exact .inr hS
  have hd : ∀ ns : List Int, RDs K ⟨[], [], fun _ => False⟩ H (ns.map .int) (ns.map V.int) := by
    intro ns
    induction ns with
    | nil => exact .nil
    | cons n ns ih => exact .cons (.int n) ih
  refine ⟨[.ro (ns.map .int)], ⟨[], [], fun _ => False⟩, [], rfl, .cons (.ro hR (hd ns)) .nil, rfl, ⟨rfl, rfl, .nil, (fun i j a h => by simp at h), (fun a h => nomatch h), (fun a h => h.elim), (fun n o a h => by simp at h), (fun n o x h => by simp at h)⟩, ?_⟩
  rw [h]
  intro v w' H' e r rv
  cases rv with
  | v rv => cases rv; rfl
theorem law_fn {l : PySem.W.OpenLaw} {w : World} {K : PySem.W.Frag} {h : Heap} {mg : Str → Option Value} {fa : Addr} {ds : List Df} {kn : Kn} {d : Df} {i k : Nat} {x y : Str} (X : K.In h) (G : h.Ns mainGlobals mg) (hy : d.lo = .gl y) (hfa : mg y = some (.ref fa)) (T : TabK K ds kn) (hd : ds[i]? = some d) (hp : d.ps = [x]) (hn : d.ds = []) :
    ∃ fd : FuncData, (∀ (s : Shared) (u : Value), BindsTo s fd ⟨[u], []⟩ [(x, u)]) ∧ ∀ base : Heap, K.In base → base.Ns mainGlobals mg → FnOk l.prog w K mg base (L2.CX l.prog w) (2 * k) fa fd [x] (spZ K (callP (fnsT ds) k) i 1) := by
  have T' := T.tab X G
  obtain ⟨f, fd, ⟨dvs, h1⟩, h2, h3⟩ := T'.df d (List.mem_of_getElem? hd)
  rw [hy] at h2
  have e := hfa.symm.trans h2
  cases e
  refine ⟨fd, fun s u => .of_eq (by have := h3.2.2 hn [u] (by rw [hp]; rfl); rw [hp] at this; exact this), fun base hb hn => ?_⟩
  obtain ⟨f', fd', ⟨dvs', g1⟩, g2, g3, g4⟩ := tab_ok (P := l.prog) (W0 := w) (base := base) T' k i d hd
  rw [hy] at g2
  have e := h2.symm.trans g2
  cases e
  obtain ⟨oc, od, dV, kV, doc, pm, an, cdv, ct, osl, rfl, lk, hcd, _⟩ := h1.ex
  obtain ⟨oc', od', dV', kV', doc', pm', an', cdv', ct', osl', rfl, lk', hcd', _⟩ := g1.ex
  rw [lk] at lk'
  cases lk'
  rw [hp] at g4
  exact g4
theorem CX_no {P : Program} {w : World} {H : Hp} {s : Shared} {e : Value} {s' : Shared} (h : L2.CX P w [] H s (fun _ _ _ => False) e s') : False := by
  obtain ⟨_, _, _, _, _, _, _, _, _, _, _, _, z⟩ := h
  exact z
end Z
set_option maxHeartbeats 4000000
namespace L
open PySem Z
/-- law: 0 _law_script, 1 _law_cells_here, 2 _law_k -/
def Flaw : Fn := ⟨1, 3, (.cons (.asg (.nm 1) (.call 3 (.cons (.var 0) (.cons (.cst (.int 3)) .nil)))) (.cons (.ret (.blt .all (.cons (.lst .fz (.comp [2] (.nm 2) (.rng1 (.blt .len (.cons (.var 1) .nil))) .nil (.call 1 (.cons (.call 2 (.cons (.var 1) (.cons (.var 2) .nil))) .nil)))) .nil))) .nil))⟩
/-- _law_right: 0 _law_urn, 1 _law_turn, 2 _law_acts_so, 3 _law_big_so, 4 _law_plate, 5 _law_sizes_so, 6 _law_least, 7 _law_ends_so, 8 _law_always_so, 9 _law_lot_so, 10 _law_own, 11 _law_names_so, 12 _law_got, 13 _law_k, 14 _law_is_so -/
def F_law_right : Fn := ⟨1, 15, (.cons (.ife (.not (.call 21 .nil)) (.cons (.ret (.cst (.bool false))) .nil) .nil) (.cons (.forT (.nm 1) (.rng1 (.cst (.int 8))) (.cons (.asg (.nm 2) (.sl (.tup (.cons (.cst (.str "a")) (.cons (.cst (.str "b")) (.cons (.cst (.str "c")) (.cons (.cst (.str "d")) (.cons (.cst (.str "e")) (.cons (.cst (.str "f")) .nil))))))) .none (.some (.bin .add (.cst (.int 2)) (.call 20 (.cons (.var 0) (.cons (.cst (.int 5)) .nil))))))) (.cons (.par [3, 4] (.cons (.call 19 (.cons (.var 0) (.cons (.var 2) .nil))) (.cons (.new "Board" 18 (.cons (.var 2) .nil) []) .nil))) (.cons (.st1 (.it "Board" 17 (.var 4) (.cst (.str "m"))) (.var 3)) (.cons (.unp [(.nm 5), (.nm 6), (.nm 7), (.nm 8)] (.cons (.lst .fz (.disp .nil)) (.cons (.bin .add (.blt .len (.cons (.var 2) .nil)) (.cst (.int 1))) (.cons (.lst .fz (.disp .nil)) (.cons (.lst .fz (.of (.var 2))) .nil))))) (.cons (.forT (.nm 9) (.seq (.call 12 (.cons (.var 2) .nil))) (.cons (.forT (.nm 10) (.seq (.var 2)) (.cons (.ife (.cmp .ne (.cmp .isin (.var 10) (.var 9)) (.cmp .isin (.var 10) (.prp "Board" "fails" 15 (.var 4)))) (.cons (.ex (.mc (.meth "attempt") "Board" 16 (.var 4) (.cons (.tup (.cons (.tup (.cons (.ix (.lst .fz (.disp (.cons (.cst (.str "mend")) (.cons (.cst (.str "fail")) .nil)))) (.blt .int (.cons (.cmp .isin (.var 10) (.var 9)) .nil))) (.cons (.var 10) .nil))) .nil)) .nil) [])) .nil) .nil) .nil)) (.cons (.asg (.nm 11) (.lst .fz (.comp [10, 14] (.tp (.cons (.nm 10) (.cons (.nm 14) .nil))) (.seq (.mc (.meth "run") "Board" 14 (.var 4) (.cons (.cst (.str "m")) .nil) [])) .nil (.var 10)))) (.cons (.par [5, 8] (.cons (.bin .add (.var 5) (.lst .fz (.disp (.cons (.blt .len (.cons (.var 11) .nil)) .nil)))) (.cons (.lst .fz (.comp [10] (.nm 10) (.seq (.var 8)) (.cons (.cmp .isin (.var 10) (.var 11)) .nil) (.var 10))) .nil))) (.cons (.ife (.notN (.mc (.meth "end") "Board" 13 (.var 4) (.cons (.cst (.str "m")) .nil) [])) (.cons (.par [6, 7] (.cons (.blt .min (.cons (.var 6) (.cons (.blt .len (.cons (.var 9) .nil)) .nil))) (.cons (.bin .add (.var 7) (.lst .fz (.disp (.cons (.mc (.meth "end") "Board" 13 (.var 4) (.cons (.cst (.str "m")) .nil) []) .nil)))) .nil))) .nil) .nil) .nil))))) (.cons (.asg (.nm 12) (.lst .fz (.disp (.cons (.call 11 (.cons (.var 3) .nil)) (.cons (.call 10 (.cons (.var 3) .nil)) (.cons (.call 9 (.cons (.var 3) .nil)) (.cons (.call 8 (.cons (.var 3) .nil)) .nil))))))) (.cons (.ife (.not (.call 4 (.cons (.var 12) (.cons (.lst .fz (.disp (.cons (.blt .len (.cons (.var 2) .nil)) (.cons (.var 6) (.cons (.blt .max (.cons (.var 5) .nil)) (.cons (.blt .min (.cons (.var 5) .nil)) .nil)))))) .nil)))) (.cons (.ret (.cst (.bool false))) .nil) .nil) (.cons (.forT (.nm 13) (.rng1 (.blt .len (.cons (.var 2) .nil))) (.cons (.asg (.nm 10) (.call 7 (.cons (.var 3) (.cons (.var 13) .nil)))) (.cons (.ife (.not (.call 4 (.cons (.lst .fz (.disp (.cons (.call 6 (.cons (.var 3) (.cons (.var 13) .nil))) (.cons (.call 5 (.cons (.var 3) (.cons (.var 13) .nil))) .nil)))) (.cons (.lst .fz (.disp (.cons (.cmp .isin (.var 10) (.var 8)) (.cons (.cmp .isin (.var 10) (.var 7)) .nil)))) .nil)))) (.cons (.ret (.cst (.bool false))) .nil) .nil) .nil))) .nil))))))))) (.cons (.ret (.cst (.bool true))) .nil)))⟩
/-- _law_box: 0 _law_script, 1 _law_k, 2 _law_cell -/
def F_law_box : Fn := ⟨2, 3, (.cons (.asg (.nm 2) (.ite (.cmp .lt (.var 1) (.blt .len (.cons (.var 0) .nil))) (.ix (.var 0) (.var 1)) (.cst (.int 0)))) (.cons (.ret (.lst .shr (.disp (.cons (.bin .mul (.blt .abs (.cons (.var 2) .nil)) (.blt .int (.cons (.cmp .ge (.blt .abs (.cons (.var 2) .nil)) (.bin .pow (.cst (.int 10)) (.cst (.int 18)))) .nil))) (.cons (.bin .add (.bin .add (.bin .mod (.blt .int (.cons (.var 2) .nil)) (.cst (.int 2305843009213693951))) (.bin .mul (.cst (.int 39373)) (.var 1))) (.cst (.int 10516098))) (.cons (.cst (.int 0)) .nil)))))) .nil))⟩
/-- _law_cells: 0 _law_script, 1 _law_top, 2 _law_cells_here, 3 _law_k, 4 _law_cell, 5 _law_at_so -/
def F_law_cells : Fn := ⟨2, 6, (.cons (.asg (.nm 2) (.or (.cons (.lst .loc (.of (.sl (.var 0) .none (.some (.var 1))))) (.cons (.lst .loc (.disp (.cons (.cst (.int 0)) .nil))) .nil)))) (.cons (.forT (.tp (.cons (.nm 3) (.cons (.nm 4) .nil))) (.enm (.sl (.var 0) (.some (.var 1)) (.some (.cst (.int 63))))) (.cons (.asg (.nm 5) (.bin .mod (.blt .int (.cons (.var 3) .nil)) (.var 1))) (.cons (.setIx (.var 2) (.var 5) (.bin .add (.ix (.var 2) (.var 5)) (.bin .mul (.var 4) (.bin .add (.var 3) (.cst (.int 2)))))) .nil))) (.cons (.ret (.frz (.var 2))) .nil)))⟩
/-- _law_same: 0 _law_got, 1 _law_goal, 2 _law_mine_so, 3 _law_own -/
def F_law_same : Fn := ⟨2, 4, (.cons (.ife (.isi [.list, .tuple] (.var 1)) (.cons (.ife (.or (.cons (.cmp .ne (.isi [.list] (.var 0)) (.isi [.list] (.var 1))) (.cons (.cmp .ne (.isi [.tuple] (.var 0)) (.isi [.tuple] (.var 1))) .nil))) (.cons (.ret (.cst (.bool false))) .nil) .nil) (.cons (.ret (.and (.cons (.cmp .eq (.blt .len (.cons (.var 0) .nil)) (.blt .len (.cons (.var 1) .nil))) (.cons (.blt .all (.cons (.lst .fz (.comp [2, 3] (.tp (.cons (.nm 2) (.cons (.nm 3) .nil))) (.zip (.var 0) (.var 1)) .nil (.call 4 (.cons (.var 2) (.cons (.var 3) .nil))))) .nil)) .nil)))) .nil)) .nil) (.cons (.ife (.or (.cons (.isN (.var 1)) (.cons (.isi [.bool, .str] (.var 1)) .nil))) (.cons (.ret (.and (.cons (.cmp .eq (.var 0) (.var 1)) (.cons (.cmp .eq (.isi [.bool] (.var 0)) (.isi [.bool] (.var 1))) (.cons (.cmp .eq (.isN (.var 0)) (.isN (.var 1))) .nil))))) .nil) .nil) (.cons (.ret (.and (.cons (.isi [.int] (.var 0)) (.cons (.not (.isi [.bool] (.var 0))) (.cons (.cmp .eq (.var 0) (.var 1)) .nil))))) .nil)))⟩
/-- can_be_end: 0 big, 1 place, 2 word, 3 left, 4 right -/
def Fcan_be_end : Fn := ⟨2, 5, (.cons (.ex (.call 23 (.cons (.var 0) (.cons (.var 1) .nil)))) (.cons (.ret (.blt .all (.cons (.lst .fz (.comp [2, 3, 4] (.tp (.cons (.nm 2) (.cons (.nm 3) (.cons (.nm 4) .nil)))) (.seq (.call 22 (.cons (.var 0) (.cons (.var 1) .nil)))) .nil (.or (.cons (.cmp .ne (.var 2) (.cst (.str "or"))) (.cons (.cmp .eq (.var 4) (.cst (.int 0))) .nil))))) .nil))) .nil))⟩
/-- is_always_done: 0 big, 1 place, 2 word, 3 left, 4 right, 5 many, 6 part -/
def Fis_always_done : Fn := ⟨2, 7, (.cons (.ex (.call 23 (.cons (.var 0) (.cons (.var 1) .nil)))) (.cons (.ret (.blt .all (.cons (.lst .fz (.comp [2, 3, 4] (.tp (.cons (.nm 2) (.cons (.nm 3) (.cons (.nm 4) .nil)))) (.seq (.call 22 (.cons (.var 0) (.cons (.var 1) .nil)))) .nil (.or (.cons (.cmp .eq (.var 2) (.cst (.str "then"))) (.cons (.cmp .eq (.blt .sum (.cons (.lst .fz (.comp [5, 6] (.tp (.cons (.nm 5) (.cons (.nm 6) .nil))) (.seq (.var 3)) .nil (.var 5))) .nil)) (.cst (.int 0))) .nil))))) .nil))) .nil))⟩
/-- act_at: 0 big, 1 place, 2 rest, 3 many, 4 part, 5 size -/
def Fact_at : Fn := ⟨2, 6, (.cons (.ex (.call 23 (.cons (.var 0) (.cons (.var 1) .nil)))) (.cons (.asg (.nm 2) (.var 1)) (.cons (.while 1000 (.not (.isi [.str] (.var 0))) (.cons (.forT (.tp (.cons (.nm 3) (.cons (.nm 4) .nil))) (.seq (.call 24 (.cons (.var 0) .nil))) (.cons (.asg (.nm 5) (.call 11 (.cons (.var 4) .nil))) (.cons (.ife (.cmp .lt (.var 2) (.bin .mul (.var 3) (.var 5))) (.cons (.par [0, 2] (.cons (.var 4) (.cons (.bin .mod (.var 2) (.var 5)) .nil))) (.cons (.brk) .nil)) .nil) (.cons (.asg (.nm 2) (.bin .sub (.var 2) (.bin .mul (.var 3) (.var 5)))) .nil)))) .nil)) (.cons (.ret (.var 0)) .nil))))⟩
/-- shortest_run: 0 big -/
def Fshortest_run : Fn := ⟨1, 1, (.cons (.ret (.blt .min (.cons (.call 25 (.cons (.var 0) (.cons (.cst (.bool false)) .nil))) .nil))) .nil)⟩
/-- longest_run: 0 big -/
def Flongest_run : Fn := ⟨1, 1, (.cons (.ret (.blt .max (.cons (.call 25 (.cons (.var 0) (.cons (.cst (.bool true)) .nil))) .nil))) .nil)⟩
/-- fewest_failing: 0 big, 1 many, 2 part -/
def Ffewest_failing : Fn := ⟨1, 3, (.cons (.ife (.isi [.str] (.var 0)) (.cons (.ret (.cst (.int 1))) .nil) .nil) (.cons (.ife (.cmp .eq (.ix (.var 0) (.cst (.int 0))) (.cst (.str "or"))) (.cons (.ret (.blt .sum (.cons (.lst .fz (.comp [1, 2] (.tp (.cons (.nm 1) (.cons (.nm 2) .nil))) (.seq (.call 24 (.cons (.var 0) .nil))) .nil (.bin .mul (.var 1) (.call 10 (.cons (.var 2) .nil))))) .nil))) .nil) .nil) (.cons (.ret (.blt .min (.cons (.lst .fz (.comp [1, 2] (.tp (.cons (.nm 1) (.cons (.nm 2) .nil))) (.seq (.call 24 (.cons (.var 0) .nil))) .nil (.call 10 (.cons (.var 2) .nil)))) .nil))) .nil)))⟩
/-- how_many_acts: 0 big, 1 many, 2 part -/
def Fhow_many_acts : Fn := ⟨1, 3, (.cons (.ife (.isi [.str] (.var 0)) (.cons (.ret (.cst (.int 1))) .nil) .nil) (.cons (.ret (.blt .sum (.cons (.lst .fz (.comp [1, 2] (.tp (.cons (.nm 1) (.cons (.nm 2) .nil))) (.seq (.call 24 (.cons (.var 0) .nil))) .nil (.bin .mul (.var 1) (.call 11 (.cons (.var 2) .nil))))) .nil))) .nil))⟩
/-- _law_lots: 0 _law_acts_so, 1 _law_found, 2 _law_own, 3 _law_near -/
def F_law_lots : Fn := ⟨1, 4, (.cons (.asg (.nm 1) (.lst .fz (.disp (.cons (.tup .nil) .nil)))) (.cons (.forT (.nm 2) (.seq (.var 0)) (.cons (.asg (.nm 1) (.bin .add (.var 1) (.lst .fz (.comp [3] (.nm 3) (.seq (.var 1)) .nil (.bin .add (.var 3) (.tup (.cons (.var 2) .nil))))))) .nil)) (.cons (.ret (.var 1)) .nil)))⟩
/-- Board_end: 0 self, 1 name -/
def FBoard_end : Fn := ⟨2, 2, (.cons (.ex (.mc (.meth "check") "Board" 27 (.var 0) (.cons (.var 1) .nil) [])) (.cons (.ret (.call 26 (.cons (.ix (.fld "Board" (.var 0) "own_bodies") (.var 1)) (.cons (.fld "Board" (.var 0) "own_fails") .nil)))) .nil))⟩
/-- Board_run: 0 self, 1 name -/
def FBoard_run : Fn := ⟨2, 2, (.cons (.ex (.mc (.meth "check") "Board" 27 (.var 0) (.cons (.var 1) .nil) [])) (.cons (.ret (.call 28 (.cons (.ix (.fld "Board" (.var 0) "own_bodies") (.var 1)) (.cons (.fld "Board" (.var 0) "own_fails") .nil)))) .nil))⟩
/-- Board_fails: 0 self -/
def FBoard_fails : Fn := ⟨1, 1, (.cons (.ret (.fld "Board" (.var 0) "own_fails")) .nil)⟩
/-- Board_attempt: 0 self, 1 deeds, 2 state, 3 past, 4 number, 5 deed, 6 raised, 7 value -/
def FBoard_attempt : Fn := ⟨2, 8, (.cons (.par [2, 3] (.cons (.mc (.meth "state") "Board" 30 (.var 0) .nil []) (.cons (.lst .fz (.of (.fld "Board" (.var 0) "own_past"))) .nil))) (.cons (.forT (.tp (.cons (.nm 4) (.cons (.nm 5) .nil))) (.enm (.var 1)) (.cons (.tryT (.cons (.ex (.mc (.meth "do") "Board" 29 (.var 0) (.cons (.blt .tuple (.cons (.var 5) .nil)) .nil) [])) .nil)) .nil)) (.cons (.st1 (.fld "Board" (.var 0) "own_past") (.lst .shr (.disp (.star (.var 3) (.cons (.var 2) .nil))))) .nil)))⟩
/-- Board_setitem: 0 self, 1 name, 2 body, 3 own -/
def FBoard_setitem : Fn := ⟨3, 4, (.cons (.asg (.nm 3) (.call 34 (.cons (.var 2) .nil))) (.cons (.ex (.mc (.meth "check_acts") "Board" 33 (.var 0) (.cons (.var 3) .nil) [])) (.cons (.ife (.and (.cons (.cmp .isin (.var 1) (.fld "Board" (.var 0) "own_frames")) (.cons .never .nil))) (.cons (.never) .nil) .nil) (.cons (.ex (.mc (.meth "keep") "Board" 32 (.var 0) .nil [])) (.cons (.st1 (.fld "Board" (.var 0) "own_bodies") (.dstar (.fld "Board" (.var 0) "own_bodies") (.var 1) (.var 3))) (.cons (.st1 (.fld "Board" (.var 0) "own_tidied") (.dstar (.fld "Board" (.var 0) "own_tidied") (.var 1) (.call 31 (.cons (.var 3) .nil)))) .nil))))))⟩
/-- Board_init: 0 self, 1 acts -/
def FBoard_init : Fn := ⟨2, 2, (.cons (.unp [(.fld "Board" (.var 0) "own_acts"), (.fld "Board" (.var 0) "own_fails"), (.fld "Board" (.var 0) "own_bodies")] (.cons (.blt .tuple (.cons (.sset (.var 1)) .nil)) (.cons (.tup .nil) (.cons (.dnew .fz) .nil)))) (.cons (.unp [(.fld "Board" (.var 0) "own_frames"), (.fld "Board" (.var 0) "own_tidied"), (.fld "Board" (.var 0) "own_edges"), (.fld "Board" (.var 0) "own_past")] (.cons (.dnew .fz) (.cons (.dnew .fz) (.cons (.dnew .fz) (.cons (.lst .shr (.disp .nil)) .nil))))) .nil))⟩
/-- _law_body: 0 _law_urn, 1 _law_acts_so, 2 _law_left, 3 _law_heap_so, 4 _law_own, 5 _law_spot, 6 _law_many, 7 _law_node_so, 8 _law_far -/
def F_law_body : Fn := ⟨2, 9, (.cons (.par [2, 3] (.cons (.lst .fz (.of (.var 1))) (.cons (.lst .fz (.disp .nil)) .nil))) (.cons (.while 1000 (.cmp .ne (.var 2) (.lst .fz (.disp .nil))) (.cons (.asg (.nm 4) (.ix (.var 2) (.call 20 (.cons (.var 0) (.cons (.blt .len (.cons (.var 2) .nil)) .nil))))) (.cons (.asg (.nm 2) (.lst .fz (.comp [8] (.nm 8) (.seq (.var 2)) (.cons (.cmp .ne (.var 8) (.var 4)) .nil) (.var 8)))) (.cons (.asg (.nm 3) (.bin .add (.var 3) (.lst .fz (.disp (.cons (.var 4) .nil))))) .nil)))) (.cons (.while 1000 (.cmp .gt (.blt .len (.cons (.var 3) .nil)) (.cst (.int 1))) (.cons (.par [5, 6] (.cons (.call 20 (.cons (.var 0) (.cons (.bin .sub (.blt .len (.cons (.var 3) .nil)) (.cst (.int 1))) .nil))) (.cons (.bin .add (.cst (.int 2)) (.call 20 (.cons (.var 0) (.cons (.cst (.int 2)) .nil)))) .nil))) (.cons (.asg (.nm 7) (.bin .add (.tup (.cons (.call 35 (.cons (.var 0) (.cons (.lst .fz (.disp (.cons (.cst (.str "and")) (.cons (.cst (.str "then")) (.cons (.cst (.str "or")) .nil))))) .nil))) .nil)) (.blt .tuple (.cons (.sl (.var 3) (.some (.var 5)) (.some (.bin .add (.var 5) (.var 6)))) .nil)))) (.cons (.asg (.nm 3) (.bin .add (.bin .add (.sl (.var 3) .none (.some (.var 5))) (.lst .fz (.disp (.cons (.var 7) .nil)))) (.sl (.var 3) (.some (.bin .add (.var 5) (.var 6))) .none))) .nil)))) (.cons (.ret (.ite (.cmp .ne (.var 3) (.lst .fz (.disp .nil))) (.ix (.var 3) (.cst (.int 0))) (.tup .nil))) .nil))))⟩
/-- _law_take: 0 _law_urn, 1 _law_low_so, 2 _law_drawn, 3 _law_once, 4 _law_far, 5 _law_twice -/
def F_law_take : Fn := ⟨2, 6, (.cons (.ife (.cmp .gt (.ix (.var 0) (.cst (.int 0))) (.cst (.int 0))) (.cons (.asg (.nm 2) (.bin .mod (.blt .int (.cons (.ix (.var 0) (.cst (.int 0))) .nil)) (.var 1))) (.cons (.setIx (.var 0) (.cst (.int 0)) (.bin .fdiv (.ix (.var 0) (.cst (.int 0))) (.var 1))) (.cons (.ret (.var 2)) .nil))) .nil) (.cons (.setIx (.var 0) (.cst (.int 2)) (.bin .add (.ix (.var 0) (.cst (.int 2))) (.cst (.int 1)))) (.cons (.asg (.nm 3) (.bin .mod (.blt .int (.cons (.bin .mul (.bin .add (.ix (.var 0) (.cst (.int 1))) (.bin .mul (.cst (.int 48271)) (.ix (.var 0) (.cst (.int 2))))) (.bin .add (.cst (.int 39373)) (.ix (.var 0) (.cst (.int 2))))) .nil)) (.cst (.int 2147483647)))) (.cons (.asg (.nm 4) (.bin .add (.bin .mod (.blt .int (.cons (.var 3) .nil)) (.cst (.int 40009))) (.cst (.int 7)))) (.cons (.asg (.nm 5) (.bin .mod (.blt .int (.cons (.bin .mul (.bin .add (.bin .add (.var 3) (.ix (.var 0) (.cst (.int 2)))) (.bin .fdiv (.ix (.var 0) (.cst (.int 1))) (.cst (.int 1000003)))) (.var 4)) .nil)) (.cst (.int 2147483629)))) (.cons (.ret (.bin .mod (.blt .int (.cons (.bin .fdiv (.bin .mod (.blt .int (.cons (.bin .add (.bin .mul (.var 5) (.cst (.int 48271))) (.var 3)) .nil)) (.cst (.int 2147483587))) (.cst (.int 64))) .nil)) (.var 1))) .nil))))))⟩
/-- _law_by_hand_right: 0 _law_big_so, 1 _law_got, 2 _law_k -/
def F_law_by_hand_right : Fn := ⟨0, 3, (.cons (.asg (.nm 0) (.tup (.cons (.cst (.str "or")) (.cons (.tup (.cons (.cst (.str "and")) (.cons (.cst (.str "a")) (.cons (.cst (.str "b")) .nil)))) (.cons (.tup (.cons (.cst (.str "then")) (.cons (.cst (.str "c")) (.cons (.cst (.str "d")) .nil)))) .nil))))) (.cons (.asg (.nm 1) (.lst .fz (.disp (.cons (.call 10 (.cons (.var 0) .nil)) (.cons (.call 9 (.cons (.var 0) .nil)) (.cons (.call 8 (.cons (.var 0) .nil)) .nil)))))) (.cons (.asg (.nm 1) (.bin .add (.var 1) (.lst .fz (.disp (.cons (.call 7 (.cons (.var 0) (.cons (.cst (.int 2)) .nil))) (.cons (.call 11 (.cons (.var 0) .nil)) .nil)))))) (.cons (.asg (.nm 1) (.bin .add (.var 1) (.lst .fz (.disp (.cons (.lst .fz (.comp [2] (.nm 2) (.rng1 (.cst (.int 4))) .nil (.call 6 (.cons (.var 0) (.cons (.var 2) .nil))))) (.cons (.lst .fz (.comp [2] (.nm 2) (.rng1 (.cst (.int 4))) .nil (.call 5 (.cons (.var 0) (.cons (.var 2) .nil))))) .nil)))))) (.cons (.ret (.call 4 (.cons (.var 1) (.cons (.lst .fz (.disp (.cons (.cst (.int 2)) (.cons (.cst (.int 4)) (.cons (.cst (.int 2)) (.cons (.cst (.str "c")) (.cons (.cst (.int 4)) (.cons (.lst .fz (.disp (.cons (.cst (.bool true)) (.cons (.cst (.bool false)) (.cons (.cst (.bool false)) (.cons (.cst (.bool false)) .nil)))))) (.cons (.lst .fz (.disp (.cons (.cst (.bool false)) (.cons (.cst (.bool false)) (.cons (.cst (.bool true)) (.cons (.cst (.bool true)) .nil)))))) .nil))))))))) .nil)))) .nil)))))⟩
/-- way_to: 0 big, 1 place, 2 found, 3 rest, 4 left, 5 parts, 6 number, 7 many, 8 part, 9 size -/
def Fway_to : Fn := ⟨2, 10, (.cons (.par [2, 3] (.cons (.lst .loc (.disp .nil)) (.cons (.var 1) .nil))) (.cons (.while 1000 (.not (.isi [.str] (.var 0))) (.cons (.par [4, 5] (.cons (.lst .fz (.disp .nil)) (.cons (.call 24 (.cons (.var 0) .nil)) .nil))) (.cons (.forT (.tp (.cons (.nm 6) (.cons (.tp (.cons (.nm 7) (.cons (.nm 8) .nil))) .nil))) (.enm (.var 5)) (.cons (.asg (.nm 9) (.call 11 (.cons (.var 8) .nil))) (.cons (.ife (.cmp .lt (.var 3) (.bin .mul (.var 7) (.var 9))) (.cons (.ex (.mth .append (.var 2) (.cons (.tup (.cons (.ix (.var 0) (.cst (.int 0))) (.cons (.lst .fz (.disp (.star (.var 4) (.cons (.tup (.cons (.bin .fdiv (.var 3) (.var 9)) (.cons (.var 8) .nil))) .nil)))) (.cons (.bin .sub (.bin .sub (.bin .add (.bin .sub (.bin .sub (.var 7) (.cst (.int 1))) (.bin .fdiv (.var 3) (.var 9))) (.blt .len (.cons (.var 5) .nil))) (.cst (.int 1))) (.var 6)) .nil)))) .nil))) (.cons (.par [0, 3] (.cons (.var 8) (.cons (.bin .mod (.var 3) (.var 9)) .nil))) (.cons (.brk) .nil))) .nil) (.cons (.par [4, 3] (.cons (.lst .fz (.disp (.star (.var 4) (.cons (.tup (.cons (.var 7) (.cons (.var 8) .nil))) .nil)))) (.cons (.bin .sub (.var 3) (.bin .mul (.var 7) (.var 9))) .nil))) .nil)))) .nil))) (.cons (.ret (.frz (.var 2))) .nil)))⟩
/-- check: 0 big, 1 place -/
def Fcheck : Fn := ⟨2, 2, (.cons (.ife (.not (.chn .le .lt (.cst (.int 0)) (.var 1) (.call 11 (.cons (.var 0) .nil)))) (.cons (.never) .nil) .nil) .nil)⟩
/-- parts_of: 0 big, 1 part -/
def Fparts_of : Fn := ⟨1, 2, (.cons (.ife (.and (.cons (.cmp .eq (.blt .len (.cons (.var 0) .nil)) (.cst (.int 3))) (.cons (.not (.isi [.str, .tuple, .list] (.ix (.var 0) (.cst (.int 1))))) .nil))) (.cons (.ret (.lst .fz (.disp (.cons (.tup (.cons (.ix (.var 0) (.cst (.int 1))) (.cons (.ix (.var 0) (.cst (.int 2))) .nil))) .nil)))) .nil) .nil) (.cons (.ret (.lst .fz (.comp [1] (.nm 1) (.seq (.sl (.var 0) (.some (.cst (.int 1))) .none)) .nil (.tup (.cons (.cst (.int 1)) (.cons (.var 1) .nil)))))) .nil))⟩
/-- lengths_of: 0 big, 1 is_most, 2 found, 3 many, 4 part -/
def Flengths_of : Fn := ⟨2, 5, (.cons (.ife (.isi [.str] (.var 0)) (.cons (.ret (.tup (.cons (.cst (.int 1)) (.cons (.cst (.int 1)) .nil)))) .nil) .nil) (.cons (.asg (.nm 2) (.lst .loc (.disp .nil))) (.cons (.forT (.tp (.cons (.nm 3) (.cons (.nm 4) .nil))) (.seq (.call 24 (.cons (.var 0) .nil))) (.cons (.ex (.mth .append (.var 2) (.cons (.call 37 (.cons (.ix (.var 0) (.cst (.int 0))) (.cons (.var 3) (.cons (.call 25 (.cons (.var 4) (.cons (.var 1) .nil))) (.cons (.var 1) .nil))))) .nil))) .nil)) (.cons (.ret (.call 36 (.cons (.ix (.var 0) (.cst (.int 0))) (.cons (.frz (.var 2)) (.cons (.var 1) .nil))))) .nil))))⟩
/-- end_of: 0 body, 1 fails -/
def Fend_of : Fn := ⟨2, 2, (.cons (.ret (.ix (.call 38 (.cons (.var 0) (.cons (.var 1) .nil))) (.cst (.int 1)))) .nil)⟩
/-- Board_check: 0 self, 1 name -/
def FBoard_check : Fn := ⟨2, 2, (.cons (.ife (.cmp .notin (.var 1) (.fld "Board" (.var 0) "own_bodies")) (.cons (.never) .nil) .nil) .nil)⟩
/-- run_runs: 0 body, 1 fails -/
def Frun_runs : Fn := ⟨2, 2, (.cons (.ret (.ix (.call 38 (.cons (.var 0) (.cons (.var 1) .nil))) (.cst (.int 0)))) .nil)⟩
/-- Board_do: 0 self, 1 deed, 2 word, 3 rest -/
def FBoard_do : Fn := ⟨2, 4, (.cons (.par [2, 3] (.cons (.ix (.var 1) (.cst (.int 0))) (.cons (.sl (.var 1) (.some (.cst (.int 1))) .none) .nil))) (.cons (.ife (.cmp .eq (.var 2) (.cst (.str "fail"))) (.cons (.ex (.mc (.meth "fail") "Board" 39 (.var 0) (.cons (.ix (.var 3) (.cst (.int 0))) .nil) [])) .nil) (.cons (.ife (.cmp .eq (.var 2) (.cst (.str "mend"))) (.cons (.ex (.mc (.meth "mend") "Board" 40 (.var 0) (.cons (.ix (.var 3) (.cst (.int 0))) .nil) [])) .nil) (.cons (.ife (.cmp .eq (.var 2) (.cst (.str "set"))) (.cons (.never) .nil) (.cons (.ife (.cmp .eq (.var 2) (.cst (.str "leave"))) (.cons (.never) .nil) (.cons (.ife (.cmp .eq (.var 2) (.cst (.str "swap"))) (.cons (.never) .nil) (.cons (.ife (.cmp .eq (.var 2) (.cst (.str "add"))) (.cons (.never) .nil) (.cons (.ife (.cmp .eq (.var 2) (.cst (.str "frame"))) (.cons (.never) .nil) (.cons (.never) .nil)) .nil)) .nil)) .nil)) .nil)) .nil)) .nil)) .nil))⟩
/-- Board_state: 0 self -/
def FBoard_state : Fn := ⟨1, 1, (.cons (.ret (.tup (.cons (.fld "Board" (.var 0) "own_fails") (.cons (.fld "Board" (.var 0) "own_bodies") (.cons (.fld "Board" (.var 0) "own_frames") (.cons (.fld "Board" (.var 0) "own_tidied") (.cons (.fld "Board" (.var 0) "own_edges") .nil))))))) .nil)⟩
/-- tidy: 0 body, 1 word, 2 part -/
def Ftidy : Fn := ⟨1, 3, (.cons (.asg (.nm 1) (.call 43 (.cons (.var 0) .nil))) (.cons (.ret (.ite (.isN (.var 1)) (.call 34 (.cons (.var 0) .nil)) (.call 41 (.cons (.var 1) (.cons (.lst .fz (.comp [2] (.nm 2) (.seq (.call 42 (.cons (.var 0) .nil))) .nil (.call 31 (.cons (.var 2) .nil)))) .nil))))) .nil))⟩
/-- Board_keep: 0 self -/
def FBoard_keep : Fn := ⟨1, 1, (.cons (.ex (.mth .append (.fld "Board" (.var 0) "own_past") (.cons (.mc (.meth "state") "Board" 30 (.var 0) .nil []) .nil))) .nil)⟩
/-- Board_check_acts: 0 self, 1 body -/
def FBoard_check_acts : Fn := ⟨2, 2, (.cons (.ife (.and (.cons (.notN (.var 1)) (.cons (.cmp .ne (.blt .tuple (.cons (.blt .sorted (.cons (.call 44 (.cons (.var 1) .nil)) .nil)) .nil)) (.fld "Board" (.var 0) "own_acts")) .nil))) (.cons (.never) .nil) .nil) .nil)⟩
/-- tupled: 0 value, 1 part -/
def Ftupled : Fn := ⟨1, 2, (.cons (.ret (.ite (.isi [.list, .tuple] (.var 0)) (.blt .tuple (.cons (.lst .fz (.comp [1] (.nm 1) (.seq (.var 0)) .nil (.call 34 (.cons (.var 1) .nil)))) .nil)) (.var 0))) .nil)⟩
/-- _law_of: 0 _law_urn, 1 _law_some_so -/
def F_law_of : Fn := ⟨2, 2, (.cons (.ret (.ix (.var 1) (.call 20 (.cons (.var 0) (.cons (.blt .len (.cons (.var 1) .nil)) .nil))))) .nil)⟩
/-- joined_lengths: 0 word, 1 lengths, 2 is_most, 3 well, 4 fail, 5 here_well, 6 here_fail, 7 late -/
def Fjoined_lengths : Fn := ⟨3, 8, (.cons (.asg (.tp (.cons (.nm 3) (.cons (.nm 4) .nil))) (.ix (.var 1) (.cst (.int 0)))) (.cons (.forT (.tp (.cons (.nm 5) (.cons (.nm 6) .nil))) (.seq (.sl (.var 1) (.some (.cst (.int 1))) .none)) (.cons (.ife (.cmp .eq (.var 0) (.cst (.str "and"))) (.cons (.par [3, 4] (.cons (.bin .add (.var 3) (.var 5)) (.cons (.call 45 (.cons (.var 4) (.cons (.bin .add (.var 3) (.var 6)) (.cons (.var 2) .nil)))) .nil))) .nil) (.cons (.ife (.cmp .eq (.var 0) (.cst (.str "or"))) (.cons (.par [3, 4] (.cons (.call 45 (.cons (.var 3) (.cons (.bin .add (.var 4) (.var 5)) (.cons (.var 2) .nil)))) (.cons (.bin .add (.var 4) (.var 6)) .nil))) .nil) (.cons (.asg (.nm 7) (.call 45 (.cons (.var 5) (.cons (.var 6) (.cons (.var 2) .nil))))) (.cons (.par [3, 4] (.cons (.bin .add (.var 3) (.var 5)) (.cons (.call 45 (.cons (.bin .add (.var 4) (.var 7)) (.cons (.bin .add (.var 3) (.var 6)) (.cons (.var 2) .nil)))) .nil))) .nil))) .nil)) .nil)) (.cons (.ret (.tup (.cons (.var 3) (.cons (.var 4) .nil)))) .nil)))⟩
/-- many_lengths: 0 word, 1 many, 2 own, 3 is_most, 4 well, 5 fail -/
def Fmany_lengths : Fn := ⟨4, 6, (.cons (.asg (.tp (.cons (.nm 4) (.cons (.nm 5) .nil))) (.var 2)) (.cons (.ife (.cmp .eq (.var 0) (.cst (.str "and"))) (.cons (.ret (.tup (.cons (.bin .mul (.var 1) (.var 4)) (.cons (.call 45 (.cons (.var 5) (.cons (.bin .add (.bin .mul (.bin .sub (.var 1) (.cst (.int 1))) (.var 4)) (.var 5)) (.cons (.var 3) .nil)))) .nil)))) .nil) .nil) (.cons (.ife (.cmp .eq (.var 0) (.cst (.str "or"))) (.cons (.ret (.tup (.cons (.call 45 (.cons (.var 4) (.cons (.bin .add (.bin .mul (.bin .sub (.var 1) (.cst (.int 1))) (.var 5)) (.var 4)) (.cons (.var 3) .nil)))) (.cons (.bin .mul (.var 1) (.var 5)) .nil)))) .nil) .nil) (.cons (.ret (.tup (.cons (.bin .mul (.var 1) (.var 4)) (.cons (.bin .add (.var 5) (.bin .mul (.bin .sub (.var 1) (.cst (.int 1))) (.call 45 (.cons (.var 4) (.cons (.var 5) (.cons (.var 3) .nil)))))) .nil)))) .nil))))⟩
/-- whole: 0 body, 1 fails, 2 own -/
def Fwhole : Fn := ⟨2, 3, (.cons (.asg (.nm 2) (.call 34 (.cons (.var 0) .nil))) (.cons (.ret (.ite (.cmp .eq (.var 2) (.tup .nil)) (.tup (.cons (.tup .nil) (.cons (.cst .none) .nil))) (.call 46 (.cons (.var 2) (.cons (.var 1) .nil))))) .nil))⟩
/-- Board_fail: 0 self, 1 act -/
def FBoard_fail : Fn := ⟨2, 2, (.cons (.ex (.mc (.meth "check_act") "Board" 47 (.var 0) (.cons (.var 1) .nil) [])) (.cons (.ex (.mc (.meth "keep") "Board" 32 (.var 0) .nil [])) (.cons (.st1 (.fld "Board" (.var 0) "own_fails") (.blt .tuple (.cons (.sset (.lst .fz (.disp (.star (.fld "Board" (.var 0) "own_fails") (.cons (.var 1) .nil))))) .nil))) .nil)))⟩
/-- Board_mend: 0 self, 1 act, 2 own -/
def FBoard_mend : Fn := ⟨2, 3, (.cons (.ex (.mc (.meth "check_act") "Board" 47 (.var 0) (.cons (.var 1) .nil) [])) (.cons (.ex (.mc (.meth "keep") "Board" 32 (.var 0) .nil [])) (.cons (.st1 (.fld "Board" (.var 0) "own_fails") (.blt .tuple (.cons (.lst .fz (.comp [2] (.nm 2) (.seq (.fld "Board" (.var 0) "own_fails")) (.cons (.cmp .ne (.var 2) (.var 1)) .nil) (.var 2))) .nil))) .nil)))⟩
/-- joined_forms: 0 word, 1 forms, 2 found, 3 form -/
def Fjoined_forms : Fn := ⟨2, 4, (.cons (.asg (.nm 2) (.lst .loc (.disp .nil))) (.cons (.forT (.nm 3) (.seq (.var 1)) (.cons (.ex (.mth .extend (.var 2) (.cons (.ite (.cmp .eq (.call 43 (.cons (.var 3) .nil)) (.var 0)) (.call 42 (.cons (.var 3) .nil)) (.lst .fz (.disp (.cons (.var 3) .nil)))) .nil))) .nil)) (.cons (.ife (.cmp .eq (.blt .len (.cons (.var 2) .nil)) (.cst (.int 0))) (.cons (.ret (.tup .nil)) .nil) .nil) (.cons (.ret (.ite (.cmp .eq (.blt .len (.cons (.var 2) .nil)) (.cst (.int 1))) (.ix (.var 2) (.cst (.int 0))) (.tup (.cons (.var 0) (.star (.var 2) .nil))))) .nil))))⟩
/-- parts: 0 body -/
def Fparts : Fn := ⟨1, 1, (.cons (.ret (.ite (.isN (.call 43 (.cons (.var 0) .nil))) (.tup .nil) (.call 34 (.cons (.sl (.var 0) (.some (.cst (.int 1))) .none) .nil)))) .nil)⟩
/-- top_word: 0 body -/
def Ftop_word : Fn := ⟨1, 1, (.cons (.ret (.ite (.or (.cons (.isi [.str] (.var 0)) (.cons (.cmp .eq (.blt .len (.cons (.var 0) .nil)) (.cst (.int 0))) .nil))) (.cst .none) (.ix (.var 0) (.cst (.int 0))))) .nil)⟩
/-- row_of: 0 body -/
def Frow_of : Fn := ⟨1, 1, (.cons (.ret (.ite (.cmp .gt (.blt .len (.cons (.var 0) .nil)) (.cst (.int 0))) (.call 48 (.cons (.var 0) .nil)) (.tup .nil))) .nil)⟩
/-- picked: 0 one, 1 other, 2 is_most -/
def Fpicked : Fn := ⟨3, 3, (.cons (.ret (.ite (.var 2) (.blt .max (.cons (.var 0) (.cons (.var 1) .nil))) (.blt .min (.cons (.var 0) (.cons (.var 1) .nil))))) .nil)⟩
/-- gone_through: 0 form, 1 fails, 2 done, 3 end, 4 part, 5 more, 6 last -/
def Fgone_through : Fn := ⟨2, 7, (.cons (.ife (.isi [.str] (.var 0)) (.cons (.ret (.tup (.cons (.tup (.cons (.tup (.cons (.var 0) (.cons (.cmp .notin (.var 0) (.var 1)) .nil))) .nil)) (.cons (.ite (.cmp .isin (.var 0) (.var 1)) (.var 0) (.cst .none)) .nil)))) .nil) .nil) (.cons (.asg (.tp (.cons (.nm 2) (.cons (.nm 3) .nil))) (.tup (.cons (.tup .nil) (.cons (.cst .none) .nil)))) (.cons (.forT (.nm 4) (.seq (.sl (.var 0) (.some (.cst (.int 1))) .none)) (.cons (.asg (.tp (.cons (.nm 5) (.cons (.nm 6) .nil))) (.call 46 (.cons (.var 4) (.cons (.var 1) .nil)))) (.cons (.asg (.nm 2) (.bin .add (.var 2) (.var 5))) (.cons (.asg (.nm 3) (.ite (.and (.cons (.isN (.var 6)) (.cons (.cmp .eq (.ix (.var 0) (.cst (.int 0))) (.cst (.str "then"))) .nil))) (.var 3) (.var 6))) (.cons (.ife (.or (.cons (.and (.cons (.isN (.var 6)) (.cons (.cmp .eq (.ix (.var 0) (.cst (.int 0))) (.cst (.str "or"))) .nil))) (.cons (.and (.cons (.notN (.var 6)) (.cons (.cmp .eq (.ix (.var 0) (.cst (.int 0))) (.cst (.str "and"))) .nil))) .nil))) (.cons (.ret (.tup (.cons (.var 2) (.cons (.var 3) .nil)))) .nil) .nil) .nil))))) (.cons (.ret (.tup (.cons (.var 2) (.cons (.var 3) .nil)))) .nil))))⟩
/-- Board_check_act: 0 self, 1 act -/
def FBoard_check_act : Fn := ⟨2, 2, (.cons (.ife (.cmp .notin (.var 1) (.fld "Board" (.var 0) "own_acts")) (.cons (.never) .nil) .nil) .nil)⟩
/-- form_acts: 0 form, 1 part, 2 act -/
def Fform_acts : Fn := ⟨1, 3, (.cons (.ife (.isi [.str] (.var 0)) (.cons (.ret (.tup (.cons (.var 0) .nil))) .nil) .nil) (.cons (.ret (.blt .tuple (.cons (.lst .fz (.comp2 [1, 2] [2] (.nm 1) (.seq (.sl (.var 0) (.some (.cst (.int 1))) .none)) .nil (.nm 2) (.seq (.call 48 (.cons (.var 1) .nil))) .nil (.var 2))) .nil))) .nil))⟩
def fs : List (Option Fn) := [some Flaw, some F_law_right, some F_law_box, some F_law_cells, some F_law_same, some Fcan_be_end, some Fis_always_done, some Fact_at, some Fshortest_run, some Flongest_run, some Ffewest_failing, some Fhow_many_acts, some F_law_lots, some FBoard_end, some FBoard_run, some FBoard_fails, some FBoard_attempt, some FBoard_setitem, some FBoard_init, some F_law_body, some F_law_take, some F_law_by_hand_right, some Fway_to, some Fcheck, some Fparts_of, some Flengths_of, some Fend_of, some FBoard_check, some Frun_runs, some FBoard_do, some FBoard_state, some Ftidy, some FBoard_keep, some FBoard_check_acts, some Ftupled, some F_law_of, some Fjoined_lengths, some Fmany_lengths, some Fwhole, some FBoard_fail, some FBoard_mend, some Fjoined_forms, some Fparts, some Ftop_word, some Frow_of, some Fpicked, some Fgone_through, some FBoard_check_act, some Fform_acts]
end L
set_option maxHeartbeats 4000000
namespace L
open PySem PySem.Spec PyProof.Rows Z
def topS (i : Nat) : Stmt := PySem.Challenge.pw_wayoutdeeds_k98_whole_great_bodies_and_b.main.body.getD i (.Pass ⟨0, 0, 0, 0⟩)
def clsS (i j : Nat) : Stmt := match topS i with | .ClassDef (body := b) .. => b.getD j (.Pass ⟨0, 0, 0, 0⟩) | _ => .Pass ⟨0, 0, 0, 0⟩
def Dlaw : Df := ⟨.gl "law", "law", "law", topS 71, ["_law_script"], [], ["_law_script", "_law_cells_here", "_law_k"], Flaw⟩
def D_law_right : Df := ⟨.gl "_law_right", "_law_right", "_law_right", topS 70, ["_law_urn"], [], ["_law_urn", "_law_turn", "_law_acts_so", "_law_big_so", "_law_plate", "_law_sizes_so", "_law_least", "_law_ends_so", "_law_always_so", "_law_lot_so", "_law_own", "_law_names_so", "_law_got", "_law_k", "_law_is_so"], F_law_right⟩
def D_law_box : Df := ⟨.gl "_law_box", "_law_box", "_law_box", topS 62, ["_law_script", "_law_k"], [], ["_law_script", "_law_k", "_law_cell"], F_law_box⟩
def D_law_cells : Df := ⟨.gl "_law_cells", "_law_cells", "_law_cells", topS 64, ["_law_script", "_law_top"], [], ["_law_script", "_law_top", "_law_cells_here", "_law_k", "_law_cell", "_law_at_so"], F_law_cells⟩
def D_law_same : Df := ⟨.gl "_law_same", "_law_same", "_law_same", topS 66, ["_law_got", "_law_goal"], [], ["_law_got", "_law_goal", "_law_mine_so", "_law_own"], F_law_same⟩
def Dcan_be_end : Df := ⟨.gl "can_be_end", "can_be_end", "can_be_end", topS 18, ["big", "place"], [], ["big", "place", "word", "left", "right"], Fcan_be_end⟩
def Dis_always_done : Df := ⟨.gl "is_always_done", "is_always_done", "is_always_done", topS 17, ["big", "place"], [], ["big", "place", "word", "left", "right", "many", "part"], Fis_always_done⟩
def Dact_at : Df := ⟨.gl "act_at", "act_at", "act_at", topS 14, ["big", "place"], [], ["big", "place", "rest", "many", "part", "size"], Fact_at⟩
def Dshortest_run : Df := ⟨.gl "shortest_run", "shortest_run", "shortest_run", topS 24, ["big"], [], ["big"], Fshortest_run⟩
def Dlongest_run : Df := ⟨.gl "longest_run", "longest_run", "longest_run", topS 23, ["big"], [], ["big"], Flongest_run⟩
def Dfewest_failing : Df := ⟨.gl "fewest_failing", "fewest_failing", "fewest_failing", topS 16, ["big"], [], ["big", "many", "part"], Ffewest_failing⟩
def Dhow_many_acts : Df := ⟨.gl "how_many_acts", "how_many_acts", "how_many_acts", topS 12, ["big"], [], ["big", "many", "part"], Fhow_many_acts⟩
def D_law_lots : Df := ⟨.gl "_law_lots", "_law_lots", "_law_lots", topS 67, ["_law_acts_so"], [], ["_law_acts_so", "_law_found", "_law_own", "_law_near"], F_law_lots⟩
def DBoard_end : Df := ⟨.me "Board" "end", "end", "Board.end", clsS 60 22, ["self", "name"], [], ["self", "name"], FBoard_end⟩
def DBoard_run : Df := ⟨.me "Board" "run", "run", "Board.run", clsS 60 21, ["self", "name"], [], ["self", "name"], FBoard_run⟩
def DBoard_fails : Df := ⟨.pr "Board" "fails", "fails", "Board.fails", clsS 60 9, ["self"], [], ["self"], FBoard_fails⟩
def DBoard_attempt : Df := ⟨.me "Board" "attempt", "attempt", "Board.attempt", clsS 60 31, ["self", "deeds"], [], ["self", "deeds", "state", "past", "number", "deed", "raised", "value"], FBoard_attempt⟩
def DBoard_setitem : Df := ⟨.me "Board" "__setitem__", "__setitem__", "Board.__setitem__", clsS 60 16, ["self", "name", "body"], [], ["self", "name", "body", "own"], FBoard_setitem⟩
def DBoard_init : Df := ⟨.me "Board" "__init__", "__init__", "Board.__init__", clsS 60 0, ["self", "acts"], [(.tuple [])], ["self", "acts"], FBoard_init⟩
def D_law_body : Df := ⟨.gl "_law_body", "_law_body", "_law_body", topS 68, ["_law_urn", "_law_acts_so"], [], ["_law_urn", "_law_acts_so", "_law_left", "_law_heap_so", "_law_own", "_law_spot", "_law_many", "_law_node_so", "_law_far"], F_law_body⟩
def D_law_take : Df := ⟨.gl "_law_take", "_law_take", "_law_take", topS 63, ["_law_urn", "_law_low_so"], [], ["_law_urn", "_law_low_so", "_law_drawn", "_law_once", "_law_far", "_law_twice"], F_law_take⟩
def D_law_by_hand_right : Df := ⟨.gl "_law_by_hand_right", "_law_by_hand_right", "_law_by_hand_right", topS 69, [], [], ["_law_big_so", "_law_got", "_law_k"], F_law_by_hand_right⟩
def Dway_to : Df := ⟨.gl "way_to", "way_to", "way_to", topS 15, ["big", "place"], [], ["big", "place", "found", "rest", "left", "parts", "number", "many", "part", "size"], Fway_to⟩
def Dcheck : Df := ⟨.gl "check", "check", "check", topS 13, ["big", "place"], [], ["big", "place"], Fcheck⟩
def Dparts_of : Df := ⟨.gl "parts_of", "parts_of", "parts_of", topS 11, ["big"], [], ["big", "part"], Fparts_of⟩
def Dlengths_of : Df := ⟨.gl "lengths_of", "lengths_of", "lengths_of", topS 22, ["big", "is_most"], [], ["big", "is_most", "found", "many", "part"], Flengths_of⟩
def Dend_of : Df := ⟨.gl "end_of", "end_of", "end_of", topS 47, ["body", "fails"], [], ["body", "fails"], Fend_of⟩
def DBoard_check : Df := ⟨.me "Board" "check", "check", "Board.check", clsS 60 5, ["self", "name"], [], ["self", "name"], FBoard_check⟩
def Drun_runs : Df := ⟨.gl "run_runs", "run", "run", topS 45, ["body", "fails"], [], ["body", "fails"], Frun_runs⟩
def DBoard_do : Df := ⟨.me "Board" "do", "do", "Board.do", clsS 60 30, ["self", "deed"], [], ["self", "deed", "word", "rest"], FBoard_do⟩
def DBoard_state : Df := ⟨.me "Board" "state", "state", "Board.state", clsS 60 2, ["self"], [], ["self"], FBoard_state⟩
def Dtidy : Df := ⟨.gl "tidy", "tidy", "tidy", topS 34, ["body"], [], ["body", "word", "part"], Ftidy⟩
def DBoard_keep : Df := ⟨.me "Board" "keep", "keep", "Board.keep", clsS 60 4, ["self"], [], ["self"], FBoard_keep⟩
def DBoard_check_acts : Df := ⟨.me "Board" "check_acts", "check_acts", "Board.check_acts", clsS 60 7, ["self", "body"], [], ["self", "body"], FBoard_check_acts⟩
def Dtupled : Df := ⟨.gl "tupled", "tupled", "tupled", topS 27, ["value"], [], ["value", "part"], Ftupled⟩
def D_law_of : Df := ⟨.gl "_law_of", "_law_of", "_law_of", topS 65, ["_law_urn", "_law_some_so"], [], ["_law_urn", "_law_some_so"], F_law_of⟩
def Djoined_lengths : Df := ⟨.gl "joined_lengths", "joined_lengths", "joined_lengths", topS 20, ["word", "lengths", "is_most"], [], ["word", "lengths", "is_most", "well", "fail", "here_well", "here_fail", "late"], Fjoined_lengths⟩
def Dmany_lengths : Df := ⟨.gl "many_lengths", "many_lengths", "many_lengths", topS 21, ["word", "many", "own", "is_most"], [], ["word", "many", "own", "is_most", "well", "fail"], Fmany_lengths⟩
def Dwhole : Df := ⟨.gl "whole", "whole", "whole", topS 44, ["body", "fails"], [], ["body", "fails", "own"], Fwhole⟩
def DBoard_fail : Df := ⟨.me "Board" "fail", "fail", "Board.fail", clsS 60 19, ["self", "act"], [], ["self", "act"], FBoard_fail⟩
def DBoard_mend : Df := ⟨.me "Board" "mend", "mend", "Board.mend", clsS 60 20, ["self", "act"], [], ["self", "act", "own"], FBoard_mend⟩
def Djoined_forms : Df := ⟨.gl "joined_forms", "joined_forms", "joined_forms", topS 33, ["word", "forms"], [], ["word", "forms", "found", "form"], Fjoined_forms⟩
def Dparts : Df := ⟨.gl "parts", "parts", "parts", topS 32, ["body"], [], ["body"], Fparts⟩
def Dtop_word : Df := ⟨.gl "top_word", "top_word", "top_word", topS 31, ["body"], [], ["body"], Ftop_word⟩
def Drow_of : Df := ⟨.gl "row_of", "row_of", "row_of", topS 30, ["body"], [], ["body"], Frow_of⟩
def Dpicked : Df := ⟨.gl "picked", "picked", "picked", topS 19, ["one", "other", "is_most"], [], ["one", "other", "is_most"], Fpicked⟩
def Dgone_through : Df := ⟨.gl "gone_through", "gone_through", "gone_through", topS 43, ["form", "fails"], [], ["form", "fails", "done", "end", "part", "more", "last"], Fgone_through⟩
def DBoard_check_act : Df := ⟨.me "Board" "check_act", "check_act", "Board.check_act", clsS 60 6, ["self", "act"], [], ["self", "act"], FBoard_check_act⟩
def Dform_acts : Df := ⟨.gl "form_acts", "form_acts", "form_acts", topS 29, ["form"], [], ["form", "part", "act"], Fform_acts⟩
def ds : List Df := [Dlaw, D_law_right, D_law_box, D_law_cells, D_law_same, Dcan_be_end, Dis_always_done, Dact_at, Dshortest_run, Dlongest_run, Dfewest_failing, Dhow_many_acts, D_law_lots, DBoard_end, DBoard_run, DBoard_fails, DBoard_attempt, DBoard_setitem, DBoard_init, D_law_body, D_law_take, D_law_by_hand_right, Dway_to, Dcheck, Dparts_of, Dlengths_of, Dend_of, DBoard_check, Drun_runs, DBoard_do, DBoard_state, Dtidy, DBoard_keep, DBoard_check_acts, Dtupled, D_law_of, Djoined_lengths, Dmany_lengths, Dwhole, DBoard_fail, DBoard_mend, Djoined_forms, Dparts, Dtop_word, Drow_of, Dpicked, Dgone_through, DBoard_check_act, Dform_acts]
def gc : List (Str × PyData) := [("AND", (.str "and")), ("OR", (.str "or")), ("THEN", (.str "then"))]
def kn : Kn := ⟨gc, ["Board"], [("Board", "own_acts"), ("Board", "own_bodies"), ("Board", "own_edges"), ("Board", "own_fails"), ("Board", "own_frames"), ("Board", "own_past"), ("Board", "own_tidied")]⟩
theorem ds_ok : ∀ d ∈ ds, d.ok ds kn = true := by
  have : ds.all (fun d => d.ok ds kn) = true := by decide +kernel
  exact fun d hd => List.all_eq_true.mp this d hd
end L
set_option maxHeartbeats 8000000
/-! Q1: bodies; tuples of them, rows. -/
namespace L
open PySem Z
inductive Wo where | a | t | o
def Wo.s : Wo → Str | .a => "and" | .t => "then" | .o => "or"
mutual
inductive Fm where
  | act (s : Str) | node (w : Wo) (p : Fm) (ps : Fms)
inductive Fms where
  | nil | cons (p : Fm) (r : Fms)
end
mutual
def Fm.D : Fm → PyData
  | .act s => .str s
  | .node w p ps => .tuple (.str w.s :: p.D :: ps.Ds)
def Fms.Ds : Fms → List PyData
  | .nil => []
  | .cons p r => p.D :: r.Ds
end
mutual
def Fm.row : Fm → List Str
  | .act s => [s]
  | .node _ p ps => p.row ++ ps.rows
def Fms.rows : Fms → List Str
  | .nil => []
  | .cons p r => p.row ++ r.rows
end
mutual
def Fm.dep : Fm → Nat
  | .act _ => 0
  | .node _ p ps => max p.dep ps.deps + 1
def Fms.deps : Fms → Nat
  | .nil => 0
  | .cons p r => max p.dep r.deps
end
/-! turns of a comprehension -/
theorem turns_mapQ {α : Type} {f : PyData → Mem → R (Option W)} {m : Mem} (enc : α → PyData) (g : α → W) : ∀ (xs : List α) (acc : List W), (∀ x ∈ xs, f (enc x) m = .ok (some (g x)) m) → acc.length + xs.length ≤ szL → turns f (xs.map enc) acc m = .ok (acc ++ xs.map g) m
  | [], acc, _, _ => by simp [turns]
  | x :: r, acc, h, hl => by
    rw [List.length_cons] at hl
    rw [List.map_cons, turns, h x (by simp)]
    simp only [R.ne, R.b]
    rw [if_pos (by omega), turns_mapQ enc g r (acc ++ [g x]) (fun y hy => h y (by simp [hy])) (by simp; omega)]
    simp
theorem allV_mapQ {α : Type} (h : α → PyData) (l : List α) : allV (l.map fun x => W.v (h x)) = some (l.map h) := by
  induction l with
  | nil => rfl
  | cons x r ih => simp [allV, ih]
theorem compQ {α : Type} {C : Orc} {own : List Nat} {g : G} {src : IT} {elt : E} {ρ : Z.Env} {m : Mem} (enc gW : α → PyData) (xs : List α) (hs : evI C src ρ m = .ok (xs.map enc) m)
    (he : ∀ x ∈ xs, ∃ ρ1, asg g (.v (enc x)) (wipe ρ own) = some ρ1 ∧ ev C elt ρ1 m = .ok (.v (gW x)) m) (hl : xs.length ≤ szL) : ev C (.lst .fz (.comp own g src .nil elt)) ρ m = .ok (.v (.list (xs.map gW))) m := by
  simp only [ev, evL, hs, R.b]
  rw [turns_mapQ enc (fun x => .v (gW x)) xs [] ?_ (by simpa using hl)]
  · simp only [List.nil_append, mk, List.length_map, hl, if_true, allV_mapQ, Option.map_some, ofO]
  · intro x hx
    obtain ⟨ρ1, h1, h2⟩ := he x hx
    simp only [h1, evIf, if_true, h2, R.b]
/-- .. with a test -/
theorem turns_filtQ {α : Type} {f : PyData → Mem → R (Option W)} {m : Mem} (enc : α → PyData) (p : α → Bool) (g : α → W) : ∀ (xs : List α) (acc : List W), (∀ x ∈ xs, f (enc x) m = .ok (if p x = true then some (g x) else none) m) → acc.length + xs.length ≤ szL → turns f (xs.map enc) acc m = .ok (acc ++ (xs.filter p).map g) m
  | [], acc, _, _ => by simp [turns]
  | x :: r, acc, h, hl => by
    rw [List.length_cons] at hl
    rw [List.map_cons, turns, h x (by simp)]
    simp only [R.ne, R.b]
    by_cases hp : p x = true
    · rw [if_pos hp]
      dsimp only
      rw [if_pos (by omega), turns_filtQ enc p g r (acc ++ [g x]) (fun y hy => h y (by simp [hy])) (by simp; omega)]
      simp [hp]
    · rw [if_neg hp]
      dsimp only
      rw [turns_filtQ enc p g r acc (fun y hy => h y (by simp [hy])) (by omega)]
      simp [hp]
theorem filtQ {α : Type} {C : Orc} {own : List Nat} {g : G} {src : IT} {ift elt : E} {ρ : Z.Env} {m : Mem} (enc gW : α → PyData) (p : α → Bool) (xs : List α) (hs : evI C src ρ m = .ok (xs.map enc) m)
    (he : ∀ x ∈ xs, ∃ ρ1, asg g (.v (enc x)) (wipe ρ own) = some ρ1 ∧ ev C ift ρ1 m = .ok (.v (.bool (p x))) m ∧ ev C elt ρ1 m = .ok (.v (gW x)) m) (hl : xs.length ≤ szL) : ev C (.lst .fz (.comp own g src (.cons ift .nil) elt)) ρ m = .ok (.v (.list ((xs.filter p).map gW))) m := by
  simp only [ev, evL, hs, R.b]
  rw [turns_filtQ enc p (fun x => .v (gW x)) xs [] ?_ (by simpa using hl)]
  · have : (xs.filter p).length ≤ szL := Nat.le_trans (List.length_filter_le ..) hl
    simp only [List.nil_append, mk, List.length_map, this, if_true, allV_mapQ, Option.map_some, ofO]
  · intro x hx
    obtain ⟨ρ1, h1, h2, h3⟩ := he x hx
    simp only [h1, evIf, h2, R.b, truW, truD, ofO]
    by_cases hp : p x = true
    · simp only [hp, if_true, h3]
    · rw [Bool.not_eq_true] at hp
      simp only [hp, Bool.false_eq_true, if_false]
/-! tupled -/
theorem ids (l : List PyData) : l.map (fun x => x) = l := by simp
def tupX : E := .lst .fz (.comp [1] (.nm 1) (.seq (.var 0)) .nil (.call 34 (.cons (.var 1) .nil)))
theorem tup_list {C : Orc} {ds : List PyData} {S : List OS} (h : ∀ d ∈ ds, C 34 [.v d] S = .ok (.v d) ⟨[], S⟩) (hl : ds.length ≤ szL) : runFn C Ftupled [.v (.tuple ds)] S = .ok (.v (.tuple ds)) ⟨[], S⟩ := by
  have hc : ev C tupX [some (.v (.tuple ds)), none] ⟨[], S⟩ = .ok (.v (.list (ds.map fun x => x))) ⟨[], S⟩ := by
    refine compQ (fun x => x) (fun x => x) ds (by simp [runFn, exs, ex, ev, evAnd, evOr, evs, evO, evL, evIf, evI, asg, asgs, asT, asTs, setL, R.b, R.t, R.ne, RT.s, ofO, peek, peekT, peeks, isiD, tyOf, tyLe, truW, truD, wipe, args, binD, cmpD, eqD, inD, bltD, dmD, strsOf, asStr, intsOf, boolsOf, asInt, asBool, mk, allV, outW, itemsD, itemsW, itemsL, itemsT, ixW, atI, ixN, slW, cut, sIx, freeze, mthW, mtyW, setIxW, enmD, zipD, zipP, rgI, small, szL, isNW, maxI, minI, cl, isIns, noFld, fldW, putA, setFld, Mk.pre, Mk.post]) (fun d hd => ⟨[some (.v (.tuple ds)), some (.v d)], by simp [runFn, exs, ex, ev, evAnd, evOr, evs, evO, evL, evIf, evI, asg, asgs, asT, asTs, setL, R.b, R.t, R.ne, RT.s, ofO, peek, peekT, peeks, isiD, tyOf, tyLe, truW, truD, wipe, args, binD, cmpD, eqD, inD, bltD, dmD, strsOf, asStr, intsOf, boolsOf, asInt, asBool, mk, allV, outW, itemsD, itemsW, itemsL, itemsT, ixW, atI, ixN, slW, cut, sIx, freeze, mthW, mtyW, setIxW, enmD, zipD, zipP, rgI, small, szL, isNW, maxI, minI, cl, isIns, noFld, fldW, putA, setFld, Mk.pre, Mk.post], ?_⟩) hl
    simp [runFn, exs, ex, ev, evAnd, evOr, evs, evO, evL, evIf, evI, asg, asgs, asT, asTs, setL, R.b, R.t, R.ne, RT.s, ofO, peek, peekT, peeks, isiD, tyOf, tyLe, truW, truD, wipe, args, binD, cmpD, eqD, inD, bltD, dmD, strsOf, asStr, intsOf, boolsOf, asInt, asBool, mk, allV, outW, itemsD, itemsW, itemsL, itemsT, ixW, atI, ixN, slW, cut, sIx, freeze, mthW, mtyW, setIxW, enmD, zipD, zipP, rgI, small, szL, isNW, maxI, minI, cl, isIns, noFld, fldW, putA, setFld, Mk.pre, Mk.post, h d hd]
  rw [ids] at hc
  have hf : Ftupled = ⟨1, 2, .cons (.ret (.ite (.isi [.list, .tuple] (.var 0)) (.blt .tuple (.cons tupX .nil)) (.var 0))) .nil⟩ := rfl
  rw [hf]
  simp [runFn, exs, ex, ev, evAnd, evOr, evs, evO, evL, evIf, evI, asg, asgs, asT, asTs, setL, R.b, R.t, R.ne, RT.s, ofO, peek, peekT, peeks, isiD, tyOf, tyLe, truW, truD, wipe, args, binD, cmpD, eqD, inD, bltD, dmD, strsOf, asStr, intsOf, boolsOf, asInt, asBool, mk, allV, outW, itemsD, itemsW, itemsL, itemsT, ixW, atI, ixN, slW, cut, sIx, freeze, mthW, mtyW, setIxW, enmD, zipD, zipP, rgI, small, szL, isNW, maxI, minI, cl, isIns, noFld, fldW, putA, setFld, Mk.pre, Mk.post, hc]
theorem tup_str {C : Orc} {s : Str} {S : List OS} : runFn C Ftupled [.v (.str s)] S = .ok (.v (.str s)) ⟨[], S⟩ := by kernel_rfl
mutual
/-- how wide a body is at most at one node -/
def Fm.wid : Fm → Nat
  | .act _ => 0
  | .node _ p ps => max (ps.len + 2) (max p.wid ps.wids)
def Fms.wids : Fms → Nat
  | .nil => 0
  | .cons p r => max p.wid r.wids
def Fms.len : Fms → Nat
  | .nil => 0
  | .cons _ r => r.len + 1
end
theorem Ds_len : ∀ ps : Fms, ps.Ds.length = ps.len
  | .nil => rfl
  | .cons p r => congrArg (· + 1) (Ds_len r)
mutual
theorem c22 : ∀ (f : Fm) (k : Nat) (S : List OS), f.dep + 1 ≤ k → f.wid ≤ 1000 → callP fs k 34 [.v f.D] S = .ok (.v f.D) ⟨[], S⟩
  | .act s, k + 1, S, _, _ => tup_str (C := callP fs k)
  | .node w p ps, k + 1, S, hk, hw => by
    have hk : max p.dep ps.deps + 1 + 1 ≤ k + 1 := hk
    have hw : max (ps.len + 2) (max p.wid ps.wids) ≤ 1000 := hw
    obtain ⟨k, rfl⟩ : ∃ j, k = j + 1 := ⟨k - 1, by omega⟩
    show runFn (callP fs (k + 1)) Ftupled [.v (.tuple (.str w.s :: p.D :: ps.Ds))] S = _
    refine tup_list (fun d hd => ?_) ?_
    · rcases List.mem_cons.mp hd with rfl | hd
      · exact tup_str (C := callP fs k)
      · rcases List.mem_cons.mp hd with rfl | hd
        · exact c22 p (k + 1) S (by omega) (by omega)
        · exact c22s ps (k + 1) S (by omega) (by omega) d hd
    · rw [List.length_cons, List.length_cons, Ds_len]
      show _ ≤ 16777216
      omega
theorem c22s : ∀ (ps : Fms) (k : Nat) (S : List OS), ps.deps + 1 ≤ k → ps.wids ≤ 1000 → ∀ d ∈ ps.Ds, callP fs k 34 [.v d] S = .ok (.v d) ⟨[], S⟩
  | .nil, k, S, _, _, d, hd => by cases hd
  | .cons p r, k, S, hk, hw, d, hd => by
    have hk : max p.dep r.deps + 1 ≤ k := hk
    have hw : max p.wid r.wids ≤ 1000 := hw
    rcases List.mem_cons.mp hd with rfl | hd
    · exact c22 p k S (by omega) (by omega)
    · exact c22s r k S (by omega) (by omega) d hd
end
/-! top_word, parts -/
theorem c29a (k : Nat) (s : Str) (S : List OS) : callP fs (k + 1) 43 [.v (.str s)] S = .ok (.v .none) ⟨[], S⟩ := by kernel_rfl
theorem c29n (k : Nat) (w : Wo) (p : Fm) (ps : Fms) (S : List OS) : callP fs (k + 1) 43 [.v (Fm.node w p ps).D] S = .ok (.v (.str w.s)) ⟨[], S⟩ := by
  show runFn (callP fs k) Ftop_word [.v (.tuple (.str w.s :: p.D :: ps.Ds))] S = _
  have h0 : ¬ ((ps.Ds.length : Int) + 1 + 1 = 0) := by omega
  have h1 : (0 : Int) < (ps.Ds.length : Int) + 1 + 1 := by omega
  simp [runFn, exs, ex, ev, evAnd, evOr, evs, evO, evL, evIf, evI, asg, asgs, asT, asTs, setL, R.b, R.t, R.ne, RT.s, ofO, peek, peekT, peeks, isiD, tyOf, tyLe, truW, truD, turns, turnsL, wipe, args, binD, cmpD, eqD, inD, bltD, dmD, strsOf, asStr, intsOf, boolsOf, asInt, asBool, mk, allV, outW, itemsD, itemsW, itemsL, itemsT, ixW, atI, ixN, slW, cut, sIx, freeze, mthW, mtyW, setIxW, forR, enmD, zipD, zipP, rgI, small, szL, isNW, maxI, minI, cl, isIns, noFld, fldW, putA, setFld, Mk.pre, Mk.post, Ftop_word, h0, h1]
theorem c28a (k : Nat) (s : Str) (S : List OS) : callP fs (k + 2) 42 [.v (.str s)] S = .ok (.v (.tuple [])) ⟨[], S⟩ := by kernel_rfl
theorem c28n (k : Nat) (w : Wo) (p : Fm) (ps : Fms) (S : List OS) (hk : max p.dep ps.deps + 1 ≤ k) (hw : (Fm.node w p ps).wid ≤ 1000) : callP fs (k + 2) 42 [.v (Fm.node w p ps).D] S = .ok (.v (.tuple (p.D :: ps.Ds))) ⟨[], S⟩ := by
  have hw : max (ps.len + 2) (max p.wid ps.wids) ≤ 1000 := hw
  have e1 := c29n k w p ps S
  have e2 : callP fs (k + 1) 34 [.v (.tuple (p.D :: ps.Ds))] S = .ok (.v (.tuple (p.D :: ps.Ds))) ⟨[], S⟩ := by
    show runFn (callP fs k) Ftupled [.v (.tuple (p.D :: ps.Ds))] S = _
    refine tup_list (fun d hd => ?_) ?_
    · rcases List.mem_cons.mp hd with rfl | hd
      · exact c22 p k S (by omega) (by omega)
      · exact c22s ps k S (by omega) (by omega) d hd
    · rw [List.length_cons, Ds_len]
      show _ ≤ 16777216
      omega
  show runFn (callP fs (k + 1)) Fparts [.v (Fm.node w p ps).D] S = _
  generalize callP fs (k + 1) = C at e1 e2
  simp only [Fm.D] at e1 ⊢
  have hl : ((ps.Ds.length : Int) + 1 + 1).toNat = ps.Ds.length + 2 := by omega
  simp [runFn, exs, ex, ev, evAnd, evOr, evs, evO, evL, evIf, evI, asg, asgs, asT, asTs, setL, R.b, R.t, R.ne, RT.s, ofO, peek, peekT, peeks, isiD, tyOf, tyLe, truW, truD, turns, turnsL, wipe, args, binD, cmpD, eqD, inD, bltD, dmD, strsOf, asStr, intsOf, boolsOf, asInt, asBool, mk, allV, outW, itemsD, itemsW, itemsL, itemsT, ixW, atI, ixN, slW, cut, sIx, freeze, mthW, mtyW, setIxW, forR, enmD, zipD, zipP, rgI, small, szL, isNW, maxI, minI, cl, isIns, noFld, fldW, putA, setFld, Mk.pre, Mk.post, Fparts, e1, e2]
/-! rows -/
def Fms.l : Fms → List Fm
  | .nil => []
  | .cons p r => p :: r.l
theorem Ds_l : ∀ ps : Fms, ps.Ds = ps.l.map Fm.D
  | .nil => rfl
  | .cons p r => congrArg (p.D :: ·) (Ds_l r)
theorem rows_l : ∀ ps : Fms, ps.rows = ps.l.flatMap Fm.row
  | .nil => rfl
  | .cons p r => by
    show p.row ++ r.rows = (p :: r.l).flatMap Fm.row
    rw [List.flatMap_cons, rows_l r]
theorem turnsL_cat {α : Type} {F : PyData → List W → Mem → R (List W)} {m : Mem} (enc : α → PyData) (g : α → List W) : ∀ (xs : List α) (acc : List W), (∀ x ∈ xs, ∀ acc, acc.length + (g x).length ≤ szL → F (enc x) acc m = .ok (acc ++ g x) m) → acc.length + (xs.flatMap g).length ≤ szL →
    turnsL F (xs.map enc) acc m = .ok (acc ++ xs.flatMap g) m
  | [], acc, _, _ => by simp [turnsL]
  | x :: r, acc, h, hl => by
    rw [List.flatMap_cons, List.length_append] at hl
    rw [List.map_cons, turnsL, h x (by simp) acc (by omega)]
    simp only [R.ne, R.b]
    rw [turnsL_cat enc g r (acc ++ g x) (fun y hy => h y (by simp [hy])) (by rw [List.length_append]; omega), List.flatMap_cons, List.append_assoc]
def faX : E := .lst .fz (.comp2 [1, 2] [2] (.nm 1) (.seq (.sl (.var 0) (.some (.cst (.int 1))) .none)) .nil (.nm 2) (.seq (.call 48 (.cons (.var 1) .nil))) .nil (.var 2))
theorem cut_tl {α : Type} (x : α) (l : List α) : cut (x :: l) (some 1) none = l := by
  unfold cut sIx
  simp
theorem seq_tl {C : Orc} {m : Mem} {ρ : Z.Env} {i : Nat} (x : PyData) (ds : List PyData) (h : ρ[i]? = some (some (.v (.tuple (x :: ds))))) : evI C (.seq (.sl (.var i) (.some (.cst (.int 1))) .none)) ρ m = .ok ds m := by
  simp only [evI, ev, h, R.b, evO, slW, peek, Option.bind_some, cut_tl, Option.map_some, ofO, itemsD]
theorem fa_ev {C : Orc} {S : List OS} (x : PyData) (fs : List Fm) (h : ∀ f ∈ fs, C 48 [.v f.D] S = .ok (.v (.tuple (f.row.map .str))) ⟨[], S⟩) (hl : (fs.flatMap Fm.row).length ≤ szL) :
    ev C faX [some (.v (.tuple (x :: fs.map Fm.D))), none, none] ⟨[], S⟩ = .ok (.v (.list ((fs.flatMap Fm.row).map .str))) ⟨[], S⟩ := by
  have hi : evI C (.seq (.sl (.var 0) (.some (.cst (.int 1))) .none)) [some (.v (.tuple (x :: fs.map Fm.D))), none, none] ⟨[], S⟩ = .ok (fs.map Fm.D) ⟨[], S⟩ := seq_tl x _ rfl
  have fl : (fs.flatMap fun f => f.row.map fun s => W.v (PyData.str s)) = (fs.flatMap Fm.row).map fun s => W.v (PyData.str s) := by rw [List.map_flatMap]
  unfold faX
  simp only [ev, evL, hi, R.b]
  rw [turnsL_cat Fm.D (fun f => f.row.map fun s => W.v (.str s)) fs []]
  · rw [fl, List.nil_append]
    simp only [mk, List.length_map, hl, if_true]
    rw [allV_mapQ PyData.str]
    rfl
  · intro f hf acc ha
    have e := h f hf
    simp [runFn, exs, ex, ev, evAnd, evOr, evs, evO, evL, evIf, evI, asg, asgs, asT, asTs, setL, R.b, R.t, R.ne, RT.s, ofO, peek, peekT, peeks, isiD, tyOf, tyLe, truW, truD, wipe, args, binD, cmpD, eqD, inD, bltD, dmD, strsOf, asStr, intsOf, boolsOf, asInt, asBool, mk, allV, outW, itemsD, itemsW, itemsL, itemsT, ixW, atI, ixN, slW, cut, sIx, freeze, mthW, mtyW, setIxW, enmD, zipD, zipP, rgI, small, szL, isNW, maxI, minI, cl, isIns, noFld, fldW, putA, setFld, Mk.pre, Mk.post, e]
    rw [turns_mapQ PyData.str (fun s => W.v (.str s)) f.row acc (fun s hs => by simp [runFn, exs, ex, ev, evAnd, evOr, evs, evO, evL, evIf, evI, asg, asgs, asT, asTs, setL, R.b, R.t, R.ne, RT.s, ofO, peek, peekT, peeks, isiD, tyOf, tyLe, truW, truD, wipe, args, binD, cmpD, eqD, inD, bltD, dmD, strsOf, asStr, intsOf, boolsOf, asInt, asBool, mk, allV, outW, itemsD, itemsW, itemsL, itemsT, ixW, atI, ixN, slW, cut, sIx, freeze, mthW, mtyW, setIxW, enmD, zipD, zipP, rgI, small, szL, isNW, maxI, minI, cl, isIns, noFld, fldW, putA, setFld, Mk.pre, Mk.post]) (by simpa using ha)]
  · rw [fl, List.length_map]
    simpa using hl
theorem fa_str {C : Orc} {s : Str} {S : List OS} : runFn C Fform_acts [.v (.str s)] S = .ok (.v (.tuple [.str s])) ⟨[], S⟩ := by kernel_rfl
theorem fa_node {C : Orc} {S : List OS} (x : PyData) (fs : List Fm) (h : ∀ f ∈ fs, C 48 [.v f.D] S = .ok (.v (.tuple (f.row.map .str))) ⟨[], S⟩) (hl : (fs.flatMap Fm.row).length ≤ szL) :
    runFn C Fform_acts [.v (.tuple (x :: fs.map Fm.D))] S = .ok (.v (.tuple ((fs.flatMap Fm.row).map .str))) ⟨[], S⟩ := by
  have hc := fa_ev x fs h hl
  have hf : Fform_acts = ⟨1, 3, (.cons (.ife (.isi [.str] (.var 0)) (.cons (.ret (.tup (.cons (.var 0) .nil))) .nil) .nil) (.cons (.ret (.blt .tuple (.cons faX .nil))) .nil))⟩ := rfl
  rw [hf]
  simp [runFn, exs, ex, ev, evAnd, evOr, evs, evO, evL, evIf, evI, asg, asgs, asT, asTs, setL, R.b, R.t, R.ne, RT.s, ofO, peek, peekT, peeks, isiD, tyOf, tyLe, truW, truD, wipe, args, binD, cmpD, eqD, inD, bltD, dmD, strsOf, asStr, intsOf, boolsOf, asInt, asBool, mk, allV, outW, itemsD, itemsW, itemsL, itemsT, ixW, atI, ixN, slW, cut, sIx, freeze, mthW, mtyW, setIxW, enmD, zipD, zipP, rgI, small, szL, isNW, maxI, minI, cl, isIns, noFld, fldW, putA, setFld, Mk.pre, Mk.post, hc]
mutual
theorem c32 : ∀ (f : Fm) (k : Nat) (S : List OS), f.dep + 1 ≤ k → f.row.length ≤ 1000 → callP fs k 48 [.v f.D] S = .ok (.v (.tuple (f.row.map .str))) ⟨[], S⟩
  | .act s, k + 1, S, _, _ => fa_str (C := callP fs k)
  | .node w p ps, k + 1, S, hk, hw => by
    have hk : max p.dep ps.deps + 1 + 1 ≤ k + 1 := hk
    have hw : (p.row ++ ps.rows).length ≤ 1000 := hw
    have hw0 := hw
    rw [List.length_append] at hw
    obtain ⟨k, rfl⟩ : ∃ j, k = j + 1 := ⟨k - 1, by omega⟩
    show runFn (callP fs (k + 1)) Fform_acts [.v (.tuple (.str w.s :: p.D :: ps.Ds))] S = .ok (.v (.tuple ((p.row ++ ps.rows).map .str))) ⟨[], S⟩
    rw [Ds_l, rows_l] at *
    refine fa_node (.str w.s) (p :: ps.l) (fun f hf => ?_) ?_
    · rcases List.mem_cons.mp hf with hf | hf
      · rw [hf]
        exact c32 p (k + 1) S (by omega) (by omega)
      · exact c32s ps (k + 1) S (by omega) (by rw [rows_l]; omega) f hf
    · rw [List.flatMap_cons]
      exact Nat.le_trans hw0 (by decide)
theorem c32s : ∀ (ps : Fms) (k : Nat) (S : List OS), ps.deps + 1 ≤ k → ps.rows.length ≤ 1000 → ∀ f ∈ ps.l, callP fs k 48 [.v f.D] S = .ok (.v (.tuple (f.row.map .str))) ⟨[], S⟩
  | .nil, k, S, _, _, d, hd => by cases hd
  | .cons p r, k, S, hk, hw, d, hd => by
    have hk : max p.dep r.deps + 1 ≤ k := hk
    have hw : (p.row ++ r.rows).length ≤ 1000 := hw
    rw [List.length_append] at hw
    rcases List.mem_cons.mp hd with hd | hd
    · rw [hd]
      exact c32 p k S (by omega) (by omega)
    · exact c32s r k S (by omega) (by omega) d hd
end
/-- a name that is not empty -/
def Fm.ne : Fm → Bool
  | .act s => decide (0 < s.length ∧ s.length ≤ 16777216)
  | .node _ _ _ => true
theorem c30 (f : Fm) (k : Nat) (S : List OS) (hk : f.dep + 2 ≤ k) (hw : f.row.length ≤ 1000) (hn : f.ne = true) : callP fs k 44 [.v f.D] S = .ok (.v (.tuple (f.row.map .str))) ⟨[], S⟩ := by
  obtain ⟨k, rfl⟩ : ∃ j, k = j + 1 := ⟨k - 1, by omega⟩
  have e := c32 f k S (by omega) hw
  show runFn (callP fs k) Frow_of [.v f.D] S = _
  generalize callP fs k = C at e
  cases f with
  | act s =>
    have hn : 0 < s.length ∧ s.length ≤ 16777216 := of_decide_eq_true hn
    have e' : C 48 [W.v (PyData.str s)] S = .ok (.v (.tuple [.str s])) ⟨[], S⟩ := e
    show _ = R.ok (W.v (.tuple [.str s])) _
    simp only [Fm.D]
    simp [runFn, exs, ex, ev, evAnd, evOr, evs, evO, evL, evIf, evI, asg, asgs, asT, asTs, setL, R.b, R.t, R.ne, RT.s, ofO, peek, peekT, peeks, isiD, tyOf, tyLe, truW, truD, turns, turnsL, wipe, args, binD, cmpD, eqD, inD, bltD, dmD, strsOf, asStr, intsOf, boolsOf, asInt, asBool, mk, allV, outW, itemsD, itemsW, itemsL, itemsT, ixW, atI, ixN, slW, cut, sIx, freeze, mthW, mtyW, setIxW, forR, enmD, zipD, zipP, rgI, small, szL, isNW, maxI, minI, cl, isIns, noFld, fldW, putA, setFld, Mk.pre, Mk.post, Frow_of, e', hn.1, hn.2]
  | node w p ps =>
    have h1 : (0 : Int) < (ps.Ds.length : Int) + 1 + 1 := by omega
    simp only [Fm.D] at e ⊢
    simp [runFn, exs, ex, ev, evAnd, evOr, evs, evO, evL, evIf, evI, asg, asgs, asT, asTs, setL, R.b, R.t, R.ne, RT.s, ofO, peek, peekT, peeks, isiD, tyOf, tyLe, truW, truD, turns, turnsL, wipe, args, binD, cmpD, eqD, inD, bltD, dmD, strsOf, asStr, intsOf, boolsOf, asInt, asBool, mk, allV, outW, itemsD, itemsW, itemsL, itemsT, ixW, atI, ixN, slW, cut, sIx, freeze, mthW, mtyW, setIxW, forR, enmD, zipD, zipP, rgI, small, szL, isNW, maxI, minI, cl, isIns, noFld, fldW, putA, setFld, Mk.pre, Mk.post, Frow_of, e, h1]
end L
set_option maxHeartbeats 8000000
/-! Q2: tidied bodies. -/
namespace L
open PySem Z
mutual
theorem wid_row : ∀ f : Fm, f.wid ≤ f.row.length + 1 ∧ 1 ≤ f.row.length
  | .act s => ⟨by show 0 ≤ _; omega, by show 1 ≤ [s].length; simp⟩
  | .node w p ps => by
    have h1 := wid_row p
    have h2 := wids_rows ps
    refine ⟨?_, ?_⟩
    · show max (ps.len + 2) (max p.wid ps.wids) ≤ (p.row ++ ps.rows).length + 1
      rw [List.length_append]
      omega
    · show 1 ≤ (p.row ++ ps.rows).length
      rw [List.length_append]
      omega
theorem wids_rows : ∀ ps : Fms, ps.wids ≤ ps.rows.length + 1 ∧ ps.len ≤ ps.rows.length
  | .nil => ⟨by show 0 ≤ _; omega, by show 0 ≤ _; omega⟩
  | .cons p r => by
    have h1 := wid_row p
    have h2 := wids_rows r
    refine ⟨?_, ?_⟩
    · show max p.wid r.wids ≤ (p.row ++ r.rows).length + 1
      rw [List.length_append]
      omega
    · show r.len + 1 ≤ (p.row ++ r.rows).length
      rw [List.length_append]
      omega
end
def mkS : List Fm → Fms
  | [] => .nil
  | f :: r => .cons f (mkS r)
theorem mkS_l : ∀ l : List Fm, (mkS l).l = l
  | [] => rfl
  | f :: r => congrArg (f :: ·) (mkS_l r)
theorem deps_l : ∀ (ps : Fms) (n : Nat), ps.deps ≤ n ↔ ∀ f ∈ ps.l, f.dep ≤ n
  | .nil, n => ⟨fun _ f hf => absurd hf List.not_mem_nil, fun _ => Nat.zero_le _⟩
  | .cons p r, n => by
    show max p.dep r.deps ≤ n ↔ ∀ f ∈ p :: r.l, f.dep ≤ n
    rw [Nat.max_le, deps_l r n]
    simp
instance : DecidableEq Wo := fun a b => by
  cases a <;> cases b <;> first | exact isTrue rfl | exact isFalse (fun h => by cases h)
/-- the parts under the same word -/
def ex1 (w : Wo) (f : Fm) : List Fm := match f with
  | .act s => [.act s]
  | .node w' p ps => if w' = w then p :: ps.l else [.node w' p ps]
theorem ex1_row (w : Wo) (f : Fm) : (ex1 w f).flatMap Fm.row = f.row := by
  cases f with
  | act s => simp [ex1]
  | node w' p ps =>
    unfold ex1
    by_cases h : w' = w
    · dsimp only
      rw [if_pos h, List.flatMap_cons, ← rows_l]
      rfl
    · dsimp only
      rw [if_neg h]
      simp
theorem ex1_ne (w : Wo) (f : Fm) : ex1 w f ≠ [] := by
  cases f with
  | act s => simp [ex1]
  | node w' p ps =>
    unfold ex1
    by_cases h : w' = w
    · dsimp only
      rw [if_pos h]
      simp
    · dsimp only
      rw [if_neg h]
      simp
theorem ex1_dep (w : Wo) (f : Fm) : ∀ g ∈ ex1 w f, g.dep ≤ f.dep := by
  cases f with
  | act s => simp [ex1]
  | node w' p ps =>
    intro g hg
    unfold ex1 at hg
    by_cases h : w' = w
    · dsimp only at hg
      rw [if_pos h] at hg
      show g.dep ≤ max p.dep ps.deps + 1
      rcases List.mem_cons.mp hg with hg | hg
      · rw [hg]
        omega
      · have := (deps_l ps ps.deps).mp (Nat.le_refl _) g hg
        omega
    · dsimp only at hg
      rw [if_neg h] at hg
      rw [List.mem_singleton.mp hg]
      exact Nat.le_refl _
theorem ex1_len (w : Wo) (f : Fm) : (ex1 w f).length ≤ f.row.length := by
  rw [← ex1_row w f]
  generalize ex1 w f = l
  induction l with
  | nil => exact Nat.zero_le _
  | cons x r ih =>
    rw [List.flatMap_cons, List.length_append, List.length_cons]
    have := (wid_row x).2
    omega
def Fm.top : Fm → PyData
  | .act _ => .none
  | .node w _ _ => .str w.s
def Fm.pl : Fm → List Fm
  | .act _ => []
  | .node _ p ps => p :: ps.l
theorem top_eq (w w' : Wo) : cmpD .eq (.str w'.s) (.str w.s) = some (decide (w' = w)) := by cases w <;> cases w' <;> decide +kernel
theorem top_no (w : Wo) : cmpD .eq .none (.str w.s) = some false := by cases w <;> decide +kernel
def jfB : TS := .cons (.ex (.mth .extend (.var 2) (.cons (.ite (.cmp .eq (.call 43 (.cons (.var 3) .nil)) (.var 0)) (.call 42 (.cons (.var 3) .nil)) (.lst .fz (.disp (.cons (.var 3) .nil)))) .nil))) .nil
theorem jf_step {C : Orc} {S : List OS} (w : Wo) (f : Fm) (l : Option W) (ws : List W) (h29 : C 43 [.v f.D] S = .ok (.v f.top) ⟨[], S⟩)
    (h28 : C 42 [.v f.D] S = .ok (.v (.tuple (f.pl.map Fm.D))) ⟨[], S⟩) (hl : ws.length + (ex1 w f).length ≤ 16777216) :
    exs C jfB [some (.v (.str w.s)), l, some (.loc 0), some (.v f.D)] ⟨[.lst ws], S⟩ = .nx [some (.v (.str w.s)), l, some (.loc 0), some (.v f.D)] ⟨[.lst (ws ++ (ex1 w f).map fun g => .v g.D)], S⟩ := by
  cases f with
  | act s =>
    have hl : ws.length + 1 ≤ 16777216 := hl
    simp only [Fm.D, Fm.top] at h29 h28 ⊢
    have t := top_no w
    simp [jfB, runFn, exs, ex, ev, evAnd, evOr, evs, evO, evL, evIf, evI, asg, asgs, asT, asTs, setL, R.b, R.t, R.ne, RT.s, ofO, peek, peekT, peeks, isiD, tyOf, tyLe, truW, truD, wipe, args, binD, bltD, dmD, strsOf, asStr, intsOf, boolsOf, asInt, asBool, mk, allV, outW, itemsD, itemsW, itemsL, itemsT, ixW, atI, ixN, slW, cut, sIx, freeze, mthW, mtyW, setIxW, enmD, zipD, zipP, rgI, small, szL, isNW, maxI, minI, cl, isIns, noFld, fldW, putA, setFld, Mk.pre, Mk.post, h29, h28, t, hl, Fm.D, ex1, top_no]
  | node w' p ps =>
    have t := top_eq w w'
    by_cases e : w' = w
    · have he : ex1 w (.node w' p ps) = p :: ps.l := by unfold ex1; dsimp only; rw [if_pos e]
      rw [he] at hl ⊢
      rw [e] at h29 h28 ⊢
      rw [decide_eq_true e, e] at t
      simp only [Fm.D, Fm.top, Fm.pl, List.map_cons] at h29 h28 ⊢
      have hl' : ws.length + (ps.l.length + 1) ≤ 16777216 := hl
      simp [jfB, runFn, exs, ex, ev, evAnd, evOr, evs, evO, evL, evIf, evI, asg, asgs, asT, asTs, setL, R.b, R.t, R.ne, RT.s, ofO, peek, peekT, peeks, isiD, tyOf, tyLe, truW, truD, wipe, args, binD, bltD, dmD, strsOf, asStr, intsOf, boolsOf, asInt, asBool, mk, allV, outW, itemsD, itemsW, itemsL, itemsT, ixW, atI, ixN, slW, cut, sIx, freeze, mthW, mtyW, setIxW, enmD, zipD, zipP, rgI, small, szL, isNW, maxI, minI, cl, isIns, noFld, fldW, putA, setFld, Mk.pre, Mk.post, h29, h28, t, hl', Fm.D, ex1, top_no]
    · have he : ex1 w (.node w' p ps) = [.node w' p ps] := by unfold ex1; dsimp only; rw [if_neg e]
      rw [he] at hl ⊢
      rw [decide_eq_false e] at t
      simp only [Fm.D, Fm.top] at h29 h28 ⊢
      have hl' : ws.length + 1 ≤ 16777216 := hl
      simp [jfB, runFn, exs, ex, ev, evAnd, evOr, evs, evO, evL, evIf, evI, asg, asgs, asT, asTs, setL, R.b, R.t, R.ne, RT.s, ofO, peek, peekT, peeks, isiD, tyOf, tyLe, truW, truD, wipe, args, binD, bltD, dmD, strsOf, asStr, intsOf, boolsOf, asInt, asBool, mk, allV, outW, itemsD, itemsW, itemsL, itemsT, ixW, atI, ixN, slW, cut, sIx, freeze, mthW, mtyW, setIxW, enmD, zipD, zipP, rgI, small, szL, isNW, maxI, minI, cl, isIns, noFld, fldW, putA, setFld, Mk.pre, Mk.post, h29, h28, t, hl', Fm.D, ex1, top_no]
theorem jf_loop {C : Orc} {S : List OS} (w : Wo) (l : Option W) : ∀ (fs : List Fm) (ws : List W) (y : Option W), (∀ f ∈ fs, C 43 [.v f.D] S = .ok (.v f.top) ⟨[], S⟩ ∧ C 42 [.v f.D] S = .ok (.v (.tuple (f.pl.map Fm.D))) ⟨[], S⟩) →
    ws.length + (fs.flatMap (ex1 w)).length ≤ 16777216 →
    ∃ y', forR (fun d ρ m => match asg (.nm 3) (.v d) ρ with | some ρ => exs C jfB ρ m | none => .bad) (fs.map Fm.D) [some (.v (.str w.s)), l, some (.loc 0), y] ⟨[.lst ws], S⟩ =
      .nx [some (.v (.str w.s)), l, some (.loc 0), y'] ⟨[.lst (ws ++ (fs.flatMap (ex1 w)).map fun g => .v g.D)], S⟩
  | [], ws, y, _, _ => ⟨y, by simp [forR]⟩
  | f :: r, ws, y, h, hl => by
    rw [List.flatMap_cons, List.length_append] at hl
    have e := jf_step w f l ws (h f (by simp)).1 (h f (by simp)).2 (by omega)
    obtain ⟨y', ih⟩ := jf_loop w l r (ws ++ (ex1 w f).map fun g => .v g.D) (some (.v f.D)) (fun g hg => h g (by simp [hg])) (by rw [List.length_append, List.length_map]; omega)
    refine ⟨y', ?_⟩
    rw [List.map_cons, forR]
    have ea : asg (.nm 3) (.v f.D) [some (.v (.str w.s)), l, some (.loc 0), y] = some [some (.v (.str w.s)), l, some (.loc 0), some (.v f.D)] := by simp [asg]
    rw [ea]
    dsimp only
    rw [e]
    dsimp only
    rw [ih, List.flatMap_cons, List.map_append, List.append_assoc]
theorem exs_nx {C : Orc} {t : T} {r : TS} {ρ ρ' : Z.Env} {m m' : Mem} (h : ex C t ρ m = .nx ρ' m') : exs C (.cons t r) ρ m = exs C r ρ' m' := by
  rw [exs, h]
  rfl
theorem ex_for {C : Orc} {g : G} {it : IT} {b : TS} {ρ : Z.Env} {m : Mem} {ds : List PyData} (h : evI C it ρ m = .ok ds m) : ex C (.forT g it b) ρ m = forR (fun d ρ m => match asg g (.v d) ρ with | some ρ => exs C b ρ m | none => .bad) ds ρ m := by
  rw [ex, h]
  rfl
theorem run_of {C : Orc} {f : Fn} {ws : List W} {S : List OS} {ρ : Z.Env} {r : W} {m : Mem} (h1 : ws.length = f.np) (h2 : ws.map some ++ List.replicate (f.ns - f.np) none = ρ) (h : exs C f.body ρ ⟨[], S⟩ = .rt r m) : runFn C f ws S = .ok r ⟨[], m.S⟩ := by
  rw [runFn, if_pos h1, h2, h]
theorem run_nx {C : Orc} {f : Fn} {ws : List W} {S : List OS} {ρ ρ' : Z.Env} {m : Mem} (h1 : ws.length = f.np) (h2 : ws.map some ++ List.replicate (f.ns - f.np) none = ρ) (h : exs C f.body ρ ⟨[], S⟩ = .nx ρ' m) : runFn C f ws S = .ok (.v .none) ⟨[], m.S⟩ := by
  rw [runFn, if_pos h1, h2, h]
/-- the tidied body -/
def jn (w : Wo) : List Fm → Fm
  | [] => .act ⟨#[]⟩
  | [x] => x
  | x :: y :: r => .node w x (mkS (y :: r))
theorem allV_D (l : List Fm) : allV (l.map fun g => W.v g.D) = some (l.map Fm.D) := by
  induction l with
  | nil => rfl
  | cons x r ih => simp [allV, ih]
theorem jf_ev {C : Orc} {S : List OS} (w : Wo) (fs : List Fm) (h : ∀ f ∈ fs, C 43 [.v f.D] S = .ok (.v f.top) ⟨[], S⟩ ∧ C 42 [.v f.D] S = .ok (.v (.tuple (f.pl.map Fm.D))) ⟨[], S⟩)
    (hl : (fs.flatMap (ex1 w)).length ≤ 1000) (hn : fs.flatMap (ex1 w) ≠ []) : runFn C Fjoined_forms [.v (.str w.s), .v (.list (fs.map Fm.D))] S = .ok (.v (jn w (fs.flatMap (ex1 w))).D) ⟨[], S⟩ := by
  obtain ⟨y', hf⟩ := jf_loop w (some (.v (.list (fs.map Fm.D)))) fs [] none h (by rw [List.length_nil]; omega)
  rw [List.nil_append] at hf
  have hF : Fjoined_forms = ⟨2, 4, (.cons (.asg (.nm 2) (.lst .loc (.disp .nil))) (.cons (.forT (.nm 3) (.seq (.var 1)) jfB) (.cons (.ife (.cmp .eq (.blt .len (.cons (.var 2) .nil)) (.cst (.int 0))) (.cons (.ret (.tup .nil)) .nil) .nil) (.cons (.ret (.ite (.cmp .eq (.blt .len (.cons (.var 2) .nil)) (.cst (.int 1))) (.ix (.var 2) (.cst (.int 0))) (.tup (.cons (.var 0) (.star (.var 2) .nil))))) .nil))))⟩ := rfl
  rw [hF]
  generalize hg : fs.flatMap (ex1 w) = l at *
  have e1 : ex C (.asg (.nm 2) (.lst .loc (.disp .nil))) [some (.v (.str w.s)), some (.v (.list (fs.map Fm.D))), none, none] ⟨[], S⟩ = .nx [some (.v (.str w.s)), some (.v (.list (fs.map Fm.D))), some (.loc 0), none] ⟨[.lst []], S⟩ := by simp [runFn, exs, ex, ev, evAnd, evOr, evs, evO, evL, evIf, evI, asg, asgs, asT, asTs, setL, R.b, R.t, R.ne, RT.s, ofO, peek, peekT, peeks, isiD, tyOf, tyLe, truW, truD, wipe, args, binD, cmpD, eqD, inD, bltD, dmD, strsOf, asStr, intsOf, boolsOf, asInt, asBool, mk, allV, outW, itemsD, itemsW, itemsL, itemsT, ixW, atI, ixN, slW, cut, sIx, freeze, mthW, mtyW, setIxW, enmD, zipD, zipP, rgI, small, szL, isNW, maxI, minI, cl, isIns, noFld, fldW, putA, setFld, Mk.pre, Mk.post]
  have e2 : ex C (.forT (.nm 3) (.seq (.var 1)) jfB) [some (.v (.str w.s)), some (.v (.list (fs.map Fm.D))), some (.loc 0), none] ⟨[.lst []], S⟩ = .nx [some (.v (.str w.s)), some (.v (.list (fs.map Fm.D))), some (.loc 0), y'] ⟨[.lst (l.map fun g => W.v g.D)], S⟩ := by
    refine (ex_for (ds := fs.map Fm.D) ?_).trans hf
    simp [runFn, exs, ex, ev, evAnd, evOr, evs, evO, evL, evIf, evI, asg, asgs, asT, asTs, setL, R.b, R.t, R.ne, RT.s, ofO, peek, peekT, peeks, isiD, tyOf, tyLe, truW, truD, wipe, args, binD, cmpD, eqD, inD, bltD, dmD, strsOf, asStr, intsOf, boolsOf, asInt, asBool, mk, allV, outW, itemsD, itemsW, itemsL, itemsT, ixW, atI, ixN, slW, cut, sIx, freeze, mthW, mtyW, setIxW, enmD, zipD, zipP, rgI, small, szL, isNW, maxI, minI, cl, isIns, noFld, fldW, putA, setFld, Mk.pre, Mk.post]
  refine run_of (r := .v (jn w l).D) (m := ⟨[.lst (l.map fun g => W.v g.D)], S⟩) (ρ := [some (.v (.str w.s)), some (.v (.list (fs.map Fm.D))), none, none]) rfl rfl ?_
  rw [exs_nx e1, exs_nx e2]
  match l, hn, hl with
  | [x], _, _ => simp [runFn, exs, ex, ev, evAnd, evOr, evs, evO, evL, evIf, evI, asg, asgs, asT, asTs, setL, R.b, R.t, R.ne, RT.s, ofO, peek, peekT, peeks, isiD, tyOf, tyLe, truW, truD, wipe, args, binD, cmpD, eqD, inD, bltD, dmD, strsOf, asStr, intsOf, boolsOf, asInt, asBool, mk, allV, outW, itemsD, itemsW, itemsL, itemsT, ixW, atI, ixN, slW, cut, sIx, freeze, mthW, mtyW, setIxW, enmD, zipD, zipP, rgI, small, szL, isNW, maxI, minI, cl, isIns, noFld, fldW, putA, setFld, Mk.pre, Mk.post, jn]
  | x :: y :: r, _, hl =>
    have h0 : ¬ ((r.length : Int) + 1 + 1 = 0) := by omega
    have h1 : ¬ ((r.length : Int) + 1 + 1 = 1) := by omega
    have hl : r.length + 1 + 1 ≤ 1000 := hl
    have h2 : r.length + 1 + 1 + 1 ≤ 16777216 := by omega
    simp [runFn, exs, ex, ev, evAnd, evOr, evs, evO, evL, evIf, evI, asg, asgs, asT, asTs, setL, R.b, R.t, R.ne, RT.s, ofO, peek, peekT, peeks, isiD, tyOf, tyLe, truW, truD, wipe, args, binD, cmpD, eqD, inD, bltD, dmD, strsOf, asStr, intsOf, boolsOf, asInt, asBool, mk, allV, outW, itemsD, itemsW, itemsL, itemsT, ixW, atI, ixN, slW, cut, sIx, freeze, mthW, mtyW, setIxW, enmD, zipD, zipP, rgI, small, szL, isNW, maxI, minI, cl, isIns, noFld, fldW, putA, setFld, Mk.pre, Mk.post, jn, allV_D, h0, h1, h2, Fm.D, Ds_l, mkS_l]
theorem c29 (f : Fm) (k : Nat) (S : List OS) : callP fs (k + 1) 43 [.v f.D] S = .ok (.v f.top) ⟨[], S⟩ := by
  cases f with
  | act s => exact c29a k s S
  | node w p ps => exact c29n k w p ps S
theorem c28 (f : Fm) (k : Nat) (S : List OS) (hk : f.dep ≤ k) (hw : f.row.length ≤ 999) : callP fs (k + 2) 42 [.v f.D] S = .ok (.v (.tuple (f.pl.map Fm.D))) ⟨[], S⟩ := by
  cases f with
  | act s => exact c28a k s S
  | node w p ps =>
    have hk : max p.dep ps.deps + 1 ≤ k := hk
    have := (wid_row (.node w p ps)).1
    show callP fs (k + 2) 42 _ S = .ok (.v (.tuple (p.D :: ps.l.map Fm.D))) ⟨[], S⟩
    rw [← Ds_l]
    exact c28n k w p ps S (by omega) (by omega)
theorem c27 (w : Wo) (l : List Fm) (k d n : Nat) (S : List OS) (hk : d + 2 ≤ k) (hd : ∀ f ∈ l, f.dep ≤ d) (hn : l ≠ []) (hl : (l.flatMap Fm.row).length ≤ 999) :
    callP fs (k + 1) 41 [.v (.str w.s), .v (.list (l.map Fm.D))] S = .ok (.v (jn w (l.flatMap (ex1 w))).D) ⟨[], S⟩ := by
  have hm : ∀ f ∈ l, f.row.length ≤ (l.flatMap Fm.row).length := by
    intro f hf
    obtain ⟨a, b, rfl⟩ := List.append_of_mem hf
    rw [List.flatMap_append, List.flatMap_cons]
    simp only [List.length_append]
    omega
  have hL : (l.flatMap (ex1 w)).length ≤ (l.flatMap Fm.row).length := by
    clear hm hn hl hd
    induction l with
    | nil => exact Nat.le_refl _
    | cons x r ih =>
      simp only [List.flatMap_cons, List.length_append]
      have := ex1_len w x
      omega
  show runFn (callP fs k) Fjoined_forms _ S = _
  refine jf_ev w l (fun f hf => ⟨?_, ?_⟩) (by omega) ?_
  · obtain ⟨k, rfl⟩ : ∃ j, k = j + 1 := ⟨k - 1, by omega⟩
    exact c29 f k S
  · obtain ⟨k, rfl⟩ : ∃ j, k = j + 2 := ⟨k - 2, by omega⟩
    have := hd f hf
    have := hm f hf
    exact c28 f k S (by omega) (by omega)
  · intro h
    cases l with
    | nil => exact hn rfl
    | cons x r =>
      rw [List.flatMap_cons] at h
      exact ex1_ne w x (List.append_eq_nil_iff.mp h).1
mutual
def tid : Fm → Fm
  | .act s => .act s
  | .node w p ps => jn w ((tid p :: tids ps).flatMap (ex1 w))
def tids : Fms → List Fm
  | .nil => []
  | .cons p r => tid p :: tids r
end
theorem jn_row (w : Wo) : ∀ l : List Fm, l ≠ [] → (jn w l).row = l.flatMap Fm.row
  | [x], _ => by simp [jn]
  | x :: y :: r, _ => by
    show x.row ++ (mkS (y :: r)).rows = _
    rw [rows_l, mkS_l]
    simp only [List.flatMap_cons]
theorem jn_dep (w : Wo) (n : Nat) : ∀ l : List Fm, (∀ f ∈ l, f.dep ≤ n) → (jn w l).dep ≤ n + 1
  | [], _ => Nat.zero_le _
  | [x], h => Nat.le_succ_of_le (h x (by simp))
  | x :: y :: r, h => by
    show max x.dep (mkS (y :: r)).deps + 1 ≤ n + 1
    have h1 := h x (by simp)
    have h2 := (deps_l (mkS (y :: r)) n).mpr (by rw [mkS_l]; exact fun f hf => h f (by simp at hf ⊢; exact .inr hf))
    omega
theorem fm_ex1 (w : Wo) (l : List Fm) : (l.flatMap (ex1 w)).flatMap Fm.row = l.flatMap Fm.row := by
  induction l with
  | nil => rfl
  | cons x r ih => rw [List.flatMap_cons, List.flatMap_append, ih, ex1_row, List.flatMap_cons]
theorem fm_ne (w : Wo) (x : Fm) (r : List Fm) : (x :: r).flatMap (ex1 w) ≠ [] := by
  intro h
  rw [List.flatMap_cons] at h
  exact ex1_ne w x (List.append_eq_nil_iff.mp h).1
mutual
theorem tid_row : ∀ f : Fm, (tid f).row = f.row
  | .act s => rfl
  | .node w p ps => by
    show (jn w ((tid p :: tids ps).flatMap (ex1 w))).row = p.row ++ ps.rows
    rw [jn_row w _ (fm_ne w _ _), fm_ex1, List.flatMap_cons, tid_row p, tids_row ps]
theorem tids_row : ∀ ps : Fms, (tids ps).flatMap Fm.row = ps.rows
  | .nil => rfl
  | .cons p r => by
    show (tid p :: tids r).flatMap Fm.row = p.row ++ r.rows
    rw [List.flatMap_cons, tid_row p, tids_row r]
end
mutual
theorem tid_dep : ∀ f : Fm, (tid f).dep ≤ f.dep
  | .act s => Nat.le_refl _
  | .node w p ps => by
    show (jn w ((tid p :: tids ps).flatMap (ex1 w))).dep ≤ max p.dep ps.deps + 1
    refine jn_dep w _ _ (fun f hf => ?_)
    obtain ⟨g, hg, hf⟩ := List.mem_flatMap.mp hf
    have h1 := ex1_dep w g f hf
    rcases List.mem_cons.mp hg with e | hg
    · have := tid_dep p
      rw [← e] at this
      omega
    · have := tids_dep ps g hg
      omega
theorem tids_dep : ∀ ps : Fms, ∀ g ∈ tids ps, g.dep ≤ ps.deps
  | .nil, g, hg => absurd hg List.not_mem_nil
  | .cons p r, g, hg => by
    show g.dep ≤ max p.dep r.deps
    rcases List.mem_cons.mp hg with e | hg
    · have := tid_dep p
      rw [← e] at this
      omega
    · have := tids_dep r g hg
      omega
end
def tiX : E := .lst .fz (.comp [2] (.nm 2) (.seq (.call 42 (.cons (.var 0) .nil))) .nil (.call 31 (.cons (.var 2) .nil)))
theorem ti_ev {C : Orc} {S : List OS} (w : Wo) (f0 : PyData) (l : List Fm) (t : Fm → Fm) (r : PyData) (hl : l.length ≤ 16777216) (h29 : C 43 [.v f0] S = .ok (.v (.str w.s)) ⟨[], S⟩) (h28 : C 42 [.v f0] S = .ok (.v (.tuple (l.map Fm.D))) ⟨[], S⟩)
    (h20 : ∀ f ∈ l, C 31 [.v f.D] S = .ok (.v (t f).D) ⟨[], S⟩) (h27 : C 41 [.v (.str w.s), .v (.list ((l.map t).map Fm.D))] S = .ok (.v r) ⟨[], S⟩) : runFn C Ftidy [.v f0] S = .ok (.v r) ⟨[], S⟩ := by
  have hc : ev C tiX [some (.v f0), some (.v (.str w.s)), none] ⟨[], S⟩ = .ok (.v (.list (l.map fun f => (t f).D))) ⟨[], S⟩ := by
    refine compQ Fm.D (fun f => (t f).D) l (by simp [runFn, exs, ex, ev, evAnd, evOr, evs, evO, evL, evIf, evI, asg, asgs, asT, asTs, setL, R.b, R.t, R.ne, RT.s, ofO, peek, peekT, peeks, isiD, tyOf, tyLe, truW, truD, wipe, args, binD, cmpD, eqD, inD, bltD, dmD, strsOf, asStr, intsOf, boolsOf, asInt, asBool, mk, allV, outW, itemsD, itemsW, itemsL, itemsT, ixW, atI, ixN, slW, cut, sIx, freeze, mthW, mtyW, setIxW, enmD, zipD, zipP, rgI, small, szL, isNW, maxI, minI, cl, isIns, noFld, fldW, putA, setFld, Mk.pre, Mk.post, h28]) (fun f hf => ⟨[some (.v f0), some (.v (.str w.s)), some (.v f.D)], by simp [runFn, exs, ex, ev, evAnd, evOr, evs, evO, evL, evIf, evI, asg, asgs, asT, asTs, setL, R.b, R.t, R.ne, RT.s, ofO, peek, peekT, peeks, isiD, tyOf, tyLe, truW, truD, wipe, args, binD, cmpD, eqD, inD, bltD, dmD, strsOf, asStr, intsOf, boolsOf, asInt, asBool, mk, allV, outW, itemsD, itemsW, itemsL, itemsT, ixW, atI, ixN, slW, cut, sIx, freeze, mthW, mtyW, setIxW, enmD, zipD, zipP, rgI, small, szL, isNW, maxI, minI, cl, isIns, noFld, fldW, putA, setFld, Mk.pre, Mk.post], ?_⟩) hl
    simp [runFn, exs, ex, ev, evAnd, evOr, evs, evO, evL, evIf, evI, asg, asgs, asT, asTs, setL, R.b, R.t, R.ne, RT.s, ofO, peek, peekT, peeks, isiD, tyOf, tyLe, truW, truD, wipe, args, binD, cmpD, eqD, inD, bltD, dmD, strsOf, asStr, intsOf, boolsOf, asInt, asBool, mk, allV, outW, itemsD, itemsW, itemsL, itemsT, ixW, atI, ixN, slW, cut, sIx, freeze, mthW, mtyW, setIxW, enmD, zipD, zipP, rgI, small, szL, isNW, maxI, minI, cl, isIns, noFld, fldW, putA, setFld, Mk.pre, Mk.post, h20 f hf]
  have hF : Ftidy = ⟨1, 3, (.cons (.asg (.nm 1) (.call 43 (.cons (.var 0) .nil))) (.cons (.ret (.ite (.isN (.var 1)) (.call 34 (.cons (.var 0) .nil)) (.call 41 (.cons (.var 1) (.cons tiX .nil))))) .nil))⟩ := rfl
  rw [List.map_map] at h27
  have h27 : C 41 [.v (.str w.s), .v (.list (l.map fun f => (t f).D))] S = .ok (.v r) ⟨[], S⟩ := h27
  rw [hF]
  simp [runFn, exs, ex, ev, evAnd, evOr, evs, evO, evL, evIf, evI, asg, asgs, asT, asTs, setL, R.b, R.t, R.ne, RT.s, ofO, peek, peekT, peeks, isiD, tyOf, tyLe, truW, truD, wipe, args, binD, cmpD, eqD, inD, bltD, dmD, strsOf, asStr, intsOf, boolsOf, asInt, asBool, mk, allV, outW, itemsD, itemsW, itemsL, itemsT, ixW, atI, ixN, slW, cut, sIx, freeze, mthW, mtyW, setIxW, enmD, zipD, zipP, rgI, small, szL, isNW, maxI, minI, cl, isIns, noFld, fldW, putA, setFld, Mk.pre, Mk.post, h29, hc, h27]
theorem ti_act {C : Orc} {S : List OS} (s : Str) (h29 : C 43 [.v (.str s)] S = .ok (.v .none) ⟨[], S⟩) (h22 : C 34 [.v (.str s)] S = .ok (.v (.str s)) ⟨[], S⟩) : runFn C Ftidy [.v (.str s)] S = .ok (.v (.str s)) ⟨[], S⟩ := by
  simp [runFn, exs, ex, ev, evAnd, evOr, evs, evO, evL, evIf, evI, asg, asgs, asT, asTs, setL, R.b, R.t, R.ne, RT.s, ofO, peek, peekT, peeks, isiD, tyOf, tyLe, truW, truD, turns, turnsL, wipe, args, binD, cmpD, eqD, inD, bltD, dmD, strsOf, asStr, intsOf, boolsOf, asInt, asBool, mk, allV, outW, itemsD, itemsW, itemsL, itemsT, ixW, atI, ixN, slW, cut, sIx, freeze, mthW, mtyW, setIxW, forR, enmD, zipD, zipP, rgI, small, szL, isNW, maxI, minI, cl, isIns, noFld, fldW, putA, setFld, Mk.pre, Mk.post, Ftidy, h29, h22]
theorem tids_l : ∀ ps : Fms, tids ps = ps.l.map tid
  | .nil => rfl
  | .cons p r => congrArg (tid p :: ·) (tids_l r)
mutual
theorem c20 : ∀ (f : Fm) (k : Nat) (S : List OS), f.dep + 3 ≤ k → f.row.length ≤ 999 → callP fs k 31 [.v f.D] S = .ok (.v (tid f).D) ⟨[], S⟩
  | .act s, k, S, hk, _ => by
    have hk : 0 + 3 ≤ k := hk
    obtain ⟨k, rfl⟩ : ∃ j, k = j + 2 := ⟨k - 2, by omega⟩
    exact ti_act (C := callP fs (k + 1)) s (c29a k s S) (tup_str (C := callP fs k))
  | .node w p ps, k, S, hk, hw => by
    have hk : max p.dep ps.deps + 1 + 3 ≤ k := hk
    have hw0 := hw
    have hw : (p.row ++ ps.rows).length ≤ 999 := hw
    obtain ⟨k, rfl⟩ : ∃ j, k = j + 3 := ⟨k - 3, by omega⟩
    have hr : (tid p :: tids ps).flatMap Fm.row = p.row ++ ps.rows := by rw [List.flatMap_cons, tid_row p, tids_row ps]
    refine ti_ev (C := callP fs (k + 2)) w _ (p :: ps.l) tid _ ?_ (c29n (k + 1) w p ps S) (c28 (.node w p ps) k S (show max p.dep ps.deps + 1 ≤ k by omega) hw0) (fun f hf => ?_) ?_
    · have h1 := (wids_rows ps).2
      have h2 : ps.l.length = ps.len := by rw [← Ds_len, Ds_l, List.length_map]
      rw [List.length_append] at hw
      rw [List.length_cons]
      omega
    · rw [List.length_append] at hw
      rcases List.mem_cons.mp hf with e | hf
      · rw [e]
        exact c20 p (k + 2) S (by omega) (by omega)
      · exact c20s ps (k + 2) S (by omega) (by omega) f hf
    · rw [List.map_cons, ← tids_l]
      refine c27 w (tid p :: tids ps) (k + 1) (max p.dep ps.deps) 0 S (by omega) (fun f hf => ?_) (by simp) (by rw [hr]; exact hw)
      rcases List.mem_cons.mp hf with e | hf
      · rw [e]
        have := tid_dep p
        omega
      · have := tids_dep ps f hf
        omega
theorem c20s : ∀ (ps : Fms) (k : Nat) (S : List OS), ps.deps + 3 ≤ k → ps.rows.length ≤ 999 → ∀ f ∈ ps.l, callP fs k 31 [.v f.D] S = .ok (.v (tid f).D) ⟨[], S⟩
  | .nil, k, S, _, _, d, hd => absurd hd List.not_mem_nil
  | .cons p r, k, S, hk, hw, d, hd => by
    have hk : max p.dep r.deps + 3 ≤ k := hk
    have hw : (p.row ++ r.rows).length ≤ 999 := hw
    rw [List.length_append] at hw
    rcases List.mem_cons.mp hd with e | hd
    · rw [e]
      exact c20 p k S (by omega) (by omega)
    · exact c20s r k S (by omega) (by omega) d hd
end
end L
set_option maxHeartbeats 8000000
/-! Q3: what is done of a body, and its end. -/
namespace L
open PySem Z
abbrev Rs := List (Str × Bool) × Option Str
def dn (p : Str × Bool) : PyData := .tuple [.str p.1, .bool p.2]
def enD : Option Str → PyData
  | none => .none
  | some s => .str s
def rsD (r : Rs) : PyData := .tuple [.tuple (r.1.map dn), enD r.2]
def stp (w : Wo) (e : Option Str) : Bool := match w, e with
  | .o, none => true
  | .a, some _ => true
  | _, _ => false
def nxe (w : Wo) (e l : Option Str) : Option Str := match w, l with
  | .t, none => e
  | _, l => l
def gtl (w : Wo) : List Rs → Rs → Rs
  | [], acc => acc
  | r :: q, acc => if stp w r.2 = true then (acc.1 ++ r.1, nxe w acc.2 r.2) else gtl w q (acc.1 ++ r.1, nxe w acc.2 r.2)
mutual
def gt (F : List Str) : Fm → Rs
  | .act s => ([(s, !F.contains s)], if F.contains s = true then some s else none)
  | .node w p ps => gtl w (gt F p :: gts F ps) ([], none)
def gts (F : List Str) : Fms → List Rs
  | .nil => []
  | .cons p r => gt F p :: gts F r
end
def gB : TS := .cons (.asg (.tp (.cons (.nm 5) (.cons (.nm 6) .nil))) (.call 46 (.cons (.var 4) (.cons (.var 1) .nil)))) (.cons (.asg (.nm 2) (.bin .add (.var 2) (.var 5))) (.cons (.asg (.nm 3) (.ite (.and (.cons (.isN (.var 6)) (.cons (.cmp .eq (.ix (.var 0) (.cst (.int 0))) (.cst (.str "then"))) .nil))) (.var 3) (.var 6))) (.cons (.ife (.or (.cons (.and (.cons (.isN (.var 6)) (.cons (.cmp .eq (.ix (.var 0) (.cst (.int 0))) (.cst (.str "or"))) .nil))) (.cons (.and (.cons (.notN (.var 6)) (.cons (.cmp .eq (.ix (.var 0) (.cst (.int 0))) (.cst (.str "and"))) .nil))) .nil))) (.cons (.ret (.tup (.cons (.var 2) (.cons (.var 3) .nil)))) .nil) .nil) .nil)))
def gR : TS := .cons (.ret (.tup (.cons (.var 2) (.cons (.var 3) .nil)))) .nil
theorem gt_step {C : Orc} {S : List OS} (w : Wo) (ds : List PyData) (fl f : PyData) (acc r : Rs) (y z : Option W) (h31 : C 46 [.v f, .v fl] S = .ok (.v (rsD r)) ⟨[], S⟩) (hl : acc.1.length + r.1.length ≤ 16777216) :
    exs C gB [some (.v (.tuple (.str w.s :: ds))), some (.v fl), some (.v (.tuple (acc.1.map dn))), some (.v (enD acc.2)), some (.v f), y, z] ⟨[], S⟩ =
      if stp w r.2 = true then .rt (.v (rsD (acc.1 ++ r.1, nxe w acc.2 r.2))) ⟨[], S⟩ else
        .nx [some (.v (.tuple (.str w.s :: ds))), some (.v fl), some (.v (.tuple ((acc.1 ++ r.1).map dn))), some (.v (enD (nxe w acc.2 r.2))), some (.v f), some (.v (.tuple (r.1.map dn))), some (.v (enD r.2))] ⟨[], S⟩ := by
  obtain ⟨more, last⟩ := r
  obtain ⟨done, en⟩ := acc
  have ha := top_eq .a w
  have ho := top_eq .o w
  have ht := top_eq .t w
  have hl : done.length + more.length ≤ 16777216 := hl
  have z1 : (0 : Int) < (ds.length : Int) + 1 := by omega
  rw [show Wo.s .a = "and" from rfl] at ha
  rw [show Wo.s .o = "or" from rfl] at ho
  rw [show Wo.s .t = "then" from rfl] at ht
  cases last with
  | none =>
    cases w <;> simp [gB, runFn, exs, ex, ev, evAnd, evOr, evs, evO, evL, evIf, evI, asg, asgs, asT, asTs, setL, R.b, R.t, R.ne, RT.s, ofO, peek, peekT, peeks, isiD, tyOf, tyLe, truW, truD, wipe, args, binD, bltD, dmD, strsOf, asStr, intsOf, boolsOf, asInt, asBool, mk, allV, outW, itemsD, itemsW, itemsL, itemsT, ixW, atI, ixN, slW, cut, sIx, freeze, mthW, mtyW, setIxW, enmD, zipD, zipP, rgI, small, szL, isNW, maxI, minI, cl, isIns, noFld, fldW, putA, setFld, Mk.pre, Mk.post, h31, rsD, enD, hl, ha, ho, ht, stp, nxe, z1]
  | some s =>
    cases w <;> simp [gB, runFn, exs, ex, ev, evAnd, evOr, evs, evO, evL, evIf, evI, asg, asgs, asT, asTs, setL, R.b, R.t, R.ne, RT.s, ofO, peek, peekT, peeks, isiD, tyOf, tyLe, truW, truD, wipe, args, binD, bltD, dmD, strsOf, asStr, intsOf, boolsOf, asInt, asBool, mk, allV, outW, itemsD, itemsW, itemsL, itemsT, ixW, atI, ixN, slW, cut, sIx, freeze, mthW, mtyW, setIxW, enmD, zipD, zipP, rgI, small, szL, isNW, maxI, minI, cl, isIns, noFld, fldW, putA, setFld, Mk.pre, Mk.post, h31, rsD, enD, hl, ha, ho, ht, stp, nxe, z1]
def gF (C : Orc) : PyData → Z.Env → Mem → RT := fun d ρ m => match asg (.nm 4) (.v d) ρ with | some ρ => exs C gB ρ m | none => .bad
theorem gt_loop {C : Orc} {S : List OS} (w : Wo) (ds : List PyData) (fl : PyData) (g : Fm → Rs) : ∀ (fs : List Fm) (acc : Rs) (x y z : Option W), (∀ f ∈ fs, C 46 [.v f.D, .v fl] S = .ok (.v (rsD (g f))) ⟨[], S⟩) → acc.1.length + ((fs.map fun f => (g f).1.length)).sum ≤ 16777216 →
    (forR (gF C) (fs.map Fm.D) [some (.v (.tuple (.str w.s :: ds))), some (.v fl), some (.v (.tuple (acc.1.map dn))), some (.v (enD acc.2)), x, y, z] ⟨[], S⟩).s (fun ρ m => exs C gR ρ m) = .rt (.v (rsD (gtl w (fs.map g) acc))) ⟨[], S⟩
  | [], acc, x, y, z, _, _ => by
    simp [forR, RT.s, gR, runFn, exs, ex, ev, evAnd, evOr, evs, evO, evL, evIf, evI, asg, asgs, asT, asTs, setL, R.b, R.t, R.ne, RT.s, ofO, peek, peekT, peeks, isiD, tyOf, tyLe, truW, truD, wipe, args, binD, bltD, dmD, strsOf, asStr, intsOf, boolsOf, asInt, asBool, mk, allV, outW, itemsD, itemsW, itemsL, itemsT, ixW, atI, ixN, slW, cut, sIx, freeze, mthW, mtyW, setIxW, enmD, zipD, zipP, rgI, small, szL, isNW, maxI, minI, cl, isIns, noFld, fldW, putA, setFld, Mk.pre, Mk.post, gtl, rsD]
  | f :: r, acc, x, y, z, h, hl => by
    rw [List.map_cons, List.sum_cons] at hl
    have e := gt_step w ds fl f.D acc (g f) y z (h f (by simp)) (by omega)
    have ea : gF C f.D [some (.v (.tuple (.str w.s :: ds))), some (.v fl), some (.v (.tuple (acc.1.map dn))), some (.v (enD acc.2)), x, y, z] ⟨[], S⟩ = exs C gB [some (.v (.tuple (.str w.s :: ds))), some (.v fl), some (.v (.tuple (acc.1.map dn))), some (.v (enD acc.2)), some (.v f.D), y, z] ⟨[], S⟩ := by simp [gF, asg]
    rw [List.map_cons, forR, ea, e, List.map_cons, gtl]
    by_cases hs : stp w (g f).2 = true
    · rw [if_pos hs, if_pos hs]
      rfl
    · rw [if_neg hs, if_neg hs]
      exact gt_loop w ds fl g r (acc.1 ++ (g f).1, nxe w acc.2 (g f).2) _ _ _ (fun f' hf => h f' (by simp [hf])) (by dsimp only; rw [List.length_append]; omega)
theorem gtl_len (w : Wo) : ∀ (l : List Rs) (acc : Rs), (gtl w l acc).1.length ≤ acc.1.length + (l.map fun r => r.1.length).sum
  | [], acc => by simp [gtl]
  | r :: q, acc => by
    rw [gtl, List.map_cons, List.sum_cons]
    split
    · simp
    · have := gtl_len w q (acc.1 ++ r.1, nxe w acc.2 r.2)
      simp only [List.length_append] at this
      omega
mutual
theorem gt_len (F : List Str) : ∀ f : Fm, (gt F f).1.length ≤ f.row.length
  | .act s => by simp [gt, Fm.row]
  | .node w p ps => by
    have h1 := gtl_len w (gt F p :: gts F ps) ([], none)
    have h2 := gt_len F p
    have h3 := gts_len F ps
    show (gtl w (gt F p :: gts F ps) ([], none)).1.length ≤ (p.row ++ ps.rows).length
    rw [List.map_cons, List.sum_cons, List.length_nil] at h1
    rw [List.length_append]
    omega
theorem gts_len (F : List Str) : ∀ ps : Fms, ((gts F ps).map fun r => r.1.length).sum ≤ ps.rows.length
  | .nil => Nat.le_refl _
  | .cons p r => by
    have h2 := gt_len F p
    have h3 := gts_len F r
    show ((gt F p :: gts F r).map fun r => r.1.length).sum ≤ (p.row ++ r.rows).length
    rw [List.map_cons, List.sum_cons, List.length_append]
    omega
end
theorem gts_l (F : List Str) : ∀ ps : Fms, gts F ps = ps.l.map (gt F)
  | .nil => rfl
  | .cons p r => congrArg (gt F p :: ·) (gts_l F r)
def fD (F : List Str) : PyData := .tuple (F.map .str)
theorem strs_of (F : List Str) : strsOf (F.map .str) = some F := by
  induction F with
  | nil => rfl
  | cons x r ih => simp [strsOf, asStr, ih]
theorem in_fD (F : List Str) (s : Str) : cmpD .isin (.str s) (fD F) = some (F.contains s) := by
  show (strsOf (F.map .str)).map _ = _
  rw [strs_of]
  rfl
theorem nin_fD (F : List Str) (s : Str) : cmpD .notin (.str s) (fD F) = some (!F.contains s) := by
  show ((strsOf (F.map .str)).map _).map _ = _
  rw [strs_of]
  rfl
theorem gt_act {C : Orc} {S : List OS} (F : List Str) (s : Str) : runFn C Fgone_through [.v (.str s), .v (fD F)] S = .ok (.v (rsD (gt F (.act s)))) ⟨[], S⟩ := by
  have h1 := in_fD F s
  have h2 := nin_fD F s
  cases h : F.contains s
  · rw [h] at h1 h2
    have h' : s ∉ F := by simpa using h
    simp [Fgone_through, runFn, exs, ex, ev, evAnd, evOr, evs, evO, evL, evIf, evI, asg, asgs, asT, asTs, setL, R.b, R.t, R.ne, RT.s, ofO, peek, peekT, peeks, isiD, tyOf, tyLe, truW, truD, wipe, args, binD, bltD, dmD, strsOf, asStr, intsOf, boolsOf, asInt, asBool, mk, allV, outW, itemsD, itemsW, itemsL, itemsT, ixW, atI, ixN, slW, cut, sIx, freeze, mthW, mtyW, setIxW, enmD, zipD, zipP, rgI, small, szL, isNW, maxI, minI, cl, isIns, noFld, fldW, putA, setFld, Mk.pre, Mk.post, h1, h2, gt, h', rsD, dn, enD]
  · rw [h] at h1 h2
    have h' : s ∈ F := by simpa using h
    simp [Fgone_through, runFn, exs, ex, ev, evAnd, evOr, evs, evO, evL, evIf, evI, asg, asgs, asT, asTs, setL, R.b, R.t, R.ne, RT.s, ofO, peek, peekT, peeks, isiD, tyOf, tyLe, truW, truD, wipe, args, binD, bltD, dmD, strsOf, asStr, intsOf, boolsOf, asInt, asBool, mk, allV, outW, itemsD, itemsW, itemsL, itemsT, ixW, atI, ixN, slW, cut, sIx, freeze, mthW, mtyW, setIxW, enmD, zipD, zipP, rgI, small, szL, isNW, maxI, minI, cl, isIns, noFld, fldW, putA, setFld, Mk.pre, Mk.post, h1, h2, gt, h', rsD, dn, enD]
theorem gt_node {C : Orc} {S : List OS} (w : Wo) (fs : List Fm) (fl : PyData) (g : Fm → Rs) (h : ∀ f ∈ fs, C 46 [.v f.D, .v fl] S = .ok (.v (rsD (g f))) ⟨[], S⟩) (hl : ((fs.map fun f => (g f).1.length)).sum ≤ 16777216) :
    runFn C Fgone_through [.v (.tuple (.str w.s :: fs.map Fm.D)), .v fl] S = .ok (.v (rsD (gtl w (fs.map g) ([], none)))) ⟨[], S⟩ := by
  have e := gt_loop w (fs.map Fm.D) fl g fs ([], none) none none none h (by rw [List.length_nil]; omega)
  refine run_of (m := ⟨[], S⟩) (ρ := [some (.v (.tuple (.str w.s :: fs.map Fm.D))), some (.v fl), none, none, none, none, none]) rfl rfl ?_
  have hF : Fgone_through.body = (.cons (.ife (.isi [.str] (.var 0)) (.cons (.ret (.tup (.cons (.tup (.cons (.tup (.cons (.var 0) (.cons (.cmp .notin (.var 0) (.var 1)) .nil))) .nil)) (.cons (.ite (.cmp .isin (.var 0) (.var 1)) (.var 0) (.cst .none)) .nil)))) .nil) .nil) (.cons (.asg (.tp (.cons (.nm 2) (.cons (.nm 3) .nil))) (.tup (.cons (.tup .nil) (.cons (.cst .none) .nil)))) (.cons (.forT (.nm 4) (.seq (.sl (.var 0) (.some (.cst (.int 1))) .none)) gB) gR))) := rfl
  rw [hF]
  rw [exs_nx (ρ' := [some (.v (.tuple (.str w.s :: fs.map Fm.D))), some (.v fl), none, none, none, none, none]) (m' := ⟨[], S⟩) (by simp [runFn, exs, ex, ev, evAnd, evOr, evs, evO, evL, evIf, evI, asg, asgs, asT, asTs, setL, R.b, R.t, R.ne, RT.s, ofO, peek, peekT, peeks, isiD, tyOf, tyLe, truW, truD, wipe, args, binD, bltD, dmD, strsOf, asStr, intsOf, boolsOf, asInt, asBool, mk, allV, outW, itemsD, itemsW, itemsL, itemsT, ixW, atI, ixN, slW, cut, sIx, freeze, mthW, mtyW, setIxW, enmD, zipD, zipP, rgI, small, szL, isNW, maxI, minI, cl, isIns, noFld, fldW, putA, setFld, Mk.pre, Mk.post])]
  rw [exs_nx (ρ' := [some (.v (.tuple (.str w.s :: fs.map Fm.D))), some (.v fl), some (.v (.tuple [])), some (.v .none), none, none, none]) (m' := ⟨[], S⟩) (by simp [runFn, exs, ex, ev, evAnd, evOr, evs, evO, evL, evIf, evI, asg, asgs, asT, asTs, setL, R.b, R.t, R.ne, RT.s, ofO, peek, peekT, peeks, isiD, tyOf, tyLe, truW, truD, wipe, args, binD, bltD, dmD, strsOf, asStr, intsOf, boolsOf, asInt, asBool, mk, allV, outW, itemsD, itemsW, itemsL, itemsT, ixW, atI, ixN, slW, cut, sIx, freeze, mthW, mtyW, setIxW, enmD, zipD, zipP, rgI, small, szL, isNW, maxI, minI, cl, isIns, noFld, fldW, putA, setFld, Mk.pre, Mk.post])]
  rw [exs, ex_for (ds := fs.map Fm.D) (seq_tl (.str w.s) (fs.map Fm.D) rfl)]
  exact e
mutual
theorem c31 (F : List Str) : ∀ (f : Fm) (k : Nat) (S : List OS), f.dep + 1 ≤ k → f.row.length ≤ 999 → callP fs k 46 [.v f.D, .v (fD F)] S = .ok (.v (rsD (gt F f))) ⟨[], S⟩
  | .act s, k, S, hk, _ => by
    have hk : 0 + 1 ≤ k := hk
    obtain ⟨k, rfl⟩ : ∃ j, k = j + 1 := ⟨k - 1, by omega⟩
    exact gt_act (C := callP fs k) F s
  | .node w p ps, k, S, hk, hw => by
    have hk : max p.dep ps.deps + 1 + 1 ≤ k := hk
    have hw : (p.row ++ ps.rows).length ≤ 999 := hw
    obtain ⟨k, rfl⟩ : ∃ j, k = j + 1 := ⟨k - 1, by omega⟩
    rw [List.length_append] at hw
    have h1 := gt_len F p
    have h2 := gts_len F ps
    rw [gts_l, List.map_map] at h2
    have e := gt_node (C := callP fs k) (S := S) w (p :: ps.l) (fD F) (gt F) (fun f hf => ?_) (by rw [List.map_cons, List.sum_cons]; simp only [Function.comp_def] at h2; omega)
    · rw [List.map_cons, List.map_cons, ← Ds_l, ← gts_l] at e
      exact e
    · rcases List.mem_cons.mp hf with e | hf
      · rw [e]
        exact c31 F p k S (by omega) (by omega)
      · exact c31s F ps k S (by omega) (by omega) f hf
theorem c31s (F : List Str) : ∀ (ps : Fms) (k : Nat) (S : List OS), ps.deps + 1 ≤ k → ps.rows.length ≤ 999 → ∀ f ∈ ps.l, callP fs k 46 [.v f.D, .v (fD F)] S = .ok (.v (rsD (gt F f))) ⟨[], S⟩
  | .nil, k, S, _, _, d, hd => absurd hd List.not_mem_nil
  | .cons p r, k, S, hk, hw, d, hd => by
    have hk : max p.dep r.deps + 1 ≤ k := hk
    have hw : (p.row ++ r.rows).length ≤ 999 := hw
    rw [List.length_append] at hw
    rcases List.mem_cons.mp hd with e | hd
    · rw [e]
      exact c31 F p k S (by omega) (by omega)
    · exact c31s F r k S (by omega) (by omega) d hd
end
/-! bodies may be compared -/
mutual
theorem D_nod : ∀ f : Fm, nod f.D = true
  | .act s => rfl
  | .node w p ps => by
    show (nod (.str w.s) && (nod p.D && nods ps.Ds)) = true
    rw [D_nod p, Ds_nod ps]
    rfl
theorem Ds_nod : ∀ ps : Fms, nods ps.Ds = true
  | .nil => rfl
  | .cons p r => by
    show (nod p.D && nods r.Ds) = true
    rw [D_nod p, Ds_nod r]
    rfl
end
theorem w_lay (w : Wo) : PyData.canLay0 (.str w.s) = true := by cases w <;> decide +kernel
mutual
theorem D_lay : ∀ f : Fm, (∀ s ∈ f.row, PyData.canLay0 (.str s) = true) → PyData.canLay0 f.D = true
  | .act s, h => h s (by simp [Fm.row])
  | .node w p ps, h => by
    show (PyData.canLay0 (.str w.s) && (PyData.canLay0 p.D && PyData.canLayAll0 ps.Ds)) = true
    have h : ∀ s ∈ p.row ++ ps.rows, PyData.canLay0 (.str s) = true := h
    rw [w_lay, D_lay p (fun s hs => h s (List.mem_append_left _ hs)), Ds_lay ps (fun s hs => h s (List.mem_append_right _ hs))]
    rfl
theorem Ds_lay : ∀ ps : Fms, (∀ s ∈ ps.rows, PyData.canLay0 (.str s) = true) → PyData.canLayAll0 ps.Ds = true
  | .nil, h => rfl
  | .cons p r, h => by
    show (PyData.canLay0 p.D && PyData.canLayAll0 r.Ds) = true
    have h : ∀ s ∈ p.row ++ r.rows, PyData.canLay0 (.str s) = true := h
    rw [D_lay p (fun s hs => h s (List.mem_append_left _ hs)), Ds_lay r (fun s hs => h s (List.mem_append_right _ hs))]
    rfl
end
mutual
theorem D_depth : ∀ f : Fm, f.D.depth = f.dep
  | .act s => rfl
  | .node w p ps => by
    show max (PyData.depth (.str w.s)) (max p.D.depth (PyData.depthAll ps.Ds)) + 1 = max p.dep ps.deps + 1
    rw [D_depth p, Ds_depth ps]
    have : PyData.depth (.str w.s) = 0 := rfl
    omega
theorem Ds_depth : ∀ ps : Fms, PyData.depthAll ps.Ds = ps.deps
  | .nil => rfl
  | .cons p r => by
    show max p.D.depth (PyData.depthAll r.Ds) = max p.dep r.deps
    rw [D_depth p, Ds_depth r]
end
theorem D_shp (f : Fm) (hd : f.dep ≤ 64) (h : ∀ s ∈ f.row, PyData.canLay0 (.str s) = true) : shp f.D = true := by
  unfold shp SeqAt.shaped
  rw [D_nod, D_lay f h, D_depth]
  simp [hd]
theorem D_not (f : Fm) (hd : f.dep ≤ 64) (h : ∀ s ∈ f.row, PyData.canLay0 (.str s) = true) : cmpD .eq f.D (.tuple []) = some false := by
  have h1 := D_shp f hd h
  have h2 : shp (.tuple []) = true := by decide +kernel
  cases f with
  | act s =>
    show eqD (.str s) (.tuple []) = _
    have h1 : shp (.str s) = true := h1
    simp [eqD, h1, h2, PyData.eqv]
  | node w p ps =>
    show eqD (.tuple (.str w.s :: p.D :: ps.Ds)) (.tuple []) = _
    have h1 : shp (.tuple (.str w.s :: p.D :: ps.Ds)) = true := h1
    simp [eqD, h1, h2, PyData.eqv, PyData.eqvAll]
/-! whole, run, end -/
theorem c25 (F : List Str) (f : Fm) (k : Nat) (S : List OS) (hk : f.dep + 2 ≤ k) (hw : f.row.length ≤ 999) (hd : f.dep ≤ 64) (hs : ∀ s ∈ f.row, PyData.canLay0 (.str s) = true) : callP fs k 38 [.v f.D, .v (fD F)] S = .ok (.v (rsD (gt F f))) ⟨[], S⟩ := by
  obtain ⟨k, rfl⟩ : ∃ j, k = j + 1 := ⟨k - 1, by omega⟩
  have e1 := c22 f k S (by omega) (by have := (wid_row f).1; omega)
  have e2 := c31 F f k S (by omega) hw
  show runFn (callP fs k) Fwhole _ S = _
  have t := D_not f hd hs
  simp [Fwhole, runFn, exs, ex, ev, evAnd, evOr, evs, evO, evL, evIf, evI, asg, asgs, asT, asTs, setL, R.b, R.t, R.ne, RT.s, ofO, peek, peekT, peeks, isiD, tyOf, tyLe, truW, truD, wipe, args, binD, bltD, dmD, strsOf, asStr, intsOf, boolsOf, asInt, asBool, mk, allV, outW, itemsD, itemsW, itemsL, itemsT, ixW, atI, ixN, slW, cut, sIx, freeze, mthW, mtyW, setIxW, enmD, zipD, zipP, rgI, small, szL, isNW, maxI, minI, cl, isIns, noFld, fldW, putA, setFld, Mk.pre, Mk.post, e1, e2, t]
theorem c17 (F : List Str) (f : Fm) (k : Nat) (S : List OS) (hk : f.dep + 3 ≤ k) (hw : f.row.length ≤ 999) (hd : f.dep ≤ 64) (hs : ∀ s ∈ f.row, PyData.canLay0 (.str s) = true) : callP fs k 28 [.v f.D, .v (fD F)] S = .ok (.v (.tuple ((gt F f).1.map dn))) ⟨[], S⟩ := by
  obtain ⟨k, rfl⟩ : ∃ j, k = j + 1 := ⟨k - 1, by omega⟩
  have e := c25 F f k S (by omega) hw hd hs
  show runFn (callP fs k) Frun_runs _ S = _
  simp [Frun_runs, runFn, exs, ex, ev, evAnd, evOr, evs, evO, evL, evIf, evI, asg, asgs, asT, asTs, setL, R.b, R.t, R.ne, RT.s, ofO, peek, peekT, peeks, isiD, tyOf, tyLe, truW, truD, wipe, args, binD, bltD, dmD, strsOf, asStr, intsOf, boolsOf, asInt, asBool, mk, allV, outW, itemsD, itemsW, itemsL, itemsT, ixW, atI, ixN, slW, cut, sIx, freeze, mthW, mtyW, setIxW, enmD, zipD, zipP, rgI, small, szL, isNW, maxI, minI, cl, isIns, noFld, fldW, putA, setFld, Mk.pre, Mk.post, e, rsD]
theorem c15 (F : List Str) (f : Fm) (k : Nat) (S : List OS) (hk : f.dep + 3 ≤ k) (hw : f.row.length ≤ 999) (hd : f.dep ≤ 64) (hs : ∀ s ∈ f.row, PyData.canLay0 (.str s) = true) : callP fs k 26 [.v f.D, .v (fD F)] S = .ok (.v (enD (gt F f).2)) ⟨[], S⟩ := by
  obtain ⟨k, rfl⟩ : ∃ j, k = j + 1 := ⟨k - 1, by omega⟩
  have e := c25 F f k S (by omega) hw hd hs
  show runFn (callP fs k) Fend_of _ S = _
  simp [Fend_of, runFn, exs, ex, ev, evAnd, evOr, evs, evO, evL, evIf, evI, asg, asgs, asT, asTs, setL, R.b, R.t, R.ne, RT.s, ofO, peek, peekT, peeks, isiD, tyOf, tyLe, truW, truD, wipe, args, binD, bltD, dmD, strsOf, asStr, intsOf, boolsOf, asInt, asBool, mk, allV, outW, itemsD, itemsW, itemsL, itemsT, ixW, atI, ixN, slW, cut, sIx, freeze, mthW, mtyW, setIxW, enmD, zipD, zipP, rgI, small, szL, isNW, maxI, minI, cl, isIns, noFld, fldW, putA, setFld, Mk.pre, Mk.post, e, rsD]
end L
set_option maxHeartbeats 8000000
/-! Q4: a Board in memory. -/
namespace L
open PySem Z
abbrev Dd := List (PyData × PyData)
def fl_ (A F : List Str) (bod tdy : Dd) (p : Nat) : List (Str × W) := [("own_acts", .v (fD A)), ("own_fails", .v (fD F)), ("own_bodies", .v (.dict bod)), ("own_frames", .v (.dict [])), ("own_tidied", .v (.dict tdy)), ("own_edges", .v (.dict [])), ("own_past", .ref p)]
def bdO (A F : List Str) (bod tdy : Dd) (p : Nat) : OS := .ins "Board" (fl_ A F bod tdy p)
section
variable (A F : List Str) (bod tdy : Dd) (p : Nat)
theorem l_acts : (fl_ A F bod tdy p).lookup ("own_acts" : Str) = some (.v (fD A)) := by kernel_rfl
theorem l_fails : (fl_ A F bod tdy p).lookup ("own_fails" : Str) = some (.v (fD F)) := by kernel_rfl
theorem l_bodies : (fl_ A F bod tdy p).lookup ("own_bodies" : Str) = some (.v (.dict bod)) := by kernel_rfl
theorem l_frames : (fl_ A F bod tdy p).lookup ("own_frames" : Str) = some (.v (.dict [])) := by kernel_rfl
theorem l_tidied : (fl_ A F bod tdy p).lookup ("own_tidied" : Str) = some (.v (.dict tdy)) := by kernel_rfl
theorem l_edges : (fl_ A F bod tdy p).lookup ("own_edges" : Str) = some (.v (.dict [])) := by kernel_rfl
theorem l_past : (fl_ A F bod tdy p).lookup ("own_past" : Str) = some (.ref p) := by kernel_rfl
theorem n_check : (fl_ A F bod tdy p).lookup ("check" : Str) = none := by kernel_rfl
theorem n_check_act : (fl_ A F bod tdy p).lookup ("check_act" : Str) = none := by kernel_rfl
theorem n_check_acts : (fl_ A F bod tdy p).lookup ("check_acts" : Str) = none := by kernel_rfl
theorem n_keep : (fl_ A F bod tdy p).lookup ("keep" : Str) = none := by kernel_rfl
theorem n_state : (fl_ A F bod tdy p).lookup ("state" : Str) = none := by kernel_rfl
theorem n_run : (fl_ A F bod tdy p).lookup ("run" : Str) = none := by kernel_rfl
theorem n_end : (fl_ A F bod tdy p).lookup ("end" : Str) = none := by kernel_rfl
theorem n_fail : (fl_ A F bod tdy p).lookup ("fail" : Str) = none := by kernel_rfl
theorem p_fails (G : List Str) : putA "own_fails" (.v (fD G)) (fl_ A F bod tdy p) = fl_ A G bod tdy p := by kernel_rfl
theorem p_bodies (d : Dd) : putA "own_bodies" (.v (.dict d)) (fl_ A F bod tdy p) = fl_ A F d tdy p := by kernel_rfl
theorem p_tidied (d : Dd) : putA "own_tidied" (.v (.dict d)) (fl_ A F bod tdy p) = fl_ A F bod d p := by kernel_rfl
theorem fl_len : (fl_ A F bod tdy p).length = 7 := rfl
end
theorem g0 {S0 T : List OS} {x : OS} : (S0 ++ x :: T)[S0.length]? = some x := by simp
theorem g1 {S0 T : List OS} {x y : OS} : (S0 ++ x :: y :: T)[S0.length + 1]? = some y := by
  rw [List.getElem?_append_right (by omega)]
  simp
theorem s0 {S0 T : List OS} {x z : OS} : (S0 ++ x :: T).set S0.length z = S0 ++ z :: T := by
  rw [List.set_append_right _ _ (Nat.le_refl _)]
  simp
theorem s1 {S0 T : List OS} {x y z : OS} : (S0 ++ x :: y :: T).set (S0.length + 1) z = S0 ++ x :: z :: T := by
  rw [List.set_append_right _ _ (by omega)]
  simp
section
variable {C : Orc} {S : List OS} {A F : List Str} {bod tdy : Dd} {p b : Nat}
theorem isI {L : List OL} {fs : List (Str × W)} (h : S[b]? = some (.ins "Board" fs)) : isIns ⟨L, S⟩ (.ref b) "Board" = true := by
  unfold isIns
  simp [h]
theorem fdI {L : List OL} {fs : List (Str × W)} (h : S[b]? = some (.ins "Board" fs)) (f : Str) : fldW ⟨L, S⟩ (.ref b) f = fs.lookup f := by
  unfold fldW
  simp [h]
theorem noI {L : List OL} {fs : List (Str × W)} (h : S[b]? = some (.ins "Board" fs)) (f : Str) : noFld ⟨L, S⟩ (.ref b) f = (fs.lookup f).isNone := by
  unfold noFld
  simp [h]
theorem stI {L : List OL} {fs : List (Str × W)} (h : S[b]? = some (.ins "Board" fs)) (f : Str) {d : PyData} (hl : fs.length < 1000) : setFld ⟨L, S⟩ (.ref b) f (.v d) = some ⟨L, S.set b (.ins "Board" (putA f (.v d) fs))⟩ := by
  unfold setFld
  simp [h, hl, args]
theorem m16 (h : S[b]? = some (bdO A F bod tdy p)) {n : Str} (hn : cmpD .notin (.str n) (.dict bod) = some false) : runFn C FBoard_check [.ref b, .v (.str n)] S = .ok (.v .none) ⟨[], S⟩ := by
  unfold bdO at h
  simp [FBoard_check, runFn, exs, ex, ev, evAnd, evOr, evs, evO, evL, evIf, evI, asg, asgs, asT, asTs, setL, R.b, R.t, R.ne, RT.s, ofO, peek, peekT, peeks, isiD, tyOf, tyLe, truW, truD, wipe, args, binD, bltD, dmD, strsOf, asStr, intsOf, boolsOf, asInt, asBool, mk, allV, outW, itemsD, itemsW, itemsL, itemsT, ixW, atI, ixN, slW, cut, sIx, freeze, mthW, mtyW, setIxW, enmD, zipD, zipP, rgI, small, szL, isNW, maxI, minI, cl, Mk.pre, Mk.post, isI h, fdI h, noI h, l_bodies, hn]
theorem m19 (h : S[b]? = some (bdO A F bod tdy p)) {n : Str} (hn : A.contains n = true) : runFn C FBoard_check_act [.ref b, .v (.str n)] S = .ok (.v .none) ⟨[], S⟩ := by
  unfold bdO at h
  have e := nin_fD A n
  rw [hn] at e
  simp [FBoard_check_act, runFn, exs, ex, ev, evAnd, evOr, evs, evO, evL, evIf, evI, asg, asgs, asT, asTs, setL, R.b, R.t, R.ne, RT.s, ofO, peek, peekT, peeks, isiD, tyOf, tyLe, truW, truD, wipe, args, binD, bltD, dmD, strsOf, asStr, intsOf, boolsOf, asInt, asBool, mk, allV, outW, itemsD, itemsW, itemsL, itemsT, ixW, atI, ixN, slW, cut, sIx, freeze, mthW, mtyW, setIxW, enmD, zipD, zipP, rgI, small, szL, isNW, maxI, minI, cl, Mk.pre, Mk.post, isI h, fdI h, noI h, l_acts, e]
theorem m7 (h : S[b]? = some (bdO A F bod tdy p)) : runFn C FBoard_fails [.ref b] S = .ok (.v (fD F)) ⟨[], S⟩ := by
  unfold bdO at h
  simp [FBoard_fails, runFn, exs, ex, ev, evAnd, evOr, evs, evO, evL, evIf, evI, asg, asgs, asT, asTs, setL, R.b, R.t, R.ne, RT.s, ofO, peek, peekT, peeks, isiD, tyOf, tyLe, truW, truD, wipe, args, binD, bltD, dmD, strsOf, asStr, intsOf, boolsOf, asInt, asBool, mk, allV, outW, itemsD, itemsW, itemsL, itemsT, ixW, atI, ixN, slW, cut, sIx, freeze, mthW, mtyW, setIxW, enmD, zipD, zipP, rgI, small, szL, isNW, maxI, minI, cl, Mk.pre, Mk.post, isI h, fdI h, noI h, l_fails]
def stD (F : List Str) (bod tdy : Dd) : PyData := .tuple [fD F, .dict bod, .dict [], .dict tdy, .dict []]
theorem m26 (h : S[b]? = some (bdO A F bod tdy p)) : runFn C FBoard_state [.ref b] S = .ok (.v (stD F bod tdy)) ⟨[], S⟩ := by
  unfold bdO at h
  simp [FBoard_state, runFn, exs, ex, ev, evAnd, evOr, evs, evO, evL, evIf, evI, asg, asgs, asT, asTs, setL, R.b, R.t, R.ne, RT.s, ofO, peek, peekT, peeks, isiD, tyOf, tyLe, truW, truD, wipe, args, binD, bltD, dmD, strsOf, asStr, intsOf, boolsOf, asInt, asBool, mk, allV, outW, itemsD, itemsW, itemsL, itemsT, ixW, atI, ixN, slW, cut, sIx, freeze, mthW, mtyW, setIxW, enmD, zipD, zipP, rgI, small, szL, isNW, maxI, minI, cl, Mk.pre, Mk.post, isI h, fdI h, noI h, l_fails, l_bodies, l_frames, l_tidied, l_edges, stD]
theorem m6 (h : S[b]? = some (bdO A F bod tdy p)) {n : Str} {d r : PyData} (h16 : C 27 [.ref b, .v (.str n)] S = .ok (.v .none) ⟨[], S⟩) (hd : dgetD n bod = some d) (h17 : C 28 [.v d, .v (fD F)] S = .ok (.v r) ⟨[], S⟩) :
    runFn C FBoard_run [.ref b, .v (.str n)] S = .ok (.v r) ⟨[], S⟩ := by
  unfold bdO at h
  simp [FBoard_run, runFn, exs, ex, ev, evAnd, evOr, evs, evO, evL, evIf, evI, asg, asgs, asT, asTs, setL, R.b, R.t, R.ne, RT.s, ofO, peek, peekT, peeks, isiD, tyOf, tyLe, truW, truD, wipe, args, binD, bltD, dmD, strsOf, asStr, intsOf, boolsOf, asInt, asBool, mk, allV, outW, itemsD, itemsW, itemsL, itemsT, ixW, atI, ixN, slW, cut, sIx, freeze, mthW, mtyW, setIxW, enmD, zipD, zipP, rgI, small, szL, isNW, maxI, minI, cl, Mk.pre, Mk.post, isI h, fdI h, noI h, l_fails, l_bodies, n_check, h16, hd, h17]
theorem m5 (h : S[b]? = some (bdO A F bod tdy p)) {n : Str} {d r : PyData} (h16 : C 27 [.ref b, .v (.str n)] S = .ok (.v .none) ⟨[], S⟩) (hd : dgetD n bod = some d) (h15 : C 26 [.v d, .v (fD F)] S = .ok (.v r) ⟨[], S⟩) :
    runFn C FBoard_end [.ref b, .v (.str n)] S = .ok (.v r) ⟨[], S⟩ := by
  unfold bdO at h
  simp [FBoard_end, runFn, exs, ex, ev, evAnd, evOr, evs, evO, evL, evIf, evI, asg, asgs, asT, asTs, setL, R.b, R.t, R.ne, RT.s, ofO, peek, peekT, peeks, isiD, tyOf, tyLe, truW, truD, wipe, args, binD, bltD, dmD, strsOf, asStr, intsOf, boolsOf, asInt, asBool, mk, allV, outW, itemsD, itemsW, itemsL, itemsT, ixW, atI, ixN, slW, cut, sIx, freeze, mthW, mtyW, setIxW, enmD, zipD, zipP, rgI, small, szL, isNW, maxI, minI, cl, Mk.pre, Mk.post, isI h, fdI h, noI h, l_fails, l_bodies, n_check, h16, hd, h15]
theorem m21 (h : S[b]? = some (bdO A F bod tdy p)) {d : PyData} {rw_ : List Str} (hN : isNW (.v d) = some false) (h30 : C 44 [.v d] S = .ok (.v (fD rw_)) ⟨[], S⟩) (hs : rw_.length < 64) (he : sortS rw_ = A) (hA : shp (fD A) = true) :
    runFn C FBoard_check_acts [.ref b, .v d] S = .ok (.v .none) ⟨[], S⟩ := by
  unfold bdO at h
  have h2 : bltD .sorted [fD rw_] = some (.list (A.map .str)) := by
    show (strsOf (rw_.map .str)).bind _ = _
    rw [strs_of]
    simp [hs, he]
  have h3 : bltD .tuple [.list (A.map .str)] = some (fD A) := rfl
  have h4 : cmpD .ne (fD A) (fD A) = some false := by
    have : PyData.eqv (fD A) (fD A) = true := SeqAt.eqv_refl _ (SeqAt.canLay_of_shaped (Bool.and_eq_true_iff.mp hA).2)
    show (eqD (.tuple _) (.tuple _)).map _ = _
    have hA : shp (.tuple (A.map .str)) = true := hA
    have this : PyData.eqv (.tuple (A.map .str)) (.tuple (A.map .str)) = true := this
    simp [eqD, hA, this]
  have hp : ∀ d', peek ⟨[], S⟩ (.v d') = some d' := fun _ => rfl
  simp [FBoard_check_acts, runFn, exs, ex, ev, evAnd, evOr, evs, evO, evL, evIf, evI, asg, asgs, asT, asTs, setL, R.b, R.t, R.ne, RT.s, ofO, peek, peekT, peeks, isiD, tyOf, tyLe, truW, truD, wipe, args, binD, dmD, strsOf, asStr, intsOf, boolsOf, asInt, asBool, mk, allV, outW, itemsD, itemsW, itemsL, itemsT, ixW, atI, ixN, slW, cut, sIx, freeze, mthW, mtyW, setIxW, enmD, zipD, zipP, rgI, small, szL, maxI, minI, cl, Mk.pre, Mk.post, hN, isI h, fdI h, h30, h2, h3, h4, l_acts]
theorem set0 {S : List OS} {b : Nat} {x : OS} {o : OS} (h : S[b]? = some o) : (S.set b x)[b]? = some x := by
  rw [List.getElem?_set_self]
  exact (List.getElem?_eq_some_iff.mp h).1
theorem setN {S : List OS} {b c : Nat} {x : OS} (h : c ≠ b) : (S.set c x)[b]? = S[b]? := List.getElem?_set_ne h
/-- keep -/
theorem m18 (h : S[b]? = some (bdO A F bod tdy p)) {past : List PyData} (hp : S[p]? = some (.lst past)) (hl : past.length < 16777216) (h26 : C 30 [.ref b] S = .ok (.v (stD F bod tdy)) ⟨[], S⟩) :
    runFn C FBoard_keep [.ref b] S = .ok (.v .none) ⟨[], S.set p (.lst (past ++ [stD F bod tdy]))⟩ := by
  unfold bdO at h
  simp [FBoard_keep, runFn, exs, ex, ev, evAnd, evOr, evs, evO, evL, evIf, evI, asg, asgs, asT, asTs, setL, R.b, R.t, R.ne, RT.s, ofO, peek, peekT, peeks, isiD, tyOf, tyLe, truW, truD, wipe, args, binD, bltD, dmD, strsOf, asStr, intsOf, boolsOf, asInt, asBool, mk, allV, outW, itemsD, itemsW, itemsL, itemsT, ixW, atI, ixN, slW, cut, sIx, freeze, mthW, mtyW, setIxW, enmD, zipD, zipP, rgI, small, szL, isNW, maxI, minI, cl, Mk.pre, Mk.post, isI h, fdI h, noI h, l_past, n_state, hp, h26, hl]
/-- fail -/
theorem m9 (h : S[b]? = some (bdO A F bod tdy p)) {S1 : List OS} (h1 : S1[b]? = some (bdO A F bod tdy p)) {a : Str} (h19 : C 47 [.ref b, .v (.str a)] S = .ok (.v .none) ⟨[], S⟩) (h18 : C 32 [.ref b] S = .ok (.v .none) ⟨[], S1⟩) (hl : F.length < 63) :
    runFn C FBoard_fail [.ref b, .v (.str a)] S = .ok (.v .none) ⟨[], S1.set b (bdO A (usort (F ++ [a])) bod tdy p)⟩ := by
  have e : strsOf (F.map PyData.str ++ [.str a]) = some (F ++ [a]) := by
    have := strs_of (F ++ [a])
    simpa using this
  have e2 : allV (F.map (W.v ∘ PyData.str) ++ [.v (.str a)]) = some (F.map PyData.str ++ [.str a]) := by
    have := allV_mapQ PyData.str (F ++ [a])
    rw [List.map_append, List.map_append] at this
    exact this
  have hl2 : F.length + 1 < 64 := by omega
  have hl3 : F.length + 1 ≤ 16777216 := by omega
  have pf := fun G => p_fails A F bod tdy p G
  unfold bdO at h h1 ⊢
  unfold fD at *
  have lf := l_fails A F bod tdy p
  unfold fD at lf
  have st := fun (d : PyData) (f : Str) => stI (S := S1) (L := []) h1 f (d := d) (by rw [fl_len]; decide)
  simp [FBoard_fail, runFn, exs, ex, ev, evAnd, evOr, evs, evO, evL, evIf, evI, asg, asgs, asT, asTs, setL, R.b, R.t, R.ne, RT.s, ofO, peek, peekT, peeks, isiD, tyOf, tyLe, truW, truD, wipe, args, binD, bltD, dmD, strsOf, asStr, intsOf, boolsOf, asInt, asBool, mk, allV, outW, itemsD, itemsW, itemsL, itemsT, ixW, atI, ixN, slW, cut, sIx, freeze, mthW, mtyW, setIxW, enmD, zipD, zipP, rgI, small, szL, isNW, maxI, minI, cl, Mk.pre, Mk.post, isI h, fdI h, noI h, isI h1, fdI h1, n_check_act, n_keep, h19, h18, lf, e, e2, hl2, hl3, st, pf]
/-- Board[name] = body -/
theorem m10 (h : S[b]? = some (bdO A F bod tdy p)) {S1 : List OS} (h1 : S1[b]? = some (bdO A F bod tdy p)) {n : Str} {d t : PyData} (h22 : C 34 [.v d] S = .ok (.v d) ⟨[], S⟩) (h21 : C 33 [.ref b, .v d] S = .ok (.v .none) ⟨[], S⟩)
    (h18 : C 32 [.ref b] S = .ok (.v .none) ⟨[], S1⟩) (h20 : ∀ S, C 31 [.v d] S = .ok (.v t) ⟨[], S⟩) (hb : bod.length < 1000) (ht : tdy.length < 1000) :
    runFn C FBoard_setitem [.ref b, .v (.str n), .v d] S = .ok (.v .none) ⟨[], (S1.set b (bdO A F (dputD n d bod) tdy p)).set b (bdO A F (dputD n d bod) (dputD n t tdy) p)⟩ := by
  have h2 : (S1.set b (bdO A F (dputD n d bod) tdy p))[b]? = some (bdO A F (dputD n d bod) tdy p) := set0 h1
  have pb := fun d => p_bodies A F bod tdy p d
  have pt := fun bod d => p_tidied A F bod tdy p d
  have fr : cmpD .isin (.str n) (.dict []) = some false := rfl
  unfold bdO at h h1 h2 ⊢
  have st := fun (d : PyData) (f : Str) => stI (S := S1) (L := []) h1 f (d := d) (by rw [fl_len]; decide)
  have st2 := fun (d : PyData) (f : Str) => stI (L := []) h2 f (d := d) (by rw [fl_len]; decide)
  simp [FBoard_setitem, runFn, exs, ex, ev, evAnd, evOr, evs, evO, evL, evIf, evI, asg, asgs, asT, asTs, setL, R.b, R.t, R.ne, RT.s, ofO, peek, peekT, peeks, isiD, tyOf, tyLe, truW, truD, wipe, args, binD, bltD, dmD, strsOf, asStr, intsOf, boolsOf, asInt, asBool, mk, allV, outW, itemsD, itemsW, itemsL, itemsT, ixW, atI, ixN, slW, cut, sIx, freeze, mthW, mtyW, setIxW, enmD, zipD, zipP, rgI, small, szL, isNW, maxI, minI, cl, Mk.pre, Mk.post, isI h, fdI h, noI h, isI h1, fdI h1, isI h2, fdI h2, n_check_acts, n_keep, h22, h21, h18, h20, l_frames, l_bodies, l_tidied, fr, hb, ht, st, pb]
  simp [runFn, exs, ex, ev, evAnd, evOr, evs, evO, evL, evIf, evI, asg, asgs, asT, asTs, setL, R.b, R.t, R.ne, RT.s, ofO, peek, peekT, peeks, isiD, tyOf, tyLe, truW, truD, wipe, args, binD, bltD, dmD, strsOf, asStr, intsOf, boolsOf, asInt, asBool, mk, allV, outW, itemsD, itemsW, itemsL, itemsT, ixW, atI, ixN, slW, cut, sIx, freeze, mthW, mtyW, setIxW, enmD, zipD, zipP, rgI, small, szL, isNW, maxI, minI, cl, Mk.pre, Mk.post, isI h2, fdI h2, st2, pt, l_tidied, ht, h20]
end
end L
set_option maxHeartbeats 8000000
/-! Q5: draws. -/
namespace L
open PySem Z
def cap (d : Nat) : Int := 2 ^ (72 * d)
theorem cap_pos (d : Nat) : 1 ≤ cap d := by
  unfold cap
  have : 1 ≤ 2 ^ (72 * d) := Nat.one_le_two_pow
  exact_mod_cast this
theorem cap_succ (d : Nat) : cap (d + 1) = 4 * 2 ^ 70 * cap d := by
  unfold cap
  rw [show 72 * (d + 1) = 72 + 72 * d by omega, Int.pow_add]
  rfl
theorem cap_mono {a b : Nat} (h : a ≤ b) : cap a ≤ cap b := by
  unfold cap
  exact_mod_cast Nat.pow_le_pow_right (by decide) (Nat.mul_le_mul_left 72 h)
theorem log_of {x : Int} {d : Nat} (h0 : 0 ≤ x) (h : x ≤ cap d) : x.natAbs.log2 ≤ 72 * d := by
  have h2 : x.natAbs ≤ 2 ^ (72 * d) := by
    have : (x.natAbs : Int) ≤ ((2 ^ (72 * d) : Nat) : Int) := by
      rw [Int.natAbs_of_nonneg h0]
      push_cast
      exact h
    exact_mod_cast this
  by_cases hx : x.natAbs = 0
  · rw [hx]; simp
  · have := (Nat.log2_lt hx).mpr (Nat.lt_of_le_of_lt h2 (Nat.pow_lt_pow_right (by decide) (Nat.lt_succ_self _)))
    omega
theorem mul_ok {x y : Int} {d e : Nat} (h1 : 0 ≤ x) (h2 : x ≤ cap d) (h3 : 0 ≤ y) (h4 : y ≤ cap e) (hd : d + e ≤ 1000) : mulFit x y = true := by
  refine decide_eq_true ?_
  have := log_of h1 h2
  have := log_of h3 h4
  omega
theorem div_ok {x : Int} {d : Nat} (h1 : 1 ≤ x) (h2 : x ≤ cap d) (hd : d ≤ 20) : divFit x = true := by
  refine decide_eq_true ⟨by omega, ?_⟩
  have := log_of (by omega) h2
  omega
theorem mod_in {p a : Int} (h : 1 ≤ a) : 0 ≤ p % a ∧ p % a < a := ⟨Int.emod_nonneg _ (by omega), Int.emod_lt_of_pos _ (by omega)⟩
def Urn (N n : Nat) (S : List OS) : Prop := ∃ a b c : Int, S[n]? = some (.lst [.int a, .int b, .int c]) ∧ 0 ≤ b ∧ b ≤ cap 2 ∧ 0 ≤ c ∧ c ≤ N
theorem Urn.le {N M n : Nat} {S : List OS} (h : Urn N n S) (k : N ≤ M) : Urn M n S := by
  obtain ⟨a, b, c, h1, h2, h3, h4, h5⟩ := h
  exact ⟨a, b, c, h1, h2, h3, h4, by omega⟩
theorem Urn.lt {N n : Nat} {S : List OS} (h : Urn N n S) : n < S.length := by
  obtain ⟨a, b, c, h1, _⟩ := h
  exact (List.getElem?_eq_some_iff.mp h1).1
theorem Urn.app {N n : Nat} {S : List OS} (h : Urn N n S) (T : List OS) : Urn N n (S ++ T) := by
  have hl := h.lt
  obtain ⟨a, b, c, h1, r⟩ := h
  exact ⟨a, b, c, by rw [List.getElem?_append_left hl]; exact h1, r⟩
theorem cap2 : cap 2 = 22300745198530623141535718272648361505980416 := by decide
theorem cap20 : 1267650600228229401496703205376 ≤ cap 20 := by decide +kernel
theorem fit {x y : Int} (h1 : 0 ≤ x) (h2 : x ≤ cap 20) (h3 : 0 ≤ y) (h4 : y ≤ cap 20) : mulFit x y = true := mul_ok h1 h2 h3 h4 (by decide)
theorem cap20' : (22300745198530623141535718272648361505980416 * 4294967296 : Int) ≤ cap 20 := by decide +kernel
theorem take_ {C : Orc} {N n : Nat} {S : List OS} (hU : Urn N n S) (hN : N ≤ 1000000) {low : Int} (h1 : 1 ≤ low) (h2 : low ≤ cap 20) :
    ∃ r u, runFn C F_law_take [.ref n, .v (.int low)] S = .ok (.v (.int r)) ⟨[], S.set n u⟩ ∧ 0 ≤ r ∧ r < low ∧ ∀ S1 : List OS, n < S1.length → Urn (N + 1) n (S1.set n u) := by
  obtain ⟨a, b, c, hS, hb1, hb2, hc1, hc2⟩ := hU
  obtain ⟨hn, hg⟩ := List.getElem?_eq_some_iff.mp hS
  rw [cap2] at hb2
  have cc := cap20'
  have hd := div_ok h1 h2 (by decide)
  have hl : 0 < low := by omega
  by_cases ha : 0 < a
  · refine ⟨a % low, .lst [.int (a / low), .int b, .int c], ?_, (mod_in h1).1, (mod_in h1).2, fun S1 hn => ⟨a / low, b, c, by simp [hn], hb1, by rw [cap2]; exact hb2, hc1, by omega⟩⟩
    simp [runFn, exs, ex, ev, evAnd, evOr, evs, evO, evL, evIf, evI, asg, asgs, asT, asTs, setL, R.b, R.t, R.ne, RT.s, ofO, peek, peekT, peeks, isiD, tyOf, tyLe, truW, truD, turns, turnsL, wipe, args, binD, cmpD, eqD, inD, bltD, dmD, strsOf, asStr, intsOf, boolsOf, asInt, asBool, mk, allV, outW, itemsD, itemsW, itemsL, itemsT, ixW, atI, ixN, slW, cut, sIx, freeze, mthW, mtyW, setIxW, forR, enmD, zipD, zipP, rgI, small, szL, isNW, maxI, minI, cl, isIns, noFld, fldW, putA, setFld, Mk.pre, Mk.post, F_law_take, hg, ha, hd, hl, hn]
  · have f1 : mulFit 48271 (c + 1) = true := fit (by decide) (by omega) (by omega) (by omega)
    have f2 : mulFit (b + 48271 * (c + 1)) (39373 + (c + 1)) = true := fit (by omega) (by omega) (by omega) (by omega)
    generalize ho : ((b + 48271 * (c + 1)) * (39373 + (c + 1))) % 2147483647 = o
    have o1 : 0 ≤ o ∧ o < 2147483647 := by omega
    have f3 : mulFit (o + (c + 1) + b / 1000003) (o % 40009 + 7) = true := fit (by omega) (by omega) (by omega) (by omega)
    generalize ht : ((o + (c + 1) + b / 1000003) * (o % 40009 + 7)) % 2147483629 = t
    have t1 : 0 ≤ t ∧ t < 2147483629 := by omega
    have f4 : mulFit t 48271 = true := fit (by omega) (by omega) (by omega) (by omega)
    have d1 : divFit 1000003 = true := by decide +kernel
    have d2 : divFit 64 = true := by decide +kernel
    refine ⟨((t * 48271 + o) % 2147483587 / 64) % low, .lst [.int a, .int b, .int (c + 1)], ?_, (mod_in h1).1, (mod_in h1).2, fun S1 hn => ⟨a, b, c + 1, by simp [hn], hb1, by rw [cap2]; exact hb2, by omega, by omega⟩⟩
    simp [runFn, exs, ex, ev, evAnd, evOr, evs, evO, evL, evIf, evI, asg, asgs, asT, asTs, setL, R.b, R.t, R.ne, RT.s, ofO, peek, peekT, peeks, isiD, tyOf, tyLe, truW, truD, turns, turnsL, wipe, args, binD, cmpD, eqD, inD, bltD, dmD, strsOf, asStr, intsOf, boolsOf, asInt, asBool, mk, allV, outW, itemsD, itemsW, itemsL, itemsT, ixW, atI, ixN, slW, cut, sIx, freeze, mthW, mtyW, setIxW, forR, enmD, zipD, zipP, rgI, small, szL, isNW, maxI, minI, cl, isIns, noFld, fldW, putA, setFld, Mk.pre, Mk.post, F_law_take, hg, ha, hl, hn, f1, f2, ho, f3, ht, f4, d1, d2]
theorem c8 {N n : Nat} {S : List OS} (hU : Urn N n S) (hN : N ≤ 1000000) {low : Int} (h1 : 1 ≤ low) (h2 : low ≤ cap 20) (k : Nat) (T : List OS) :
    ∃ r S1, S1.length = S.length ∧ callP fs (k + 1) 20 [.ref n, .v (.int low)] (S ++ T) = .ok (.v (.int r)) ⟨[], S1 ++ T⟩ ∧ 0 ≤ r ∧ r < low ∧ Urn (N + 1) n S1 := by
  obtain ⟨r, u, e, r0, r1, hu⟩ := take_ (C := callP fs k) (hU.app T) hN h1 h2
  refine ⟨r, S.set n u, List.length_set, ?_, r0, r1, hu S hU.lt⟩
  rw [← List.set_append_left _ _ hU.lt]
  exact e
theorem c23 {N n : Nat} {S : List OS} (hU : Urn N n S) (hN : N ≤ 1000000) (ds : List PyData) (hl : 1 ≤ ds.length) (hl2 : ds.length ≤ 10) (k : Nat) (T : List OS) :
    ∃ d S1, d ∈ ds ∧ S1.length = S.length ∧ callP fs (k + 2) 35 [.ref n, .v (.list ds)] (S ++ T) = .ok (.v d) ⟨[], S1 ++ T⟩ ∧ Urn (N + 1) n S1 := by
  have c20 := cap20
  obtain ⟨r, S', el, e, r0, r1, hU'⟩ := c8 hU hN (low := (ds.length : Int)) (by omega) (by omega) k T
  have hr : r.toNat < ds.length := by omega
  refine ⟨ds[r.toNat], S', List.getElem_mem hr, el, ?_, hU'⟩
  show runFn (callP fs (k + 1)) F_law_of [.ref n, .v (.list ds)] (S ++ T) = _
  generalize callP fs (k + 1) = C at e
  have hz : ds.length ≤ 16777216 := by omega
  simp [runFn, exs, ex, ev, evAnd, evOr, evs, evO, evL, evIf, evI, asg, asgs, asT, asTs, setL, R.b, R.t, R.ne, RT.s, ofO, peek, peekT, peeks, isiD, tyOf, tyLe, truW, truD, turns, turnsL, wipe, args, binD, cmpD, eqD, inD, bltD, dmD, strsOf, asStr, intsOf, boolsOf, asInt, asBool, mk, allV, outW, itemsD, itemsW, itemsL, itemsT, ixW, atI, ixN, slW, cut, sIx, freeze, mthW, mtyW, setIxW, forR, enmD, zipD, zipP, rgI, small, szL, isNW, maxI, minI, cl, isIns, noFld, fldW, putA, setFld, Mk.pre, Mk.post, F_law_of, e, r0, r1, hr]
theorem log_add {x y : Int} {a : Nat} (hx : x.natAbs.log2 ≤ a) (hy : y.natAbs.log2 ≤ a) : (x + y).natAbs.log2 ≤ a + 1 := by
  have lt : ∀ z : Int, z.natAbs.log2 ≤ a → z.natAbs < 2 ^ (a + 1) := fun z h => by
    by_cases e : z.natAbs = 0
    · rw [e]; exact Nat.two_pow_pos _
    · exact (Nat.log2_lt e).mp (by omega)
  have h1 := lt x hx
  have h2 := lt y hy
  have h3 : (x + y).natAbs < 2 ^ (a + 2) := by
    have := Int.natAbs_add_le x y
    have e : 2 ^ (a + 2) = 2 * 2 ^ (a + 1) := by rw [Nat.pow_succ 2 (a + 1)]; omega
    omega
  by_cases e : (x + y).natAbs = 0
  · rw [e]; simp
  · have := (Nat.log2_lt e).mpr h3
    omega
theorem log_mul {x y : Int} {a b : Nat} (hx : x.natAbs.log2 ≤ a) (hy : y.natAbs.log2 ≤ b) : (x * y).natAbs.log2 ≤ a + b + 1 := by
  have lt : ∀ (z : Int) (a : Nat), z.natAbs.log2 ≤ a → z.natAbs < 2 ^ (a + 1) := fun z a h => by
    by_cases e : z.natAbs = 0
    · rw [e]; exact Nat.two_pow_pos _
    · exact (Nat.log2_lt e).mp (by omega)
  have h1 := lt x a hx
  have h2 := lt y b hy
  have h3 : (x * y).natAbs < 2 ^ (a + b + 2) := by
    rw [Int.natAbs_mul, show a + b + 2 = (a + 1) + (b + 1) by omega, Nat.pow_add]
    exact Nat.mul_lt_mul_of_lt_of_le h1 (Nat.le_of_lt h2) (Nat.two_pow_pos _)
  by_cases e : (x * y).natAbs = 0
  · rw [e]; simp
  · have := (Nat.log2_lt e).mpr h3
    omega
theorem c2 (ds : List Int) (hb : ∀ z ∈ ds, z.natAbs.log2 ≤ 10000000) (i : Nat) (hi : i < ds.length) (hl : ds.length ≤ 100) (k : Nat) (S : List OS) : ∃ x, callP fs (k + 1) 2 [.v (.list (ds.map .int)), .v (.int i)] S = .ok (.ref S.length) ⟨[], S ++ [x]⟩ ∧ Urn 0 S.length (S ++ [x]) := by
  have hz := hb ds[i] (List.getElem_mem hi)
  generalize hx : ds[i] = x at hz
  have p1 : powFit 10 18 = true := by decide +kernel
  have m1 : ∀ y : Int, y = 0 ∨ y = 1 → mulFit (x.natAbs : Int) y = true := fun y hy => decide_eq_true (by
    rw [Int.natAbs_natCast]
    have z0 : Nat.log2 0 = 0 := by decide +kernel
    have z1 : Nat.log2 1 = 0 := by decide +kernel
    rcases hy with rfl | rfl
    · show _ + Nat.log2 0 < _; rw [z0]; omega
    · show _ + Nat.log2 1 < _; rw [z1]; omega)
  have m10 := m1 0 (.inl rfl)
  have m11 := m1 1 (.inr rfl)
  have m2 : mulFit 39373 (i : Int) = true := fit (by decide) (by have := cap20; omega) (by omega) (by have := cap20; omega)
  have hil : (i : Int) < (ds.length : Int) := by omega
  show ∃ x, runFn (callP fs k) F_law_box [.v (.list (ds.map .int)), .v (.int i)] S = .ok (.ref S.length) ⟨[], S ++ [x]⟩ ∧ Urn 0 S.length (S ++ [x])
  by_cases hg : (1000000000000000000 : Int) ≤ (x.natAbs : Int)
  · refine ⟨.lst [.int (x.natAbs * 1), .int (x % 2305843009213693951 + 39373 * i + 10516098), .int 0], ?_, ⟨(x.natAbs : Int) * 1, x % 2305843009213693951 + 39373 * i + 10516098, 0, by simp, ?_⟩⟩
    · simp [runFn, exs, ex, ev, evAnd, evOr, evs, evO, evL, evIf, evI, asg, asgs, asT, asTs, setL, R.b, R.t, R.ne, RT.s, ofO, peek, peekT, peeks, isiD, tyOf, tyLe, truW, truD, turns, turnsL, wipe, args, binD, cmpD, eqD, inD, bltD, dmD, strsOf, asStr, intsOf, boolsOf, asInt, asBool, mk, allV, outW, itemsD, itemsW, itemsL, itemsT, ixW, atI, ixN, slW, cut, sIx, freeze, mthW, mtyW, setIxW, forR, enmD, zipD, zipP, rgI, small, szL, isNW, maxI, minI, cl, isIns, noFld, fldW, putA, setFld, Mk.pre, Mk.post, F_law_box, hi, hx, p1, hg, m11, m2]
    · rw [cap2]; omega
  · refine ⟨.lst [.int (x.natAbs * 0), .int (x % 2305843009213693951 + 39373 * i + 10516098), .int 0], ?_, ⟨(x.natAbs : Int) * 0, x % 2305843009213693951 + 39373 * i + 10516098, 0, by simp, ?_⟩⟩
    · simp [runFn, exs, ex, ev, evAnd, evOr, evs, evO, evL, evIf, evI, asg, asgs, asT, asTs, setL, R.b, R.t, R.ne, RT.s, ofO, peek, peekT, peeks, isiD, tyOf, tyLe, truW, truD, turns, turnsL, wipe, args, binD, cmpD, eqD, inD, bltD, dmD, strsOf, asStr, intsOf, boolsOf, asInt, asBool, mk, allV, outW, itemsD, itemsW, itemsL, itemsT, ixW, atI, ixN, slW, cut, sIx, freeze, mthW, mtyW, setIxW, forR, enmD, zipD, zipP, rgI, small, szL, isNW, maxI, minI, cl, isIns, noFld, fldW, putA, setFld, Mk.pre, Mk.post, F_law_box, hi, hx, p1, hg, m10, m2]
    · rw [cap2]; omega
def celB : TS := match F_law_cells.body with | .cons _ (.cons (.forT _ _ b) _) => b | _ => .nil
def celG : G := .tp (.cons (.nm 3) (.cons (.nm 4) .nil))
theorem cel_step {C : Orc} {S : List OS} {x y z c : Int} {i : Int} (h0 : 0 ≤ i) (hm : mulFit c (i + 2) = true) (u : Option W) (y5 : Option W) :
    ∃ x' y' z' v5, exs C celB [u, some (.v (.int 3)), some (.loc 0), some (.v (.int i)), some (.v (.int c)), y5] ⟨[.lst [.v (.int x), .v (.int y), .v (.int z)]], S⟩
      = .nx [u, some (.v (.int 3)), some (.loc 0), some (.v (.int i)), some (.v (.int c)), v5] ⟨[.lst [.v (.int x'), .v (.int y'), .v (.int z')]], S⟩ ∧
      (x' = x ∨ x' = x + c * (i + 2)) ∧ (y' = y ∨ y' = y + c * (i + 2)) ∧ (z' = z ∨ z' = z + c * (i + 2)) := by
  have hr : i % 3 = 0 ∨ i % 3 = 1 ∨ i % 3 = 2 := by omega
  rcases hr with hr | hr | hr
  · exact ⟨x + c * (i + 2), y, z, some (.v (.int 0)), by simp [celB, F_law_cells, runFn, exs, ex, ev, evAnd, evOr, evs, evO, evL, evIf, evI, asg, asgs, asT, asTs, setL, R.b, R.t, R.ne, RT.s, ofO, peek, peekT, peeks, isiD, tyOf, tyLe, truW, truD, turns, turnsL, wipe, args, binD, cmpD, eqD, inD, bltD, dmD, strsOf, asStr, intsOf, boolsOf, asInt, asBool, mk, allV, outW, itemsD, itemsW, itemsL, itemsT, ixW, atI, ixN, slW, cut, sIx, freeze, mthW, mtyW, setIxW, forR, enmD, zipD, zipP, rgI, small, szL, isNW, maxI, minI, cl, isIns, noFld, fldW, putA, setFld, Mk.pre, Mk.post, hr, hm], .inr rfl, .inl rfl, .inl rfl⟩
  · exact ⟨x, y + c * (i + 2), z, some (.v (.int 1)), by simp [celB, F_law_cells, runFn, exs, ex, ev, evAnd, evOr, evs, evO, evL, evIf, evI, asg, asgs, asT, asTs, setL, R.b, R.t, R.ne, RT.s, ofO, peek, peekT, peeks, isiD, tyOf, tyLe, truW, truD, turns, turnsL, wipe, args, binD, cmpD, eqD, inD, bltD, dmD, strsOf, asStr, intsOf, boolsOf, asInt, asBool, mk, allV, outW, itemsD, itemsW, itemsL, itemsT, ixW, atI, ixN, slW, cut, sIx, freeze, mthW, mtyW, setIxW, forR, enmD, zipD, zipP, rgI, small, szL, isNW, maxI, minI, cl, isIns, noFld, fldW, putA, setFld, Mk.pre, Mk.post, hr, hm], .inl rfl, .inr rfl, .inl rfl⟩
  · exact ⟨x, y, z + c * (i + 2), some (.v (.int 2)), by simp [celB, F_law_cells, runFn, exs, ex, ev, evAnd, evOr, evs, evO, evL, evIf, evI, asg, asgs, asT, asTs, setL, R.b, R.t, R.ne, RT.s, ofO, peek, peekT, peeks, isiD, tyOf, tyLe, truW, truD, turns, turnsL, wipe, args, binD, cmpD, eqD, inD, bltD, dmD, strsOf, asStr, intsOf, boolsOf, asInt, asBool, mk, allV, outW, itemsD, itemsW, itemsL, itemsT, ixW, atI, ixN, slW, cut, sIx, freeze, mthW, mtyW, setIxW, forR, enmD, zipD, zipP, rgI, small, szL, isNW, maxI, minI, cl, isIns, noFld, fldW, putA, setFld, Mk.pre, Mk.post, hr, hm], .inl rfl, .inl rfl, .inr rfl⟩
theorem cel_loop {C : Orc} {S : List OS} (u : Option W) : ∀ (ns : List Int) (i : Nat) (x y z : Int) (y3 y4 y5 : Option W), (∀ c ∈ ns, c.natAbs.log2 ≤ 1048576) → i + ns.length ≤ 1000 → x.natAbs.log2 ≤ 1048700 + i → y.natAbs.log2 ≤ 1048700 + i → z.natAbs.log2 ≤ 1048700 + i →
    ∃ x' y' z' v3 v4 v5, forR (fun d ρ m => match asg celG (.v d) ρ with | some ρ => exs C celB ρ m | none => .bad) (enmD i (ns.map .int)) [u, some (.v (.int 3)), some (.loc 0), y3, y4, y5] ⟨[.lst [.v (.int x), .v (.int y), .v (.int z)]], S⟩
      = .nx [u, some (.v (.int 3)), some (.loc 0), v3, v4, v5] ⟨[.lst [.v (.int x'), .v (.int y'), .v (.int z')]], S⟩ ∧ x'.natAbs.log2 ≤ 10000000 ∧ y'.natAbs.log2 ≤ 10000000 ∧ z'.natAbs.log2 ≤ 10000000 := by
  intro ns
  induction ns with
  | nil =>
    intro i x y z y3 y4 y5 _ hl hx hy hz
    exact ⟨x, y, z, y3, y4, y5, by simp [enmD, forR], by omega, by omega, by omega⟩
  | cons c ns ih =>
    intro i x y z y3 y4 y5 hc hl hx hy hz
    rw [List.length_cons] at hl
    have h1 := hc c (by simp)
    have hk : ((i : Int) + 2).natAbs.log2 ≤ 10 := by
      have e : ((i : Int) + 2).natAbs = i + 2 := by omega
      rw [e]
      have := (Nat.log2_lt (n := i + 2) (k := 11) (by omega)).mpr (by omega)
      omega
    have hm : mulFit c ((i : Int) + 2) = true := decide_eq_true (by omega)
    have hp := log_mul h1 hk
    obtain ⟨x', y', z', v5, e, ex, ey, ez⟩ := cel_step (C := C) (S := S) (x := x) (y := y) (z := z) (c := c) (i := (i : Int)) (by omega) hm u y5
    have bx : ∀ {x x' : Int}, x.natAbs.log2 ≤ 1048700 + i → (x' = x ∨ x' = x + c * ((i : Int) + 2)) → x'.natAbs.log2 ≤ 1048700 + (i + 1) := fun {x x'} h k => by
      rcases k with k | k <;> rw [k]
      · omega
      · exact log_add (a := 1048700 + i) h (by omega)
    obtain ⟨x2, y2, z2, v3, v4, w5, e2, b1, b2, b3⟩ := ih (i + 1) x' y' z' (some (.v (.int i))) (some (.v (.int c))) v5 (fun d hd => hc d (List.mem_cons_of_mem _ hd)) (by omega) (bx hx ex) (bx hy ey) (bx hz ez)
    refine ⟨x2, y2, z2, v3, v4, w5, ?_, b1, b2, b3⟩
    rw [List.map_cons, enmD, forR]
    have ha : asg celG (.v (.tuple [.int (i : Int), .int c])) [u, some (.v (.int 3)), some (.loc 0), y3, y4, y5] = some [u, some (.v (.int 3)), some (.loc 0), some (.v (.int (i : Int))), some (.v (.int c)), y5] := rfl
    rw [ha]
    dsimp only
    rw [e]
    exact e2
theorem cells_eq : F_law_cells = ⟨2, 6, .cons (.asg (.nm 2) (.or (.cons (.lst .loc (.of (.sl (.var 0) .none (.some (.var 1))))) (.cons (.lst .loc (.disp (.cons (.cst (.int 0)) .nil))) .nil)))) (.cons (.forT celG (.enm (.sl (.var 0) (.some (.var 1)) (.some (.cst (.int 63))))) celB) (.cons (.ret (.frz (.var 2))) .nil))⟩ := rfl
theorem c3 (ns : List Int) (hl : ns.length ≤ 63) (hb : ∀ c ∈ ns, c.natAbs.log2 ≤ 1048576) (k : Nat) (S : List OS) :
    ∃ ds : List Int, 1 ≤ ds.length ∧ ds.length ≤ 3 ∧ (∀ c ∈ ds, c.natAbs.log2 ≤ 10000000) ∧ callP fs (k + 1) 3 [.ro (ns.map .int), .v (.int 3)] S = .ok (.v (.list (ds.map .int))) ⟨[], S⟩ := by
  match ns, hl, hb with
  | [], _, _ => exact ⟨[0], by simp, by simp, (by intro c hc; simp at hc; subst hc; decide +kernel), by kernel_rfl⟩
  | [a], _, hb => exact ⟨[a], by simp, by simp, (fun c hc => Nat.le_trans (hb c hc) (by decide)), by kernel_rfl⟩
  | [a, b], _, hb => exact ⟨[a, b], by simp, by simp, (fun c hc => Nat.le_trans (hb c hc) (by decide)), by kernel_rfl⟩
  | a :: b :: c :: r, hl, hb =>
    simp only [List.length_cons] at hl
    have ha := hb a (by simp)
    have hb' := hb b (by simp)
    have hc := hb c (by simp)
    obtain ⟨x, y, z, v3, v4, v5, e, b1, b2, b3⟩ := cel_loop (C := callP fs k) (S := S) (some (.ro ((a :: b :: c :: r).map .int))) r 0 a b c none none none (fun d hd => hb d (by simp [hd])) (by omega) (by omega) (by omega) (by omega)
    refine ⟨[x, y, z], by simp, by simp, by simp [b1, b2, b3], ?_⟩
    show runFn (callP fs k) F_law_cells [.ro ((a :: b :: c :: r).map .int), .v (.int 3)] S = _
    have hw : ∀ ρ m, ex (callP fs k) (.forT celG (.enm (.sl (.var 0) (.some (.var 1)) (.some (.cst (.int 63))))) celB) ρ m = (evI (callP fs k) (.enm (.sl (.var 0) (.some (.var 1)) (.some (.cst (.int 63))))) ρ m).t ρ fun ds m => forR (fun d ρ m => match asg celG (.v d) ρ with | some ρ => exs (callP fs k) celB ρ m | none => .bad) ds ρ m := fun ρ m => by simp only [ex] <;> rfl
    rw [cells_eq]
    generalize (fun (d : PyData) (ρ : Z.Env) (m : Mem) => match asg celG (.v d) ρ with | some ρ => exs (callP fs k) celB ρ m | none => RT.bad) = cf at e hw
    generalize callP fs k = C at *
    simp only [runFn, exs, hw]
    have s1 : min 3 (r.length + 1 + 1 + 1) = 3 := by omega
    have s2 : min 63 (r.length + 1 + 1 + 1) = r.length + 3 := by omega
    have s3 : List.take r.length (r.map PyData.int) = r.map PyData.int := List.take_of_length_le (by simp)
    simp only [List.map_cons] at e
    simp [runFn, exs, ex, ev, evAnd, evOr, evs, evO, evL, evIf, evI, asg, asgs, asT, asTs, setL, R.b, R.t, R.ne, RT.s, ofO, peek, peekT, peeks, isiD, tyOf, tyLe, truW, truD, wipe, args, binD, cmpD, eqD, inD, bltD, dmD, strsOf, asStr, intsOf, boolsOf, asInt, asBool, mk, allV, outW, itemsD, itemsW, itemsL, itemsT, ixW, atI, ixN, slW, cut, sIx, freeze, mthW, mtyW, setIxW, enmD, zipD, zipP, rgI, small, szL, isNW, maxI, minI, cl, isIns, noFld, fldW, putA, setFld, Mk.pre, Mk.post, s1, s2, s3, e] at e ⊢
end L
set_option maxHeartbeats 8000000
/-! Q6: a drawn body. -/
namespace L
open PySem Z
abbrev Ok (l : List Str) : Prop := ∀ s ∈ l, PyData.canLay0 (.str s) = true
theorem nods_str (l : List Str) : nods (l.map .str) = true := by
  induction l with
  | nil => rfl
  | cons x r ih => simp [nods, nod, ih]
theorem lay_str {l : List Str} (h : Ok l) : PyData.canLayAll0 (l.map .str) = true := by
  induction l with
  | nil => rfl
  | cons x r ih => simp [PyData.canLayAll0, h x (by simp), ih (fun s hs => h s (by simp [hs]))]
theorem dep_str (l : List Str) : PyData.depthAll (l.map .str) = 0 := by
  induction l with
  | nil => rfl
  | cons x r ih => simp [PyData.depthAll, PyData.depth, ih]
theorem shp_list {l : List Str} (h : Ok l) : shp (.list (l.map .str)) = true := by
  simp [shp, nod, nods_str, SeqAt.shaped, PyData.canLay0, lay_str h, PyData.depth, dep_str]
theorem shp_tup {l : List Str} (h : Ok l) : shp (fD l) = true := by
  simp [fD, shp, nod, nods_str, SeqAt.shaped, PyData.canLay0, lay_str h, PyData.depth, dep_str]
theorem lne {l : List Str} (h : Ok l) : cmpD .ne (.list (l.map .str)) (.list []) = some (!l.isEmpty) := by
  have h1 := shp_list h
  have h2 : shp (.list []) = true := by decide +kernel
  show (eqD (.list _) (.list [])).map _ = _
  cases l with
  | nil =>
    have h1 : shp (.list []) = true := h1
    simp [eqD, h1, PyData.eqv, PyData.eqvAll]
  | cons x r =>
    have h1 : shp (.list (PyData.str x :: r.map .str)) = true := h1
    simp [eqD, h1, h2, PyData.eqv, PyData.eqvAll]
def b1 : TS := .cons (.asg (.nm 4) (.ix (.var 2) (.call 20 (.cons (.var 0) (.cons (.blt .len (.cons (.var 2) .nil)) .nil))))) (.cons (.asg (.nm 2) (.lst .fz (.comp [8] (.nm 8) (.seq (.var 2)) (.cons (.cmp .ne (.var 8) (.var 4)) .nil) (.var 8)))) (.cons (.asg (.nm 3) (.bin .add (.var 3) (.lst .fz (.disp (.cons (.var 4) .nil))))) .nil))
def k1 : E := .cmp .ne (.var 2) (.lst .fz (.disp .nil))
theorem b1_step {C : Orc} {n : Nat} {S S1 T : List OS} {ac x4 x5 x6 x7 x8 : Option W} {l hp : List Str} {r : Int} {s : Str} (h8 : C 20 [.ref n, .v (.int l.length)] (S ++ T) = .ok (.v (.int r)) ⟨[], S1 ++ T⟩) (h0 : 0 ≤ r) (h1 : r < l.length) (hs : l[r.toNat]? = some s) (hl : l.length ≤ 100) (hh : hp.length ≤ 100) :
    exs C b1 [some (.ref n), ac, some (.v (.list (l.map .str))), some (.v (.list (hp.map .str))), x4, x5, x6, x7, x8] ⟨[], S ++ T⟩ =
      .nx [some (.ref n), ac, some (.v (.list ((l.filter fun x => !decide (x = s)).map .str))), some (.v (.list ((hp ++ [s]).map .str))), some (.v (.str s)), x5, x6, x7, x8] ⟨[], S1 ++ T⟩ := by
  have e1 : ex C (.asg (.nm 4) (.ix (.var 2) (.call 20 (.cons (.var 0) (.cons (.blt .len (.cons (.var 2) .nil)) .nil))))) [some (.ref n), ac, some (.v (.list (l.map .str))), some (.v (.list (hp.map .str))), x4, x5, x6, x7, x8] ⟨[], S ++ T⟩ = .nx [some (.ref n), ac, some (.v (.list (l.map .str))), some (.v (.list (hp.map .str))), some (.v (.str s)), x5, x6, x7, x8] ⟨[], S1 ++ T⟩ := by
    simp [runFn, exs, ex, ev, evAnd, evOr, evs, evO, evL, evIf, evI, asg, asgs, asT, asTs, setL, R.b, R.t, R.ne, RT.s, ofO, peek, peekT, peeks, isiD, tyOf, tyLe, truW, truD, wipe, args, binD, cmpD, eqD, inD, bltD, dmD, strsOf, asStr, intsOf, boolsOf, asInt, asBool, mk, allV, outW, itemsD, itemsW, itemsL, itemsT, ixW, atI, ixN, slW, cut, sIx, freeze, mthW, mtyW, setIxW, enmD, zipD, zipP, rgI, small, szL, isNW, maxI, minI, cl, isIns, noFld, fldW, putA, setFld, Mk.pre, Mk.post, h8, h0, h1, hs]
    have hr : r.toNat < l.length := by omega
    rw [List.getElem?_eq_getElem hr] at hs
    exact Option.some.inj hs
  have e2 : ex C (.asg (.nm 2) (.lst .fz (.comp [8] (.nm 8) (.seq (.var 2)) (.cons (.cmp .ne (.var 8) (.var 4)) .nil) (.var 8)))) [some (.ref n), ac, some (.v (.list (l.map .str))), some (.v (.list (hp.map .str))), some (.v (.str s)), x5, x6, x7, x8] ⟨[], S1 ++ T⟩ = .nx [some (.ref n), ac, some (.v (.list ((l.filter fun x => !decide (x = s)).map .str))), some (.v (.list (hp.map .str))), some (.v (.str s)), x5, x6, x7, x8] ⟨[], S1 ++ T⟩ := by
    have := filtQ (C := C) (own := [8]) (g := .nm 8) (src := .seq (.var 2)) (ift := .cmp .ne (.var 8) (.var 4)) (elt := .var 8) (ρ := [some (.ref n), ac, some (.v (.list (l.map .str))), some (.v (.list (hp.map .str))), some (.v (.str s)), x5, x6, x7, x8]) (m := ⟨[], S1 ++ T⟩) PyData.str PyData.str (fun x => !decide (x = s)) l (by simp [runFn, exs, ex, ev, evAnd, evOr, evs, evO, evL, evIf, evI, asg, asgs, asT, asTs, setL, R.b, R.t, R.ne, RT.s, ofO, peek, peekT, peeks, isiD, tyOf, tyLe, truW, truD, wipe, args, binD, cmpD, eqD, inD, bltD, dmD, strsOf, asStr, intsOf, boolsOf, asInt, asBool, mk, allV, outW, itemsD, itemsW, itemsL, itemsT, ixW, atI, ixN, slW, cut, sIx, freeze, mthW, mtyW, setIxW, enmD, zipD, zipP, rgI, small, szL, isNW, maxI, minI, cl, isIns, noFld, fldW, putA, setFld, Mk.pre, Mk.post]) (fun x hx => ⟨[some (.ref n), ac, some (.v (.list (l.map .str))), some (.v (.list (hp.map .str))), some (.v (.str s)), x5, x6, x7, some (.v (.str x))], by simp [runFn, exs, ex, ev, evAnd, evOr, evs, evO, evL, evIf, evI, asg, asgs, asT, asTs, setL, R.b, R.t, R.ne, RT.s, ofO, peek, peekT, peeks, isiD, tyOf, tyLe, truW, truD, wipe, args, binD, cmpD, eqD, inD, bltD, dmD, strsOf, asStr, intsOf, boolsOf, asInt, asBool, mk, allV, outW, itemsD, itemsW, itemsL, itemsT, ixW, atI, ixN, slW, cut, sIx, freeze, mthW, mtyW, setIxW, enmD, zipD, zipP, rgI, small, szL, isNW, maxI, minI, cl, isIns, noFld, fldW, putA, setFld, Mk.pre, Mk.post], by simp [runFn, exs, ex, ev, evAnd, evOr, evs, evO, evL, evIf, evI, asg, asgs, asT, asTs, setL, R.b, R.t, R.ne, RT.s, ofO, peek, peekT, peeks, isiD, tyOf, tyLe, truW, truD, wipe, args, binD, cmpD, eqD, inD, bltD, dmD, strsOf, asStr, intsOf, boolsOf, asInt, asBool, mk, allV, outW, itemsD, itemsW, itemsL, itemsT, ixW, atI, ixN, slW, cut, sIx, freeze, mthW, mtyW, setIxW, enmD, zipD, zipP, rgI, small, szL, isNW, maxI, minI, cl, isIns, noFld, fldW, putA, setFld, Mk.pre, Mk.post], by simp [runFn, exs, ex, ev, evAnd, evOr, evs, evO, evL, evIf, evI, asg, asgs, asT, asTs, setL, R.b, R.t, R.ne, RT.s, ofO, peek, peekT, peeks, isiD, tyOf, tyLe, truW, truD, wipe, args, binD, cmpD, eqD, inD, bltD, dmD, strsOf, asStr, intsOf, boolsOf, asInt, asBool, mk, allV, outW, itemsD, itemsW, itemsL, itemsT, ixW, atI, ixN, slW, cut, sIx, freeze, mthW, mtyW, setIxW, enmD, zipD, zipP, rgI, small, szL, isNW, maxI, minI, cl, isIns, noFld, fldW, putA, setFld, Mk.pre, Mk.post]⟩) (Nat.le_trans hl (by decide))
    rw [ex, this]
    simp [runFn, exs, ex, ev, evAnd, evOr, evs, evO, evL, evIf, evI, asg, asgs, asT, asTs, setL, R.b, R.t, R.ne, RT.s, ofO, peek, peekT, peeks, isiD, tyOf, tyLe, truW, truD, wipe, args, binD, cmpD, eqD, inD, bltD, dmD, strsOf, asStr, intsOf, boolsOf, asInt, asBool, mk, allV, outW, itemsD, itemsW, itemsL, itemsT, ixW, atI, ixN, slW, cut, sIx, freeze, mthW, mtyW, setIxW, enmD, zipD, zipP, rgI, small, szL, isNW, maxI, minI, cl, isIns, noFld, fldW, putA, setFld, Mk.pre, Mk.post]
  have e3 : ex C (.asg (.nm 3) (.bin .add (.var 3) (.lst .fz (.disp (.cons (.var 4) .nil))))) [some (.ref n), ac, some (.v (.list ((l.filter fun x => !decide (x = s)).map .str))), some (.v (.list (hp.map .str))), some (.v (.str s)), x5, x6, x7, x8] ⟨[], S1 ++ T⟩ = .nx [some (.ref n), ac, some (.v (.list ((l.filter fun x => !decide (x = s)).map .str))), some (.v (.list ((hp ++ [s]).map .str))), some (.v (.str s)), x5, x6, x7, x8] ⟨[], S1 ++ T⟩ := by
    have : hp.length + 1 ≤ 16777216 := by omega
    simp [runFn, exs, ex, ev, evAnd, evOr, evs, evO, evL, evIf, evI, asg, asgs, asT, asTs, setL, R.b, R.t, R.ne, RT.s, ofO, peek, peekT, peeks, isiD, tyOf, tyLe, truW, truD, wipe, args, binD, cmpD, eqD, inD, bltD, dmD, strsOf, asStr, intsOf, boolsOf, asInt, asBool, mk, allV, outW, itemsD, itemsW, itemsL, itemsT, ixW, atI, ixN, slW, cut, sIx, freeze, mthW, mtyW, setIxW, enmD, zipD, zipP, rgI, small, szL, isNW, maxI, minI, cl, isIns, noFld, fldW, putA, setFld, Mk.pre, Mk.post, this]
  unfold b1
  rw [exs_nx e1, exs_nx e2, exs_nx e3, exs]
theorem perm_out {l : List Str} (hn : l.Nodup) {s : Str} (hs : s ∈ l) : (s :: l.filter fun x => !decide (x = s)).Perm l ∧ (l.filter fun x => !decide (x = s)).length + 1 = l.length := by
  have e : (l.filter fun x => !decide (x = s)) = l.erase s := by
    rw [hn.erase_eq_filter]
    congr 1
  rw [e]
  have := (List.perm_cons_erase hs).symm
  exact ⟨this, by rw [← this.length_eq]; simp⟩
theorem b1_loop (k : Nat) {n : Nat} {T : List OS} {ac x5 x6 x7 x8 : Option W} : ∀ (q : Nat) (l : List Str) (hp : List Str) (x4 : Option W) (fuel : Nat) {N : Nat} {S : List OS}, l.length = q → Urn N n S → N + q ≤ 1000000 → l.Nodup → Ok l → l.length + hp.length ≤ 100 → q < fuel →
    ∃ (hp' : List Str) (y4 : Option W) (S1 : List OS), whileR (fun ρ m => (ev (callP fs (k + 1)) k1 ρ m).b fun x m => ofO (truW m x) m) (exs (callP fs (k + 1)) b1) fuel [some (.ref n), ac, some (.v (.list (l.map .str))), some (.v (.list (hp.map .str))), x4, x5, x6, x7, x8] ⟨[], S ++ T⟩
      = .nx [some (.ref n), ac, some (.v (.list [])), some (.v (.list (hp'.map .str))), y4, x5, x6, x7, x8] ⟨[], S1 ++ T⟩ ∧ hp'.Perm (hp ++ l) ∧ Urn (N + q) n S1 ∧ S1.length = S.length := by
  intro q
  induction q with
  | zero =>
    intro l hp x4 fuel N S hl hU hN hn ho hh hf
    obtain ⟨f, rfl⟩ : ∃ j, fuel = j + 1 := ⟨fuel - 1, by omega⟩
    cases l with
    | cons x r => simp at hl
    | nil =>
      refine ⟨hp, x4, S, ?_, by simp, hU, rfl⟩
      have := lne (l := []) (fun s hs => absurd hs List.not_mem_nil)
      simp only [List.map_nil] at this ⊢
      simp [whileR, k1, runFn, exs, ex, ev, evAnd, evOr, evs, evO, evL, evIf, evI, asg, asgs, asT, asTs, setL, R.b, R.t, R.ne, RT.s, ofO, peek, peekT, peeks, isiD, tyOf, tyLe, truW, truD, wipe, args, binD, bltD, dmD, strsOf, asStr, intsOf, boolsOf, asInt, asBool, mk, allV, outW, itemsD, itemsW, itemsL, itemsT, ixW, atI, ixN, slW, cut, sIx, freeze, mthW, mtyW, setIxW, enmD, zipD, zipP, rgI, small, szL, isNW, maxI, minI, cl, isIns, noFld, fldW, putA, setFld, Mk.pre, Mk.post, this]
  | succ q ih =>
    intro l hp x4 fuel N S hl hU hN hn ho hh hf
    obtain ⟨f, rfl⟩ : ∃ j, fuel = j + 1 := ⟨fuel - 1, by omega⟩
    obtain ⟨r, S1, el, e, r0, r1, hU1⟩ := c8 hU (by omega) (low := (l.length : Int)) (by omega) (by have := cap20; omega) k T
    have hr : r.toNat < l.length := by omega
    have st := b1_step (ac := ac) (x4 := x4) (x5 := x5) (x6 := x6) (x7 := x7) (x8 := x8) (hp := hp) e r0 r1 (List.getElem?_eq_getElem hr) (by omega) (by omega)
    obtain ⟨hp1, hp2⟩ := perm_out hn (List.getElem_mem hr)
    generalize l[r.toNat] = s at *
    obtain ⟨hp', y4, S2, e2, g1, g2, g3⟩ := ih (l.filter fun x => !decide (x = s)) (hp ++ [s]) (some (.v (.str s))) f (by omega) hU1 (by omega) (hn.sublist List.filter_sublist) (fun x hx => ho x ((List.mem_filter.mp hx).1)) (by simp only [List.length_append, List.length_singleton]; omega) (by omega)
    refine ⟨hp', y4, S2, ?_, ?_, by rw [show N + (q + 1) = N + 1 + q by omega]; exact g2, by omega⟩
    · have hk := lne ho
      have hi : l.isEmpty = false := by cases l <;> simp at hl ⊢
      rw [hi] at hk
      have hc : ((ev (callP fs (k + 1)) k1 [some (.ref n), ac, some (.v (.list (l.map .str))), some (.v (.list (hp.map .str))), x4, x5, x6, x7, x8] ⟨[], S ++ T⟩).b fun x m => ofO (truW m x) m) = .ok true ⟨[], S ++ T⟩ := by
        simp [k1, runFn, exs, ex, ev, evAnd, evOr, evs, evO, evL, evIf, evI, asg, asgs, asT, asTs, setL, R.b, R.t, R.ne, RT.s, ofO, peek, peekT, peeks, isiD, tyOf, tyLe, truW, truD, wipe, args, binD, bltD, dmD, strsOf, asStr, intsOf, boolsOf, asInt, asBool, mk, allV, outW, itemsD, itemsW, itemsL, itemsT, ixW, atI, ixN, slW, cut, sIx, freeze, mthW, mtyW, setIxW, enmD, zipD, zipP, rgI, small, szL, isNW, maxI, minI, cl, isIns, noFld, fldW, putA, setFld, Mk.pre, Mk.post, hk]
      rw [whileR, hc]
      simp only [R.t, if_true]
      rw [st]
      exact e2
    · refine g1.trans ?_
      rw [List.append_assoc, List.singleton_append]
      exact List.Perm.append_left hp hp1
/-! the second loop -/
theorem cut_a {α : Type} (h : List α) {p : Nat} (hp : p ≤ h.length) : cut h none (some (p : Int)) = h.take p := by
  have h1 : ¬ ((p : Int) < 0) := by omega
  simp [cut, sIx, h1, Nat.min_eq_left hp]
theorem cut_b {α : Type} (h : List α) {p m : Nat} (hp : p ≤ h.length) : cut h (some (p : Int)) (some ((p : Int) + (m : Int))) = (h.drop p).take m := by
  have h1 : ¬ ((p : Int) < 0) := by omega
  have h2 : ¬ ((p : Int) + (m : Int) < 0) := by omega
  have h3 : ((p : Int) + (m : Int)).toNat = p + m := by omega
  simp only [cut, sIx, if_neg h1, if_neg h2, h3, Int.toNat_natCast, Nat.min_eq_left hp]
  by_cases hm : p + m ≤ h.length
  · rw [Nat.min_eq_left hm, Nat.add_sub_cancel_left]
  · rw [Nat.min_eq_right (by omega), List.take_of_length_le (by simp), List.take_of_length_le (by simp; omega)]
theorem cut_c {α : Type} (h : List α) {p m : Nat} : cut h (some ((p : Int) + (m : Int))) none = h.drop (p + m) := by
  have h2 : ¬ ((p : Int) + (m : Int) < 0) := by omega
  have h3 : ((p : Int) + (m : Int)).toNat = p + m := by omega
  simp only [cut, sIx, if_neg h2, h3]
  by_cases hm : p + m ≤ h.length
  · rw [Nat.min_eq_left hm, List.take_of_length_le (by simp)]
  · rw [Nat.min_eq_right (by omega)]
    simp
    omega
theorem cut_map {α β : Type} (f : α → β) (h : List α) (lo hi : Option Int) : cut (h.map f) lo hi = (cut h lo hi).map f := by
  simp [cut, List.map_take, List.map_drop]
def b2a : T := .par [5, 6] (.cons (.call 20 (.cons (.var 0) (.cons (.bin .sub (.blt .len (.cons (.var 3) .nil)) (.cst (.int 1))) .nil))) (.cons (.bin .add (.cst (.int 2)) (.call 20 (.cons (.var 0) (.cons (.cst (.int 2)) .nil)))) .nil))
def b2b : T := .asg (.nm 7) (.bin .add (.tup (.cons (.call 35 (.cons (.var 0) (.cons (.lst .fz (.disp (.cons (.cst (.str "and")) (.cons (.cst (.str "then")) (.cons (.cst (.str "or")) .nil))))) .nil))) .nil)) (.blt .tuple (.cons (.sl (.var 3) (.some (.var 5)) (.some (.bin .add (.var 5) (.var 6)))) .nil)))
def b2c : T := .asg (.nm 3) (.bin .add (.bin .add (.sl (.var 3) .none (.some (.var 5))) (.lst .fz (.disp (.cons (.var 7) .nil)))) (.sl (.var 3) (.some (.bin .add (.var 5) (.var 6))) .none))
def b2 : TS := .cons b2a (.cons b2b (.cons b2c .nil))
def k2 : E := .cmp .gt (.blt .len (.cons (.var 3) .nil)) (.cst (.int 1))
theorem b2_step {C : Orc} {n : Nat} {S S1 S2 S3 T : List OS} {ac l4 x2 x5 x6 x7 x8 : Option W} {h : List Fm} {p m : Nat} {w : Wo} (e1 : C 20 [.ref n, .v (.int ((h.length : Int) - 1))] (S ++ T) = .ok (.v (.int p)) ⟨[], S1 ++ T⟩)
    (e2 : C 20 [.ref n, .v (.int 2)] (S1 ++ T) = .ok (.v (.int m)) ⟨[], S2 ++ T⟩) (e3 : C 35 [.ref n, .v (.list [.str "and", .str "then", .str "or"])] (S2 ++ T) = .ok (.v (.str w.s)) ⟨[], S3 ++ T⟩) (hp : p ≤ h.length) (hl : h.length ≤ 100) :
    exs C b2 [some (.ref n), ac, x2, some (.v (.list (h.map Fm.D))), l4, x5, x6, x7, x8] ⟨[], S ++ T⟩ =
      .nx [some (.ref n), ac, x2, some (.v (.list ((h.take p).map Fm.D ++ [.tuple (.str w.s :: ((h.drop p).take (2 + m)).map Fm.D)] ++ (h.drop (p + (2 + m))).map Fm.D))), l4, some (.v (.int p)), some (.v (.int (2 + m))), some (.v (.tuple (.str w.s :: ((h.drop p).take (2 + m)).map Fm.D))), x8] ⟨[], S3 ++ T⟩ := by
  have a1 : ex C b2a [some (.ref n), ac, x2, some (.v (.list (h.map Fm.D))), l4, x5, x6, x7, x8] ⟨[], S ++ T⟩ = .nx [some (.ref n), ac, x2, some (.v (.list (h.map Fm.D))), l4, some (.v (.int p)), some (.v (.int (2 + m))), x7, x8] ⟨[], S2 ++ T⟩ := by
    simp [b2a, runFn, exs, ex, ev, evAnd, evOr, evs, evO, evL, evIf, evI, asg, asgs, asT, asTs, setL, R.b, R.t, R.ne, RT.s, ofO, peek, peekT, peeks, isiD, tyOf, tyLe, truW, truD, wipe, args, binD, cmpD, eqD, inD, bltD, dmD, strsOf, asStr, intsOf, boolsOf, asInt, asBool, mk, allV, outW, itemsD, itemsW, itemsL, itemsT, ixW, atI, ixN, slW, freeze, mthW, mtyW, setIxW, enmD, zipD, zipP, rgI, small, szL, isNW, maxI, minI, cl, isIns, noFld, fldW, putA, setFld, Mk.pre, Mk.post, e1, e2]
  have cb : cut (h.map Fm.D) (some (p : Int)) (some ((p : Int) + (2 + (m : Int)))) = ((h.drop p).take (2 + m)).map Fm.D := by
    rw [cut_map]
    exact congrArg _ (cut_b (m := 2 + m) h hp)
  have ca : cut (h.map Fm.D) none (some (p : Int)) = (h.take p).map Fm.D := by rw [cut_map, cut_a h hp]
  have cc : cut (h.map Fm.D) (some ((p : Int) + (2 + (m : Int)))) none = (h.drop (p + (2 + m))).map Fm.D := by
    rw [cut_map]
    exact congrArg _ (cut_c (m := 2 + m) h)
  have a2 : ex C b2b [some (.ref n), ac, x2, some (.v (.list (h.map Fm.D))), l4, some (.v (.int p)), some (.v (.int (2 + m))), x7, x8] ⟨[], S2 ++ T⟩ = .nx [some (.ref n), ac, x2, some (.v (.list (h.map Fm.D))), l4, some (.v (.int p)), some (.v (.int (2 + m))), some (.v (.tuple (.str w.s :: ((h.drop p).take (2 + m)).map Fm.D))), x8] ⟨[], S3 ++ T⟩ := by
    have hz : 1 + (((h.drop p).take (2 + m)).map Fm.D).length ≤ 16777216 := by simp; omega
    generalize ((h.drop p).take (2 + m)).map Fm.D = L at cb hz ⊢
    simp [b2b, runFn, exs, ex, ev, evAnd, evOr, evs, evO, evL, evIf, evI, asg, asgs, asT, asTs, setL, R.b, R.t, R.ne, RT.s, ofO, peek, peekT, peeks, isiD, tyOf, tyLe, truW, truD, wipe, args, binD, cmpD, eqD, inD, bltD, dmD, strsOf, asStr, intsOf, boolsOf, asInt, asBool, mk, allV, outW, itemsD, itemsW, itemsL, itemsT, ixW, atI, ixN, slW, freeze, mthW, mtyW, setIxW, enmD, zipD, zipP, rgI, small, szL, isNW, maxI, minI, cl, isIns, noFld, fldW, putA, setFld, Mk.pre, Mk.post, e3, cb, hz]
  have a3 : ex C b2c [some (.ref n), ac, x2, some (.v (.list (h.map Fm.D))), l4, some (.v (.int p)), some (.v (.int (2 + m))), some (.v (.tuple (.str w.s :: ((h.drop p).take (2 + m)).map Fm.D))), x8] ⟨[], S3 ++ T⟩ = .nx [some (.ref n), ac, x2, some (.v (.list ((h.take p).map Fm.D ++ [.tuple (.str w.s :: ((h.drop p).take (2 + m)).map Fm.D)] ++ (h.drop (p + (2 + m))).map Fm.D))), l4, some (.v (.int p)), some (.v (.int (2 + m))), some (.v (.tuple (.str w.s :: ((h.drop p).take (2 + m)).map Fm.D))), x8] ⟨[], S3 ++ T⟩ := by
    have z1 : ((h.take p).map Fm.D).length + 1 ≤ 16777216 := by simp; omega
    have z2 : ((h.take p).map Fm.D).length + 1 + ((h.drop (p + (2 + m))).map Fm.D).length ≤ 16777216 := by simp; omega
    generalize ((h.drop p).take (2 + m)).map Fm.D = L
    generalize (h.take p).map Fm.D = L1 at ca z1 z2 ⊢
    generalize (h.drop (p + (2 + m))).map Fm.D = L2 at cc z2 ⊢
    have z3 : L1.length + (L2.length + 1) ≤ 16777216 := by omega
    have z4 : L1.length + 1 + L2.length ≤ 16777216 := by omega
    simp [b2c, runFn, exs, ex, ev, evAnd, evOr, evs, evO, evL, evIf, evI, asg, asgs, asT, asTs, setL, R.b, R.t, R.ne, RT.s, ofO, peek, peekT, peeks, isiD, tyOf, tyLe, truW, truD, wipe, args, binD, cmpD, eqD, inD, bltD, dmD, strsOf, asStr, intsOf, boolsOf, asInt, asBool, mk, allV, outW, itemsD, itemsW, itemsL, itemsT, ixW, atI, ixN, slW, freeze, mthW, mtyW, setIxW, enmD, zipD, zipP, rgI, small, szL, isNW, maxI, minI, cl, isIns, noFld, fldW, putA, setFld, Mk.pre, Mk.post, ca, cc, z1, z3, z4]
  unfold b2
  rw [exs_nx a1, exs_nx a2, exs_nx a3, exs]
theorem split_rows (h : List Fm) (p m : Nat) : h.flatMap Fm.row = (h.take p).flatMap Fm.row ++ (((h.drop p).take m).flatMap Fm.row ++ (h.drop (p + m)).flatMap Fm.row) := by
  rw [← List.flatMap_append, ← List.flatMap_append, ← List.drop_drop, List.take_append_drop, List.take_append_drop]
mutual
/-- two or three parts in each node -/
def Fm.t23 : Fm → Bool
  | .act _ => true
  | .node _ p ps => p.t23 && (ps.t23s && (decide (1 ≤ ps.len) && decide (ps.len ≤ 2)))
def Fms.t23s : Fms → Bool
  | .nil => true
  | .cons p r => p.t23 && r.t23s
end
theorem mkS_t23 : ∀ l : List Fm, (∀ f ∈ l, f.t23 = true) → (mkS l).t23s = true
  | [], _ => rfl
  | x :: r, h => by
    show (x.t23 && (mkS r).t23s) = true
    rw [h x (by simp), mkS_t23 r (fun f hf => h f (by simp [hf]))]
    rfl
theorem mkS_len : ∀ l : List Fm, (mkS l).len = l.length
  | [] => rfl
  | x :: r => congrArg (· + 1) (mkS_len r)
theorem node_of (w : Wo) : ∀ (l : List Fm) (d : Nat), 2 ≤ l.length → l.length ≤ 3 → (∀ f ∈ l, f.dep ≤ d) → (∀ f ∈ l, f.t23 = true) → ∃ f : Fm, f.D = .tuple (.str w.s :: l.map Fm.D) ∧ f.row = l.flatMap Fm.row ∧ f.dep ≤ d + 1 ∧ f.ne = true ∧ f.t23 = true
  | x :: r, d, h2, h3, hd, ht => by
    rw [List.length_cons] at h2 h3
    refine ⟨.node w x (mkS r), ?_, ?_, ?_, rfl, ?_⟩
    rotate_left 3
    · show (x.t23 && ((mkS r).t23s && (decide (1 ≤ (mkS r).len) && decide ((mkS r).len ≤ 2)))) = true
      rw [ht x (by simp), mkS_t23 r (fun f hf => ht f (by simp [hf])), mkS_len]
      simp
      omega
    · show PyData.tuple (.str w.s :: x.D :: (mkS r).Ds) = _
      rw [Ds_l, mkS_l]
      rfl
    · show x.row ++ (mkS r).rows = _
      rw [rows_l, mkS_l, List.flatMap_cons]
    · show max x.dep (mkS r).deps + 1 ≤ d + 1
      have h1 := hd x (by simp)
      have h2 := (deps_l (mkS r) d).mpr (by rw [mkS_l]; exact fun f hf => hd f (by simp [hf]))
      omega
theorem b2_loop (k : Nat) {n : Nat} {T : List OS} {ac x2 x4 x8 : Option W} {rw_ : List Str} : ∀ (q : Nat) (h : List Fm) (d : Nat) (x5 x6 x7 : Option W) (fuel : Nat) {N : Nat} {S : List OS}, h.length ≤ q + 1 → 1 ≤ h.length → Urn N n S → N + 3 * q ≤ 1000000 → h.flatMap Fm.row = rw_ → (∀ f ∈ h, f.dep ≤ d ∧ f.ne = true ∧ f.t23 = true) → h.length ≤ 100 → q < fuel →
    ∃ (f : Fm) (y5 y6 y7 : Option W) (S1 : List OS), whileR (fun ρ m => (ev (callP fs (k + 2)) k2 ρ m).b fun x m => ofO (truW m x) m) (exs (callP fs (k + 2)) b2) fuel [some (.ref n), ac, x2, some (.v (.list (h.map Fm.D))), x4, x5, x6, x7, x8] ⟨[], S ++ T⟩
      = .nx [some (.ref n), ac, x2, some (.v (.list [f.D])), x4, y5, y6, y7, x8] ⟨[], S1 ++ T⟩ ∧ f.row = rw_ ∧ f.dep ≤ d + q ∧ f.ne = true ∧ f.t23 = true ∧ Urn (N + 3 * q) n S1 ∧ S1.length = S.length := by
  intro q
  induction q with
  | zero =>
    intro h d x5 x6 x7 fuel N S hl h1 hU hN hr hd hh hf
    obtain ⟨f, rfl⟩ : ∃ j, fuel = j + 1 := ⟨fuel - 1, by omega⟩
    match h, hl, h1, hr, hd with
    | [x], _, _, hr, hd =>
      refine ⟨x, x5, x6, x7, S, ?_, by simpa using hr, (hd x (by simp)).1, (hd x (by simp)).2.1, (hd x (by simp)).2.2, hU, rfl⟩
      simp [whileR, k2, runFn, exs, ex, ev, evAnd, evOr, evs, evO, evL, evIf, evI, asg, asgs, asT, asTs, setL, R.b, R.t, R.ne, RT.s, ofO, peek, peekT, peeks, isiD, tyOf, tyLe, truW, truD, wipe, args, binD, cmpD, eqD, inD, bltD, dmD, strsOf, asStr, intsOf, boolsOf, asInt, asBool, mk, allV, outW, itemsD, itemsW, itemsL, itemsT, ixW, atI, ixN, slW, cut, sIx, freeze, mthW, mtyW, setIxW, enmD, zipD, zipP, rgI, small, szL, isNW, maxI, minI, cl, isIns, noFld, fldW, putA, setFld, Mk.pre, Mk.post]
  | succ q ih =>
    intro h d x5 x6 x7 fuel N S hl h1 hU hN hr hd hh hf
    obtain ⟨fu, rfl⟩ : ∃ j, fuel = j + 1 := ⟨fuel - 1, by omega⟩
    by_cases h2 : h.length = 1
    · match h, h2, hr, hd with
      | [x], _, hr, hd =>
        refine ⟨x, x5, x6, x7, S, ?_, by simpa using hr, Nat.le_trans (hd x (by simp)).1 (by omega), (hd x (by simp)).2.1, (hd x (by simp)).2.2, hU.le (by omega), rfl⟩
        simp [whileR, k2, runFn, exs, ex, ev, evAnd, evOr, evs, evO, evL, evIf, evI, asg, asgs, asT, asTs, setL, R.b, R.t, R.ne, RT.s, ofO, peek, peekT, peeks, isiD, tyOf, tyLe, truW, truD, wipe, args, binD, cmpD, eqD, inD, bltD, dmD, strsOf, asStr, intsOf, boolsOf, asInt, asBool, mk, allV, outW, itemsD, itemsW, itemsL, itemsT, ixW, atI, ixN, slW, cut, sIx, freeze, mthW, mtyW, setIxW, enmD, zipD, zipP, rgI, small, szL, isNW, maxI, minI, cl, isIns, noFld, fldW, putA, setFld, Mk.pre, Mk.post]
    · have c20 := cap20
      obtain ⟨r, S1, l1, e1, r0, r1, hU1⟩ := c8 hU (by omega) (low := (h.length : Int) - 1) (by omega) (by omega) (k + 1) T
      obtain ⟨mm, S2, l2, e2, m0, m1, hU2⟩ := c8 hU1 (by omega) (low := 2) (by omega) (by omega) (k + 1) T
      obtain ⟨x, S3, hx, l3, e3, hU3⟩ := c23 hU2 (by omega) [.str "and", .str "then", .str "or"] (by simp) (by simp) k T
      obtain ⟨w, rfl⟩ : ∃ w : Wo, x = .str w.s := by
        simp only [List.mem_cons, List.not_mem_nil, or_false] at hx
        rcases hx with rfl | rfl | rfl
        · exact ⟨.a, rfl⟩
        · exact ⟨.t, rfl⟩
        · exact ⟨.o, rfl⟩
      obtain ⟨p, rfl⟩ : ∃ p : Nat, r = p := ⟨r.toNat, by omega⟩
      obtain ⟨m, rfl⟩ : ∃ m : Nat, mm = m := ⟨mm.toNat, by omega⟩
      have st := b2_step (ac := ac) (l4 := x4) (x2 := x2) (x5 := x5) (x6 := x6) (x7 := x7) (x8 := x8) (w := w) e1 e2 e3 (by omega) hh
      have sp := split_rows h p (2 + m)
      obtain ⟨f, f1, f2, f3, f4, f5⟩ := node_of w ((h.drop p).take (2 + m)) d (by simp; omega) (by simp; omega) (fun g hg => (hd g (List.mem_of_mem_drop (List.mem_of_mem_take hg))).1) (fun g hg => (hd g (List.mem_of_mem_drop (List.mem_of_mem_take hg))).2.2)
      rw [← f1] at st
      have eh : (h.take p).map Fm.D ++ [f.D] ++ (h.drop (p + (2 + m))).map Fm.D = (h.take p ++ [f] ++ h.drop (p + (2 + m))).map Fm.D := by simp
      rw [eh] at st
      obtain ⟨g, y5, y6, y7, S4, e4, g1, g2, g3, g3b, g4, g5⟩ := ih (h.take p ++ [f] ++ h.drop (p + (2 + m))) (d + 1) (some (.v (.int p))) (some (.v (.int (2 + m)))) (some (.v f.D)) fu (by simp; omega) (by simp; omega) hU3 (by omega)
        (by rw [← hr, sp, List.flatMap_append, List.flatMap_append, ← f2]; simp) (fun g hg => by
          rcases List.mem_append.mp hg with hg | hg
          · rcases List.mem_append.mp hg with hg | hg
            · have := hd g (List.mem_of_mem_take hg)
              exact ⟨by omega, this.2⟩
            · rw [List.mem_singleton.mp hg]
              exact ⟨f3, f4, f5⟩
          · have := hd g (List.mem_of_mem_drop hg)
            exact ⟨by omega, this.2⟩) (by simp; omega) (by omega)
      refine ⟨g, y5, y6, y7, S4, ?_, g1, by omega, g3, g3b, by rw [show N + 3 * (q + 1) = N + 1 + 1 + 1 + 3 * q by omega]; exact g4, by omega⟩
      have hc : ((ev (callP fs (k + 2)) k2 [some (.ref n), ac, x2, some (.v (.list (h.map Fm.D))), x4, x5, x6, x7, x8] ⟨[], S ++ T⟩).b fun x m => ofO (truW m x) m) = .ok true ⟨[], S ++ T⟩ := by
        have : (1 : Int) < (h.length : Int) := by omega
        simp [k2, runFn, exs, ex, ev, evAnd, evOr, evs, evO, evL, evIf, evI, asg, asgs, asT, asTs, setL, R.b, R.t, R.ne, RT.s, ofO, peek, peekT, peeks, isiD, tyOf, tyLe, truW, truD, wipe, args, binD, cmpD, eqD, inD, bltD, dmD, strsOf, asStr, intsOf, boolsOf, asInt, asBool, mk, allV, outW, itemsD, itemsW, itemsL, itemsT, ixW, atI, ixN, slW, cut, sIx, freeze, mthW, mtyW, setIxW, enmD, zipD, zipP, rgI, small, szL, isNW, maxI, minI, cl, isIns, noFld, fldW, putA, setFld, Mk.pre, Mk.post, this]
      rw [whileR, hc]
      simp only [R.t, if_true]
      rw [st]
      exact e4
end L
set_option maxHeartbeats 8000000
/-! Q7: _law_body, _law_row. -/
namespace L
open PySem Z
theorem ex_while {C : Orc} {q : Nat} {c : E} {b : TS} {ρ : Z.Env} {m : Mem} : ex C (.while q c b) ρ m = whileR (fun ρ m => (ev C c ρ m).b fun x m => ofO (truW m x) m) (exs C b) q ρ m := by
  simp only [ex] <;> rfl
theorem body_eq : F_law_body = ⟨2, 9, .cons (.par [2, 3] (.cons (.lst .fz (.of (.var 1))) (.cons (.lst .fz (.disp .nil)) .nil))) (.cons (.while 1000 k1 b1) (.cons (.while 1000 k2 b2) (.cons (.ret (.ite (.cmp .ne (.var 3) (.lst .fz (.disp .nil))) (.ix (.var 3) (.cst (.int 0))) (.tup .nil))) .nil)))⟩ := rfl
theorem one_ne (f : Fm) (hd : f.dep ≤ 63) (h : ∀ s ∈ f.row, PyData.canLay0 (.str s) = true) : cmpD .ne (.list [f.D]) (.list []) = some true := by
  have h1 : shp (.list [f.D]) = true := by
    simp [shp, nod, nods, SeqAt.shaped, PyData.canLay0, PyData.canLayAll0, D_nod, D_lay f h, PyData.depth, PyData.depthAll, D_depth]
    omega
  have h2 : shp (.list []) = true := by decide +kernel
  show (eqD (.list _) (.list [])).map _ = _
  simp [eqD, h1, h2, PyData.eqv, PyData.eqvAll]
theorem act_rows (l : List Str) : (l.map Fm.act).flatMap Fm.row = l := by
  induction l with
  | nil => rfl
  | cons x r ih => simp [Fm.row, ih]
theorem act_D (l : List Str) : (l.map Fm.act).map Fm.D = l.map .str := by simp [Fm.D, Function.comp_def]
theorem c13 {N n : Nat} {S : List OS} (hU : Urn N n S) {A : List Str} (hN : N + 4 * A.length ≤ 1000000) (hn : A.Nodup) (ho : Ok A) (ha : ∀ s ∈ A, (Fm.act s).ne = true) (h1 : 1 ≤ A.length) (h2 : A.length ≤ 50) (k : Nat) (T : List OS) :
    ∃ (f : Fm) (S1 : List OS), callP fs (k + 3) 19 [.ref n, .v (fD A)] (S ++ T) = .ok (.v f.D) ⟨[], S1 ++ T⟩ ∧ f.row.Perm A ∧ f.dep ≤ A.length ∧ f.ne = true ∧ f.t23 = true ∧ Urn (N + 4 * A.length) n S1 ∧ S1.length = S.length := by
  obtain ⟨hp, y4, S1, e1, p1, u1, l1⟩ := b1_loop (k + 1) (T := T) (ac := some (.v (fD A))) (x5 := none) (x6 := none) (x7 := none) (x8 := none) A.length A [] none 1000 rfl hU (by omega) hn ho (by simp; omega) (by omega)
  rw [List.nil_append] at p1
  have pl := p1.length_eq
  obtain ⟨f, y5, y6, y7, S2, e2, r2, d2, n2, t2, u2, l2⟩ := b2_loop k (T := T) (ac := some (.v (fD A))) (x2 := some (.v (.list []))) (x4 := y4) (x8 := none) (rw_ := hp) A.length (hp.map Fm.act) 0 none none none 1000 (by simp; omega) (by simp; omega) u1 (by omega) (act_rows hp) (fun g hg => by
    obtain ⟨s, hs, rfl⟩ := List.mem_map.mp hg
    exact ⟨Nat.le_refl _, ha s (p1.mem_iff.mp hs), rfl⟩) (by simp; omega) (by omega)
  have hr : f.row.Perm A := by rw [r2]; exact p1
  refine ⟨f, S2, ?_, hr, by omega, n2, t2, u2.le (by omega), by omega⟩
  have ne := one_ne f (by omega) (fun s hs => ho s (hr.mem_iff.mp hs))
  rw [act_D] at e2
  have a0 : ex (callP fs (k + 2)) (.par [2, 3] (.cons (.lst .fz (.of (.var 1))) (.cons (.lst .fz (.disp .nil)) .nil))) [some (.ref n), some (.v (fD A)), none, none, none, none, none, none, none] ⟨[], S ++ T⟩ = .nx [some (.ref n), some (.v (fD A)), some (.v (.list (A.map .str))), some (.v (.list [])), none, none, none, none, none] ⟨[], S ++ T⟩ := by
    have : A.length ≤ 16777216 := by omega
    have av := allV_mapQ PyData.str A
    simp [runFn, exs, ex, ev, evAnd, evOr, evs, evO, evL, evIf, evI, asg, asgs, asT, asTs, setL, R.b, R.t, R.ne, RT.s, ofO, peek, peekT, peeks, isiD, tyOf, tyLe, truW, truD, wipe, args, binD, cmpD, eqD, inD, bltD, dmD, strsOf, asStr, intsOf, boolsOf, asInt, asBool, mk, allV, outW, itemsD, itemsW, itemsL, itemsT, ixW, atI, ixN, slW, cut, sIx, freeze, mthW, mtyW, setIxW, enmD, zipD, zipP, rgI, small, szL, isNW, maxI, minI, cl, isIns, noFld, fldW, putA, setFld, Mk.pre, Mk.post, fD, this]
    rw [show (W.v ∘ PyData.str) = (fun x => W.v (PyData.str x)) from rfl, av]
    rfl
  refine run_of (C := callP fs (k + 2)) (f := F_law_body) (m := ⟨[], S2 ++ T⟩) (r := .v f.D) rfl rfl ?_
  rw [body_eq]
  dsimp only
  refine (exs_nx a0).trans ((exs_nx (ex_while.trans e1)).trans ((exs_nx (ex_while.trans e2)).trans ?_))
  simp [runFn, exs, ex, ev, evAnd, evOr, evs, evO, evL, evIf, evI, asg, asgs, asT, asTs, setL, R.b, R.t, R.ne, RT.s, ofO, peek, peekT, peeks, isiD, tyOf, tyLe, truW, truD, wipe, args, binD, bltD, dmD, strsOf, asStr, intsOf, boolsOf, asInt, asBool, mk, allV, outW, itemsD, itemsW, itemsL, itemsT, ixW, atI, ixN, slW, cut, sIx, freeze, mthW, mtyW, setIxW, enmD, zipD, zipP, rgI, small, szL, isNW, maxI, minI, cl, isIns, noFld, fldW, putA, setFld, Mk.pre, Mk.post, ne]
end L
set_option maxHeartbeats 8000000
/-! Q8: what is true of what is done. -/
namespace L
open PySem Z
abbrev nmsR (r : Rs) : List Str := r.1.map (·.1)
theorem gtl_sub (w : Wo) : ∀ (l : List Rs) (acc : Rs), (nmsR (gtl w l acc)).Sublist (nmsR acc ++ l.flatMap nmsR)
  | [], acc => by simp [gtl]
  | r :: q, acc => by
    rw [gtl, List.flatMap_cons]
    split
    · simp only [nmsR, List.map_append]
      rw [← List.append_assoc]
      exact List.sublist_append_left _ _
    · have := gtl_sub w q (acc.1 ++ r.1, nxe w acc.2 r.2)
      simp only [nmsR, List.map_append, List.append_assoc] at this ⊢
      exact this
mutual
theorem gt_sub (F : List Str) : ∀ f : Fm, (nmsR (gt F f)).Sublist f.row
  | .act s => by simp [gt, Fm.row, nmsR]
  | .node w p ps => by
    refine (gtl_sub w (gt F p :: gts F ps) ([], none)).trans ?_
    show ([] ++ (gt F p :: gts F ps).flatMap nmsR).Sublist (p.row ++ ps.rows)
    rw [List.nil_append, List.flatMap_cons]
    exact List.Sublist.append (gt_sub F p) (gts_sub F ps)
theorem gts_sub (F : List Str) : ∀ ps : Fms, ((gts F ps).flatMap nmsR).Sublist ps.rows
  | .nil => List.Sublist.refl _
  | .cons p r => by
    show ((gt F p :: gts F r).flatMap nmsR).Sublist (p.row ++ r.rows)
    rw [List.flatMap_cons]
    exact List.Sublist.append (gt_sub F p) (gts_sub F r)
end
def Good (F : List Str) (r : Rs) : Prop := (∀ p ∈ r.1, p.2 = !F.contains p.1) ∧ ∀ s, r.2 = some s → F.contains s = true ∧ s ∈ nmsR r
theorem good_step (F : List Str) (w : Wo) {a r : Rs} (ha : Good F a) (hr : Good F r) : Good F (a.1 ++ r.1, nxe w a.2 r.2) := by
  refine ⟨fun p hp => ?_, fun s hs => ?_⟩
  · rcases List.mem_append.mp hp with hp | hp
    · exact ha.1 p hp
    · exact hr.1 p hp
  · have : nxe w a.2 r.2 = a.2 ∨ nxe w a.2 r.2 = r.2 := by
      unfold nxe
      split
      · exact .inl rfl
      · exact .inr rfl
    have hs : nxe w a.2 r.2 = some s := hs
    simp only [nmsR, List.map_append, List.mem_append]
    rcases this with e | e <;> rw [e] at hs
    · exact ⟨(ha.2 s hs).1, .inl (ha.2 s hs).2⟩
    · exact ⟨(hr.2 s hs).1, .inr (hr.2 s hs).2⟩
theorem gtl_good (F : List Str) (w : Wo) : ∀ (l : List Rs) (acc : Rs), Good F acc → (∀ r ∈ l, Good F r) → Good F (gtl w l acc)
  | [], acc, h, _ => h
  | r :: q, acc, h, hr => by
    have hs := good_step F w h (hr r (by simp))
    rw [gtl]
    split
    · exact hs
    · exact gtl_good F w q _ hs (fun x hx => hr x (by simp [hx]))
mutual
theorem gt_good (F : List Str) : ∀ f : Fm, Good F (gt F f)
  | .act s => by
    refine ⟨fun p hp => ?_, fun t ht => ?_⟩
    · have : p = (s, !F.contains s) := by simpa [gt] using hp
      rw [this]
    · by_cases h : F.contains s = true
      · simp only [gt, h, if_true, Option.some.injEq] at ht
        subst ht
        exact ⟨h, by simp [gt, nmsR]⟩
      · simp only [gt, if_neg h] at ht
        exact absurd ht (by simp)
  | .node w p ps => by
    refine gtl_good F w (gt F p :: gts F ps) ([], none) ⟨fun p hp => absurd hp List.not_mem_nil, fun s hs => absurd hs (by simp)⟩ (fun r hr => ?_)
    rcases List.mem_cons.mp hr with hr | hr
    · rw [hr]
      exact gt_good F p
    · exact gts_good F ps r hr
theorem gts_good (F : List Str) : ∀ ps : Fms, ∀ r ∈ gts F ps, Good F r
  | .nil, r, hr => absurd hr List.not_mem_nil
  | .cons p q, r, hr => by
    rcases List.mem_cons.mp hr with hr | hr
    · rw [hr]
      exact gt_good F p
    · exact gts_good F q r hr
end
/-! flat bodies -/
end L
set_option maxHeartbeats 8000000
/-! Q9: the Board's calls, all together. -/
namespace L
open PySem Z
/-! sorting does not mind the order -/
theorem ltS_tr {x y z : Str} (h1 : ltS x y = true) (h2 : ltS y z = true) : ltS x z = true := ltS_true.mpr (List.lt_trans (ltS_true.mp h1) (ltS_true.mp h2))
theorem ltS_as {x y : Str} (h1 : ltS x y = true) : ltS y x = false := by
  cases h : ltS y x with
  | false => rfl
  | true => have := ltS_tr h1 h; rw [ltS_self] at this; exact absurd this (by simp)
theorem ltS_eq {x y : Str} (h1 : ltS x y = false) (h2 : ltS y x = false) : x = y := by
  have e : x.cps.toList = y.cps.toList := List.le_antisymm (ltS_false h2) (ltS_false h1)
  cases x; cases y
  simp only [Str.mk.injEq]
  exact Array.toList_inj.mp e
theorem ins_comm (x y : Str) : ∀ l : List Str, insS x (insS y l) = insS y (insS x l)
  | [] => by
    simp only [insS]
    cases h1 : ltS y x <;> cases h2 : ltS x y
    · rw [ltS_eq h1 h2]
    · simp
    · simp
    · rw [ltS_as h1] at h2
      exact absurd h2 (by simp)
  | z :: r => by
    have ih := ins_comm x y r
    simp only [insS]
    cases h1 : ltS z x <;> cases h2 : ltS z y <;> simp only [Bool.false_eq_true, if_false, if_true, insS, h1, h2]
    · cases h3 : ltS y x <;> cases h4 : ltS x y
      · rw [ltS_eq h3 h4]
      · simp
      · simp
      · rw [ltS_as h3] at h4
        exact absurd h4 (by simp)
    · have h3 : ltS y x = false := by
        cases h : ltS y x with
        | false => rfl
        | true => have := ltS_tr h2 h; rw [h1] at this; exact absurd this (by simp)
      have h4 : ltS x y = true := by
        cases h : ltS x y with
        | true => rfl
        | false =>
          have := ltS_eq h h3
          subst this
          rw [h1] at h2
          exact absurd h2 (by simp)
      simp [h3, h4]
    · have h3 : ltS x y = false := by
        cases h : ltS x y with
        | false => rfl
        | true => have := ltS_tr h1 h; rw [h2] at this; exact absurd this (by simp)
      have h4 : ltS y x = true := by
        cases h : ltS y x with
        | true => rfl
        | false =>
          have := ltS_eq h h3
          subst this
          rw [h1] at h2
          exact absurd h2 (by simp)
      simp [h3, h4]
    · rw [ih]
theorem sort_perm {l r : List Str} (h : l.Perm r) : sortS l = sortS r := by
  induction h with
  | nil => rfl
  | cons x _ ih => simp only [sortS, ih]
  | swap x y l => simp only [sortS, ins_comm]
  | trans _ _ h1 h2 => exact h1.trans h2
/-! a new Board -/
section
variable {C : Orc}
theorem setN_ {S T : List OS} {L : List OL} {fs : List (Str × W)} (f : Str) {w : W} (hw : args [w] = true) (hl : fs.length < 1000) : setFld ⟨L, S ++ .ins "Board" fs :: T⟩ (.ref S.length) f w = some ⟨L, S ++ .ins "Board" (putA f w fs) :: T⟩ := by
  have h : (S ++ OS.ins "Board" fs :: T)[S.length]? = some (.ins "Board" fs) := g0
  unfold setFld
  dsimp only
  rw [if_pos hw, h]
  dsimp only
  rw [if_pos hl, s0]
theorem setV_ {S T : List OS} {L : List OL} {fs : List (Str × W)} (f : Str) (d : PyData) (hl : fs.length < 1000) : setFld ⟨L, S ++ .ins "Board" fs :: T⟩ (.ref S.length) f (.v d) = some ⟨L, S ++ .ins "Board" (putA f (.v d) fs) :: T⟩ := setN_ f rfl hl
theorem setR_ {S T : List OS} {L : List OL} {fs : List (Str × W)} (f : Str) (d : Nat) (hl : fs.length < 1000) : setFld ⟨L, S ++ .ins "Board" fs :: T⟩ (.ref S.length) f (.ref d) = some ⟨L, S ++ .ins "Board" (putA f (.ref d) fs) :: T⟩ := setN_ f rfl hl
theorem isN_ {S T : List OS} {L : List OL} {fs : List (Str × W)} : isIns ⟨L, S ++ .ins "Board" fs :: T⟩ (.ref S.length) "Board" = true := isI g0
def u1 : T := .unp [(.fld "Board" (.var 0) "own_acts"), (.fld "Board" (.var 0) "own_fails"), (.fld "Board" (.var 0) "own_bodies")] (.cons (.blt .tuple (.cons (.sset (.var 1)) .nil)) (.cons (.tup .nil) (.cons (.dnew .fz) .nil)))
def u2 : T := .unp [(.fld "Board" (.var 0) "own_frames"), (.fld "Board" (.var 0) "own_tidied"), (.fld "Board" (.var 0) "own_edges"), (.fld "Board" (.var 0) "own_past")] (.cons (.dnew .fz) (.cons (.dnew .fz) (.cons (.dnew .fz) (.cons (.lst .shr (.disp .nil)) .nil))))
theorem pu1 (a : W) : putA "own_acts" a [] = ([("own_acts", a)] : List (Str × W)) := by kernel_rfl
theorem pu2 (a b : W) : putA "own_fails" b ([("own_acts", a)] : List (Str × W)) = ([("own_acts", a), ("own_fails", b)] : List (Str × W)) := by kernel_rfl
theorem pu3 (a b c : W) : putA "own_bodies" c ([("own_acts", a), ("own_fails", b)] : List (Str × W)) = ([("own_acts", a), ("own_fails", b), ("own_bodies", c)] : List (Str × W)) := by kernel_rfl
theorem pu4 (a b c d : W) : putA "own_frames" d ([("own_acts", a), ("own_fails", b), ("own_bodies", c)] : List (Str × W)) = ([("own_acts", a), ("own_fails", b), ("own_bodies", c), ("own_frames", d)] : List (Str × W)) := by kernel_rfl
theorem pu5 (a b c d e : W) : putA "own_tidied" e ([("own_acts", a), ("own_fails", b), ("own_bodies", c), ("own_frames", d)] : List (Str × W)) = ([("own_acts", a), ("own_fails", b), ("own_bodies", c), ("own_frames", d), ("own_tidied", e)] : List (Str × W)) := by kernel_rfl
theorem pu6 (a b c d e f : W) : putA "own_edges" f ([("own_acts", a), ("own_fails", b), ("own_bodies", c), ("own_frames", d), ("own_tidied", e)] : List (Str × W)) = ([("own_acts", a), ("own_fails", b), ("own_bodies", c), ("own_frames", d), ("own_tidied", e), ("own_edges", f)] : List (Str × W)) := by kernel_rfl
theorem pu7 (a b c d e f g : W) : putA "own_past" g ([("own_acts", a), ("own_fails", b), ("own_bodies", c), ("own_frames", d), ("own_tidied", e), ("own_edges", f)] : List (Str × W)) = ([("own_acts", a), ("own_fails", b), ("own_bodies", c), ("own_frames", d), ("own_tidied", e), ("own_edges", f), ("own_past", g)] : List (Str × W)) := by kernel_rfl
theorem m12 {S : List OS} {A : List Str} (hA : A.length < 64) : runFn C FBoard_init [.ref S.length, .v (fD A)] (S ++ [.ins "Board" []]) = .ok (.v .none) ⟨[], S ++ [bdO (usort A) [] [] [] (S.length + 1), .lst []]⟩ := by
  have st := strs_of A
  have a1 : ex C u1 [some (.ref S.length), some (.v (fD A))] ⟨[], S ++ [.ins "Board" []]⟩ = .nx [some (.ref S.length), some (.v (fD A))] ⟨[], S ++ [.ins "Board" [("own_acts", .v (fD (usort A))), ("own_fails", .v (fD [])), ("own_bodies", .v (.dict []))]]⟩ := by
    simp [u1, runFn, exs, ex, ev, evAnd, evOr, evs, evO, evL, evIf, evI, asg, asgs, asT, asTs, setL, R.b, R.t, R.ne, RT.s, ofO, peek, peekT, peeks, isiD, tyOf, tyLe, truW, truD, wipe, args, binD, bltD, dmD, strsOf, asStr, intsOf, boolsOf, asInt, asBool, mk, allV, outW, itemsD, itemsW, itemsL, itemsT, ixW, atI, ixN, slW, cut, sIx, freeze, mthW, mtyW, setIxW, enmD, zipD, zipP, rgI, small, szL, isNW, maxI, minI, cl, Mk.pre, Mk.post, fD, st, hA, isN_, setV_, setR_, pu1, pu2, pu3]
  have a2 : ex C u2 [some (.ref S.length), some (.v (fD A))] ⟨[], S ++ [.ins "Board" [("own_acts", .v (fD (usort A))), ("own_fails", .v (fD [])), ("own_bodies", .v (.dict []))]]⟩ = .nx [some (.ref S.length), some (.v (fD A))] ⟨[], S ++ [bdO (usort A) [] [] [] (S.length + 1), .lst []]⟩ := by
    simp [u2, runFn, exs, ex, ev, evAnd, evOr, evs, evO, evL, evIf, evI, asg, asgs, asT, asTs, setL, R.b, R.t, R.ne, RT.s, ofO, peek, peekT, peeks, isiD, tyOf, tyLe, truW, truD, wipe, args, binD, bltD, dmD, strsOf, asStr, intsOf, boolsOf, asInt, asBool, mk, allV, outW, itemsD, itemsW, itemsL, itemsT, ixW, atI, ixN, slW, cut, sIx, freeze, mthW, mtyW, setIxW, enmD, zipD, zipP, rgI, small, szL, isNW, maxI, minI, cl, Mk.pre, Mk.post, isN_, setV_, setR_, pu4, pu5, pu6, pu7, bdO, fl_]
  refine run_nx (f := FBoard_init) (ρ' := [some (.ref S.length), some (.v (fD A))]) (m := ⟨[], S ++ [bdO (usort A) [] [] [] (S.length + 1), .lst []]⟩) rfl rfl ?_
  show exs C (.cons u1 (.cons u2 .nil)) [some (.ref S.length), some (.v (fD A))] _ = _
  rw [exs_nx a1, exs_nx a2, exs]
end
/-! calls -/
section
variable {S : List OS} {A F : List Str} {bod tdy : Dd} {past : List PyData}
abbrev Bs (S : List OS) (A F : List Str) (bod tdy : Dd) (past : List PyData) : List OS := S ++ [bdO A F bod tdy (S.length + 1), .lst past]
theorem q18 (k : Nat) (hl : past.length < 16777216) : callP fs (k + 2) 32 [.ref S.length] (Bs S A F bod tdy past) = .ok (.v .none) ⟨[], Bs S A F bod tdy (past ++ [stD F bod tdy])⟩ := by
  have := m18 (C := callP fs (k + 1)) (S := Bs S A F bod tdy past) (b := S.length) (p := S.length + 1) g0 g1 hl (m26 (C := callP fs k) g0)
  rw [s1] at this
  exact this
theorem q10 (f : Fm) (k : Nat) (hk : f.dep + 10 ≤ k) {n : Str} (hr : f.row.Perm A) (hA : sortS A = A) (hs : shp (fD A) = true) (hn : f.ne = true) (hw : f.row.length < 64) (hl : past.length < 16777216) (hb : bod.length < 1000) (ht : tdy.length < 1000) :
    callP fs (k + 1) 17 [.ref S.length, .v (.str n), .v f.D] (Bs S A F bod tdy past) = .ok (.v .none) ⟨[], Bs S A F (dputD n f.D bod) (dputD n (tid f).D tdy) (past ++ [stD F bod tdy])⟩ := by
  obtain ⟨k, rfl⟩ : ∃ j, k = j + 2 := ⟨k - 2, by omega⟩
  have ww := (wid_row f).1
  have hN : isNW (.v f.D) = some false := by cases f <;> rfl
  have e21 := m21 (C := callP fs (k + 1)) (S := Bs S A F bod tdy past) (b := S.length) (p := S.length + 1) g0 hN (c30 f (k + 1) _ (by omega) (by omega) hn) hw ((sort_perm hr).trans hA) hs
  have := m10 (C := callP fs (k + 2)) (S := Bs S A F bod tdy past) (b := S.length) (p := S.length + 1) g0 (S1 := Bs S A F bod tdy (past ++ [stD F bod tdy])) g0 (n := n) (c22 f (k + 2) _ (by omega) (by omega)) e21 (q18 k hl) (fun S => c20 f (k + 2) S (by omega) (by omega)) hb ht
  rw [s0, s0] at this
  exact this
theorem q5 (f : Fm) (k : Nat) (hk : f.dep + 5 ≤ k) {n : Str} (hi : cmpD .notin (.str n) (.dict bod) = some false) (hd : dgetD n bod = some f.D) (hw : f.row.length ≤ 999) (h64 : f.dep ≤ 64) (hs : Ok f.row) : callP fs (k + 1) 13 [.ref S.length, .v (.str n)] (Bs S A F bod tdy past) = .ok (.v (enD (gt F f).2)) ⟨[], Bs S A F bod tdy past⟩ := by
  obtain ⟨k, rfl⟩ : ∃ j, k = j + 1 := ⟨k - 1, by omega⟩
  exact m5 (C := callP fs (k + 1)) g0 (m16 (C := callP fs k) g0 hi) hd (c15 F f (k + 1) _ (by omega) hw h64 hs)
theorem q12 (k : Nat) (hA : A.length < 64) : callP fs (k + 1) 18 [.ref S.length, .v (fD A)] (S ++ [.ins "Board" []]) = .ok (.v .none) ⟨[], Bs S (usort A) [] [] [] []⟩ := m12 (C := callP fs k) hA
end
end L
set_option maxHeartbeats 8000000
/-! Q10: the law's first part by hand. -/
namespace L
open PySem Z
/-! the same -/
theorem zip_self : ∀ ds : List PyData, zipD ds ds = ds.map fun d => .tuple [d, d]
  | [] => rfl
  | d :: r => by rw [zipD, zip_self r, List.map_cons]
theorem bools_true : ∀ ds : List PyData, boolsOf (ds.map fun _ => PyData.bool true) = some (ds.map fun _ => true)
  | [] => rfl
  | d :: r => by simp [boolsOf, asBool, bools_true r]
def saX : E := .lst .fz (.comp [2, 3] (.tp (.cons (.nm 2) (.cons (.nm 3) .nil))) (.zip (.var 0) (.var 1)) .nil (.call 4 (.cons (.var 2) (.cons (.var 3) .nil))))
theorem same_eq : F_law_same = ⟨2, 4, (.cons (.ife (.isi [.list, .tuple] (.var 1)) (.cons (.ife (.or (.cons (.cmp .ne (.isi [.list] (.var 0)) (.isi [.list] (.var 1))) (.cons (.cmp .ne (.isi [.tuple] (.var 0)) (.isi [.tuple] (.var 1))) .nil))) (.cons (.ret (.cst (.bool false))) .nil) .nil) (.cons (.ret (.and (.cons (.cmp .eq (.blt .len (.cons (.var 0) .nil)) (.blt .len (.cons (.var 1) .nil))) (.cons (.blt .all (.cons saX .nil)) .nil)))) .nil)) .nil) (.cons (.ife (.or (.cons (.isN (.var 1)) (.cons (.isi [.bool, .str] (.var 1)) .nil))) (.cons (.ret (.and (.cons (.cmp .eq (.var 0) (.var 1)) (.cons (.cmp .eq (.isi [.bool] (.var 0)) (.isi [.bool] (.var 1))) (.cons (.cmp .eq (.isN (.var 0)) (.isN (.var 1))) .nil))))) .nil) .nil) (.cons (.ret (.and (.cons (.isi [.int] (.var 0)) (.cons (.not (.isi [.bool] (.var 0))) (.cons (.cmp .eq (.var 0) (.var 1)) .nil))))) .nil)))⟩ := rfl
theorem same_list (k : Nat) (ds : List PyData) (S : List OS) (hl : ds.length ≤ 1000) (h : ∀ d ∈ ds, callP fs k 4 [.v d, .v d] S = .ok (.v (.bool true)) ⟨[], S⟩) : callP fs (k + 1) 4 [.v (.list ds), .v (.list ds)] S = .ok (.v (.bool true)) ⟨[], S⟩ := by
  have hc : ev (callP fs k) saX [some (.v (.list ds)), some (.v (.list ds)), none, none] ⟨[], S⟩ = .ok (.v (.list (ds.map fun _ => .bool true))) ⟨[], S⟩ := by
    refine compQ (fun d => .tuple [d, d]) (fun _ => .bool true) ds ?_ (fun d hd => ⟨[some (.v (.list ds)), some (.v (.list ds)), some (.v d), some (.v d)], by simp [runFn, exs, ex, ev, evAnd, evOr, evs, evO, evL, evIf, evI, asg, asgs, asT, asTs, setL, R.b, R.t, R.ne, RT.s, ofO, peek, peekT, peeks, isiD, tyOf, tyLe, truW, truD, wipe, args, binD, cmpD, eqD, inD, bltD, dmD, strsOf, asStr, intsOf, boolsOf, asInt, asBool, mk, allV, outW, itemsD, itemsW, itemsL, itemsT, ixW, atI, ixN, slW, cut, sIx, freeze, mthW, mtyW, setIxW, enmD, zipD, zipP, rgI, small, szL, isNW, maxI, minI, cl, isIns, noFld, fldW, putA, setFld, Mk.pre, Mk.post], ?_⟩) (Nat.le_trans hl (by decide))
    · rw [← zip_self]
      simp [evI, ev, R.b, zipP, ofO]
    · simp [runFn, exs, ex, ev, evAnd, evOr, evs, evO, evL, evIf, evI, asg, asgs, asT, asTs, setL, R.b, R.t, R.ne, RT.s, ofO, peek, peekT, peeks, isiD, tyOf, tyLe, truW, truD, wipe, args, binD, cmpD, eqD, inD, bltD, dmD, strsOf, asStr, intsOf, boolsOf, asInt, asBool, mk, allV, outW, itemsD, itemsW, itemsL, itemsT, ixW, atI, ixN, slW, cut, sIx, freeze, mthW, mtyW, setIxW, enmD, zipD, zipP, rgI, small, szL, isNW, maxI, minI, cl, isIns, noFld, fldW, putA, setFld, Mk.pre, Mk.post, h d hd]
  have hb := bools_true ds
  show runFn (callP fs k) F_law_same _ S = _
  rw [same_eq]
  simp [runFn, exs, ex, ev, evAnd, evOr, evs, evO, evL, evIf, evI, asg, asgs, asT, asTs, setL, R.b, R.t, R.ne, RT.s, ofO, peek, peekT, peeks, isiD, tyOf, tyLe, truW, truD, wipe, args, binD, cmpD, eqD, inD, bltD, dmD, strsOf, asStr, intsOf, boolsOf, asInt, asBool, mk, allV, outW, itemsD, itemsW, itemsL, itemsT, ixW, atI, ixN, slW, cut, sIx, freeze, mthW, mtyW, setIxW, enmD, zipD, zipP, rgI, small, szL, isNW, maxI, minI, cl, isIns, noFld, fldW, putA, setFld, Mk.pre, Mk.post, hc, hb]
end L
set_option maxHeartbeats 4000000
namespace L.B
open PySem Z
inductive Big where
  | act (s : Str) | rep (w : Wo) (n : Int) (b : Big) | two (w : Wo) (b c : Big) | three (w : Wo) (b c d : Big)
def Big.D : Big → PyData
  | .act s => .str s
  | .rep w n b => .tuple [.str w.s, .int n, b.D]
  | .two w b c => .tuple [.str w.s, b.D, c.D]
  | .three w b c d => .tuple [.str w.s, b.D, c.D, d.D]
def Big.dep : Big → Nat
  | .act _ => 0
  | .rep _ _ b => b.dep + 1
  | .two _ b c => max b.dep c.dep + 1
  | .three _ b c d => max (max b.dep c.dep) d.dep + 1
def Big.ok : Big → Prop
  | .act _ => True
  | .rep _ n b => 1 ≤ n ∧ n ≤ 2 ^ 70 ∧ b.ok
  | .two _ b c => b.ok ∧ c.ok
  | .three _ b c d => b.ok ∧ c.ok ∧ d.ok
def cap (d : Nat) : Int := 2 ^ (72 * d)
theorem cap_pos (d : Nat) : 1 ≤ cap d := by
  unfold cap
  have : 1 ≤ 2 ^ (72 * d) := Nat.one_le_two_pow
  exact_mod_cast this
theorem cap_succ (d : Nat) : cap (d + 1) = 4 * 2 ^ 70 * cap d := by
  unfold cap
  rw [show 72 * (d + 1) = 72 + 72 * d by omega, Int.pow_add]
  rfl
theorem cap_mono {a b : Nat} (h : a ≤ b) : cap a ≤ cap b := by
  unfold cap
  exact_mod_cast Nat.pow_le_pow_right (by decide) (Nat.mul_le_mul_left 72 h)
theorem log_of {x : Int} {d : Nat} (h0 : 0 ≤ x) (h : x ≤ cap d) : x.natAbs.log2 ≤ 72 * d := by
  have h2 : x.natAbs ≤ 2 ^ (72 * d) := by
    have : (x.natAbs : Int) ≤ ((2 ^ (72 * d) : Nat) : Int) := by
      rw [Int.natAbs_of_nonneg h0]
      push_cast
      exact h
    exact_mod_cast this
  by_cases hx : x.natAbs = 0
  · rw [hx]; simp
  · have := (Nat.log2_lt hx).mpr (Nat.lt_of_le_of_lt h2 (Nat.pow_lt_pow_right (by decide) (Nat.lt_succ_self _)))
    omega
def pD (p : Int × Big) : PyData := .tuple [.int p.1, p.2.D]
theorem c21r (k : Nat) (w : Wo) (n : Int) (b : Big) (S : List OS) : callP fs (k+1) 24 [.v (Big.rep w n b).D] S = .ok (.v (.list [.tuple [.int n, b.D]])) ⟨[], S⟩ := by kernel_rfl
theorem c21t (k : Nat) (w : Wo) (b c : Big) (S : List OS) : callP fs (k+1) 24 [.v (Big.two w b c).D] S = .ok (.v (.list [.tuple [.int 1, b.D], .tuple [.int 1, c.D]])) ⟨[], S⟩ := by cases b <;> kernel_rfl
theorem c21h (k : Nat) (w : Wo) (b c d : Big) (S : List OS) : callP fs (k+1) 24 [.v (Big.three w b c d).D] S = .ok (.v (.list [.tuple [.int 1, b.D], .tuple [.int 1, c.D], .tuple [.int 1, d.D]])) ⟨[], S⟩ := by kernel_rfl
end L.B
set_option maxHeartbeats 8000000
namespace L.B
open PySem Z
theorem ne1 : (("and" : Str) = "or") = False := by simp; decide +kernel
theorem ne2 : (("then" : Str) = "or") = False := by simp; decide +kernel
theorem ne3 : (("and" : Str) = "then") = False := by simp; decide +kernel
theorem ne4 : (("or" : Str) = "then") = False := by simp; decide +kernel
theorem ne5 : (("or" : Str) = "and") = False := by simp; decide +kernel
theorem ne6 : (("then" : Str) = "and") = False := by simp; decide +kernel
/-! acts -/
def acts : Big → Int
  | .act _ => 1
  | .rep _ n b => n * acts b
  | .two _ b c => acts b + acts c
  | .three _ b c d => acts b + acts c + acts d
theorem mul_cap {n x : Int} {d : Nat} (h1 : 1 ≤ n) (h2 : n ≤ 2 ^ 70) (h3 : 1 ≤ x) (h4 : x ≤ cap d) : 1 ≤ n * x ∧ n * x ≤ 2 ^ 70 * cap d :=
  ⟨by have := Int.mul_le_mul h1 h3 (by decide) (by omega); omega, Int.mul_le_mul h2 h4 (by omega) (by decide)⟩
theorem acts_cap : ∀ b : Big, b.ok → 1 ≤ acts b ∧ acts b ≤ cap b.dep
  | .act _, _ => ⟨Int.le_refl 1, cap_pos 0⟩
  | .rep w n b, h => by
    obtain ⟨h1, h2, h3⟩ := h
    obtain ⟨i1, i2⟩ := acts_cap b h3
    obtain ⟨m1, m2⟩ := mul_cap h1 h2 i1 i2
    refine ⟨m1, Int.le_trans m2 ?_⟩
    show _ ≤ cap (b.dep + 1)
    rw [cap_succ]
    have := cap_pos b.dep
    omega
  | .two w b c, h => by
    obtain ⟨i1, i2⟩ := acts_cap b h.1
    obtain ⟨j1, j2⟩ := acts_cap c h.2
    have := cap_mono (Nat.le_max_left b.dep c.dep)
    have := cap_mono (Nat.le_max_right b.dep c.dep)
    show 1 ≤ acts b + acts c ∧ acts b + acts c ≤ cap (max b.dep c.dep + 1)
    rw [cap_succ]
    omega
  | .three w b c d, h => by
    obtain ⟨i1, i2⟩ := acts_cap b h.1
    obtain ⟨j1, j2⟩ := acts_cap c h.2.1
    obtain ⟨k1, k2⟩ := acts_cap d h.2.2
    have := cap_mono (Nat.le_max_left (max b.dep c.dep) d.dep)
    have := cap_mono (Nat.le_max_right (max b.dep c.dep) d.dep)
    have := cap_mono (Nat.le_max_left b.dep c.dep)
    have := cap_mono (Nat.le_max_right b.dep c.dep)
    show 1 ≤ acts b + acts c + acts d ∧ acts b + acts c + acts d ≤ cap (max (max b.dep c.dep) d.dep + 1)
    rw [cap_succ]
    omega
/-- factors that are not too wide -/
theorem mul_ok {x y : Int} {d e : Nat} (h1 : 0 ≤ x) (h2 : x ≤ cap d) (h3 : 0 ≤ y) (h4 : y ≤ cap e) (hd : d + e ≤ 1000) : mulFit x y = true := by
  refine decide_eq_true ?_
  have := log_of h1 h2
  have := log_of h3 h4
  omega
theorem n_cap {n : Int} (h : n ≤ 2 ^ 70) : n ≤ cap 1 := Int.le_trans h (by decide)
theorem c11 : ∀ (b : Big) (k : Nat) (S : List OS), b.ok → b.dep + 2 ≤ k → b.dep ≤ 20 → callP fs k 11 [.v b.D] S = .ok (.v (.int (acts b))) ⟨[], S⟩
  | .act s, k + 1, S, _, _, _ => by kernel_rfl
  | .rep w n b, k + 1, S, h, hk, hd => by
    have hk : b.dep + 1 + 2 ≤ k + 1 := hk
    have hd : b.dep + 1 ≤ 20 := hd
    obtain ⟨h1, h2, h3⟩ := h
    obtain ⟨i1, i2⟩ := acts_cap b h3
    have hm := mul_ok (by omega) (n_cap h2) (by omega) i2 (by omega)
    obtain ⟨k, rfl⟩ : ∃ j, k = j + 1 := ⟨k - 1, by omega⟩
    have e1 := c21r k w n b S
    have e2 := c11 b (k + 1) S h3 (by omega) (by omega)
    show runFn (callP fs (k + 1)) Fhow_many_acts [.v (Big.rep w n b).D] S = _
    generalize callP fs (k + 1) = C at e1 e2
    simp only [Big.D] at e1 e2 ⊢
    simp [runFn, exs, ex, ev, evAnd, evOr, evs, evO, evL, evIf, evI, asg, asgs, asT, asTs, setL, R.b, R.t, R.ne, RT.s, ofO, peek, peekT, peeks, isiD, tyOf, tyLe, truW, truD, turns, turnsL, wipe, args, binD, cmpD, eqD, inD, bltD, dmD, strsOf, asStr, intsOf, boolsOf, asInt, asBool, mk, allV, outW, itemsD, itemsW, itemsL, itemsT, ixW, atI, ixN, slW, cut, sIx, freeze, mthW, mtyW, setIxW, forR, enmD, zipD, zipP, rgI, small, szL, isNW, maxI, minI, cl, isIns, noFld, fldW, putA, setFld, Mk.pre, Mk.post, ne1, ne2, ne3, ne4, ne5, ne6, Fhow_many_acts, acts, e1, e2, hm]
  | .two w b c, k + 1, S, h, hk, hd => by
    have hk : max b.dep c.dep + 1 + 2 ≤ k + 1 := hk
    have hd : max b.dep c.dep + 1 ≤ 20 := hd
    obtain ⟨h1, h2⟩ := h
    obtain ⟨i1, i2⟩ := acts_cap b h1
    obtain ⟨j1, j2⟩ := acts_cap c h2
    have hm := mul_ok (x := 1) (by omega) (n_cap (by decide)) (by omega) i2 (by omega)
    have hm2 := mul_ok (x := 1) (by omega) (n_cap (by decide)) (by omega) j2 (by omega)
    obtain ⟨k, rfl⟩ : ∃ j, k = j + 1 := ⟨k - 1, by omega⟩
    have e1 := c21t k w b c S
    have e2 := c11 b (k + 1) S h1 (by omega) (by omega)
    have e3 := c11 c (k + 1) S h2 (by omega) (by omega)
    show runFn (callP fs (k + 1)) Fhow_many_acts [.v (Big.two w b c).D] S = _
    generalize callP fs (k + 1) = C at e1 e2 e3
    simp only [Big.D] at e1 e2 e3 ⊢
    simp [runFn, exs, ex, ev, evAnd, evOr, evs, evO, evL, evIf, evI, asg, asgs, asT, asTs, setL, R.b, R.t, R.ne, RT.s, ofO, peek, peekT, peeks, isiD, tyOf, tyLe, truW, truD, turns, turnsL, wipe, args, binD, cmpD, eqD, inD, bltD, dmD, strsOf, asStr, intsOf, boolsOf, asInt, asBool, mk, allV, outW, itemsD, itemsW, itemsL, itemsT, ixW, atI, ixN, slW, cut, sIx, freeze, mthW, mtyW, setIxW, forR, enmD, zipD, zipP, rgI, small, szL, isNW, maxI, minI, cl, isIns, noFld, fldW, putA, setFld, Mk.pre, Mk.post, ne1, ne2, ne3, ne4, ne5, ne6, Fhow_many_acts, acts, e1, e2, e3, hm, hm2]
  | .three w b c d, k + 1, S, h, hk, hd => by
    have hk : max (max b.dep c.dep) d.dep + 1 + 2 ≤ k + 1 := hk
    have hd : max (max b.dep c.dep) d.dep + 1 ≤ 20 := hd
    obtain ⟨h1, h2, h3⟩ := h
    obtain ⟨i1, i2⟩ := acts_cap b h1
    obtain ⟨j1, j2⟩ := acts_cap c h2
    obtain ⟨l1, l2⟩ := acts_cap d h3
    have hm := mul_ok (x := 1) (by omega) (n_cap (by decide)) (by omega) i2 (by omega)
    have hm2 := mul_ok (x := 1) (by omega) (n_cap (by decide)) (by omega) j2 (by omega)
    have hm3 := mul_ok (x := 1) (by omega) (n_cap (by decide)) (by omega) l2 (by omega)
    obtain ⟨k, rfl⟩ : ∃ j, k = j + 1 := ⟨k - 1, by omega⟩
    have e1 := c21h k w b c d S
    have e2 := c11 b (k + 1) S h1 (by omega) (by omega)
    have e3 := c11 c (k + 1) S h2 (by omega) (by omega)
    have e4 := c11 d (k + 1) S h3 (by omega) (by omega)
    show runFn (callP fs (k + 1)) Fhow_many_acts [.v (Big.three w b c d).D] S = _
    generalize callP fs (k + 1) = C at e1 e2 e3 e4
    simp only [Big.D] at e1 e2 e3 e4 ⊢
    simp [runFn, exs, ex, ev, evAnd, evOr, evs, evO, evL, evIf, evI, asg, asgs, asT, asTs, setL, R.b, R.t, R.ne, RT.s, ofO, peek, peekT, peeks, isiD, tyOf, tyLe, truW, truD, turns, turnsL, wipe, args, binD, cmpD, eqD, inD, bltD, dmD, strsOf, asStr, intsOf, boolsOf, asInt, asBool, mk, allV, outW, itemsD, itemsW, itemsL, itemsT, ixW, atI, ixN, slW, cut, sIx, freeze, mthW, mtyW, setIxW, forR, enmD, zipD, zipP, rgI, small, szL, isNW, maxI, minI, cl, isIns, noFld, fldW, putA, setFld, Mk.pre, Mk.post, ne1, ne2, ne3, ne4, ne5, ne6, Fhow_many_acts, acts, e1, e2, e3, e4, hm, hm2, hm3, Int.add_assoc]
end L.B
set_option maxHeartbeats 8000000
namespace L.B
open PySem Z
/-! fewest_failing -/
def ff : Big → Int
  | .act _ => 1
  | .rep .o n b => n * ff b
  | .rep _ _ b => ff b
  | .two .o b c => ff b + ff c
  | .two _ b c => min (ff b) (ff c)
  | .three .o b c d => ff b + ff c + ff d
  | .three _ b c d => min (min (ff b) (ff c)) (ff d)
theorem ff_cap : ∀ b : Big, b.ok → 1 ≤ ff b ∧ ff b ≤ cap b.dep
  | .act _, _ => ⟨Int.le_refl 1, cap_pos 0⟩
  | .rep w n b, h => by
    obtain ⟨h1, h2, h3⟩ := h
    obtain ⟨i1, i2⟩ := ff_cap b h3
    obtain ⟨m1, m2⟩ := mul_cap h1 h2 i1 i2
    have := cap_pos b.dep
    have e := cap_succ b.dep
    show 1 ≤ ff (.rep w n b) ∧ ff (.rep w n b) ≤ cap (b.dep + 1)
    rw [e]
    cases w <;> simp only [ff] <;> omega
  | .two w b c, h => by
    obtain ⟨i1, i2⟩ := ff_cap b h.1
    obtain ⟨j1, j2⟩ := ff_cap c h.2
    have := cap_mono (Nat.le_max_left b.dep c.dep)
    have := cap_mono (Nat.le_max_right b.dep c.dep)
    show 1 ≤ ff (.two w b c) ∧ ff (.two w b c) ≤ cap (max b.dep c.dep + 1)
    rw [cap_succ]
    cases w <;> simp only [ff] <;> omega
  | .three w b c d, h => by
    obtain ⟨i1, i2⟩ := ff_cap b h.1
    obtain ⟨j1, j2⟩ := ff_cap c h.2.1
    obtain ⟨k1, k2⟩ := ff_cap d h.2.2
    have := cap_mono (Nat.le_max_left (max b.dep c.dep) d.dep)
    have := cap_mono (Nat.le_max_right (max b.dep c.dep) d.dep)
    have := cap_mono (Nat.le_max_left b.dep c.dep)
    have := cap_mono (Nat.le_max_right b.dep c.dep)
    show 1 ≤ ff (.three w b c d) ∧ ff (.three w b c d) ≤ cap (max (max b.dep c.dep) d.dep + 1)
    rw [cap_succ]
    cases w <;> simp only [ff] <;> omega
theorem c18 : ∀ (b : Big) (k : Nat) (S : List OS), b.ok → b.dep + 2 ≤ k → b.dep ≤ 20 → callP fs k 10 [.v b.D] S = .ok (.v (.int (ff b))) ⟨[], S⟩
  | .act s, k + 1, S, _, _, _ => by kernel_rfl
  | .rep w n b, k + 1, S, h, hk, hd => by
    have hk : b.dep + 1 + 2 ≤ k + 1 := hk
    have hd : b.dep + 1 ≤ 20 := hd
    obtain ⟨h1, h2, h3⟩ := h
    obtain ⟨i1, i2⟩ := ff_cap b h3
    have hm := mul_ok (by omega) (n_cap h2) (by omega) i2 (by omega)
    obtain ⟨k, rfl⟩ : ∃ j, k = j + 1 := ⟨k - 1, by omega⟩
    have e1 := c21r k w n b S
    have e2 := c18 b (k + 1) S h3 (by omega) (by omega)
    show runFn (callP fs (k + 1)) Ffewest_failing [.v (Big.rep w n b).D] S = _
    generalize callP fs (k + 1) = C at e1 e2
    cases w <;> simp only [Big.D, Wo.s] at e1 e2 ⊢ <;> simp [runFn, exs, ex, ev, evAnd, evOr, evs, evO, evL, evIf, evI, asg, asgs, asT, asTs, setL, R.b, R.t, R.ne, RT.s, ofO, peek, peekT, peeks, isiD, tyOf, tyLe, truW, truD, turns, turnsL, wipe, args, binD, cmpD, eqD, inD, bltD, dmD, strsOf, asStr, intsOf, boolsOf, asInt, asBool, mk, allV, outW, itemsD, itemsW, itemsL, itemsT, ixW, atI, ixN, slW, cut, sIx, freeze, mthW, mtyW, setIxW, forR, enmD, zipD, zipP, rgI, small, szL, isNW, maxI, minI, cl, isIns, noFld, fldW, putA, setFld, Mk.pre, Mk.post, ne1, ne2, ne3, ne4, ne5, ne6, Ffewest_failing, ff, e1, e2, hm]
  | .two w b c, k + 1, S, h, hk, hd => by
    have hk : max b.dep c.dep + 1 + 2 ≤ k + 1 := hk
    have hd : max b.dep c.dep + 1 ≤ 20 := hd
    obtain ⟨h1, h2⟩ := h
    obtain ⟨i1, i2⟩ := ff_cap b h1
    obtain ⟨j1, j2⟩ := ff_cap c h2
    have hm := mul_ok (x := 1) (by omega) (n_cap (by decide)) (by omega) i2 (by omega)
    have hm2 := mul_ok (x := 1) (by omega) (n_cap (by decide)) (by omega) j2 (by omega)
    obtain ⟨k, rfl⟩ : ∃ j, k = j + 1 := ⟨k - 1, by omega⟩
    have e1 := c21t k w b c S
    have e2 := c18 b (k + 1) S h1 (by omega) (by omega)
    have e3 := c18 c (k + 1) S h2 (by omega) (by omega)
    show runFn (callP fs (k + 1)) Ffewest_failing [.v (Big.two w b c).D] S = _
    generalize callP fs (k + 1) = C at e1 e2 e3
    cases w <;> simp only [Big.D, Wo.s] at e1 e2 e3 ⊢ <;> simp [runFn, exs, ex, ev, evAnd, evOr, evs, evO, evL, evIf, evI, asg, asgs, asT, asTs, setL, R.b, R.t, R.ne, RT.s, ofO, peek, peekT, peeks, isiD, tyOf, tyLe, truW, truD, turns, turnsL, wipe, args, binD, cmpD, eqD, inD, bltD, dmD, strsOf, asStr, intsOf, boolsOf, asInt, asBool, mk, allV, outW, itemsD, itemsW, itemsL, itemsT, ixW, atI, ixN, slW, cut, sIx, freeze, mthW, mtyW, setIxW, forR, enmD, zipD, zipP, rgI, small, szL, isNW, maxI, minI, cl, isIns, noFld, fldW, putA, setFld, Mk.pre, Mk.post, ne1, ne2, ne3, ne4, ne5, ne6, Ffewest_failing, ff, e1, e2, e3, hm, hm2]
  | .three w b c d, k + 1, S, h, hk, hd => by
    have hk : max (max b.dep c.dep) d.dep + 1 + 2 ≤ k + 1 := hk
    have hd : max (max b.dep c.dep) d.dep + 1 ≤ 20 := hd
    obtain ⟨h1, h2, h3⟩ := h
    obtain ⟨i1, i2⟩ := ff_cap b h1
    obtain ⟨j1, j2⟩ := ff_cap c h2
    obtain ⟨l1, l2⟩ := ff_cap d h3
    have hm := mul_ok (x := 1) (by omega) (n_cap (by decide)) (by omega) i2 (by omega)
    have hm2 := mul_ok (x := 1) (by omega) (n_cap (by decide)) (by omega) j2 (by omega)
    have hm3 := mul_ok (x := 1) (by omega) (n_cap (by decide)) (by omega) l2 (by omega)
    obtain ⟨k, rfl⟩ : ∃ j, k = j + 1 := ⟨k - 1, by omega⟩
    have e1 := c21h k w b c d S
    have e2 := c18 b (k + 1) S h1 (by omega) (by omega)
    have e3 := c18 c (k + 1) S h2 (by omega) (by omega)
    have e4 := c18 d (k + 1) S h3 (by omega) (by omega)
    show runFn (callP fs (k + 1)) Ffewest_failing [.v (Big.three w b c d).D] S = _
    generalize callP fs (k + 1) = C at e1 e2 e3 e4
    cases w <;> simp only [Big.D, Wo.s] at e1 e2 e3 e4 ⊢ <;> simp [runFn, exs, ex, ev, evAnd, evOr, evs, evO, evL, evIf, evI, asg, asgs, asT, asTs, setL, R.b, R.t, R.ne, RT.s, ofO, peek, peekT, peeks, isiD, tyOf, tyLe, truW, truD, turns, turnsL, wipe, args, binD, cmpD, eqD, inD, bltD, dmD, strsOf, asStr, intsOf, boolsOf, asInt, asBool, mk, allV, outW, itemsD, itemsW, itemsL, itemsT, ixW, atI, ixN, slW, cut, sIx, freeze, mthW, mtyW, setIxW, forR, enmD, zipD, zipP, rgI, small, szL, isNW, maxI, minI, cl, isIns, noFld, fldW, putA, setFld, Mk.pre, Mk.post, ne1, ne2, ne3, ne4, ne5, ne6, Ffewest_failing, ff, e1, e2, e3, e4, hm, hm2, hm3, Int.add_assoc]
/-! lengths_of -/
def pk (m : Bool) (x y : Int) : Int := if m = true then (if x < y then y else x) else (if y < x then y else x)
def manyL (w : Wo) (n : Int) (p : Int × Int) (m : Bool) : Int × Int := match w with
  | .a => (n * p.1, pk m p.2 ((n - 1) * p.1 + p.2))
  | .o => (pk m p.1 ((n - 1) * p.2 + p.1), n * p.2)
  | .t => (n * p.1, p.2 + (n - 1) * pk m p.1 p.2)
def joinL (w : Wo) (p q : Int × Int) (m : Bool) : Int × Int := match w with
  | .a => (p.1 + q.1, pk m p.2 (p.1 + q.2))
  | .o => (pk m p.1 (p.2 + q.1), p.2 + q.2)
  | .t => (p.1 + q.1, pk m (p.2 + pk m q.1 q.2) (p.1 + q.2))
def lens (m : Bool) : Big → Int × Int
  | .act _ => (1, 1)
  | .rep w n b => manyL w n (lens m b) m
  | .two w b c => joinL w (manyL w 1 (lens m b) m) (manyL w 1 (lens m c) m) m
  | .three w b c d => joinL w (joinL w (manyL w 1 (lens m b) m) (manyL w 1 (lens m c) m) m) (manyL w 1 (lens m d) m) m
def In (p : Int × Int) (A : Int) : Prop := 1 ≤ p.1 ∧ p.1 ≤ A ∧ 1 ≤ p.2 ∧ p.2 ≤ A
theorem pk_or (m : Bool) (x y : Int) : pk m x y = x ∨ pk m x y = y := by
  unfold pk
  cases m <;> simp only [Bool.false_eq_true, if_false, if_true] <;> split <;> first | exact .inl rfl | exact .inr rfl
theorem n1_cap {n x A : Int} (h1 : 1 ≤ n) (h2 : n ≤ 2 ^ 70) (h3 : 1 ≤ x) (h4 : x ≤ A) : 0 ≤ (n - 1) * x ∧ (n - 1) * x + A ≤ 2 ^ 70 * A := by
  refine ⟨Int.mul_nonneg (by omega) (by omega), ?_⟩
  have : (n - 1) * x ≤ (2 ^ 70 - 1) * A := Int.mul_le_mul (by omega) h4 (by omega) (by decide)
  omega
theorem many_in {w : Wo} {n A : Int} {p : Int × Int} {m : Bool} (h1 : 1 ≤ n) (h2 : n ≤ 2 ^ 70) (h : In p A) : In (manyL w n p m) (2 ^ 70 * A) := by
  obtain ⟨a1, a2, b1, b2⟩ := h
  have q1 : 1 ≤ n * p.1 ∧ n * p.1 ≤ 2 ^ 70 * A := ⟨by have := Int.mul_le_mul h1 a1 (by decide) (by omega); omega, Int.mul_le_mul h2 a2 (by omega) (by decide)⟩
  have q2 : 1 ≤ n * p.2 ∧ n * p.2 ≤ 2 ^ 70 * A := ⟨by have := Int.mul_le_mul h1 b1 (by decide) (by omega); omega, Int.mul_le_mul h2 b2 (by omega) (by decide)⟩
  have q3 := n1_cap h1 h2 a1 a2
  have q4 := n1_cap h1 h2 b1 b2
  have kp := pk_or m p.1 p.2
  have q5 : 0 ≤ (n - 1) * pk m p.1 p.2 ∧ (n - 1) * pk m p.1 p.2 + A ≤ 2 ^ 70 * A := by rcases kp with e | e <;> rw [e] <;> assumption
  cases w
  · have := pk_or m p.2 ((n - 1) * p.1 + p.2)
    refine ⟨q1.1, q1.2, ?_, ?_⟩ <;> show _ ≤ _ <;> simp only [manyL] <;> rcases this with e | e <;> rw [e] <;> omega
  · refine ⟨q1.1, q1.2, ?_, ?_⟩ <;> simp only [manyL] <;> omega
  · have := pk_or m p.1 ((n - 1) * p.2 + p.1)
    refine ⟨?_, ?_, q2.1, q2.2⟩ <;> simp only [manyL] <;> rcases this with e | e <;> rw [e] <;> omega
theorem join_in {w : Wo} {A B : Int} {p q : Int × Int} {m : Bool} (h : In p A) (k : In q B) : In (joinL w p q m) (A + B) := by
  obtain ⟨a1, a2, b1, b2⟩ := h
  obtain ⟨c1, c2, d1, d2⟩ := k
  cases w
  · have := pk_or m p.2 (p.1 + q.2)
    refine ⟨?_, ?_, ?_, ?_⟩ <;> simp only [joinL] <;> first | omega | (rcases this with e | e <;> rw [e] <;> omega)
  · have kp := pk_or m q.1 q.2
    have := pk_or m (p.2 + pk m q.1 q.2) (p.1 + q.2)
    refine ⟨?_, ?_, ?_, ?_⟩ <;> simp only [joinL] <;> first | omega | (rcases this with e | e <;> rw [e] <;> rcases kp with e2 | e2 <;> omega)
  · have := pk_or m p.1 (p.2 + q.1)
    refine ⟨?_, ?_, ?_, ?_⟩ <;> simp only [joinL] <;> first | omega | (rcases this with e | e <;> rw [e] <;> omega)
theorem In.le {p : Int × Int} {A B : Int} (h : In p A) (k : A ≤ B) : In p B := ⟨h.1, Int.le_trans h.2.1 k, h.2.2.1, Int.le_trans h.2.2.2 k⟩
theorem lens_cap (m : Bool) : ∀ b : Big, b.ok → In (lens m b) (cap b.dep)
  | .act _, _ => ⟨Int.le_refl 1, cap_pos 0, Int.le_refl 1, cap_pos 0⟩
  | .rep w n b, h => by
    have := cap_pos b.dep
    refine (many_in h.1 h.2.1 (lens_cap m b h.2.2)).le ?_
    show _ ≤ cap (b.dep + 1)
    rw [cap_succ]
    omega
  | .two w b c, h => by
    have i := (lens_cap m b h.1).le (cap_mono (Nat.le_max_left b.dep c.dep))
    have j := (lens_cap m c h.2).le (cap_mono (Nat.le_max_right b.dep c.dep))
    refine (join_in (many_in (by decide) (by decide) i) (many_in (by decide) (by decide) j)).le ?_
    have := cap_pos (max b.dep c.dep)
    show _ ≤ cap (max b.dep c.dep + 1)
    rw [cap_succ]
    omega
  | .three w b c d, h => by
    have i := ((lens_cap m b h.1).le (cap_mono (Nat.le_max_left b.dep c.dep))).le (cap_mono (Nat.le_max_left (max b.dep c.dep) d.dep))
    have j := ((lens_cap m c h.2.1).le (cap_mono (Nat.le_max_right b.dep c.dep))).le (cap_mono (Nat.le_max_left (max b.dep c.dep) d.dep))
    have l := (lens_cap m d h.2.2).le (cap_mono (Nat.le_max_right (max b.dep c.dep) d.dep))
    refine (join_in (join_in (many_in (by decide) (by decide) i) (many_in (by decide) (by decide) j)) (many_in (by decide) (by decide) l)).le ?_
    have := cap_pos (max (max b.dep c.dep) d.dep)
    show _ ≤ cap (max (max b.dep c.dep) d.dep + 1)
    rw [cap_succ]
    omega
theorem c25 (k : Nat) (x y : Int) (m : Bool) (S : List OS) : callP fs (k + 1) 45 [.v (.int x), .v (.int y), .v (.bool m)] S = .ok (.v (.int (pk m x y))) ⟨[], S⟩ := by cases m <;> kernel_rfl
def pairD (p : Int × Int) : PyData := .tuple [.int p.1, .int p.2]
theorem c24 (k : Nat) (w : Wo) (n : Int) (p : Int × Int) (m : Bool) (S : List OS) {d : Nat} (h1 : 1 ≤ n) (h2 : n ≤ 2 ^ 70) (h : In p (cap d)) (hd : d ≤ 20) : callP fs (k + 2) 37 [.v (.str w.s), .v (.int n), .v (pairD p), .v (.bool m)] S = .ok (.v (pairD (manyL w n p m))) ⟨[], S⟩ := by
  obtain ⟨a1, a2, b1, b2⟩ := h
  have kp := pk_or m p.1 p.2
  have pc : 0 ≤ pk m p.1 p.2 ∧ pk m p.1 p.2 ≤ cap d := by rcases kp with e | e <;> rw [e] <;> omega
  have hn := n_cap h2
  have hn1 : n - 1 ≤ cap 1 := by omega
  have f1 := mul_ok (x := n) (y := p.1) (by omega) hn (by omega) a2 (by omega)
  have f2 := mul_ok (x := n) (y := p.2) (by omega) hn (by omega) b2 (by omega)
  have f3 := mul_ok (x := n - 1) (y := p.1) (by omega) hn1 (by omega) a2 (by omega)
  have f4 := mul_ok (x := n - 1) (y := p.2) (by omega) hn1 (by omega) b2 (by omega)
  have f5 := mul_ok (x := n - 1) (y := pk m p.1 p.2) (by omega) hn1 pc.1 pc.2 (by omega)
  have e1 := fun x y => c25 k x y m S
  show runFn (callP fs (k + 1)) Fmany_lengths [.v (.str w.s), .v (.int n), .v (pairD p), .v (.bool m)] S = _
  generalize callP fs (k + 1) = C at e1
  cases w <;> simp [runFn, exs, ex, ev, evAnd, evOr, evs, evO, evL, evIf, evI, asg, asgs, asT, asTs, setL, R.b, R.t, R.ne, RT.s, ofO, peek, peekT, peeks, isiD, tyOf, tyLe, truW, truD, turns, turnsL, wipe, args, binD, cmpD, eqD, inD, bltD, dmD, strsOf, asStr, intsOf, boolsOf, asInt, asBool, mk, allV, outW, itemsD, itemsW, itemsL, itemsT, ixW, atI, ixN, slW, cut, sIx, freeze, mthW, mtyW, setIxW, forR, enmD, zipD, zipP, rgI, small, szL, isNW, maxI, minI, cl, isIns, noFld, fldW, putA, setFld, Mk.pre, Mk.post, ne1, ne2, ne3, ne4, ne5, ne6, Fmany_lengths, Wo.s, pairD, manyL, e1, f1, f2, f3, f4, f5]
theorem c23a (k : Nat) (w : Wo) (p : Int × Int) (m : Bool) (S : List OS) : callP fs (k + 2) 36 [.v (.str w.s), .v (.list [pairD p]), .v (.bool m)] S = .ok (.v (pairD p)) ⟨[], S⟩ := by kernel_rfl
theorem c23b (k : Nat) (w : Wo) (p q : Int × Int) (m : Bool) (S : List OS) : callP fs (k + 2) 36 [.v (.str w.s), .v (.list [pairD p, pairD q]), .v (.bool m)] S = .ok (.v (pairD (joinL w p q m))) ⟨[], S⟩ := by
  cases w <;> cases m <;> kernel_rfl
theorem c23c (k : Nat) (w : Wo) (p q r : Int × Int) (m : Bool) (S : List OS) : callP fs (k + 2) 36 [.v (.str w.s), .v (.list [pairD p, pairD q, pairD r]), .v (.bool m)] S = .ok (.v (pairD (joinL w (joinL w p q m) r m))) ⟨[], S⟩ := by
  cases w <;> cases m <;> kernel_rfl
end L.B
set_option maxHeartbeats 1000000
namespace L.B
open PySem Z
theorem c22 : ∀ (b : Big) (m : Bool) (k : Nat) (S : List OS), b.ok → b.dep + 3 ≤ k → b.dep ≤ 20 → callP fs k 25 [.v b.D, .v (.bool m)] S = .ok (.v (pairD (lens m b))) ⟨[], S⟩
  | .act s, m, k + 1, S, _, _, _ => by kernel_rfl
  | .rep w n b, m, k + 1, S, h, hk, hd => by
    have hk : b.dep + 1 + 3 ≤ k + 1 := hk
    have hd : b.dep + 1 ≤ 20 := hd
    obtain ⟨h1, h2, h3⟩ := h
    obtain ⟨k, rfl⟩ : ∃ j, k = j + 2 := ⟨k - 2, by omega⟩
    have e1 := c21r (k + 1) w n b S
    have e2 := c22 b m (k + 2) S h3 (by omega) (by omega)
    have e3 := c24 k w n (lens m b) m S h1 h2 (lens_cap m b h3) (by omega)
    have e4 := c23a k w (manyL w n (lens m b) m) m S
    show runFn (callP fs (k + 2)) Flengths_of [.v (Big.rep w n b).D, .v (.bool m)] S = _
    generalize callP fs (k + 2) = C at e1 e2 e3 e4
    simp only [Big.D] at e1 e2 e3 e4 ⊢
    simp [runFn, exs, ex, ev, evAnd, evOr, evs, evO, evL, evIf, evI, asg, asgs, asT, asTs, setL, R.b, R.t, R.ne, RT.s, ofO, peek, peekT, peeks, isiD, tyOf, tyLe, truW, truD, turns, turnsL, wipe, args, binD, cmpD, eqD, inD, bltD, dmD, strsOf, asStr, intsOf, boolsOf, asInt, asBool, mk, allV, outW, itemsD, itemsW, itemsL, itemsT, ixW, atI, ixN, slW, cut, sIx, freeze, mthW, mtyW, setIxW, forR, enmD, zipD, zipP, rgI, small, szL, isNW, maxI, minI, cl, isIns, noFld, fldW, putA, setFld, Mk.pre, Mk.post, ne1, ne2, ne3, ne4, ne5, ne6, Flengths_of, lens, e1, e2, e3, e4]
  | .two w b c, m, k + 1, S, h, hk, hd => by
    have hk : max b.dep c.dep + 1 + 3 ≤ k + 1 := hk
    have hd : max b.dep c.dep + 1 ≤ 20 := hd
    obtain ⟨h1, h2⟩ := h
    obtain ⟨k, rfl⟩ : ∃ j, k = j + 2 := ⟨k - 2, by omega⟩
    have e1 := c21t (k + 1) w b c S
    have e2 := c22 b m (k + 2) S h1 (by omega) (by omega)
    have e2' := c22 c m (k + 2) S h2 (by omega) (by omega)
    have e3 := c24 k w 1 (lens m b) m S (by decide) (by decide) (lens_cap m b h1) (by omega)
    have e3' := c24 k w 1 (lens m c) m S (by decide) (by decide) (lens_cap m c h2) (by omega)
    have e4 := c23b k w (manyL w 1 (lens m b) m) (manyL w 1 (lens m c) m) m S
    show runFn (callP fs (k + 2)) Flengths_of [.v (Big.two w b c).D, .v (.bool m)] S = _
    generalize callP fs (k + 2) = C at e1 e2 e2' e3 e3' e4
    simp only [Big.D] at e1 e2 e2' e3 e3' e4 ⊢
    simp [runFn, exs, ex, ev, evAnd, evOr, evs, evO, evL, evIf, evI, asg, asgs, asT, asTs, setL, R.b, R.t, R.ne, RT.s, ofO, peek, peekT, peeks, isiD, tyOf, tyLe, truW, truD, turns, turnsL, wipe, args, binD, cmpD, eqD, inD, bltD, dmD, strsOf, asStr, intsOf, boolsOf, asInt, asBool, mk, allV, outW, itemsD, itemsW, itemsL, itemsT, ixW, atI, ixN, slW, cut, sIx, freeze, mthW, mtyW, setIxW, forR, enmD, zipD, zipP, rgI, small, szL, isNW, maxI, minI, cl, isIns, noFld, fldW, putA, setFld, Mk.pre, Mk.post, ne1, ne2, ne3, ne4, ne5, ne6, Flengths_of, lens, e1, e2, e2', e3, e3', e4]
  | .three w b c d, m, k + 1, S, h, hk, hd => by
    have hk : max (max b.dep c.dep) d.dep + 1 + 3 ≤ k + 1 := hk
    have hd : max (max b.dep c.dep) d.dep + 1 ≤ 20 := hd
    obtain ⟨h1, h2, h3⟩ := h
    obtain ⟨k, rfl⟩ : ∃ j, k = j + 2 := ⟨k - 2, by omega⟩
    have e1 := c21h (k + 1) w b c d S
    have e2 := c22 b m (k + 2) S h1 (by omega) (by omega)
    have e2' := c22 c m (k + 2) S h2 (by omega) (by omega)
    have e2'' := c22 d m (k + 2) S h3 (by omega) (by omega)
    have e3 := c24 k w 1 (lens m b) m S (by decide) (by decide) (lens_cap m b h1) (by omega)
    have e3' := c24 k w 1 (lens m c) m S (by decide) (by decide) (lens_cap m c h2) (by omega)
    have e3'' := c24 k w 1 (lens m d) m S (by decide) (by decide) (lens_cap m d h3) (by omega)
    have e4 := c23c k w (manyL w 1 (lens m b) m) (manyL w 1 (lens m c) m) (manyL w 1 (lens m d) m) m S
    show runFn (callP fs (k + 2)) Flengths_of [.v (Big.three w b c d).D, .v (.bool m)] S = _
    generalize callP fs (k + 2) = C at e1 e2 e2' e2'' e3 e3' e3'' e4
    simp only [Big.D] at e1 e2 e2' e2'' e3 e3' e3'' e4 ⊢
    simp [runFn, exs, ex, ev, evAnd, evOr, evs, evO, evL, evIf, evI, asg, asgs, asT, asTs, setL, R.b, R.t, R.ne, RT.s, ofO, peek, peekT, peeks, isiD, tyOf, tyLe, truW, truD, turns, turnsL, wipe, args, binD, cmpD, eqD, inD, bltD, dmD, strsOf, asStr, intsOf, boolsOf, asInt, asBool, mk, allV, outW, itemsD, itemsW, itemsL, itemsT, ixW, atI, ixN, slW, cut, sIx, freeze, mthW, mtyW, setIxW, forR, enmD, zipD, zipP, rgI, small, szL, isNW, maxI, minI, cl, isIns, noFld, fldW, putA, setFld, Mk.pre, Mk.post, ne1, ne2, ne3, ne4, ne5, ne6, Flengths_of, lens, e1, e2, e2', e2'', e3, e3', e3'', e4]
def longest (b : Big) : Int := pk true (lens true b).1 (lens true b).2
def shortest (b : Big) : Int := pk false (lens false b).1 (lens false b).2
theorem c17 (b : Big) (k : Nat) (S : List OS) (h : b.ok) (hk : b.dep + 4 ≤ k) (hd : b.dep ≤ 20) : callP fs k 9 [.v b.D] S = .ok (.v (.int (longest b))) ⟨[], S⟩ := by
  obtain ⟨k, rfl⟩ : ∃ j, k = j + 1 := ⟨k - 1, by omega⟩
  have e := c22 b true k S h (by omega) hd
  show runFn (callP fs k) Flongest_run [.v b.D] S = _
  generalize callP fs k = C at e
  simp [runFn, exs, ex, ev, evAnd, evOr, evs, evO, evL, evIf, evI, asg, asgs, asT, asTs, setL, R.b, R.t, R.ne, RT.s, ofO, peek, peekT, peeks, isiD, tyOf, tyLe, truW, truD, turns, turnsL, wipe, args, binD, cmpD, eqD, inD, bltD, dmD, strsOf, asStr, intsOf, boolsOf, asInt, asBool, mk, allV, outW, itemsD, itemsW, itemsL, itemsT, ixW, atI, ixN, slW, cut, sIx, freeze, mthW, mtyW, setIxW, forR, enmD, zipD, zipP, rgI, small, szL, isNW, maxI, minI, cl, isIns, noFld, fldW, putA, setFld, Mk.pre, Mk.post, ne1, ne2, ne3, ne4, ne5, ne6, Flongest_run, e, pairD, longest, pk, Int.max_def]
  split <;> split <;> omega
theorem c16 (b : Big) (k : Nat) (S : List OS) (h : b.ok) (hk : b.dep + 4 ≤ k) (hd : b.dep ≤ 20) : callP fs k 8 [.v b.D] S = .ok (.v (.int (shortest b))) ⟨[], S⟩ := by
  obtain ⟨k, rfl⟩ : ∃ j, k = j + 1 := ⟨k - 1, by omega⟩
  have e := c22 b false k S h (by omega) hd
  show runFn (callP fs k) Fshortest_run [.v b.D] S = _
  generalize callP fs k = C at e
  simp [runFn, exs, ex, ev, evAnd, evOr, evs, evO, evL, evIf, evI, asg, asgs, asT, asTs, setL, R.b, R.t, R.ne, RT.s, ofO, peek, peekT, peeks, isiD, tyOf, tyLe, truW, truD, turns, turnsL, wipe, args, binD, cmpD, eqD, inD, bltD, dmD, strsOf, asStr, intsOf, boolsOf, asInt, asBool, mk, allV, outW, itemsD, itemsW, itemsL, itemsT, ixW, atI, ixN, slW, cut, sIx, freeze, mthW, mtyW, setIxW, forR, enmD, zipD, zipP, rgI, small, szL, isNW, maxI, minI, cl, isIns, noFld, fldW, putA, setFld, Mk.pre, Mk.post, ne1, ne2, ne3, ne4, ne5, ne6, Fshortest_run, e, pairD, shortest, pk, Int.min_def]
  split <;> split <;> omega
/-! what the calls answer -/
structure CE (C : Orc) (S : List OS) (D : Nat) : Prop where
  r : ∀ w n b, C 24 [.v (Big.rep w n b).D] S = .ok (.v (.list [.tuple [.int n, b.D]])) ⟨[], S⟩
  t : ∀ w b c, C 24 [.v (Big.two w b c).D] S = .ok (.v (.list [.tuple [.int 1, b.D], .tuple [.int 1, c.D]])) ⟨[], S⟩
  h : ∀ w b c d, C 24 [.v (Big.three w b c d).D] S = .ok (.v (.list [.tuple [.int 1, b.D], .tuple [.int 1, c.D], .tuple [.int 1, d.D]])) ⟨[], S⟩
  a : ∀ b : Big, b.ok → b.dep ≤ D → C 11 [.v b.D] S = .ok (.v (.int (acts b))) ⟨[], S⟩
  f : ∀ b : Big, b.ok → b.dep ≤ D → C 10 [.v b.D] S = .ok (.v (.int (ff b))) ⟨[], S⟩
theorem ce_of (k D : Nat) (S : List OS) (h : D + 2 ≤ k) (hd : D ≤ 20) : CE (callP fs k) S D := by
  obtain ⟨k, rfl⟩ : ∃ j, k = j + 1 := ⟨k - 1, by omega⟩
  exact ⟨fun w n b => c21r k w n b S, fun w b c => c21t k w b c S, fun w b c d => c21h k w b c d S, fun b h1 h2 => c11 b (k + 1) S h1 (by omega) (by omega), fun b h1 h2 => c18 b (k + 1) S h1 (by omega) (by omega)⟩
theorem c20 (b : Big) (p : Int) (k : Nat) (S : List OS) (h : b.ok) (hk : b.dep + 3 ≤ k) (hd : b.dep ≤ 20) (h0 : 0 ≤ p) (h1 : p < acts b) : callP fs k 23 [.v b.D, .v (.int p)] S = .ok (.v .none) ⟨[], S⟩ := by
  obtain ⟨k, rfl⟩ : ∃ j, k = j + 1 := ⟨k - 1, by omega⟩
  have e := c11 b k S h (by omega) hd
  show runFn (callP fs k) Fcheck [.v b.D, .v (.int p)] S = _
  generalize callP fs k = C at e
  simp [runFn, exs, ex, ev, evAnd, evOr, evs, evO, evL, evIf, evI, asg, asgs, asT, asTs, setL, R.b, R.t, R.ne, RT.s, ofO, peek, peekT, peeks, isiD, tyOf, tyLe, truW, truD, turns, turnsL, wipe, args, binD, cmpD, eqD, inD, bltD, dmD, strsOf, asStr, intsOf, boolsOf, asInt, asBool, mk, allV, outW, itemsD, itemsW, itemsL, itemsT, ixW, atI, ixN, slW, cut, sIx, freeze, mthW, mtyW, setIxW, forR, enmD, zipD, zipP, rgI, small, szL, isNW, maxI, minI, cl, isIns, noFld, fldW, putA, setFld, Mk.pre, Mk.post, ne1, ne2, ne3, ne4, ne5, ne6, Fcheck, e, h0, h1]
/-! act_at -/
def atB : Big → Int → Str
  | .act s, _ => s
  | .rep _ _ b, p => atB b (p % acts b)
  | .two _ b c, p => if p < acts b then atB b (p % acts b) else atB c ((p - acts b) % acts c)
  | .three _ b c d, p => if p < acts b then atB b (p % acts b) else if p - acts b < acts c then atB c ((p - acts b) % acts c) else atB d ((p - acts b - acts c) % acts d)
def actC : E := match Fact_at.body with | .cons _ (.cons _ (.cons (.while _ c _) _)) => c | _ => .cst .none
def actB : TS := match Fact_at.body with | .cons _ (.cons _ (.cons (.while _ _ b) _)) => b | _ => .nil
theorem mod_in {p a : Int} (h : 1 ≤ a) : 0 ≤ p % a ∧ p % a < a := ⟨Int.emod_nonneg _ (by omega), Int.emod_lt_of_pos _ (by omega)⟩
theorem act_loop {C : Orc} {S : List OS} {D : Nat} (ce : CE C S D) (hD : D ≤ 20) : ∀ (b : Big) (p : Int) (n : Nat) (x1 y3 y4 y5 : Option W), b.ok → b.dep ≤ D → b.dep < n → 0 ≤ p → p < acts b →
    ∃ r x3 x4 x5, whileR (fun ρ m => (ev C actC ρ m).b fun x m => ofO (truW m x) m) (exs C actB) n [some (.v b.D), x1, some (.v (.int p)), y3, y4, y5] ⟨[], S⟩ = .nx [some (.v (.str (atB b p))), x1, some (.v (.int r)), x3, x4, x5] ⟨[], S⟩ := by
  intro b
  induction b with
  | act s =>
    intro p jj x1 y3 y4 y5 _ _ hn _ _
    obtain ⟨n, rfl⟩ : ∃ i, jj = i + 1 := ⟨jj - 1, by have := Nat.lt_of_le_of_lt (Nat.zero_le _) hn; omega⟩
    exact ⟨p, y3, y4, y5, by simp [whileR, actC, Fact_at, runFn, exs, ex, ev, evAnd, evOr, evs, evO, evL, evIf, evI, asg, asgs, asT, asTs, setL, R.b, R.t, R.ne, RT.s, ofO, peek, peekT, peeks, isiD, tyOf, tyLe, truW, truD, turns, turnsL, wipe, args, binD, cmpD, eqD, inD, bltD, dmD, strsOf, asStr, intsOf, boolsOf, asInt, asBool, mk, allV, outW, itemsD, itemsW, itemsL, itemsT, ixW, atI, ixN, slW, cut, sIx, freeze, mthW, mtyW, setIxW, forR, enmD, zipD, zipP, rgI, small, szL, isNW, maxI, minI, cl, isIns, noFld, fldW, putA, setFld, Mk.pre, Mk.post, ne1, ne2, ne3, ne4, ne5, ne6, Big.D, atB]⟩
  | rep w n b ihb =>
    intro p jj x1 y3 y4 y5 h hd hn h0 h1
    obtain ⟨j, rfl⟩ : ∃ i, jj = i + 1 := ⟨jj - 1, by have := Nat.lt_of_le_of_lt (Nat.zero_le _) hn; omega⟩
    have hd : b.dep + 1 ≤ D := hd
    have hn : b.dep + 1 < j + 1 := hn
    obtain ⟨g1, g2, g3⟩ := h
    obtain ⟨i1, i2⟩ := acts_cap b g3
    have hm := mul_ok (by omega) (n_cap g2) (by omega) i2 (by omega)
    have e1 := ce.r w n b
    have e2 := ce.a b g3 (by omega)
    have h1 : p < n * acts b := h1
    have hp : 0 < acts b := by omega
    obtain ⟨m1, m2⟩ := mod_in (p := p) i1
    obtain ⟨r, x3, x4, x5, ih⟩ := ihb (p % acts b) j x1 (some (.v (.int n))) (some (.v b.D)) (some (.v (.int (acts b)))) g3 (by omega) (by omega) m1 m2
    refine ⟨r, x3, x4, x5, ?_⟩
    simp only [Big.D] at e1 e2 ⊢
    rw [whileR]
    have hc : (ev C actC [some (.v (.tuple [.str w.s, .int n, b.D])), x1, some (.v (.int p)), y3, y4, y5] ⟨[], S⟩).b (fun x m => ofO (truW m x) m) = .ok true ⟨[], S⟩ := by simp [actC, Fact_at, runFn, exs, ex, ev, evAnd, evOr, evs, evO, evL, evIf, evI, asg, asgs, asT, asTs, setL, R.b, R.t, R.ne, RT.s, ofO, peek, peekT, peeks, isiD, tyOf, tyLe, truW, truD, turns, turnsL, wipe, args, binD, cmpD, eqD, inD, bltD, dmD, strsOf, asStr, intsOf, boolsOf, asInt, asBool, mk, allV, outW, itemsD, itemsW, itemsL, itemsT, ixW, atI, ixN, slW, cut, sIx, freeze, mthW, mtyW, setIxW, forR, enmD, zipD, zipP, rgI, small, szL, isNW, maxI, minI, cl, isIns, noFld, fldW, putA, setFld, Mk.pre, Mk.post, ne1, ne2, ne3, ne4, ne5, ne6]
    have hb : exs C actB [some (.v (.tuple [.str w.s, .int n, b.D])), x1, some (.v (.int p)), y3, y4, y5] ⟨[], S⟩ = .nx [some (.v b.D), x1, some (.v (.int (p % acts b))), some (.v (.int n)), some (.v b.D), some (.v (.int (acts b)))] ⟨[], S⟩ := by
      simp [actB, Fact_at, runFn, exs, ex, ev, evAnd, evOr, evs, evO, evL, evIf, evI, asg, asgs, asT, asTs, setL, R.b, R.t, R.ne, RT.s, ofO, peek, peekT, peeks, isiD, tyOf, tyLe, truW, truD, turns, turnsL, wipe, args, binD, cmpD, eqD, inD, bltD, dmD, strsOf, asStr, intsOf, boolsOf, asInt, asBool, mk, allV, outW, itemsD, itemsW, itemsL, itemsT, ixW, atI, ixN, slW, cut, sIx, freeze, mthW, mtyW, setIxW, forR, enmD, zipD, zipP, rgI, small, szL, isNW, maxI, minI, cl, isIns, noFld, fldW, putA, setFld, Mk.pre, Mk.post, ne1, ne2, ne3, ne4, ne5, ne6, e1, e2, hm, h1, hp]
    rw [hc]
    simp only [R.t, if_true, hb, atB]
    exact ih
  | two w b c ihb ihc =>
    intro p jj x1 y3 y4 y5 h hd hn h0 h1
    obtain ⟨j, rfl⟩ : ∃ i, jj = i + 1 := ⟨jj - 1, by have := Nat.lt_of_le_of_lt (Nat.zero_le _) hn; omega⟩
    have hd : max b.dep c.dep + 1 ≤ D := hd
    have hn : max b.dep c.dep + 1 < j + 1 := hn
    obtain ⟨g1, g2⟩ := h
    obtain ⟨i1, i2⟩ := acts_cap b g1
    obtain ⟨j1, j2⟩ := acts_cap c g2
    have hm := mul_ok (x := 1) (by omega) (n_cap (by decide)) (by omega) i2 (by omega)
    have hm2 := mul_ok (x := 1) (by omega) (n_cap (by decide)) (by omega) j2 (by omega)
    have e1 := ce.t w b c
    have e2 := ce.a b g1 (by omega)
    have e3 := ce.a c g2 (by omega)
    have h1 : p < acts b + acts c := h1
    have hp : 0 < acts b := by omega
    have hp2 : 0 < acts c := by omega
    obtain ⟨m1, m2⟩ := mod_in (p := p) i1
    obtain ⟨m3, m4⟩ := mod_in (p := p - acts b) j1
    simp only [Big.D] at e1 e2 e3 ⊢
    have hc : (ev C actC [some (.v (.tuple [.str w.s, b.D, c.D])), x1, some (.v (.int p)), y3, y4, y5] ⟨[], S⟩).b (fun x m => ofO (truW m x) m) = .ok true ⟨[], S⟩ := by simp [actC, Fact_at, runFn, exs, ex, ev, evAnd, evOr, evs, evO, evL, evIf, evI, asg, asgs, asT, asTs, setL, R.b, R.t, R.ne, RT.s, ofO, peek, peekT, peeks, isiD, tyOf, tyLe, truW, truD, turns, turnsL, wipe, args, binD, cmpD, eqD, inD, bltD, dmD, strsOf, asStr, intsOf, boolsOf, asInt, asBool, mk, allV, outW, itemsD, itemsW, itemsL, itemsT, ixW, atI, ixN, slW, cut, sIx, freeze, mthW, mtyW, setIxW, forR, enmD, zipD, zipP, rgI, small, szL, isNW, maxI, minI, cl, isIns, noFld, fldW, putA, setFld, Mk.pre, Mk.post, ne1, ne2, ne3, ne4, ne5, ne6]
    by_cases hlt : p < acts b
    · obtain ⟨r, x3, x4, x5, ih⟩ := ihb (p % acts b) j x1 (some (.v (.int 1))) (some (.v b.D)) (some (.v (.int (acts b)))) g1 (by omega) (by omega) m1 m2
      refine ⟨r, x3, x4, x5, ?_⟩
      rw [whileR]
      have hb : exs C actB [some (.v (.tuple [.str w.s, b.D, c.D])), x1, some (.v (.int p)), y3, y4, y5] ⟨[], S⟩ = .nx [some (.v b.D), x1, some (.v (.int (p % acts b))), some (.v (.int 1)), some (.v b.D), some (.v (.int (acts b)))] ⟨[], S⟩ := by
        simp [actB, Fact_at, runFn, exs, ex, ev, evAnd, evOr, evs, evO, evL, evIf, evI, asg, asgs, asT, asTs, setL, R.b, R.t, R.ne, RT.s, ofO, peek, peekT, peeks, isiD, tyOf, tyLe, truW, truD, turns, turnsL, wipe, args, binD, cmpD, eqD, inD, bltD, dmD, strsOf, asStr, intsOf, boolsOf, asInt, asBool, mk, allV, outW, itemsD, itemsW, itemsL, itemsT, ixW, atI, ixN, slW, cut, sIx, freeze, mthW, mtyW, setIxW, forR, enmD, zipD, zipP, rgI, small, szL, isNW, maxI, minI, cl, isIns, noFld, fldW, putA, setFld, Mk.pre, Mk.post, ne1, ne2, ne3, ne4, ne5, ne6, e1, e2, e3, hm, hm2, hlt, hp]
      rw [hc]
      simp only [R.t, if_true, hb, atB, hlt]
      exact ih
    · obtain ⟨r, x3, x4, x5, ih⟩ := ihc ((p - acts b) % acts c) j x1 (some (.v (.int 1))) (some (.v c.D)) (some (.v (.int (acts c)))) g2 (by omega) (by omega) m3 m4
      refine ⟨r, x3, x4, x5, ?_⟩
      rw [whileR]
      have h2 : p - acts b < acts c := by omega
      have hb : exs C actB [some (.v (.tuple [.str w.s, b.D, c.D])), x1, some (.v (.int p)), y3, y4, y5] ⟨[], S⟩ = .nx [some (.v c.D), x1, some (.v (.int ((p - acts b) % acts c))), some (.v (.int 1)), some (.v c.D), some (.v (.int (acts c)))] ⟨[], S⟩ := by
        simp [actB, Fact_at, runFn, exs, ex, ev, evAnd, evOr, evs, evO, evL, evIf, evI, asg, asgs, asT, asTs, setL, R.b, R.t, R.ne, RT.s, ofO, peek, peekT, peeks, isiD, tyOf, tyLe, truW, truD, turns, turnsL, wipe, args, binD, cmpD, eqD, inD, bltD, dmD, strsOf, asStr, intsOf, boolsOf, asInt, asBool, mk, allV, outW, itemsD, itemsW, itemsL, itemsT, ixW, atI, ixN, slW, cut, sIx, freeze, mthW, mtyW, setIxW, forR, enmD, zipD, zipP, rgI, small, szL, isNW, maxI, minI, cl, isIns, noFld, fldW, putA, setFld, Mk.pre, Mk.post, ne1, ne2, ne3, ne4, ne5, ne6, e1, e2, e3, hm, hm2, hlt, hp2, h2]
      rw [hc]
      simp only [R.t, if_true, hb, atB, hlt, if_false]
      exact ih
  | three w b c d ihb ihc ihd =>
    intro p jj x1 y3 y4 y5 h hd hn h0 h1
    obtain ⟨j, rfl⟩ : ∃ i, jj = i + 1 := ⟨jj - 1, by have := Nat.lt_of_le_of_lt (Nat.zero_le _) hn; omega⟩
    have hd : max (max b.dep c.dep) d.dep + 1 ≤ D := hd
    have hn : max (max b.dep c.dep) d.dep + 1 < j + 1 := hn
    obtain ⟨g1, g2, g3⟩ := h
    obtain ⟨i1, i2⟩ := acts_cap b g1
    obtain ⟨j1, j2⟩ := acts_cap c g2
    obtain ⟨l1, l2⟩ := acts_cap d g3
    have hm := mul_ok (x := 1) (by omega) (n_cap (by decide)) (by omega) i2 (by omega)
    have hm2 := mul_ok (x := 1) (by omega) (n_cap (by decide)) (by omega) j2 (by omega)
    have hm3 := mul_ok (x := 1) (by omega) (n_cap (by decide)) (by omega) l2 (by omega)
    have e1 := ce.h w b c d
    have e2 := ce.a b g1 (by omega)
    have e3 := ce.a c g2 (by omega)
    have e4 := ce.a d g3 (by omega)
    have h1 : p < acts b + acts c + acts d := h1
    have hp : 0 < acts b := by omega
    have hp2 : 0 < acts c := by omega
    have hp3 : 0 < acts d := by omega
    obtain ⟨m1, m2⟩ := mod_in (p := p) i1
    obtain ⟨m3, m4⟩ := mod_in (p := p - acts b) j1
    obtain ⟨m5, m6⟩ := mod_in (p := p - acts b - acts c) l1
    simp only [Big.D] at e1 e2 e3 e4 ⊢
    have hc : (ev C actC [some (.v (.tuple [.str w.s, b.D, c.D, d.D])), x1, some (.v (.int p)), y3, y4, y5] ⟨[], S⟩).b (fun x m => ofO (truW m x) m) = .ok true ⟨[], S⟩ := by simp [actC, Fact_at, runFn, exs, ex, ev, evAnd, evOr, evs, evO, evL, evIf, evI, asg, asgs, asT, asTs, setL, R.b, R.t, R.ne, RT.s, ofO, peek, peekT, peeks, isiD, tyOf, tyLe, truW, truD, turns, turnsL, wipe, args, binD, cmpD, eqD, inD, bltD, dmD, strsOf, asStr, intsOf, boolsOf, asInt, asBool, mk, allV, outW, itemsD, itemsW, itemsL, itemsT, ixW, atI, ixN, slW, cut, sIx, freeze, mthW, mtyW, setIxW, forR, enmD, zipD, zipP, rgI, small, szL, isNW, maxI, minI, cl, isIns, noFld, fldW, putA, setFld, Mk.pre, Mk.post, ne1, ne2, ne3, ne4, ne5, ne6]
    by_cases hlt : p < acts b
    · obtain ⟨r, x3, x4, x5, ih⟩ := ihb (p % acts b) j x1 (some (.v (.int 1))) (some (.v b.D)) (some (.v (.int (acts b)))) g1 (by omega) (by omega) m1 m2
      refine ⟨r, x3, x4, x5, ?_⟩
      rw [whileR]
      have hb : exs C actB [some (.v (.tuple [.str w.s, b.D, c.D, d.D])), x1, some (.v (.int p)), y3, y4, y5] ⟨[], S⟩ = .nx [some (.v b.D), x1, some (.v (.int (p % acts b))), some (.v (.int 1)), some (.v b.D), some (.v (.int (acts b)))] ⟨[], S⟩ := by
        simp [actB, Fact_at, runFn, exs, ex, ev, evAnd, evOr, evs, evO, evL, evIf, evI, asg, asgs, asT, asTs, setL, R.b, R.t, R.ne, RT.s, ofO, peek, peekT, peeks, isiD, tyOf, tyLe, truW, truD, turns, turnsL, wipe, args, binD, cmpD, eqD, inD, bltD, dmD, strsOf, asStr, intsOf, boolsOf, asInt, asBool, mk, allV, outW, itemsD, itemsW, itemsL, itemsT, ixW, atI, ixN, slW, cut, sIx, freeze, mthW, mtyW, setIxW, forR, enmD, zipD, zipP, rgI, small, szL, isNW, maxI, minI, cl, isIns, noFld, fldW, putA, setFld, Mk.pre, Mk.post, ne1, ne2, ne3, ne4, ne5, ne6, e1, e2, e3, e4, hm, hm2, hm3, hlt, hp]
      rw [hc]
      simp only [R.t, if_true, hb, atB, hlt]
      exact ih
    · by_cases hlt2 : p - acts b < acts c
      · obtain ⟨r, x3, x4, x5, ih⟩ := ihc ((p - acts b) % acts c) j x1 (some (.v (.int 1))) (some (.v c.D)) (some (.v (.int (acts c)))) g2 (by omega) (by omega) m3 m4
        refine ⟨r, x3, x4, x5, ?_⟩
        rw [whileR]
        have hb : exs C actB [some (.v (.tuple [.str w.s, b.D, c.D, d.D])), x1, some (.v (.int p)), y3, y4, y5] ⟨[], S⟩ = .nx [some (.v c.D), x1, some (.v (.int ((p - acts b) % acts c))), some (.v (.int 1)), some (.v c.D), some (.v (.int (acts c)))] ⟨[], S⟩ := by
          simp [actB, Fact_at, runFn, exs, ex, ev, evAnd, evOr, evs, evO, evL, evIf, evI, asg, asgs, asT, asTs, setL, R.b, R.t, R.ne, RT.s, ofO, peek, peekT, peeks, isiD, tyOf, tyLe, truW, truD, turns, turnsL, wipe, args, binD, cmpD, eqD, inD, bltD, dmD, strsOf, asStr, intsOf, boolsOf, asInt, asBool, mk, allV, outW, itemsD, itemsW, itemsL, itemsT, ixW, atI, ixN, slW, cut, sIx, freeze, mthW, mtyW, setIxW, forR, enmD, zipD, zipP, rgI, small, szL, isNW, maxI, minI, cl, isIns, noFld, fldW, putA, setFld, Mk.pre, Mk.post, ne1, ne2, ne3, ne4, ne5, ne6, e1, e2, e3, e4, hm, hm2, hm3, hlt, hlt2, hp2]
        rw [hc]
        simp only [R.t, if_true, hb, atB, hlt, if_false, hlt2]
        exact ih
      · obtain ⟨r, x3, x4, x5, ih⟩ := ihd ((p - acts b - acts c) % acts d) j x1 (some (.v (.int 1))) (some (.v d.D)) (some (.v (.int (acts d)))) g3 (by omega) (by omega) m5 m6
        refine ⟨r, x3, x4, x5, ?_⟩
        rw [whileR]
        have h3 : p - acts b - acts c < acts d := by omega
        have hb : exs C actB [some (.v (.tuple [.str w.s, b.D, c.D, d.D])), x1, some (.v (.int p)), y3, y4, y5] ⟨[], S⟩ = .nx [some (.v d.D), x1, some (.v (.int ((p - acts b - acts c) % acts d))), some (.v (.int 1)), some (.v d.D), some (.v (.int (acts d)))] ⟨[], S⟩ := by
          simp [actB, Fact_at, runFn, exs, ex, ev, evAnd, evOr, evs, evO, evL, evIf, evI, asg, asgs, asT, asTs, setL, R.b, R.t, R.ne, RT.s, ofO, peek, peekT, peeks, isiD, tyOf, tyLe, truW, truD, turns, turnsL, wipe, args, binD, cmpD, eqD, inD, bltD, dmD, strsOf, asStr, intsOf, boolsOf, asInt, asBool, mk, allV, outW, itemsD, itemsW, itemsL, itemsT, ixW, atI, ixN, slW, cut, sIx, freeze, mthW, mtyW, setIxW, forR, enmD, zipD, zipP, rgI, small, szL, isNW, maxI, minI, cl, isIns, noFld, fldW, putA, setFld, Mk.pre, Mk.post, ne1, ne2, ne3, ne4, ne5, ne6, e1, e2, e3, e4, hm, hm2, hm3, hlt, hlt2, h3, hp3]
        rw [hc]
        simp only [R.t, if_true, hb, atB, hlt, if_false, hlt2]
        exact ih
theorem c9 (b : Big) (p : Int) (k : Nat) (S : List OS) (h : b.ok) (hk : b.dep + 4 ≤ k) (hd : b.dep ≤ 20) (h0 : 0 ≤ p) (h1 : p < acts b) : callP fs k 7 [.v b.D, .v (.int p)] S = .ok (.v (.str (atB b p))) ⟨[], S⟩ := by
  obtain ⟨k, rfl⟩ : ∃ j, k = j + 1 := ⟨k - 1, by omega⟩
  have e := c20 b p k S h (by omega) hd h0 h1
  obtain ⟨r, x3, x4, x5, w⟩ := act_loop (ce_of k b.dep S (by omega) hd) hd b p 1000 (some (.v (.int p))) none none none h (Nat.le_refl _) (by omega) h0 h1
  show runFn (callP fs k) Fact_at [.v b.D, .v (.int p)] S = _
  generalize callP fs k = C at e w
  have hw : ∀ ρ m, ex C (.while 1000 actC actB) ρ m = whileR (fun ρ m => (ev C actC ρ m).b fun x m => ofO (truW m x) m) (exs C actB) 1000 ρ m := fun ρ m => by simp only [ex]
  have hf : Fact_at = ⟨2, 6, .cons (.ex (.call 23 (.cons (.var 0) (.cons (.var 1) .nil)))) (.cons (.asg (.nm 2) (.var 1)) (.cons (.while 1000 actC actB) (.cons (.ret (.var 0)) .nil)))⟩ := rfl
  rw [hf]
  generalize (fun (ρ : Z.Env) (m : Mem) => (ev C actC ρ m).b fun x m => ofO (truW m x) m) = cf at w hw
  simp only [runFn, exs, hw]
  simp [runFn, exs, ex, ev, evAnd, evOr, evs, evO, evL, evIf, evI, asg, asgs, asT, asTs, setL, R.b, R.t, R.ne, RT.s, ofO, peek, peekT, peeks, isiD, tyOf, tyLe, truW, truD, turns, turnsL, wipe, args, binD, cmpD, eqD, inD, bltD, dmD, strsOf, asStr, intsOf, boolsOf, asInt, asBool, mk, allV, outW, itemsD, itemsW, itemsL, itemsT, ixW, atI, ixN, slW, cut, sIx, freeze, mthW, mtyW, setIxW, forR, enmD, zipD, zipP, rgI, small, szL, isNW, maxI, minI, cl, isIns, noFld, fldW, putA, setFld, Mk.pre, Mk.post, ne1, ne2, ne3, ne4, ne5, ne6, e, w]
end L.B
set_option maxHeartbeats 1000000
namespace L.B
open PySem Z
/-! way_to -/
abbrev St3 := Wo × List (Int × Big) × Int
def wD (x : St3) : PyData := .tuple [.str x.1.s, .list (x.2.1.map pD), .int x.2.2]
def way : Big → Int → List St3
  | .act _, _ => []
  | .rep w n b, p => (w, [(p / acts b, b)], n - 1 - p / acts b) :: way b (p % acts b)
  | .two w b c, p => if p < acts b then (w, [(p / acts b, b)], 1 - p / acts b) :: way b (p % acts b)
    else (w, [(1, b), ((p - acts b) / acts c, c)], - ((p - acts b) / acts c)) :: way c ((p - acts b) % acts c)
  | .three w b c d, p => if p < acts b then (w, [(p / acts b, b)], 2 - p / acts b) :: way b (p % acts b)
    else if p - acts b < acts c then (w, [(1, b), ((p - acts b) / acts c, c)], 1 - (p - acts b) / acts c) :: way c ((p - acts b) % acts c)
    else (w, [(1, b), (1, c), ((p - acts b - acts c) / acts d, d)], - ((p - acts b - acts c) / acts d)) :: way d ((p - acts b - acts c) % acts d)
def wayC : E := match Fway_to.body with | .cons _ (.cons (.while _ c _) _) => c | _ => .cst .none
def wayB : TS := match Fway_to.body with | .cons _ (.cons (.while _ _ b) _) => b | _ => .nil
theorem div_ok {x : Int} {d : Nat} (h1 : 1 ≤ x) (h2 : x ≤ cap d) (hd : d ≤ 20) : divFit x = true := by
  refine decide_eq_true ⟨by omega, ?_⟩
  have := log_of (by omega) h2
  omega
theorem wayC_t {C : Orc} {ds : List PyData} {m : Mem} {r : List (Option W)} : (ev C wayC (some (.v (.tuple ds)) :: r) m).b (fun x m => ofO (truW m x) m) = .ok true m := by simp [wayC, Fway_to, runFn, exs, ex, ev, evAnd, evOr, evs, evO, evL, evIf, evI, asg, asgs, asT, asTs, setL, R.b, R.t, R.ne, RT.s, ofO, peek, peekT, peeks, isiD, tyOf, tyLe, truW, truD, turns, turnsL, wipe, args, binD, cmpD, eqD, inD, bltD, dmD, strsOf, asStr, intsOf, boolsOf, asInt, asBool, mk, allV, outW, itemsD, itemsW, itemsL, itemsT, ixW, atI, ixN, slW, cut, sIx, freeze, mthW, mtyW, setIxW, forR, enmD, zipD, zipP, rgI, small, szL, isNW, maxI, minI, cl, isIns, noFld, fldW, putA, setFld, Mk.pre, Mk.post, ne1, ne2, ne3, ne4, ne5, ne6]
theorem wayC_s {C : Orc} {s : Str} {m : Mem} {r : List (Option W)} : (ev C wayC (some (.v (.str s)) :: r) m).b (fun x m => ofO (truW m x) m) = .ok false m := by simp [wayC, Fway_to, runFn, exs, ex, ev, evAnd, evOr, evs, evO, evL, evIf, evI, asg, asgs, asT, asTs, setL, R.b, R.t, R.ne, RT.s, ofO, peek, peekT, peeks, isiD, tyOf, tyLe, truW, truD, turns, turnsL, wipe, args, binD, cmpD, eqD, inD, bltD, dmD, strsOf, asStr, intsOf, boolsOf, asInt, asBool, mk, allV, outW, itemsD, itemsW, itemsL, itemsT, ixW, atI, ixN, slW, cut, sIx, freeze, mthW, mtyW, setIxW, forR, enmD, zipD, zipP, rgI, small, szL, isNW, maxI, minI, cl, isIns, noFld, fldW, putA, setFld, Mk.pre, Mk.post, ne1, ne2, ne3, ne4, ne5, ne6]
theorem wst_rep0 {C : Orc} {S : List OS} {acc : List W} {w : Wo} {n p : Int} {b c d : Big} {x1 y4 y5 y6 y7 y8 y9 : Option W} (e1 : C 24 [.v (.tuple [.str w.s, .int n, b.D])] S = .ok (.v (.list [.tuple [.int n, b.D]])) ⟨[], S⟩) (eb : C 11 [.v b.D] S = .ok (.v (.int (acts b))) ⟨[], S⟩) (mb : mulFit n (acts b) = true) (h1 : p < n * acts b) (hp : 0 < acts b) (hv : divFit (acts b) = true) (hl : acc.length < 16777216) :
    exs C wayB [some (.v (.tuple [.str w.s, .int n, b.D])), x1, some (.loc 0), some (.v (.int p)), y4, y5, y6, y7, y8, y9] ⟨[.lst acc], S⟩ = .nx [some (.v b.D), x1, some (.loc 0), some (.v (.int ((p) % acts b))), some (.v (.list [])), some (.v (.list [.tuple [.int n, b.D]])), some (.v (.int 0)), some (.v (.int n)), some (.v b.D), some (.v (.int (acts b)))] ⟨[.lst (acc ++ [.v (wD (w, [((p) / acts b, b)], n - 1 - p / acts b))])], S⟩ := by
  simp [wayB, Fway_to, runFn, exs, ex, ev, evAnd, evOr, evs, evO, evL, evIf, evI, asg, asgs, asT, asTs, setL, R.b, R.t, R.ne, RT.s, ofO, peek, peekT, peeks, isiD, tyOf, tyLe, truW, truD, turns, turnsL, wipe, args, binD, cmpD, eqD, inD, bltD, dmD, strsOf, asStr, intsOf, boolsOf, asInt, asBool, mk, allV, outW, itemsD, itemsW, itemsL, itemsT, ixW, atI, ixN, slW, cut, sIx, freeze, mthW, mtyW, setIxW, forR, enmD, zipD, zipP, rgI, small, szL, isNW, maxI, minI, cl, isIns, noFld, fldW, putA, setFld, Mk.pre, Mk.post, ne1, ne2, ne3, ne4, ne5, ne6, e1, eb, mb, h1, hp, hv, hl, wD, pD]
  try omega
theorem wst_two0 {C : Orc} {S : List OS} {acc : List W} {w : Wo} {n p : Int} {b c d : Big} {x1 y4 y5 y6 y7 y8 y9 : Option W} (e1 : C 24 [.v (.tuple [.str w.s, b.D, c.D])] S = .ok (.v (.list [.tuple [.int 1, b.D], .tuple [.int 1, c.D]])) ⟨[], S⟩) (eb : C 11 [.v b.D] S = .ok (.v (.int (acts b))) ⟨[], S⟩) (mb : mulFit 1 (acts b) = true) (h1 : p < acts b) (hp : 0 < acts b) (hv : divFit (acts b) = true) (hl : acc.length < 16777216) :
    exs C wayB [some (.v (.tuple [.str w.s, b.D, c.D])), x1, some (.loc 0), some (.v (.int p)), y4, y5, y6, y7, y8, y9] ⟨[.lst acc], S⟩ = .nx [some (.v b.D), x1, some (.loc 0), some (.v (.int ((p) % acts b))), some (.v (.list [])), some (.v (.list [.tuple [.int 1, b.D], .tuple [.int 1, c.D]])), some (.v (.int 0)), some (.v (.int 1)), some (.v b.D), some (.v (.int (acts b)))] ⟨[.lst (acc ++ [.v (wD (w, [((p) / acts b, b)], 1 - p / acts b))])], S⟩ := by
  simp [wayB, Fway_to, runFn, exs, ex, ev, evAnd, evOr, evs, evO, evL, evIf, evI, asg, asgs, asT, asTs, setL, R.b, R.t, R.ne, RT.s, ofO, peek, peekT, peeks, isiD, tyOf, tyLe, truW, truD, turns, turnsL, wipe, args, binD, cmpD, eqD, inD, bltD, dmD, strsOf, asStr, intsOf, boolsOf, asInt, asBool, mk, allV, outW, itemsD, itemsW, itemsL, itemsT, ixW, atI, ixN, slW, cut, sIx, freeze, mthW, mtyW, setIxW, forR, enmD, zipD, zipP, rgI, small, szL, isNW, maxI, minI, cl, isIns, noFld, fldW, putA, setFld, Mk.pre, Mk.post, ne1, ne2, ne3, ne4, ne5, ne6, e1, eb, mb, h1, hp, hv, hl, wD, pD]
  try omega
theorem wst_two1 {C : Orc} {S : List OS} {acc : List W} {w : Wo} {n p : Int} {b c d : Big} {x1 y4 y5 y6 y7 y8 y9 : Option W} (e1 : C 24 [.v (.tuple [.str w.s, b.D, c.D])] S = .ok (.v (.list [.tuple [.int 1, b.D], .tuple [.int 1, c.D]])) ⟨[], S⟩) (eb : C 11 [.v b.D] S = .ok (.v (.int (acts b))) ⟨[], S⟩) (mb : mulFit 1 (acts b) = true) (ec : C 11 [.v c.D] S = .ok (.v (.int (acts c))) ⟨[], S⟩) (mc : mulFit 1 (acts c) = true) (n0 : ¬ p < acts b) (h1 : p - acts b < acts c) (hp : 0 < acts c) (hv : divFit (acts c) = true) (hl : acc.length < 16777216) :
    exs C wayB [some (.v (.tuple [.str w.s, b.D, c.D])), x1, some (.loc 0), some (.v (.int p)), y4, y5, y6, y7, y8, y9] ⟨[.lst acc], S⟩ = .nx [some (.v c.D), x1, some (.loc 0), some (.v (.int ((p - acts b) % acts c))), some (.v (.list [.tuple [.int 1, b.D]])), some (.v (.list [.tuple [.int 1, b.D], .tuple [.int 1, c.D]])), some (.v (.int 1)), some (.v (.int 1)), some (.v c.D), some (.v (.int (acts c)))] ⟨[.lst (acc ++ [.v (wD (w, [(1, b), ((p - acts b) / acts c, c)], - ((p - acts b) / acts c)))])], S⟩ := by
  simp [wayB, Fway_to, runFn, exs, ex, ev, evAnd, evOr, evs, evO, evL, evIf, evI, asg, asgs, asT, asTs, setL, R.b, R.t, R.ne, RT.s, ofO, peek, peekT, peeks, isiD, tyOf, tyLe, truW, truD, turns, turnsL, wipe, args, binD, cmpD, eqD, inD, bltD, dmD, strsOf, asStr, intsOf, boolsOf, asInt, asBool, mk, allV, outW, itemsD, itemsW, itemsL, itemsT, ixW, atI, ixN, slW, cut, sIx, freeze, mthW, mtyW, setIxW, forR, enmD, zipD, zipP, rgI, small, szL, isNW, maxI, minI, cl, isIns, noFld, fldW, putA, setFld, Mk.pre, Mk.post, ne1, ne2, ne3, ne4, ne5, ne6, e1, eb, mb, ec, mc, n0, h1, hp, hv, hl, wD, pD]
  try omega
theorem wst_three0 {C : Orc} {S : List OS} {acc : List W} {w : Wo} {n p : Int} {b c d : Big} {x1 y4 y5 y6 y7 y8 y9 : Option W} (e1 : C 24 [.v (.tuple [.str w.s, b.D, c.D, d.D])] S = .ok (.v (.list [.tuple [.int 1, b.D], .tuple [.int 1, c.D], .tuple [.int 1, d.D]])) ⟨[], S⟩) (eb : C 11 [.v b.D] S = .ok (.v (.int (acts b))) ⟨[], S⟩) (mb : mulFit 1 (acts b) = true) (h1 : p < acts b) (hp : 0 < acts b) (hv : divFit (acts b) = true) (hl : acc.length < 16777216) :
    exs C wayB [some (.v (.tuple [.str w.s, b.D, c.D, d.D])), x1, some (.loc 0), some (.v (.int p)), y4, y5, y6, y7, y8, y9] ⟨[.lst acc], S⟩ = .nx [some (.v b.D), x1, some (.loc 0), some (.v (.int ((p) % acts b))), some (.v (.list [])), some (.v (.list [.tuple [.int 1, b.D], .tuple [.int 1, c.D], .tuple [.int 1, d.D]])), some (.v (.int 0)), some (.v (.int 1)), some (.v b.D), some (.v (.int (acts b)))] ⟨[.lst (acc ++ [.v (wD (w, [((p) / acts b, b)], 2 - p / acts b))])], S⟩ := by
  simp [wayB, Fway_to, runFn, exs, ex, ev, evAnd, evOr, evs, evO, evL, evIf, evI, asg, asgs, asT, asTs, setL, R.b, R.t, R.ne, RT.s, ofO, peek, peekT, peeks, isiD, tyOf, tyLe, truW, truD, turns, turnsL, wipe, args, binD, cmpD, eqD, inD, bltD, dmD, strsOf, asStr, intsOf, boolsOf, asInt, asBool, mk, allV, outW, itemsD, itemsW, itemsL, itemsT, ixW, atI, ixN, slW, cut, sIx, freeze, mthW, mtyW, setIxW, forR, enmD, zipD, zipP, rgI, small, szL, isNW, maxI, minI, cl, isIns, noFld, fldW, putA, setFld, Mk.pre, Mk.post, ne1, ne2, ne3, ne4, ne5, ne6, e1, eb, mb, h1, hp, hv, hl, wD, pD]
  try omega
theorem wst_three1 {C : Orc} {S : List OS} {acc : List W} {w : Wo} {n p : Int} {b c d : Big} {x1 y4 y5 y6 y7 y8 y9 : Option W} (e1 : C 24 [.v (.tuple [.str w.s, b.D, c.D, d.D])] S = .ok (.v (.list [.tuple [.int 1, b.D], .tuple [.int 1, c.D], .tuple [.int 1, d.D]])) ⟨[], S⟩) (eb : C 11 [.v b.D] S = .ok (.v (.int (acts b))) ⟨[], S⟩) (mb : mulFit 1 (acts b) = true) (ec : C 11 [.v c.D] S = .ok (.v (.int (acts c))) ⟨[], S⟩) (mc : mulFit 1 (acts c) = true) (n0 : ¬ p < acts b) (h1 : p - acts b < acts c) (hp : 0 < acts c) (hv : divFit (acts c) = true) (hl : acc.length < 16777216) :
    exs C wayB [some (.v (.tuple [.str w.s, b.D, c.D, d.D])), x1, some (.loc 0), some (.v (.int p)), y4, y5, y6, y7, y8, y9] ⟨[.lst acc], S⟩ = .nx [some (.v c.D), x1, some (.loc 0), some (.v (.int ((p - acts b) % acts c))), some (.v (.list [.tuple [.int 1, b.D]])), some (.v (.list [.tuple [.int 1, b.D], .tuple [.int 1, c.D], .tuple [.int 1, d.D]])), some (.v (.int 1)), some (.v (.int 1)), some (.v c.D), some (.v (.int (acts c)))] ⟨[.lst (acc ++ [.v (wD (w, [(1, b), ((p - acts b) / acts c, c)], 1 - (p - acts b) / acts c))])], S⟩ := by
  simp [wayB, Fway_to, runFn, exs, ex, ev, evAnd, evOr, evs, evO, evL, evIf, evI, asg, asgs, asT, asTs, setL, R.b, R.t, R.ne, RT.s, ofO, peek, peekT, peeks, isiD, tyOf, tyLe, truW, truD, turns, turnsL, wipe, args, binD, cmpD, eqD, inD, bltD, dmD, strsOf, asStr, intsOf, boolsOf, asInt, asBool, mk, allV, outW, itemsD, itemsW, itemsL, itemsT, ixW, atI, ixN, slW, cut, sIx, freeze, mthW, mtyW, setIxW, forR, enmD, zipD, zipP, rgI, small, szL, isNW, maxI, minI, cl, isIns, noFld, fldW, putA, setFld, Mk.pre, Mk.post, ne1, ne2, ne3, ne4, ne5, ne6, e1, eb, mb, ec, mc, n0, h1, hp, hv, hl, wD, pD]
  try omega
theorem wst_three2 {C : Orc} {S : List OS} {acc : List W} {w : Wo} {n p : Int} {b c d : Big} {x1 y4 y5 y6 y7 y8 y9 : Option W} (e1 : C 24 [.v (.tuple [.str w.s, b.D, c.D, d.D])] S = .ok (.v (.list [.tuple [.int 1, b.D], .tuple [.int 1, c.D], .tuple [.int 1, d.D]])) ⟨[], S⟩) (eb : C 11 [.v b.D] S = .ok (.v (.int (acts b))) ⟨[], S⟩) (mb : mulFit 1 (acts b) = true) (ec : C 11 [.v c.D] S = .ok (.v (.int (acts c))) ⟨[], S⟩) (mc : mulFit 1 (acts c) = true) (ed : C 11 [.v d.D] S = .ok (.v (.int (acts d))) ⟨[], S⟩) (md : mulFit 1 (acts d) = true) (n0 : ¬ p < acts b) (n1 : ¬ p - acts b < acts c) (h1 : p - acts b - acts c < acts d) (hp : 0 < acts d) (hv : divFit (acts d) = true) (hl : acc.length < 16777216) :
    exs C wayB [some (.v (.tuple [.str w.s, b.D, c.D, d.D])), x1, some (.loc 0), some (.v (.int p)), y4, y5, y6, y7, y8, y9] ⟨[.lst acc], S⟩ = .nx [some (.v d.D), x1, some (.loc 0), some (.v (.int ((p - acts b - acts c) % acts d))), some (.v (.list [.tuple [.int 1, b.D], .tuple [.int 1, c.D]])), some (.v (.list [.tuple [.int 1, b.D], .tuple [.int 1, c.D], .tuple [.int 1, d.D]])), some (.v (.int 2)), some (.v (.int 1)), some (.v d.D), some (.v (.int (acts d)))] ⟨[.lst (acc ++ [.v (wD (w, [(1, b), (1, c), ((p - acts b - acts c) / acts d, d)], - ((p - acts b - acts c) / acts d)))])], S⟩ := by
  simp [wayB, Fway_to, runFn, exs, ex, ev, evAnd, evOr, evs, evO, evL, evIf, evI, asg, asgs, asT, asTs, setL, R.b, R.t, R.ne, RT.s, ofO, peek, peekT, peeks, isiD, tyOf, tyLe, truW, truD, turns, turnsL, wipe, args, binD, cmpD, eqD, inD, bltD, dmD, strsOf, asStr, intsOf, boolsOf, asInt, asBool, mk, allV, outW, itemsD, itemsW, itemsL, itemsT, ixW, atI, ixN, slW, cut, sIx, freeze, mthW, mtyW, setIxW, forR, enmD, zipD, zipP, rgI, small, szL, isNW, maxI, minI, cl, isIns, noFld, fldW, putA, setFld, Mk.pre, Mk.post, ne1, ne2, ne3, ne4, ne5, ne6, e1, eb, mb, ec, mc, ed, md, n0, n1, h1, hp, hv, hl, wD, pD]
  try omega
theorem way_loop {C : Orc} {S : List OS} {D : Nat} (ce : CE C S D) (hD : D ≤ 20) (b : Big) : ∀ (p : Int) (n : Nat) (acc : List W) (x1 y4 y5 y6 y7 y8 y9 : Option W), b.ok → b.dep ≤ D → b.dep < n → 0 ≤ p → p < acts b → acc.length + b.dep ≤ 100 →
    ∃ x0 x3 x4 x5 x6 x7 x8 x9, whileR (fun ρ m => (ev C wayC ρ m).b fun x m => ofO (truW m x) m) (exs C wayB) n [some (.v b.D), x1, some (.loc 0), some (.v (.int p)), y4, y5, y6, y7, y8, y9] ⟨[.lst acc], S⟩
      = .nx [x0, x1, some (.loc 0), x3, x4, x5, x6, x7, x8, x9] ⟨[.lst (acc ++ (way b p).map fun x => .v (wD x))], S⟩ := by
  induction b with
  | act s =>
    intro p n acc x1 y4 y5 y6 y7 y8 y9 _ _ hn _ _ _
    obtain ⟨n, rfl⟩ : ∃ j, n = j + 1 := ⟨n - 1, by omega⟩
    refine ⟨some (.v (.str s)), some (.v (.int p)), y4, y5, y6, y7, y8, y9, ?_⟩
    rw [whileR]
    simp only [Big.D]
    rw [wayC_s]
    simp [R.t, way]
  | rep w n b ihb =>
    intro p j0 acc x1 y4 y5 y6 y7 y8 y9 h hd hn h0 h1 ha
    have hd : b.dep + 1 ≤ D := hd
    have hn : b.dep + 1 < j0 := hn
    have ha : acc.length + (b.dep + 1) ≤ 100 := ha
    obtain ⟨j, rfl⟩ : ∃ j, j0 = j + 1 := ⟨j0 - 1, by omega⟩
    obtain ⟨n1, n2, gb⟩ := h
    have h1 : p < n * acts b := h1
    have e1 := ce.r w n b
    simp only [Big.D] at e1
    have hl : acc.length < 16777216 := by omega
    have ib := acts_cap b gb
    have eb := ce.a b gb (by omega)
    have mb := mul_ok (by omega) (n_cap n2) (by omega) ib.2 (by omega)
    have hpb : 0 < acts b := by omega
    have hvb := div_ok ib.1 ib.2 (by omega)
    have st := wst_rep0 (c := b) (d := b) (C := C) (S := S) (acc := acc) (w := w) (n := n) (p := p) (x1 := x1) (y4 := y4) (y5 := y5) (y6 := y6) (y7 := y7) (y8 := y8) (y9 := y9) e1 eb mb h1 hpb hvb hl
    obtain ⟨q1, q2⟩ := mod_in (p := p) ib.1
    obtain ⟨x0, x3, x4, x5, x6, x7, x8, x9, ih⟩ := ihb ((p) % acts b) j (acc ++ [.v (wD (w, [((p) / acts b, b)], n - 1 - p / acts b))]) x1 (some (.v (.list []))) (some (.v (.list [.tuple [.int n, b.D]]))) (some (.v (.int 0))) (some (.v (.int n))) (some (.v b.D)) (some (.v (.int (acts b)))) gb (by omega) (by omega) q1 q2 (by rw [List.length_append]; show acc.length + 1 + _ ≤ 100; omega)
    refine ⟨x0, x3, x4, x5, x6, x7, x8, x9, ?_⟩
    rw [whileR]
    simp only [Big.D]
    rw [wayC_t]
    simp only [R.t, if_true]
    rw [st]
    dsimp only
    rw [ih]
    simp [way]
  | two w b c ihb ihc =>
    intro p j0 acc x1 y4 y5 y6 y7 y8 y9 h hd hn h0 h1 ha
    have hd : max b.dep c.dep + 1 ≤ D := hd
    have hn : max b.dep c.dep + 1 < j0 := hn
    have ha : acc.length + (max b.dep c.dep + 1) ≤ 100 := ha
    obtain ⟨j, rfl⟩ : ∃ j, j0 = j + 1 := ⟨j0 - 1, by omega⟩
    obtain ⟨gb, gc⟩ := h
    have h1 : p < acts b + acts c := h1
    have e1 := ce.t w b c
    simp only [Big.D] at e1
    have hl : acc.length < 16777216 := by omega
    have ib := acts_cap b gb
    have eb := ce.a b gb (by omega)
    have mb := mul_ok (x := 1) (by omega) (n_cap (by decide)) (by omega) ib.2 (by omega)
    have hpb : 0 < acts b := by omega
    have hvb := div_ok ib.1 ib.2 (by omega)
    have ic := acts_cap c gc
    have ec := ce.a c gc (by omega)
    have mc := mul_ok (x := 1) (by omega) (n_cap (by decide)) (by omega) ic.2 (by omega)
    have hpc : 0 < acts c := by omega
    have hvc := div_ok ic.1 ic.2 (by omega)
    by_cases hlt0 : p < acts b
    · skip
      have st := wst_two0 (n := 1) (d := b) (b := b) (c := c) (C := C) (S := S) (acc := acc) (w := w) (p := p) (x1 := x1) (y4 := y4) (y5 := y5) (y6 := y6) (y7 := y7) (y8 := y8) (y9 := y9) e1 eb mb hlt0 hpb hvb hl
      obtain ⟨q1, q2⟩ := mod_in (p := p) ib.1
      obtain ⟨x0, x3, x4, x5, x6, x7, x8, x9, ih⟩ := ihb ((p) % acts b) j (acc ++ [.v (wD (w, [((p) / acts b, b)], 1 - p / acts b))]) x1 (some (.v (.list []))) (some (.v (.list [.tuple [.int 1, b.D], .tuple [.int 1, c.D]]))) (some (.v (.int 0))) (some (.v (.int 1))) (some (.v b.D)) (some (.v (.int (acts b)))) gb (by omega) (by omega) q1 q2 (by rw [List.length_append]; show acc.length + 1 + _ ≤ 100; omega)
      refine ⟨x0, x3, x4, x5, x6, x7, x8, x9, ?_⟩
      rw [whileR]
      simp only [Big.D]
      rw [wayC_t]
      simp only [R.t, if_true]
      rw [st]
      dsimp only
      rw [ih]
      simp [way, hlt0]
    · have hn0 := hlt0
      have st := wst_two1 (n := 1) (d := b) (b := b) (c := c) (C := C) (S := S) (acc := acc) (w := w) (p := p) (x1 := x1) (y4 := y4) (y5 := y5) (y6 := y6) (y7 := y7) (y8 := y8) (y9 := y9) e1 eb mb ec mc hn0 (by omega) hpc hvc hl
      obtain ⟨q1, q2⟩ := mod_in (p := p - acts b) ic.1
      obtain ⟨x0, x3, x4, x5, x6, x7, x8, x9, ih⟩ := ihc ((p - acts b) % acts c) j (acc ++ [.v (wD (w, [(1, b), ((p - acts b) / acts c, c)], - ((p - acts b) / acts c)))]) x1 (some (.v (.list [.tuple [.int 1, b.D]]))) (some (.v (.list [.tuple [.int 1, b.D], .tuple [.int 1, c.D]]))) (some (.v (.int 1))) (some (.v (.int 1))) (some (.v c.D)) (some (.v (.int (acts c)))) gc (by omega) (by omega) q1 q2 (by rw [List.length_append]; show acc.length + 1 + _ ≤ 100; omega)
      refine ⟨x0, x3, x4, x5, x6, x7, x8, x9, ?_⟩
      rw [whileR]
      simp only [Big.D]
      rw [wayC_t]
      simp only [R.t, if_true]
      rw [st]
      dsimp only
      rw [ih]
      simp [way, hn0]
  | three w b c d ihb ihc ihd =>
    intro p j0 acc x1 y4 y5 y6 y7 y8 y9 h hd hn h0 h1 ha
    have hd : max (max b.dep c.dep) d.dep + 1 ≤ D := hd
    have hn : max (max b.dep c.dep) d.dep + 1 < j0 := hn
    have ha : acc.length + (max (max b.dep c.dep) d.dep + 1) ≤ 100 := ha
    obtain ⟨j, rfl⟩ : ∃ j, j0 = j + 1 := ⟨j0 - 1, by omega⟩
    obtain ⟨gb, gc, gd⟩ := h
    have h1 : p < acts b + acts c + acts d := h1
    have e1 := ce.h w b c d
    simp only [Big.D] at e1
    have hl : acc.length < 16777216 := by omega
    have ib := acts_cap b gb
    have eb := ce.a b gb (by omega)
    have mb := mul_ok (x := 1) (by omega) (n_cap (by decide)) (by omega) ib.2 (by omega)
    have hpb : 0 < acts b := by omega
    have hvb := div_ok ib.1 ib.2 (by omega)
    have ic := acts_cap c gc
    have ec := ce.a c gc (by omega)
    have mc := mul_ok (x := 1) (by omega) (n_cap (by decide)) (by omega) ic.2 (by omega)
    have hpc : 0 < acts c := by omega
    have hvc := div_ok ic.1 ic.2 (by omega)
    have id := acts_cap d gd
    have ed := ce.a d gd (by omega)
    have md := mul_ok (x := 1) (by omega) (n_cap (by decide)) (by omega) id.2 (by omega)
    have hpd : 0 < acts d := by omega
    have hvd := div_ok id.1 id.2 (by omega)
    by_cases hlt0 : p < acts b
    · skip
      have st := wst_three0 (n := 1) (b := b) (c := c) (d := d) (C := C) (S := S) (acc := acc) (w := w) (p := p) (x1 := x1) (y4 := y4) (y5 := y5) (y6 := y6) (y7 := y7) (y8 := y8) (y9 := y9) e1 eb mb hlt0 hpb hvb hl
      obtain ⟨q1, q2⟩ := mod_in (p := p) ib.1
      obtain ⟨x0, x3, x4, x5, x6, x7, x8, x9, ih⟩ := ihb ((p) % acts b) j (acc ++ [.v (wD (w, [((p) / acts b, b)], 2 - p / acts b))]) x1 (some (.v (.list []))) (some (.v (.list [.tuple [.int 1, b.D], .tuple [.int 1, c.D], .tuple [.int 1, d.D]]))) (some (.v (.int 0))) (some (.v (.int 1))) (some (.v b.D)) (some (.v (.int (acts b)))) gb (by omega) (by omega) q1 q2 (by rw [List.length_append]; show acc.length + 1 + _ ≤ 100; omega)
      refine ⟨x0, x3, x4, x5, x6, x7, x8, x9, ?_⟩
      rw [whileR]
      simp only [Big.D]
      rw [wayC_t]
      simp only [R.t, if_true]
      rw [st]
      dsimp only
      rw [ih]
      simp [way, hlt0]
    · have hn0 := hlt0
      by_cases hlt1 : p - acts b < acts c
      · skip
        have st := wst_three1 (n := 1) (b := b) (c := c) (d := d) (C := C) (S := S) (acc := acc) (w := w) (p := p) (x1 := x1) (y4 := y4) (y5 := y5) (y6 := y6) (y7 := y7) (y8 := y8) (y9 := y9) e1 eb mb ec mc hn0 hlt1 hpc hvc hl
        obtain ⟨q1, q2⟩ := mod_in (p := p - acts b) ic.1
        obtain ⟨x0, x3, x4, x5, x6, x7, x8, x9, ih⟩ := ihc ((p - acts b) % acts c) j (acc ++ [.v (wD (w, [(1, b), ((p - acts b) / acts c, c)], 1 - (p - acts b) / acts c))]) x1 (some (.v (.list [.tuple [.int 1, b.D]]))) (some (.v (.list [.tuple [.int 1, b.D], .tuple [.int 1, c.D], .tuple [.int 1, d.D]]))) (some (.v (.int 1))) (some (.v (.int 1))) (some (.v c.D)) (some (.v (.int (acts c)))) gc (by omega) (by omega) q1 q2 (by rw [List.length_append]; show acc.length + 1 + _ ≤ 100; omega)
        refine ⟨x0, x3, x4, x5, x6, x7, x8, x9, ?_⟩
        rw [whileR]
        simp only [Big.D]
        rw [wayC_t]
        simp only [R.t, if_true]
        rw [st]
        dsimp only
        rw [ih]
        simp [way, hn0, hlt1]
      · have hn1 := hlt1
        have st := wst_three2 (n := 1) (b := b) (c := c) (d := d) (C := C) (S := S) (acc := acc) (w := w) (p := p) (x1 := x1) (y4 := y4) (y5 := y5) (y6 := y6) (y7 := y7) (y8 := y8) (y9 := y9) e1 eb mb ec mc ed md hn0 hn1 (by omega) hpd hvd hl
        obtain ⟨q1, q2⟩ := mod_in (p := p - acts b - acts c) id.1
        obtain ⟨x0, x3, x4, x5, x6, x7, x8, x9, ih⟩ := ihd ((p - acts b - acts c) % acts d) j (acc ++ [.v (wD (w, [(1, b), (1, c), ((p - acts b - acts c) / acts d, d)], - ((p - acts b - acts c) / acts d)))]) x1 (some (.v (.list [.tuple [.int 1, b.D], .tuple [.int 1, c.D]]))) (some (.v (.list [.tuple [.int 1, b.D], .tuple [.int 1, c.D], .tuple [.int 1, d.D]]))) (some (.v (.int 2))) (some (.v (.int 1))) (some (.v d.D)) (some (.v (.int (acts d)))) gd (by omega) (by omega) q1 q2 (by rw [List.length_append]; show acc.length + 1 + _ ≤ 100; omega)
        refine ⟨x0, x3, x4, x5, x6, x7, x8, x9, ?_⟩
        rw [whileR]
        simp only [Big.D]
        rw [wayC_t]
        simp only [R.t, if_true]
        rw [st]
        dsimp only
        rw [ih]
        simp [way, hn0, hn1]
theorem way_len : ∀ (b : Big) (p : Int), (way b p).length ≤ b.dep
  | .act _, _ => Nat.le_refl _
  | .rep w n b, p => Nat.succ_le_succ (way_len b _)
  | .two w b c, p => by
    have i := way_len b (p % acts b)
    have j := way_len c ((p - acts b) % acts c)
    show _ ≤ max b.dep c.dep + 1
    unfold way
    split <;> simp only [List.length_cons] <;> omega
  | .three w b c d, p => by
    have i := way_len b (p % acts b)
    have j := way_len c ((p - acts b) % acts c)
    have l := way_len d ((p - acts b - acts c) % acts d)
    show _ ≤ max (max b.dep c.dep) d.dep + 1
    unfold way
    split
    · simp only [List.length_cons]; omega
    · split <;> simp only [List.length_cons] <;> omega
theorem allV_map (l : List PyData) : allV (l.map .v) = some l := by
  induction l with
  | nil => rfl
  | cons x r ih => simp [allV, ih]
theorem c19 (b : Big) (p : Int) (k : Nat) (S : List OS) (h : b.ok) (hk : b.dep + 4 ≤ k) (hd : b.dep ≤ 20) (h0 : 0 ≤ p) (h1 : p < acts b) : callP fs k 22 [.v b.D, .v (.int p)] S = .ok (.v (.list ((way b p).map wD))) ⟨[], S⟩ := by
  obtain ⟨k, rfl⟩ : ∃ j, k = j + 1 := ⟨k - 1, by omega⟩
  obtain ⟨x0, x3, x4, x5, x6, x7, x8, x9, w⟩ := way_loop (ce_of k b.dep S (by omega) hd) hd b p 1000 [] (some (.v (.int p))) none none none none none none h (Nat.le_refl _) (by omega) h0 h1 (by simp; omega)
  show runFn (callP fs k) Fway_to [.v b.D, .v (.int p)] S = _
  generalize callP fs k = C at w
  have hw : ∀ ρ m, ex C (.while 1000 wayC wayB) ρ m = whileR (fun ρ m => (ev C wayC ρ m).b fun x m => ofO (truW m x) m) (exs C wayB) 1000 ρ m := fun ρ m => by simp only [ex]
  have hf : Fway_to = ⟨2, 10, .cons (.par [2, 3] (.cons (.lst .loc (.disp .nil)) (.cons (.var 1) .nil))) (.cons (.while 1000 wayC wayB) (.cons (.ret (.frz (.var 2))) .nil))⟩ := rfl
  rw [hf]
  generalize (fun (ρ : Z.Env) (m : Mem) => (ev C wayC ρ m).b fun x m => ofO (truW m x) m) = cf at w hw
  simp only [runFn, exs, hw]
  have hv : allV ((way b p).map fun x => W.v (wD x)) = some ((way b p).map wD) := by
    rw [← allV_map, List.map_map]
    rfl
  simp [runFn, exs, ex, ev, evAnd, evOr, evs, evO, evL, evIf, evI, asg, asgs, asT, asTs, setL, R.b, R.t, R.ne, RT.s, ofO, peek, peekT, peeks, isiD, tyOf, tyLe, truW, truD, wipe, args, binD, cmpD, eqD, inD, bltD, dmD, strsOf, asStr, intsOf, boolsOf, asInt, asBool, mk, allV, outW, itemsD, itemsW, itemsL, itemsT, ixW, atI, ixN, slW, cut, sIx, freeze, mthW, mtyW, setIxW, enmD, zipD, zipP, rgI, small, szL, isNW, maxI, minI, cl, isIns, noFld, fldW, putA, setFld, Mk.pre, Mk.post, ne1, ne2, ne3, ne4, ne5, ne6, w, hv]
end L.B
set_option maxHeartbeats 1000000
namespace L.B
open PySem Z
theorem turns_map {α : Type} {f : PyData → Mem → R (Option W)} {m : Mem} (enc : α → PyData) (g : α → W) : ∀ (xs : List α) (acc : List W), (∀ x ∈ xs, f (enc x) m = .ok (some (g x)) m) → acc.length + xs.length ≤ szL → turns f (xs.map enc) acc m = .ok (acc ++ xs.map g) m
  | [], acc, _, _ => by simp [turns]
  | x :: xs, acc, h, hl => by
    have h1 := h x (by simp)
    rw [List.length_cons] at hl
    have hz : acc.length < szL := by omega
    rw [List.map_cons]
    unfold turns
    rw [h1]
    simp only [R.ne, R.b, hz, if_true]
    rw [turns_map enc g xs (acc ++ [g x]) (fun y hy => h y (List.mem_cons_of_mem _ hy)) (by simp; omega)]
    simp
theorem ev_comp {α : Type} {C : Orc} {own : List Nat} {g : G} {src : IT} {elt : E} {ρ : Z.Env} {m : Mem} (enc gW : α → PyData) (xs : List α) (hs : evI C src ρ m = .ok (xs.map enc) m)
    (he : ∀ x ∈ xs, ∃ ρ1, asg g (.v (enc x)) (wipe ρ own) = some ρ1 ∧ ev C elt ρ1 m = .ok (.v (gW x)) m) (hl : xs.length ≤ szL) : ev C (.lst .fz (.comp own g src .nil elt)) ρ m = .ok (.v (.list (xs.map gW))) m := by
  have av : ∀ l : List α, allV (l.map fun x => W.v (gW x)) = some (l.map gW) := fun l => by
    induction l with
    | nil => rfl
    | cons x r ih => simp [allV, ih]
  simp only [ev, evL, hs, R.b]
  rw [turns_map enc (fun x => .v (gW x)) xs [] ?_ (by simpa using hl)]
  · simp only [List.nil_append, mk, List.length_map, hl, if_true, av, Option.map_some, ofO]
  · intro x hx
    obtain ⟨ρ1, h1, h2⟩ := he x hx
    simp only [h1, evIf, if_true, h2]
theorem intsOf_mapf {α : Type} (h : α → Int) (l : List α) : intsOf (l.map fun x => PyData.int (h x)) = some (l.map h) := by
  induction l with
  | nil => rfl
  | cons x r ih => simp [intsOf, asInt, ih]
theorem boolsOf_mapf {α : Type} (h : α → Bool) (l : List α) : boolsOf (l.map fun x => PyData.bool (h x)) = some (l.map h) := by
  induction l with
  | nil => rfl
  | cons x r ih => simp [boolsOf, asBool, ih]
/-! fewest_to_do, is_always_done, can_be_end -/
def alwE (x : St3) : Bool := match x.1 with
  | .t => true
  | _ => decide ((x.2.1.map fun y => y.1).sum = 0)
def alw (b : Big) (p : Int) : Bool := ((way b p).map alwE).all id
def cbeE (x : St3) : Bool := match x.1 with
  | .o => decide (x.2.2 = 0)
  | _ => true
def cbe (b : Big) (p : Int) : Bool := ((way b p).map cbeE).all id
def lok (D : Nat) (x : St3) : Prop := x.2.1.length ≤ 3 ∧ ∀ y ∈ x.2.1, 0 ≤ y.1 ∧ y.1 ≤ cap D ∧ y.2.ok ∧ y.2.dep ≤ D
theorem div_in {p a : Int} {D : Nat} (h0 : 0 ≤ p) (h1 : p ≤ cap D) (ha : 1 ≤ a) : 0 ≤ p / a ∧ p / a ≤ cap D :=
  ⟨Int.ediv_nonneg h0 (by omega), Int.le_trans (Int.ediv_le_self _ h0) h1⟩
theorem way_lok {D : Nat} : ∀ (b : Big) (p : Int), b.ok → b.dep ≤ D → 0 ≤ p → p < acts b → ∀ x ∈ way b p, lok D x
  | .act _, _, _, _, _, _ => fun x hx => by cases hx
  | .rep w n b, p, h, hd, h0, h1 => by
    obtain ⟨a1, a2⟩ := acts_cap _ h
    have hc := cap_mono hd
    obtain ⟨g1, g2, g3⟩ := h
    have hd : b.dep + 1 ≤ D := hd
    obtain ⟨i1, i2⟩ := acts_cap b g3
    obtain ⟨m1, m2⟩ := mod_in (p := p) i1
    obtain ⟨d1, d2⟩ := div_in (D := D) h0 (by omega) i1
    intro x hx
    simp only [way, List.mem_cons] at hx
    rcases hx with rfl | hx
    · refine ⟨by simp, fun y hy => ?_⟩
      simp only [List.mem_singleton] at hy
      subst hy
      exact ⟨d1, d2, g3, by show b.dep ≤ D; omega⟩
    · exact way_lok b _ g3 (by omega) m1 m2 x hx
  | .two w b c, p, h, hd, h0, h1 => by
    obtain ⟨a1, a2⟩ := acts_cap _ h
    have hc := cap_mono hd
    obtain ⟨g1, g2⟩ := h
    have hd : max b.dep c.dep + 1 ≤ D := hd
    obtain ⟨i1, i2⟩ := acts_cap b g1
    obtain ⟨j1, j2⟩ := acts_cap c g2
    have pc := cap_pos D
    intro x hx
    unfold way at hx
    split at hx
    · rename_i hlt
      obtain ⟨m1, m2⟩ := mod_in (p := p) i1
      obtain ⟨d1, d2⟩ := div_in (D := D) h0 (by omega) i1
      rcases List.mem_cons.mp hx with rfl | hx
      · refine ⟨by simp, fun y hy => ?_⟩
        simp only [List.mem_singleton] at hy
        subst hy
        exact ⟨d1, d2, g1, by show b.dep ≤ D; omega⟩
      · exact way_lok b _ g1 (by omega) m1 m2 x hx
    · rename_i hlt
      obtain ⟨m1, m2⟩ := mod_in (p := p - acts b) j1
      obtain ⟨d1, d2⟩ := div_in (D := D) (p := p - acts b) (by omega) (by omega) j1
      rcases List.mem_cons.mp hx with rfl | hx
      · refine ⟨by simp, fun y hy => ?_⟩
        simp only [List.mem_cons, List.not_mem_nil, or_false] at hy
        rcases hy with rfl | rfl
        · exact ⟨by show (0 : Int) ≤ 1; decide, pc, g1, by show b.dep ≤ D; omega⟩
        · exact ⟨d1, d2, g2, by show c.dep ≤ D; omega⟩
      · exact way_lok c _ g2 (by omega) m1 m2 x hx
  | .three w b c d, p, h, hd, h0, h1 => by
    obtain ⟨a1, a2⟩ := acts_cap _ h
    have hc := cap_mono hd
    obtain ⟨g1, g2, g3⟩ := h
    have hd : max (max b.dep c.dep) d.dep + 1 ≤ D := hd
    obtain ⟨i1, i2⟩ := acts_cap b g1
    obtain ⟨j1, j2⟩ := acts_cap c g2
    obtain ⟨l1, l2⟩ := acts_cap d g3
    have pc := cap_pos D
    intro x hx
    unfold way at hx
    split at hx
    · rename_i hlt
      obtain ⟨m1, m2⟩ := mod_in (p := p) i1
      obtain ⟨d1, d2⟩ := div_in (D := D) h0 (by omega) i1
      rcases List.mem_cons.mp hx with rfl | hx
      · refine ⟨by simp, fun y hy => ?_⟩
        simp only [List.mem_singleton] at hy
        subst hy
        exact ⟨d1, d2, g1, by show b.dep ≤ D; omega⟩
      · exact way_lok b _ g1 (by omega) m1 m2 x hx
    · split at hx
      · obtain ⟨m1, m2⟩ := mod_in (p := p - acts b) j1
        obtain ⟨d1, d2⟩ := div_in (D := D) (p := p - acts b) (by omega) (by omega) j1
        rcases List.mem_cons.mp hx with rfl | hx
        · refine ⟨by simp, fun y hy => ?_⟩
          simp only [List.mem_cons, List.not_mem_nil, or_false] at hy
          rcases hy with rfl | rfl
          · exact ⟨by show (0 : Int) ≤ 1; decide, pc, g1, by show b.dep ≤ D; omega⟩
          · exact ⟨d1, d2, g2, by show c.dep ≤ D; omega⟩
        · exact way_lok c _ g2 (by omega) m1 m2 x hx
      · obtain ⟨m1, m2⟩ := mod_in (p := p - acts b - acts c) l1
        have h1 : p < acts b + acts c + acts d := h1
        have a2 : acts b + acts c + acts d ≤ _ := a2
        obtain ⟨d1, d2⟩ := div_in (D := D) (p := p - acts b - acts c) (by omega) (by omega) l1
        rcases List.mem_cons.mp hx with rfl | hx
        · refine ⟨by simp, fun y hy => ?_⟩
          simp only [List.mem_cons, List.not_mem_nil, or_false] at hy
          rcases hy with rfl | rfl | rfl
          · exact ⟨by show (0 : Int) ≤ 1; decide, pc, g1, by show b.dep ≤ D; omega⟩
          · exact ⟨by show (0 : Int) ≤ 1; decide, pc, g2, by show c.dep ≤ D; omega⟩
          · exact ⟨d1, d2, g3, by show d.dep ≤ D; omega⟩
        · exact way_lok d _ g3 (by omega) m1 m2 x hx
def alwX : E := .lst .fz (.comp [5, 6] (.tp (.cons (.nm 5) (.cons (.nm 6) .nil))) (.seq (.var 3)) .nil (.var 5))
def alwQ : E := .or (.cons (.cmp .eq (.var 2) (.cst (.str "then"))) (.cons (.cmp .eq (.blt .sum (.cons alwX .nil)) (.cst (.int 0))) .nil))
def alwY : E := .lst .fz (.comp [2, 3, 4] (.tp (.cons (.nm 2) (.cons (.nm 3) (.cons (.nm 4) .nil)))) (.seq (.call 22 (.cons (.var 0) (.cons (.var 1) .nil)))) .nil alwQ)
theorem c7 (b : Big) (p : Int) (k : Nat) (S : List OS) (h : b.ok) (hk : b.dep + 5 ≤ k) (hd : b.dep ≤ 20) (h0 : 0 ≤ p) (h1 : p < acts b) : callP fs k 6 [.v b.D, .v (.int p)] S = .ok (.v (.bool (alw b p))) ⟨[], S⟩ := by
  obtain ⟨k, rfl⟩ : ∃ j, k = j + 1 := ⟨k - 1, by omega⟩
  have e := c20 b p k S h (by omega) hd h0 h1
  have e2 := c19 b p k S h (by omega) hd h0 h1
  have hl := way_len b p
  have hlk := way_lok b p h (Nat.le_refl _) h0 h1
  show runFn (callP fs k) Fis_always_done [.v b.D, .v (.int p)] S = _
  generalize callP fs k = C at e e2
  have hf : Fis_always_done = ⟨2, 7, .cons (.ex (.call 23 (.cons (.var 0) (.cons (.var 1) .nil)))) (.cons (.ret (.blt .all (.cons alwY .nil))) .nil)⟩ := rfl
  have ht : ev C alwY [some (.v b.D), some (.v (.int p)), none, none, none, none, none] ⟨[], S⟩ = .ok (.v (.list ((way b p).map fun x => .bool (alwE x)))) ⟨[], S⟩ := by
    refine ev_comp wD (fun x => .bool (alwE x)) (way b p) (by simp [runFn, exs, ex, ev, evAnd, evOr, evs, evO, evL, evIf, evI, asg, asgs, asT, asTs, setL, R.b, R.t, R.ne, RT.s, ofO, peek, peekT, peeks, isiD, tyOf, tyLe, truW, truD, wipe, args, binD, cmpD, eqD, inD, bltD, dmD, strsOf, asStr, intsOf, boolsOf, asInt, asBool, mk, allV, outW, itemsD, itemsW, itemsL, itemsT, ixW, atI, ixN, slW, cut, sIx, freeze, mthW, mtyW, setIxW, enmD, zipD, zipP, rgI, small, szL, isNW, maxI, minI, cl, isIns, noFld, fldW, putA, setFld, Mk.pre, Mk.post, ne1, ne2, ne3, ne4, ne5, ne6, e2]) (fun x hx => ⟨_, rfl, ?_⟩) (by show _ ≤ 16777216; omega)
    obtain ⟨w, l, r⟩ := x
    obtain ⟨g1, g2⟩ := hlk _ hx
    have hz : l.length ≤ szL := Nat.le_trans g1 (by decide)
    have hi : ev C alwX [some (.v b.D), some (.v (.int p)), some (.v (.str w.s)), some (.v (.list (l.map pD))), some (.v (.int r)), none, none] ⟨[], S⟩ = .ok (.v (.list (l.map fun y => .int y.1))) ⟨[], S⟩ := by
      refine ev_comp pD (fun y => .int y.1) l (by simp [runFn, exs, ex, ev, evAnd, evOr, evs, evO, evL, evIf, evI, asg, asgs, asT, asTs, setL, R.b, R.t, R.ne, RT.s, ofO, peek, peekT, peeks, isiD, tyOf, tyLe, truW, truD, wipe, args, binD, cmpD, eqD, inD, bltD, dmD, strsOf, asStr, intsOf, boolsOf, asInt, asBool, mk, allV, outW, itemsD, itemsW, itemsL, itemsT, ixW, atI, ixN, slW, cut, sIx, freeze, mthW, mtyW, setIxW, enmD, zipD, zipP, rgI, small, szL, isNW, maxI, minI, cl, isIns, noFld, fldW, putA, setFld, Mk.pre, Mk.post, ne1, ne2, ne3, ne4, ne5, ne6]) (fun y hy => ⟨_, rfl, ?_⟩) hz
      simp [runFn, exs, ex, ev, evAnd, evOr, evs, evO, evL, evIf, evI, asg, asgs, asT, asTs, setL, R.b, R.t, R.ne, RT.s, ofO, peek, peekT, peeks, isiD, tyOf, tyLe, truW, truD, wipe, args, binD, cmpD, eqD, inD, bltD, dmD, strsOf, asStr, intsOf, boolsOf, asInt, asBool, mk, allV, outW, itemsD, itemsW, itemsL, itemsT, ixW, atI, ixN, slW, cut, sIx, freeze, mthW, mtyW, setIxW, enmD, zipD, zipP, rgI, small, szL, isNW, maxI, minI, cl, isIns, noFld, fldW, putA, setFld, Mk.pre, Mk.post, ne1, ne2, ne3, ne4, ne5, ne6]
    cases w <;> simp only [Wo.s, alwE] at hi ⊢ <;> simp [alwQ, runFn, exs, ex, ev, evAnd, evOr, evs, evO, evL, evIf, evI, asg, asgs, asT, asTs, setL, R.b, R.t, R.ne, RT.s, ofO, peek, peekT, peeks, isiD, tyOf, tyLe, truW, truD, wipe, args, binD, cmpD, eqD, inD, bltD, dmD, strsOf, asStr, intsOf, boolsOf, asInt, asBool, mk, allV, outW, itemsD, itemsW, itemsL, itemsT, ixW, atI, ixN, slW, cut, sIx, freeze, mthW, mtyW, setIxW, enmD, zipD, zipP, rgI, small, szL, isNW, maxI, minI, cl, isIns, noFld, fldW, putA, setFld, Mk.pre, Mk.post, ne1, ne2, ne3, ne4, ne5, ne6, hi, intsOf_mapf]
  rw [hf]
  simp [runFn, exs, ex, ev, evAnd, evOr, evs, evO, evL, evIf, evI, asg, asgs, asT, asTs, setL, R.b, R.t, R.ne, RT.s, ofO, peek, peekT, peeks, isiD, tyOf, tyLe, truW, truD, wipe, args, binD, cmpD, eqD, inD, bltD, dmD, strsOf, asStr, intsOf, boolsOf, asInt, asBool, mk, allV, outW, itemsD, itemsW, itemsL, itemsT, ixW, atI, ixN, slW, cut, sIx, freeze, mthW, mtyW, setIxW, enmD, zipD, zipP, rgI, small, szL, isNW, maxI, minI, cl, isIns, noFld, fldW, putA, setFld, Mk.pre, Mk.post, ne1, ne2, ne3, ne4, ne5, ne6, e, ht, boolsOf_mapf, alw]
def cbeQ : E := .or (.cons (.cmp .ne (.var 2) (.cst (.str "or"))) (.cons (.cmp .eq (.var 4) (.cst (.int 0))) .nil))
def cbeY : E := .lst .fz (.comp [2, 3, 4] (.tp (.cons (.nm 2) (.cons (.nm 3) (.cons (.nm 4) .nil)))) (.seq (.call 22 (.cons (.var 0) (.cons (.var 1) .nil)))) .nil cbeQ)
theorem c6 (b : Big) (p : Int) (k : Nat) (S : List OS) (h : b.ok) (hk : b.dep + 5 ≤ k) (hd : b.dep ≤ 20) (h0 : 0 ≤ p) (h1 : p < acts b) : callP fs k 5 [.v b.D, .v (.int p)] S = .ok (.v (.bool (cbe b p))) ⟨[], S⟩ := by
  obtain ⟨k, rfl⟩ : ∃ j, k = j + 1 := ⟨k - 1, by omega⟩
  have e := c20 b p k S h (by omega) hd h0 h1
  have e2 := c19 b p k S h (by omega) hd h0 h1
  have hl := way_len b p
  show runFn (callP fs k) Fcan_be_end [.v b.D, .v (.int p)] S = _
  generalize callP fs k = C at e e2
  have hf : Fcan_be_end = ⟨2, 5, .cons (.ex (.call 23 (.cons (.var 0) (.cons (.var 1) .nil)))) (.cons (.ret (.blt .all (.cons cbeY .nil))) .nil)⟩ := rfl
  have ht : ev C cbeY [some (.v b.D), some (.v (.int p)), none, none, none] ⟨[], S⟩ = .ok (.v (.list ((way b p).map fun x => .bool (cbeE x)))) ⟨[], S⟩ := by
    refine ev_comp wD (fun x => .bool (cbeE x)) (way b p) (by simp [runFn, exs, ex, ev, evAnd, evOr, evs, evO, evL, evIf, evI, asg, asgs, asT, asTs, setL, R.b, R.t, R.ne, RT.s, ofO, peek, peekT, peeks, isiD, tyOf, tyLe, truW, truD, wipe, args, binD, cmpD, eqD, inD, bltD, dmD, strsOf, asStr, intsOf, boolsOf, asInt, asBool, mk, allV, outW, itemsD, itemsW, itemsL, itemsT, ixW, atI, ixN, slW, cut, sIx, freeze, mthW, mtyW, setIxW, enmD, zipD, zipP, rgI, small, szL, isNW, maxI, minI, cl, isIns, noFld, fldW, putA, setFld, Mk.pre, Mk.post, ne1, ne2, ne3, ne4, ne5, ne6, e2]) (fun x hx => ⟨_, rfl, ?_⟩) (by show _ ≤ 16777216; omega)
    obtain ⟨w, l, r⟩ := x
    cases w <;> simp only [Wo.s, cbeE] <;> simp [cbeQ, runFn, exs, ex, ev, evAnd, evOr, evs, evO, evL, evIf, evI, asg, asgs, asT, asTs, setL, R.b, R.t, R.ne, RT.s, ofO, peek, peekT, peeks, isiD, tyOf, tyLe, truW, truD, wipe, args, binD, cmpD, eqD, inD, bltD, dmD, strsOf, asStr, intsOf, boolsOf, asInt, asBool, mk, allV, outW, itemsD, itemsW, itemsL, itemsT, ixW, atI, ixN, slW, cut, sIx, freeze, mthW, mtyW, setIxW, enmD, zipD, zipP, rgI, small, szL, isNW, maxI, minI, cl, isIns, noFld, fldW, putA, setFld, Mk.pre, Mk.post, ne1, ne2, ne3, ne4, ne5, ne6]
  rw [hf]
  simp [runFn, exs, ex, ev, evAnd, evOr, evs, evO, evL, evIf, evI, asg, asgs, asT, asTs, setL, R.b, R.t, R.ne, RT.s, ofO, peek, peekT, peeks, isiD, tyOf, tyLe, truW, truD, wipe, args, binD, cmpD, eqD, inD, bltD, dmD, strsOf, asStr, intsOf, boolsOf, asInt, asBool, mk, allV, outW, itemsD, itemsW, itemsL, itemsT, ixW, atI, ixN, slW, cut, sIx, freeze, mthW, mtyW, setIxW, enmD, zipD, zipP, rgI, small, szL, isNW, maxI, minI, cl, isIns, noFld, fldW, putA, setFld, Mk.pre, Mk.post, ne1, ne2, ne3, ne4, ne5, ne6, e, ht, boolsOf_mapf, cbe]
end L.B
set_option maxHeartbeats 1000000
/-! M1: bodies as BIGs; what is done depends on the fails among the acts alone. -/
namespace L.B
open PySem Z
def ofB : Big → Fm
  | .act s => .act s
  | .rep _ _ _ => .act ⟨#[]⟩
  | .two w b c => .node w (ofB b) (.cons (ofB c) .nil)
  | .three w b c d => .node w (ofB b) (.cons (ofB c) (.cons (ofB d) .nil))
def plain : Big → Prop
  | .act _ => True
  | .rep _ _ _ => False
  | .two _ b c => plain b ∧ plain c
  | .three _ b c d => plain b ∧ plain c ∧ plain d
theorem ofB_D : ∀ b : Big, plain b → (ofB b).D = b.D
  | .act _, _ => rfl
  | .two w b c, h => by
    show PyData.tuple [.str w.s, (ofB b).D, (ofB c).D] = _
    rw [ofB_D b h.1, ofB_D c h.2]
    rfl
  | .three w b c d, h => by
    show PyData.tuple [.str w.s, (ofB b).D, (ofB c).D, (ofB d).D] = _
    rw [ofB_D b h.1, ofB_D c h.2.1, ofB_D d h.2.2]
    rfl
abbrev row (b : Big) : List Str := (ofB b).row
abbrev go (F : List Str) (b : Big) : Rs := gt F (ofB b)
theorem row_two (w : Wo) (b c : Big) : row (.two w b c) = row b ++ row c := by
  show (ofB b).row ++ ((ofB c).row ++ []) = _
  rw [List.append_nil]
theorem row_three (w : Wo) (b c d : Big) : row (.three w b c d) = row b ++ (row c ++ row d) := by
  show (ofB b).row ++ ((ofB c).row ++ ((ofB d).row ++ [])) = _
  rw [List.append_nil]
theorem go_two (F : List Str) (w : Wo) (b c : Big) : go F (.two w b c) = gtl w [go F b, go F c] ([], none) := rfl
theorem go_three (F : List Str) (w : Wo) (b c d : Big) : go F (.three w b c d) = gtl w [go F b, go F c, go F d] ([], none) := rfl
/-- only the fails among the acts count -/
theorem go_congr {F G : List Str} : ∀ b : Big, (∀ s ∈ row b, F.contains s = G.contains s) → go F b = go G b
  | .act s, h => by
    have := h s (by simp [row, ofB, Fm.row])
    show gt F (.act s) = gt G (.act s)
    simp only [gt, this]
  | .rep _ _ _, h => by
    have := h ⟨#[]⟩ (by simp [row, ofB, Fm.row])
    show gt F (.act _) = gt G (.act _)
    simp only [gt, this]
  | .two w b c, h => by
    rw [row_two] at h
    rw [go_two, go_two, go_congr b (fun s hs => h s (by simp [hs])), go_congr c (fun s hs => h s (by simp [hs]))]
  | .three w b c d, h => by
    rw [row_three] at h
    rw [go_three, go_three, go_congr b (fun s hs => h s (by simp [hs])), go_congr c (fun s hs => h s (by simp [hs])), go_congr d (fun s hs => h s (by simp [hs]))]
/-- how two parts join: lengths and ends -/
def cmb (w : Wo) (x y : Bool × Nat) : Bool × Nat := match w with
  | .a => if x.1 = true then (y.1, x.2 + y.2) else (false, x.2)
  | .o => if x.1 = true then (true, x.2) else (y.1, x.2 + y.2)
  | .t => (x.1 && y.1, x.2 + y.2)
def oc (r : Rs) : Bool × Nat := (r.2.isNone, r.1.length)
theorem oc_two (w : Wo) (p q : Rs) : oc (gtl w [p, q] ([], none)) = cmb w (oc p) (oc q) := by
  obtain ⟨pd, pe⟩ := p
  obtain ⟨qd, qe⟩ := q
  cases w <;> cases pe <;> cases qe <;> simp [gtl, stp, nxe, oc, cmb]
theorem oc_three (w : Wo) (p q r : Rs) : oc (gtl w [p, q, r] ([], none)) = cmb w (cmb w (oc p) (oc q)) (oc r) := by
  obtain ⟨pd, pe⟩ := p
  obtain ⟨qd, qe⟩ := q
  obtain ⟨rd, re⟩ := r
  cases w <;> cases pe <;> cases qe <;> cases re <;> simp [gtl, stp, nxe, oc, cmb, Nat.add_assoc]
end L.B
set_option maxHeartbeats 1000000
/-! M2: what can come out of a body, by all fails. -/
namespace L.B
open PySem Z
def Out (b : Big) (o : Bool × Nat) : Prop := ∃ F, oc (go F b) = o
theorem indep {b c : Big} (h : ∀ s, s ∈ row b → s ∈ row c → False) (F1 F2 : List Str) : ∃ F, go F b = go F1 b ∧ go F c = go F2 c := by
  refine ⟨(F1.filter fun s => (row b).contains s) ++ (F2.filter fun s => (row c).contains s), go_congr b (fun s hs => ?_), go_congr c (fun s hs => ?_)⟩
  · have hn : s ∉ row c := fun k => h s hs k
    simp [List.contains_eq_mem, hs, hn]
  · have hn : s ∉ row b := fun k => h s k hs
    simp [List.contains_eq_mem, hs, hn]
theorem indep3 {b c d : Big} (h : (row b ++ (row c ++ row d)).Nodup) (F1 F2 F3 : List Str) : ∃ F, go F b = go F1 b ∧ go F c = go F2 c ∧ go F d = go F3 d := by
  rw [List.nodup_append] at h
  obtain ⟨_, h2, h3⟩ := h
  rw [List.nodup_append] at h2
  obtain ⟨_, _, h4⟩ := h2
  refine ⟨(F1.filter fun s => (row b).contains s) ++ ((F2.filter fun s => (row c).contains s) ++ (F3.filter fun s => (row d).contains s)), go_congr b (fun s hs => ?_), go_congr c (fun s hs => ?_), go_congr d (fun s hs => ?_)⟩
  · have n1 : s ∉ row c := fun k => h3 s hs s (by simp [k]) rfl
    have n2 : s ∉ row d := fun k => h3 s hs s (by simp [k]) rfl
    simp [List.contains_eq_mem, hs, n1, n2]
  · have n1 : s ∉ row b := fun k => h3 s k s (by simp [hs]) rfl
    have n2 : s ∉ row d := fun k => h4 s hs s k rfl
    simp [List.contains_eq_mem, hs, n1, n2]
  · have n1 : s ∉ row b := fun k => h3 s k s (by simp [hs]) rfl
    have n2 : s ∉ row c := fun k => h4 s k s hs rfl
    simp [List.contains_eq_mem, hs, n1, n2]
theorem nd_two {w : Wo} {b c : Big} (h : (row (.two w b c)).Nodup) : (row b).Nodup ∧ (row c).Nodup ∧ ∀ s, s ∈ row b → s ∈ row c → False := by
  rw [row_two, List.nodup_append] at h
  exact ⟨h.1, h.2.1, fun s h1 h2 => h.2.2 s h1 s h2 rfl⟩
theorem nd_three {w : Wo} {b c d : Big} (h : (row (.three w b c d)).Nodup) : (row b).Nodup ∧ (row c).Nodup ∧ (row d).Nodup ∧ (row b ++ (row c ++ row d)).Nodup := by
  rw [row_three] at h
  have h0 := h
  rw [List.nodup_append] at h
  have h2 := h.2.1
  rw [List.nodup_append] at h2
  exact ⟨h.1, h2.1, h2.2.1, h0⟩
theorem out_two {w : Wo} {b c : Big} (h : ∀ s, s ∈ row b → s ∈ row c → False) (o : Bool × Nat) : Out (.two w b c) o ↔ ∃ x y, Out b x ∧ Out c y ∧ o = cmb w x y := by
  constructor
  · rintro ⟨F, rfl⟩
    exact ⟨_, _, ⟨F, rfl⟩, ⟨F, rfl⟩, by rw [go_two, oc_two]⟩
  · rintro ⟨x, y, ⟨F1, rfl⟩, ⟨F2, rfl⟩, rfl⟩
    obtain ⟨F, e1, e2⟩ := indep h F1 F2
    exact ⟨F, by rw [go_two, oc_two, e1, e2]⟩
theorem out_three {w : Wo} {b c d : Big} (h : (row b ++ (row c ++ row d)).Nodup) (o : Bool × Nat) : Out (.three w b c d) o ↔ ∃ x y z, Out b x ∧ Out c y ∧ Out d z ∧ o = cmb w (cmb w x y) z := by
  constructor
  · rintro ⟨F, rfl⟩
    exact ⟨_, _, _, ⟨F, rfl⟩, ⟨F, rfl⟩, ⟨F, rfl⟩, by rw [go_three, oc_three]⟩
  · rintro ⟨x, y, z, ⟨F1, rfl⟩, ⟨F2, rfl⟩, ⟨F3, rfl⟩, rfl⟩
    obtain ⟨F, e1, e2, e3⟩ := indep3 h F1 F2 F3
    exact ⟨F, by rw [go_three, oc_three, e1, e2, e3]⟩
end L.B
set_option maxHeartbeats 1000000
/-! M3: the longest and the shortest run. -/
namespace L.B
open PySem Z
def le_ (m : Bool) (x y : Int) : Prop := if m = true then x ≤ y else y ≤ x
def Best (m : Bool) (P : Nat → Prop) (x : Int) : Prop := (∃ n : Nat, P n ∧ (n : Int) = x) ∧ ∀ n : Nat, P n → le_ m n x
def LB (m : Bool) (O : Bool × Nat → Prop) (p : Int × Int) : Prop := Best m (fun n => O (true, n)) p.1 ∧ Best m (fun n => O (false, n)) p.2
theorem pk_le (m : Bool) (x y z : Int) : le_ m z x ∨ le_ m z y → le_ m z (pk m x y) := by
  unfold le_ pk
  cases m <;> simp only [Bool.false_eq_true, if_false, if_true] <;> intro h <;> split <;> omega
theorem le_add (m : Bool) {a b x y : Int} (h1 : le_ m a x) (h2 : le_ m b y) : le_ m (a + b) (x + y) := by
  unfold le_ at *
  cases m <;> simp only [Bool.false_eq_true, if_false, if_true] at * <;> omega
theorem best_pk {m : Bool} {P : Nat → Prop} {x y : Int} (h1 : ∃ n : Nat, P n ∧ (n : Int) = x) (h2 : ∃ n : Nat, P n ∧ (n : Int) = y) (h : ∀ n : Nat, P n → le_ m n x ∨ le_ m n y) : Best m P (pk m x y) :=
  ⟨by rcases pk_or m x y with e | e <;> rw [e] <;> assumption, fun n hn => pk_le m x y n (h n hn)⟩
theorem join_best (w : Wo) {m : Bool} {O1 O2 : Bool × Nat → Prop} {p q : Int × Int} (h1 : LB m O1 p) (h2 : LB m O2 q) : LB m (fun o => ∃ x y, O1 x ∧ O2 y ∧ o = cmb w x y) (joinL w p q m) := by
  obtain ⟨⟨⟨a, ha, ea⟩, ba⟩, ⟨⟨b, hb, eb⟩, bb⟩⟩ := h1
  obtain ⟨⟨⟨c, hc, ec⟩, bc⟩, ⟨⟨d, hd, ed⟩, bd⟩⟩ := h2
  cases w
  · refine ⟨⟨⟨a + c, ⟨_, _, ha, hc, rfl⟩, by simp only [joinL]; omega⟩, ?_⟩, ?_⟩
    · rintro n ⟨⟨xb, xn⟩, ⟨yb, yn⟩, hx, hy, e⟩
      cases xb <;> cases yb <;> simp [cmb] at e
      subst e
      push_cast
      exact le_add m (ba _ hx) (bc _ hy)
    · refine best_pk ⟨b, ⟨_, _, hb, hc, rfl⟩, eb⟩ ⟨a + d, ⟨_, _, ha, hd, rfl⟩, by omega⟩ ?_
      rintro n ⟨⟨xb, xn⟩, ⟨yb, yn⟩, hx, hy, e⟩
      cases xb <;> cases yb <;> simp [cmb] at e <;> subst e
      · exact .inl (bb _ hx)
      · exact .inl (bb _ hx)
      · refine .inr ?_
        push_cast
        exact le_add m (ba _ hx) (bd _ hy)
  · refine ⟨⟨⟨a + c, ⟨_, _, ha, hc, rfl⟩, by simp only [joinL]; omega⟩, ?_⟩, ?_⟩
    · rintro n ⟨⟨xb, xn⟩, ⟨yb, yn⟩, hx, hy, e⟩
      cases xb <;> cases yb <;> simp [cmb] at e
      subst e
      push_cast
      exact le_add m (ba _ hx) (bc _ hy)
    · have h3 : ∃ n : Nat, (∃ x y, O1 x ∧ O2 y ∧ (false, n) = cmb .t x y) ∧ (n : Int) = p.2 + pk m q.1 q.2 := by
        rcases pk_or m q.1 q.2 with e | e <;> rw [e]
        · exact ⟨b + c, ⟨_, _, hb, hc, rfl⟩, by omega⟩
        · exact ⟨b + d, ⟨_, _, hb, hd, rfl⟩, by omega⟩
      refine best_pk h3 ⟨a + d, ⟨_, _, ha, hd, rfl⟩, by omega⟩ ?_
      rintro n ⟨⟨xb, xn⟩, ⟨yb, yn⟩, hx, hy, e⟩
      cases xb <;> cases yb <;> simp [cmb] at e <;> subst e <;> push_cast
      · exact .inl (le_add m (bb _ hx) (pk_le m _ _ _ (.inr (bd _ hy))))
      · exact .inl (le_add m (bb _ hx) (pk_le m _ _ _ (.inl (bc _ hy))))
      · exact .inr (le_add m (ba _ hx) (bd _ hy))
  · refine ⟨?_, ⟨⟨b + d, ⟨_, _, hb, hd, rfl⟩, by simp only [joinL]; omega⟩, ?_⟩⟩
    · refine best_pk ⟨a, ⟨_, _, ha, hc, rfl⟩, ea⟩ ⟨b + c, ⟨_, _, hb, hc, rfl⟩, by omega⟩ ?_
      rintro n ⟨⟨xb, xn⟩, ⟨yb, yn⟩, hx, hy, e⟩
      cases xb <;> cases yb <;> simp [cmb] at e <;> subst e
      · refine .inr ?_
        push_cast
        exact le_add m (bb _ hx) (bc _ hy)
      · exact .inl (ba _ hx)
      · exact .inl (ba _ hx)
    · rintro n ⟨⟨xb, xn⟩, ⟨yb, yn⟩, hx, hy, e⟩
      cases xb <;> cases yb <;> simp [cmb] at e
      subst e
      push_cast
      exact le_add m (bb _ hx) (bd _ hy)
theorem pk_self (m : Bool) (x : Int) : pk m x x = x := by cases m <;> simp [pk]
theorem manyL_one (w : Wo) (p : Int × Int) (m : Bool) : manyL w 1 p m = p := by
  obtain ⟨x, y⟩ := p
  cases w <;> simp [manyL, pk_self]
theorem LB.congr {m : Bool} {O O' : Bool × Nat → Prop} {p : Int × Int} (h : LB m O p) (e : ∀ o, O o ↔ O' o) : LB m O' p := by
  have : O = O' := funext fun o => propext (e o)
  rw [← this]
  exact h
theorem out_act (s : Str) (o : Bool × Nat) : Out (.act s) o ↔ o.2 = 1 := by
  obtain ⟨b, n⟩ := o
  constructor
  · rintro ⟨F, h⟩
    have h : oc (gt F (.act s)) = (b, n) := h
    simp only [gt, oc, Prod.mk.injEq] at h
    exact h.2.symm
  · intro h
    have h : n = 1 := h
    subst h
    cases b
    · exact ⟨[s], show oc (gt [s] (.act s)) = _ by simp [gt, oc]⟩
    · exact ⟨[], show oc (gt [] (.act s)) = _ by simp [gt, oc]⟩
theorem lens_best (m : Bool) (b : Big) : plain b → (row b).Nodup → LB m (Out b) (lens m b) := by
  induction b with
  | act s =>
    intro _ _
    refine ⟨⟨⟨1, (out_act s _).mpr rfl, rfl⟩, fun n hn => ?_⟩, ⟨⟨1, (out_act s _).mpr rfl, rfl⟩, fun n hn => ?_⟩⟩
    · have := (out_act s _).mp hn
      simp only at this
      subst this
      unfold le_
      cases m <;> simp [lens]
    · have := (out_act s _).mp hn
      simp only at this
      subst this
      unfold le_
      cases m <;> simp [lens]
  | rep w n b ih => exact fun h => h.elim
  | two w b c ihb ihc =>
    intro h hn
    obtain ⟨n1, n2, n3⟩ := nd_two hn
    have := join_best w (ihb h.1 n1) (ihc h.2 n2)
    rw [lens, manyL_one, manyL_one]
    exact this.congr fun o => (out_two n3 o).symm
  | three w b c d ihb ihc ihd =>
    intro h hn
    obtain ⟨n1, n2, n3, n4⟩ := nd_three hn
    have := join_best w (join_best w (ihb h.1 n1) (ihc h.2.1 n2)) (ihd h.2.2 n3)
    rw [lens, manyL_one, manyL_one, manyL_one]
    refine this.congr fun o => ?_
    rw [out_three n4]
    constructor
    · rintro ⟨_, z, ⟨x, y, hx, hy, rfl⟩, hz, rfl⟩
      exact ⟨x, y, z, hx, hy, hz, rfl⟩
    · rintro ⟨x, y, z, hx, hy, hz, rfl⟩
      exact ⟨_, z, ⟨x, y, hx, hy, rfl⟩, hz, rfl⟩
/-- over all fails -/
theorem run_best (m : Bool) {b : Big} (h : plain b) (hn : (row b).Nodup) : Best m (fun n => ∃ F, (go F b).1.length = n) (pk m (lens m b).1 (lens m b).2) := by
  obtain ⟨⟨⟨x, ⟨F1, e1⟩, hx⟩, bx⟩, ⟨⟨y, ⟨F2, e2⟩, hy⟩, by_⟩⟩ := lens_best m b h hn
  refine best_pk ⟨x, ⟨F1, by have := congrArg Prod.snd e1; exact this⟩, hx⟩ ⟨y, ⟨F2, by have := congrArg Prod.snd e2; exact this⟩, hy⟩ ?_
  rintro n ⟨F, rfl⟩
  cases hw : (go F b).2.isNone
  · exact .inr (by_ _ ⟨F, by simp [oc, hw]⟩)
  · exact .inl (bx _ ⟨F, by simp [oc, hw]⟩)
end L.B
set_option maxHeartbeats 1000000
/-! M4: the fewest acts that must fail. -/
namespace L.B
open PySem Z
def cnt (F l : List Str) : Nat := (l.filter fun s => F.contains s).length
theorem cnt_app (F l r : List Str) : cnt F (l ++ r) = cnt F l + cnt F r := by simp [cnt]
theorem cnt_congr {F G : List Str} {l : List Str} (h : ∀ s ∈ l, F.contains s = G.contains s) : cnt F l = cnt G l := by
  unfold cnt
  rw [List.filter_congr h]
/-- goes well, and how many of its acts fail -/
def Oc (b : Big) (o : Bool × Nat) : Prop := ∃ F, ((go F b).2.isNone, cnt F (row b)) = o
def wl (w : Wo) (x y : Bool) : Bool := match w with | .o => x || y | _ => x && y
theorem wl_two (w : Wo) (p q : Rs) : (gtl w [p, q] ([], none)).2.isNone = wl w p.2.isNone q.2.isNone := by
  obtain ⟨pd, pe⟩ := p
  obtain ⟨qd, qe⟩ := q
  cases w <;> cases pe <;> cases qe <;> simp [gtl, stp, nxe, wl]
theorem wl_three (w : Wo) (p q r : Rs) : (gtl w [p, q, r] ([], none)).2.isNone = wl w (wl w p.2.isNone q.2.isNone) r.2.isNone := by
  obtain ⟨pd, pe⟩ := p
  obtain ⟨qd, qe⟩ := q
  obtain ⟨rd, re⟩ := r
  cases w <;> cases pe <;> cases qe <;> cases re <;> simp [gtl, stp, nxe, wl]
/-- outcomes of two joined -/
def jn2 (w : Wo) (O1 O2 : Bool × Nat → Prop) (o : Bool × Nat) : Prop := ∃ x y, O1 x ∧ O2 y ∧ o = (wl w x.1 y.1, x.2 + y.2)
structure FB (O : Bool × Nat → Prop) (x : Int) : Prop where
  zero : O (true, 0)
  at_ : ∃ n : Nat, O (false, n) ∧ (n : Int) = x
  low : ∀ n : Nat, O (false, n) → x ≤ n
  pos : 0 ≤ x
theorem fb_o {O1 O2 : Bool × Nat → Prop} {x y : Int} (h1 : FB O1 x) (h2 : FB O2 y) : FB (jn2 .o O1 O2) (x + y) := by
  obtain ⟨z1, ⟨a, ha, ea⟩, l1, p1⟩ := h1
  obtain ⟨z2, ⟨b, hb, eb⟩, l2, p2⟩ := h2
  refine ⟨⟨_, _, z1, z2, rfl⟩, ⟨a + b, ⟨_, _, ha, hb, rfl⟩, by omega⟩, ?_, by omega⟩
  rintro n ⟨⟨xb, xn⟩, ⟨yb, yn⟩, hx, hy, e⟩
  cases xb <;> cases yb <;> simp [wl] at e
  have := l1 _ hx
  have := l2 _ hy
  omega
theorem fb_n {w : Wo} (hw : w ≠ .o) {O1 O2 : Bool × Nat → Prop} {x y : Int} (h1 : FB O1 x) (h2 : FB O2 y) : FB (jn2 w O1 O2) (min x y) := by
  obtain ⟨z1, ⟨a, ha, ea⟩, l1, p1⟩ := h1
  obtain ⟨z2, ⟨b, hb, eb⟩, l2, p2⟩ := h2
  have hwl : ∀ x y, wl w x y = (x && y) := fun x y => by cases w <;> first | rfl | exact absurd rfl hw
  refine ⟨⟨_, _, z1, z2, by simp [hwl]⟩, ?_, ?_, by omega⟩
  · rcases Int.le_total x y with h | h
    · exact ⟨a, ⟨_, _, ha, z2, by simp [hwl]⟩, by omega⟩
    · exact ⟨b, ⟨_, _, z1, hb, by simp [hwl]⟩, by omega⟩
  · rintro n ⟨⟨xb, xn⟩, ⟨yb, yn⟩, hx, hy, e⟩
    cases xb <;> cases yb <;> simp [hwl] at e
    · have := l1 _ hx; have := l2 _ hy; omega
    · have := l1 _ hx; omega
    · have := l2 _ hy; omega
theorem FB.congr {O O' : Bool × Nat → Prop} {x : Int} (h : FB O x) (e : ∀ o, O o ↔ O' o) : FB O' x := by
  have : O = O' := funext fun o => propext (e o)
  rw [← this]
  exact h
theorem oc_two_iff {w : Wo} {b c : Big} (h : ∀ s, s ∈ row b → s ∈ row c → False) (o : Bool × Nat) : jn2 w (Oc b) (Oc c) o ↔ Oc (.two w b c) o := by
  constructor
  · rintro ⟨x, y, ⟨F1, rfl⟩, ⟨F2, rfl⟩, rfl⟩
    refine ⟨(F1.filter fun s => (row b).contains s) ++ (F2.filter fun s => (row c).contains s), ?_⟩
    have k1 : ∀ s ∈ row b, ((F1.filter fun s => (row b).contains s) ++ (F2.filter fun s => (row c).contains s)).contains s = F1.contains s := fun s hs => by
      have hn : s ∉ row c := fun k => h s hs k
      simp [List.contains_eq_mem, hs, hn]
    have k2 : ∀ s ∈ row c, ((F1.filter fun s => (row b).contains s) ++ (F2.filter fun s => (row c).contains s)).contains s = F2.contains s := fun s hs => by
      have hn : s ∉ row b := fun k => h s k hs
      simp [List.contains_eq_mem, hs, hn]
    rw [go_two, wl_two, go_congr b k1, go_congr c k2, row_two, cnt_app, cnt_congr k1, cnt_congr k2]
  · rintro ⟨F, rfl⟩
    exact ⟨_, _, ⟨F, rfl⟩, ⟨F, rfl⟩, by rw [go_two, wl_two, row_two, cnt_app]⟩
theorem oc_three_iff (w : Wo) (b c d : Big) (o : Bool × Nat) : Oc (.two w (.two w b c) d) o ↔ Oc (.three w b c d) o := by
  have e : ∀ F, ((go F (.two w (.two w b c) d)).2.isNone, cnt F (row (.two w (.two w b c) d))) = ((go F (.three w b c d)).2.isNone, cnt F (row (.three w b c d))) := fun F => by
    rw [go_two, wl_two, go_two, wl_two, go_three, wl_three, row_two, row_two, row_three, List.append_assoc]
  constructor
  · rintro ⟨F, h⟩
    exact ⟨F, (e F).symm.trans h⟩
  · rintro ⟨F, h⟩
    exact ⟨F, (e F).trans h⟩
theorem ff_two (w : Wo) (b c : Big) : ff (.two w b c) = if w = .o then ff b + ff c else min (ff b) (ff c) := by cases w <;> simp [ff]
theorem fb_two (w : Wo) {O1 O2 : Bool × Nat → Prop} {x y : Int} (h1 : FB O1 x) (h2 : FB O2 y) : FB (jn2 w O1 O2) (if w = .o then x + y else min x y) := by
  by_cases h : w = .o
  · subst h
    rw [if_pos rfl]
    exact fb_o h1 h2
  · rw [if_neg h]
    exact fb_n h h1 h2
theorem ff_best (b : Big) : plain b → (row b).Nodup → FB (Oc b) (ff b) := by
  induction b with
  | act s =>
    intro _ _
    have r1 : row (.act s) = [s] := rfl
    refine ⟨⟨[], by simp [go, ofB, gt, r1, cnt]⟩, ⟨1, ⟨[s], by simp [go, ofB, gt, r1, cnt]⟩, rfl⟩, ?_, by simp [ff]⟩
    rintro n ⟨F, h⟩
    by_cases hF : F.contains s = true
    · simp [go, ofB, gt, r1, cnt] at h hF
      simp [hF] at h
      simp [ff]
      omega
    · simp [go, ofB, gt, r1, cnt] at h hF
      simp [hF] at h
  | rep w n b ih => exact fun h => h.elim
  | two w b c ihb ihc =>
    intro h hn
    obtain ⟨n1, n2, n3⟩ := nd_two hn
    rw [ff_two]
    exact (fb_two w (ihb h.1 n1) (ihc h.2 n2)).congr (oc_two_iff n3)
  | three w b c d ihb ihc ihd =>
    intro h hn
    obtain ⟨n1, n2, n3, n4⟩ := nd_three hn
    have n5 : (row (.two w (.two w b c) d)).Nodup := by rw [row_two, row_two, List.append_assoc]; exact n4
    obtain ⟨m1, m2, m3⟩ := nd_two n5
    obtain ⟨m4, m5, m6⟩ := nd_two m1
    have e : ff (.three w b c d) = if w = .o then (if w = .o then ff b + ff c else min (ff b) (ff c)) + ff d else min (if w = .o then ff b + ff c else min (ff b) (ff c)) (ff d) := by cases w <;> simp [ff]
    rw [e]
    exact ((fb_two w ((fb_two w (ihb h.1 n1) (ihc h.2.1 n2)).congr (oc_two_iff m6)) (ihd h.2.2 n3)).congr (oc_two_iff m3)).congr (oc_three_iff w b c d)
end L.B
set_option maxHeartbeats 1000000
/-! M5: places: always done, can be the end. -/
namespace L.B
open PySem Z
theorem at_two1 (w : Wo) (b c : Big) {p : Int} (h0 : 0 ≤ p) (h1 : p < acts b) : atB (.two w b c) p = atB b p := by
  unfold atB
  rw [if_pos h1, Int.emod_eq_of_lt h0 h1]
  cases b <;> rfl
theorem at_two2 (w : Wo) (b c : Big) {q : Int} (h0 : 0 ≤ q) (h1 : q < acts c) : atB (.two w b c) (acts b + q) = atB c q := by
  show (if acts b + q < acts b then _ else _) = _
  rw [if_neg (by omega), show acts b + q - acts b = q by omega, Int.emod_eq_of_lt h0 h1]
theorem way_two1 (w : Wo) (b c : Big) {p : Int} (h0 : 0 ≤ p) (h1 : p < acts b) : way (.two w b c) p = (w, [(0, b)], 1) :: way b p := by
  show (if p < acts b then _ else _) = _
  rw [if_pos h1, Int.emod_eq_of_lt h0 h1, Int.ediv_eq_zero_of_lt h0 h1]
  rfl
theorem way_two2 (w : Wo) (b c : Big) {q : Int} (h0 : 0 ≤ q) (h1 : q < acts c) : way (.two w b c) (acts b + q) = (w, [(1, b), (0, c)], 0) :: way c q := by
  show (if acts b + q < acts b then _ else _) = _
  rw [if_neg (by omega), show acts b + q - acts b = q by omega, Int.emod_eq_of_lt h0 h1, Int.ediv_eq_zero_of_lt h0 h1]
  rfl
theorem alw_two1 (w : Wo) (b c : Big) {p : Int} (h0 : 0 ≤ p) (h1 : p < acts b) : alw (.two w b c) p = alw b p := by
  unfold alw
  rw [way_two1 w b c h0 h1]
  cases w <;> simp [alwE]
theorem alw_two2 (w : Wo) (b c : Big) {q : Int} (h0 : 0 ≤ q) (h1 : q < acts c) : alw (.two w b c) (acts b + q) = match w with | .t => alw c q | _ => false := by
  unfold alw
  rw [way_two2 w b c h0 h1]
  cases w <;> simp [alwE]
theorem cbe_two1 (w : Wo) (b c : Big) {p : Int} (h0 : 0 ≤ p) (h1 : p < acts b) : cbe (.two w b c) p = match w with | .o => false | _ => cbe b p := by
  unfold cbe
  rw [way_two1 w b c h0 h1]
  cases w <;> simp [cbeE]
theorem cbe_two2 (w : Wo) (b c : Big) {q : Int} (h0 : 0 ≤ q) (h1 : q < acts c) : cbe (.two w b c) (acts b + q) = cbe c q := by
  unfold cbe
  rw [way_two2 w b c h0 h1]
  cases w <;> simp [cbeE]
theorem gtl3 (w : Wo) (p q r : Rs) : gtl w [p, q, r] ([], none) = gtl w [gtl w [p, q] ([], none), r] ([], none) := by
  obtain ⟨pd, pe⟩ := p
  obtain ⟨qd, qe⟩ := q
  obtain ⟨rd, re⟩ := r
  cases w <;> cases pe <;> cases qe <;> cases re <;> simp [gtl, stp, nxe, List.append_assoc]
theorem go3 (F : List Str) (w : Wo) (b c d : Big) : go F (.three w b c d) = go F (.two w (.two w b c) d) := by
  rw [go_three, go_two, go_two, gtl3]
theorem acts_two (w : Wo) (b c : Big) : acts (.two w b c) = acts b + acts c := rfl
theorem acts3 (w : Wo) (b c d : Big) : acts (.three w b c d) = acts (.two w (.two w b c) d) := rfl
theorem at3 (w : Wo) (b c d : Big) (hb : 1 ≤ acts b) (hc : 1 ≤ acts c) {p : Int} (h0 : 0 ≤ p) (h1 : p < acts b + acts c + acts d) : atB (.three w b c d) p = atB (.two w (.two w b c) d) p := by
  show (if p < acts b then atB b (p % acts b) else if p - acts b < acts c then atB c ((p - acts b) % acts c) else atB d ((p - acts b - acts c) % acts d)) = _
  by_cases k1 : p < acts b
  · rw [if_pos k1, at_two1 w (.two w b c) d h0 (by rw [acts_two]; omega), at_two1 w b c h0 k1, Int.emod_eq_of_lt h0 k1]
  · rw [if_neg k1]
    by_cases k2 : p - acts b < acts c
    · rw [if_pos k2, at_two1 w (.two w b c) d h0 (by rw [acts_two]; omega)]
      have := at_two2 w b c (q := p - acts b) (by omega) k2
      rw [show acts b + (p - acts b) = p by omega] at this
      rw [this, Int.emod_eq_of_lt (by omega) k2]
    · rw [if_neg k2]
      have := at_two2 w (.two w b c) d (q := p - acts b - acts c) (by omega) (by omega)
      rw [acts_two, show acts b + acts c + (p - acts b - acts c) = p by omega] at this
      rw [this, Int.emod_eq_of_lt (by omega) (by omega)]
theorem way3a (w : Wo) (b c d : Big) {p : Int} (h0 : 0 ≤ p) (h1 : p < acts b) : way (.three w b c d) p = (w, [(0, b)], 2) :: way b p := by
  show (if p < acts b then _ else _) = _
  rw [if_pos h1, Int.emod_eq_of_lt h0 h1, Int.ediv_eq_zero_of_lt h0 h1]
  rfl
theorem way3b (w : Wo) (b c d : Big) {q : Int} (h0 : 0 ≤ q) (h1 : q < acts c) : way (.three w b c d) (acts b + q) = (w, [(1, b), (0, c)], 1) :: way c q := by
  show (if acts b + q < acts b then _ else (if acts b + q - acts b < acts c then _ else _)) = _
  rw [if_neg (by omega), show acts b + q - acts b = q by omega, if_pos h1, Int.emod_eq_of_lt h0 h1, Int.ediv_eq_zero_of_lt h0 h1]
  rfl
theorem way3c (w : Wo) (b c d : Big) {q : Int} (hc : 0 ≤ acts c) (h0 : 0 ≤ q) (h1 : q < acts d) : way (.three w b c d) (acts b + acts c + q) = (w, [(1, b), (1, c), (0, d)], 0) :: way d q := by
  show (if acts b + acts c + q < acts b then _ else (if acts b + acts c + q - acts b < acts c then _ else _)) = _
  rw [if_neg (by omega), if_neg (by omega), show acts b + acts c + q - acts b - acts c = q by omega, Int.emod_eq_of_lt h0 h1, Int.ediv_eq_zero_of_lt h0 h1]
  rfl
theorem alw3 (w : Wo) (b c d : Big) (hb : 1 ≤ acts b) (hc : 1 ≤ acts c) {p : Int} (h0 : 0 ≤ p) (h1 : p < acts b + acts c + acts d) : alw (.three w b c d) p = alw (.two w (.two w b c) d) p := by
  by_cases k1 : p < acts b
  · rw [alw_two1 w (.two w b c) d h0 (by rw [acts_two]; omega), alw_two1 w b c h0 k1]
    unfold alw
    rw [way3a w b c d h0 k1]
    cases w <;> simp [alwE]
  · by_cases k2 : p - acts b < acts c
    · rw [alw_two1 w (.two w b c) d h0 (by rw [acts_two]; omega)]
      have e1 := alw_two2 w b c (q := p - acts b) (by omega) k2
      have e2 := way3b w b c d (q := p - acts b) (by omega) k2
      rw [show acts b + (p - acts b) = p by omega] at e1 e2
      rw [e1]
      unfold alw
      rw [e2]
      cases w <;> simp [alwE]
    · have e1 := alw_two2 w (.two w b c) d (q := p - acts b - acts c) (by omega) (by omega)
      have e2 := way3c w b c d (q := p - acts b - acts c) (by omega) (by omega) (by omega)
      rw [acts_two, show acts b + acts c + (p - acts b - acts c) = p by omega] at e1
      rw [show acts b + acts c + (p - acts b - acts c) = p by omega] at e2
      rw [e1]
      unfold alw
      rw [e2]
      cases w <;> simp [alwE]
theorem cbe3 (w : Wo) (b c d : Big) (hb : 1 ≤ acts b) (hc : 1 ≤ acts c) {p : Int} (h0 : 0 ≤ p) (h1 : p < acts b + acts c + acts d) : cbe (.three w b c d) p = cbe (.two w (.two w b c) d) p := by
  by_cases k1 : p < acts b
  · rw [cbe_two1 w (.two w b c) d h0 (by rw [acts_two]; omega), cbe_two1 w b c h0 k1]
    unfold cbe
    rw [way3a w b c d h0 k1]
    cases w <;> simp [cbeE]
  · by_cases k2 : p - acts b < acts c
    · rw [cbe_two1 w (.two w b c) d h0 (by rw [acts_two]; omega)]
      have e1 := cbe_two2 w b c (q := p - acts b) (by omega) k2
      have e2 := way3b w b c d (q := p - acts b) (by omega) k2
      rw [show acts b + (p - acts b) = p by omega] at e1 e2
      rw [e1]
      unfold cbe
      rw [e2]
      cases w <;> simp [cbeE]
    · have e1 := cbe_two2 w (.two w b c) d (q := p - acts b - acts c) (by omega) (by omega)
      have e2 := way3c w b c d (q := p - acts b - acts c) (by omega) (by omega) (by omega)
      rw [acts_two, show acts b + acts c + (p - acts b - acts c) = p by omega] at e1
      rw [show acts b + acts c + (p - acts b - acts c) = p by omega] at e2
      rw [e1]
      unfold cbe
      rw [e2]
      cases w <;> simp [cbeE]
end L.B
set_option maxHeartbeats 1000000
/-! M6: what is always done, what can be the end. -/
namespace L.B
open PySem Z
def Pr (b : Big) : Prop := ∀ p : Int, 0 ≤ p → p < acts b → atB b p ∈ row b ∧ (alw b p = true ↔ ∀ F, atB b p ∈ nmsR (go F b)) ∧ (cbe b p = true ↔ ∃ F, (go F b).2 = some (atB b p))
theorem two_nm (w : Wo) (p q : Rs) : nmsR (gtl w [p, q] ([], none)) = nmsR p ++ (match w with | .a => if p.2.isNone = true then nmsR q else [] | .o => if p.2.isNone = true then [] else nmsR q | .t => nmsR q) := by
  obtain ⟨pd, pe⟩ := p
  obtain ⟨qd, qe⟩ := q
  cases w <;> cases pe <;> cases qe <;> simp [gtl, stp, nxe, nmsR]
theorem two_end (w : Wo) (p q : Rs) : (gtl w [p, q] ([], none)).2 = (match w with | .a => if p.2.isNone = true then q.2 else p.2 | .o => if p.2.isNone = true then none else q.2 | .t => q.2.or p.2) := by
  obtain ⟨pd, pe⟩ := p
  obtain ⟨qd, qe⟩ := q
  cases w <;> cases pe <;> cases qe <;> simp [gtl, stp, nxe]
theorem nm_row (F : List Str) (b : Big) {s : Str} (h : s ∈ nmsR (go F b)) : s ∈ row b := (gt_sub F (ofB b)).mem h
theorem end_row (F : List Str) (b : Big) {s : Str} (h : (go F b).2 = some s) : s ∈ row b := nm_row F b ((gt_good F (ofB b)).2 s h).2
theorem some_fail {b : Big} (h : plain b) (hn : (row b).Nodup) : ∃ F, (go F b).2.isNone = false := by
  obtain ⟨n, ⟨F, e⟩, _⟩ := (ff_best b h hn).at_
  exact ⟨F, congrArg Prod.fst e⟩
theorem some_well {b : Big} (h : plain b) (hn : (row b).Nodup) : ∃ F, (go F b).2.isNone = true := by
  obtain ⟨F, e⟩ := (ff_best b h hn).zero
  exact ⟨F, congrArg Prod.fst e⟩
theorem pr_two (w : Wo) {b c : Big} (hb : plain b) (hc : plain c) (n1 : (row b).Nodup) (n2 : (row c).Nodup) (n3 : ∀ s, s ∈ row b → s ∈ row c → False) (h1 : Pr b) (h2 : Pr c) : Pr (.two w b c) := by
  intro p p0 p1
  rw [acts_two] at p1
  by_cases k : p < acts b
  · obtain ⟨r1, r2, r3⟩ := h1 p p0 k
    rw [at_two1 w b c p0 k, alw_two1 w b c p0 k, cbe_two1 w b c p0 k, row_two]
    refine ⟨List.mem_append_left _ r1, r2.trans ⟨fun h F => ?_, fun h F => ?_⟩, ?_⟩
    · rw [go_two, two_nm]
      exact List.mem_append_left _ (h F)
    · have := h F
      rw [go_two, two_nm] at this
      rcases List.mem_append.mp this with h | h
      · exact h
      · refine (n3 _ r1 (nm_row F c ?_)).elim
        revert h
        cases w <;> dsimp only <;> first | exact id | (split <;> first | exact id | (intro h; cases h))
    · cases w with
      | a =>
        refine r3.trans ⟨fun ⟨F, h⟩ => ⟨F, ?_⟩, fun ⟨F, h⟩ => ⟨F, ?_⟩⟩
        · rw [go_two, two_end]
          simp [h]
        · rw [go_two, two_end] at h
          dsimp only at h
          split at h
          · exact (n3 _ r1 (end_row F c h)).elim
          · exact h
      | o =>
        refine ⟨fun h => (by cases h), fun ⟨F, h⟩ => ?_⟩
        rw [go_two, two_end] at h
        dsimp only at h
        split at h
        · cases h
        · exact (n3 _ r1 (end_row F c h)).elim
      | t =>
        refine r3.trans ⟨fun ⟨F1, h⟩ => ?_, fun ⟨F, h⟩ => ⟨F, ?_⟩⟩
        · obtain ⟨F2, e⟩ := some_well hc n2
          obtain ⟨F, e1, e2⟩ := indep n3 F1 F2
          refine ⟨F, ?_⟩
          rw [go_two, two_end, e1, e2]
          dsimp only
          rw [Option.isNone_iff_eq_none.mp e]
          exact h
        · rw [go_two, two_end] at h
          dsimp only at h
          cases hq : (go F c).2 with
          | none => rw [hq] at h; exact h
          | some z =>
            rw [hq] at h
            have : z = atB b p := by simpa using h
            exact (n3 _ r1 (this ▸ end_row F c hq)).elim
  · obtain ⟨q, rfl⟩ : ∃ q, p = acts b + q := ⟨p - acts b, by omega⟩
    have q0 : 0 ≤ q := by omega
    have q1 : q < acts c := by omega
    obtain ⟨r1, r2, r3⟩ := h2 q q0 q1
    rw [at_two2 w b c q0 q1, alw_two2 w b c q0 q1, cbe_two2 w b c q0 q1, row_two]
    have nb : ∀ F, atB c q ∉ nmsR (go F b) := fun F h => n3 _ (nm_row F b h) r1
    refine ⟨List.mem_append_right _ r1, ?_, r3.trans ?_⟩
    · cases w with
      | a =>
        refine ⟨fun h => (by cases h), fun h => ?_⟩
        obtain ⟨F, e⟩ := some_fail hb n1
        have := h F
        rw [go_two, two_nm] at this
        dsimp only at this
        rw [e] at this
        simp only [Bool.false_eq_true, if_false, List.append_nil] at this
        exact (nb F this).elim
      | o =>
        refine ⟨fun h => (by cases h), fun h => ?_⟩
        obtain ⟨F, e⟩ := some_well hb n1
        have := h F
        rw [go_two, two_nm] at this
        dsimp only at this
        rw [e] at this
        simp only [if_true, List.append_nil] at this
        exact (nb F this).elim
      | t =>
        refine r2.trans ⟨fun h F => ?_, fun h F => ?_⟩
        · rw [go_two, two_nm]
          exact List.mem_append_right _ (h F)
        · have := h F
          rw [go_two, two_nm] at this
          rcases List.mem_append.mp this with h | h
          · exact (nb F h).elim
          · exact h
    · refine ⟨fun ⟨F2, h⟩ => ?_, fun ⟨F, h⟩ => ⟨F, ?_⟩⟩
      · obtain ⟨F1, e⟩ : ∃ F1, (go F1 b).2.isNone = (match w with | .o => false | _ => true) := by
          cases w
          · exact some_well hb n1
          · exact some_well hb n1
          · exact some_fail hb n1
        obtain ⟨F, e1, e2⟩ := indep n3 F1 F2
        refine ⟨F, ?_⟩
        rw [go_two, two_end, e1, e2]
        cases w <;> dsimp only at e ⊢ <;> simp [e, h]
      · rw [go_two, two_end] at h
        have eb : ∀ z, (go F b).2 = some z → z ≠ atB c q := fun z hz e => n3 _ (e ▸ end_row F b hz) r1
        cases hq : (go F b).2 with
        | none => rw [hq] at h; cases w <;> simp at h <;> exact h
        | some z =>
          rw [hq] at h
          cases w with
          | a => exact absurd (Option.some.inj h) (eb z hq)
          | o => exact h
          | t =>
            dsimp only at h
            cases hk : (go F c).2 with
            | none => rw [hk] at h; exact absurd (Option.some.inj h) (eb z hq)
            | some y => rw [hk] at h; exact h
theorem plain_ok : ∀ b : Big, plain b → b.ok
  | .act _, _ => trivial
  | .two _ b c, h => ⟨plain_ok b h.1, plain_ok c h.2⟩
  | .three _ b c d, h => ⟨plain_ok b h.1, plain_ok c h.2.1, plain_ok d h.2.2⟩
theorem pr_all (b : Big) : plain b → (row b).Nodup → Pr b := by
  induction b with
  | act s =>
    intro _ _ p _ _
    have r1 : row (.act s) = [s] := rfl
    refine ⟨by simp [atB, r1], ⟨fun _ F => by simp [go, ofB, gt, nmsR, atB], fun _ => by simp [alw, way]⟩, ⟨fun _ => ⟨[s], by simp [go, ofB, gt, atB]⟩, fun _ => by simp [cbe, way]⟩⟩
  | rep w n b ih => exact fun h => h.elim
  | two w b c ihb ihc =>
    intro h hn
    obtain ⟨n1, n2, n3⟩ := nd_two hn
    exact pr_two w h.1 h.2 n1 n2 n3 (ihb h.1 n1) (ihc h.2 n2)
  | three w b c d ihb ihc ihd =>
    intro h hn
    obtain ⟨n1, n2, n3, n4⟩ := nd_three hn
    have n5 : (row (.two w (.two w b c) d)).Nodup := by rw [row_two, row_two, List.append_assoc]; exact n4
    obtain ⟨m1, m2, m3⟩ := nd_two n5
    obtain ⟨m4, m5, m6⟩ := nd_two m1
    have pb := (acts_cap b (plain_ok b h.1)).1
    have pc := (acts_cap c (plain_ok c h.2.1)).1
    have key := pr_two w (b := .two w b c) ⟨h.1, h.2.1⟩ h.2.2 m1 m2 m3 (pr_two w h.1 h.2.1 m4 m5 m6 (ihb h.1 n1) (ihc h.2.1 n2)) (ihd h.2.2 n3)
    intro p p0 p1
    have p1 : p < acts b + acts c + acts d := p1
    obtain ⟨k1, k2, k3⟩ := key p p0 p1
    rw [at3 w b c d pb pc p0 p1, alw3 w b c d pb pc p0 p1, cbe3 w b c d pb pc p0 p1]
    refine ⟨?_, k2.trans ⟨fun h F => by rw [go3]; exact h F, fun h F => by have := h F; rw [go3] at this; exact this⟩, k3.trans ⟨fun ⟨F, h⟩ => ⟨F, by rw [go3]; exact h⟩, fun ⟨F, h⟩ => ⟨F, by rw [go3] at h; exact h⟩⟩⟩
    rw [row_two, row_two, List.append_assoc] at k1
    rw [row_three]
    exact k1
end L.B
set_option maxHeartbeats 8000000
/-! N1: drawn bodies are BIGs; all lots; by hand. -/
namespace L.B
open PySem Z
theorem big_of : ∀ f : Fm, f.t23 = true → ∃ b : Big, plain b ∧ ofB b = f ∧ b.dep = f.dep
  | .act s, _ => ⟨.act s, trivial, rfl, rfl⟩
  | .node w p .nil, h => by simp [Fm.t23, Fms.len] at h
  | .node w p (.cons q .nil), h => by
    simp only [Fm.t23, Fms.t23s, Bool.and_eq_true] at h
    obtain ⟨b, b1, b2, b3⟩ := big_of p h.1
    obtain ⟨c, c1, c2, c3⟩ := big_of q h.2.1.1
    refine ⟨.two w b c, ⟨b1, c1⟩, by rw [ofB, b2, c2], ?_⟩
    simp only [Big.dep, Fm.dep, Fms.deps, b3, c3]
    omega
  | .node w p (.cons q (.cons r .nil)), h => by
    simp only [Fm.t23, Fms.t23s, Bool.and_eq_true] at h
    obtain ⟨b, b1, b2, b3⟩ := big_of p h.1
    obtain ⟨c, c1, c2, c3⟩ := big_of q h.2.1.1
    obtain ⟨d, d1, d2, d3⟩ := big_of r h.2.1.2.1
    refine ⟨.three w b c d, ⟨b1, c1, d1⟩, by rw [ofB, b2, c2, d2], ?_⟩
    simp only [Big.dep, Fm.dep, Fms.deps, b3, c3, d3]
    omega
  | .node w p (.cons q (.cons r (.cons x y))), h => by simp [Fm.t23, Fms.len] at h
termination_by f => sizeOf f
theorem acts_row : ∀ b : Big, plain b → acts b = (row b).length
  | .act s, _ => rfl
  | .two w b c, h => by
    rw [acts_two, row_two, List.length_append, acts_row b h.1, acts_row c h.2]
    push_cast
    rfl
  | .three w b c d, h => by
    rw [acts3, acts_two, acts_two, row_three, List.length_append, List.length_append, acts_row b h.1, acts_row c h.2.1, acts_row d h.2.2]
    push_cast
    omega
def lotsF (acc : List (List Str)) (a : Str) : List (List Str) := acc ++ acc.map (· ++ [a])
def lots (A : List Str) : List (List Str) := A.foldl lotsF [[]]
theorem lots_memF (q : Str → Bool) : ∀ (A : List Str) (acc : List (List Str)) (x : List Str), x ∈ acc → x ++ A.filter q ∈ A.foldl lotsF acc
  | [], acc, x, h => by simpa using h
  | a :: A, acc, x, h => by
    rw [List.foldl_cons]
    cases hq : q a
    · have := lots_memF q A (lotsF acc a) x (List.mem_append_left _ h)
      simpa [hq] using this
    · have := lots_memF q A (lotsF acc a) (x ++ [a]) (List.mem_append_right _ (List.mem_map.mpr ⟨x, h, rfl⟩))
      simpa [hq] using this
theorem lots_mem (q : Str → Bool) (A : List Str) : A.filter q ∈ lots A := by
  have := lots_memF q A [[]] [] (by simp)
  rwa [List.nil_append] at this
def acs (r : Nat) : List Str := (["a", "b", "c", "d", "e", "f"] : List Str).take (2 + r)
structure Ac (A : List Str) : Prop where
  us : usort A = A
  ss : sortS A = A
  ok : Ok A
  nd : A.Nodup
  ne : ∀ s ∈ A, (Fm.act s).ne = true
  l1 : 2 ≤ A.length
  l2 : A.length ≤ 6
  lt : ∀ L ∈ lots A, A.filter (fun s => L.contains s) = L
  ad : ∀ L ∈ lots A, ∀ a ∈ A, L.contains a = false → usort (L ++ [a]) = A.filter (fun s => L.contains s || decide (s = a))
  sz : (lots A).length ≤ 64
theorem acs_ok : ∀ r : Nat, r < 5 → Ac (acs r)
  | 0, _ => ⟨by decide +kernel, by decide +kernel, by decide +kernel, by decide +kernel, by decide +kernel, by decide +kernel, by decide +kernel, by decide +kernel, by decide +kernel, by decide +kernel⟩
  | 1, _ => ⟨by decide +kernel, by decide +kernel, by decide +kernel, by decide +kernel, by decide +kernel, by decide +kernel, by decide +kernel, by decide +kernel, by decide +kernel, by decide +kernel⟩
  | 2, _ => ⟨by decide +kernel, by decide +kernel, by decide +kernel, by decide +kernel, by decide +kernel, by decide +kernel, by decide +kernel, by decide +kernel, by decide +kernel, by decide +kernel⟩
  | 3, _ => ⟨by decide +kernel, by decide +kernel, by decide +kernel, by decide +kernel, by decide +kernel, by decide +kernel, by decide +kernel, by decide +kernel, by decide +kernel, by decide +kernel⟩
  | 4, _ => ⟨by decide +kernel, by decide +kernel, by decide +kernel, by decide +kernel, by decide +kernel, by decide +kernel, by decide +kernel, by decide +kernel, by decide +kernel, by decide +kernel⟩
theorem c12 : ∀ (r : Nat) (hr : r < 5) (k : Nat) (S : List OS), callP fs (k + 1) 12 [.v (fD (acs r))] S = .ok (.v (.list ((lots (acs r)).map fD))) ⟨[], S⟩
  | 0, _, k, S => by kernel_rfl
  | 1, _, k, S => by kernel_rfl
  | 2, _, k, S => by kernel_rfl
  | 3, _, k, S => by kernel_rfl
  | 4, _, k, S => by kernel_rfl
theorem c21 (k : Nat) (S : List OS) : callP fs (k + 40) 21 [] S = .ok (.v (.bool true)) ⟨[], S⟩ := by kernel_rfl
end L.B
set_option maxHeartbeats 8000000
/-! N2: fail, mend, do, attempt over any memory. -/
namespace L.B
open PySem Z
section
variable {C : Orc} {S : List OS} {A F : List Str} {bod tdy : Dd} {p b : Nat} {past : List PyData}
theorem keepg (k : Nat) (h : S[b]? = some (bdO A F bod tdy p)) (hp : S[p]? = some (.lst past)) (hl : past.length < 16777216) :
    callP fs (k + 2) 32 [.ref b] S = .ok (.v .none) ⟨[], S.set p (.lst (past ++ [stD F bod tdy]))⟩ :=
  m18 (C := callP fs (k + 1)) h hp hl (m26 (C := callP fs k) h)
theorem failg (k : Nat) (h : S[b]? = some (bdO A F bod tdy p)) (hp : S[p]? = some (.lst past)) (hn : p ≠ b) (hl : past.length < 16777216) {a : Str} (ha : A.contains a = true) (hF : F.length < 63) :
    callP fs (k + 3) 39 [.ref b, .v (.str a)] S = .ok (.v .none) ⟨[], (S.set p (.lst (past ++ [stD F bod tdy]))).set b (bdO A (usort (F ++ [a])) bod tdy p)⟩ :=
  m9 (C := callP fs (k + 2)) h (by rw [setN hn]; exact h) (m19 (C := callP fs (k + 1)) h ha) (keepg k h hp hl) hF
theorem mend_ (h : S[b]? = some (bdO A F bod tdy p)) {S1 : List OS} (h1 : S1[b]? = some (bdO A F bod tdy p)) {a : Str} (h19 : C 47 [.ref b, .v (.str a)] S = .ok (.v .none) ⟨[], S⟩) (h18 : C 32 [.ref b] S = .ok (.v .none) ⟨[], S1⟩) (hl : F.length < 63) :
    runFn C FBoard_mend [.ref b, .v (.str a)] S = .ok (.v .none) ⟨[], S1.set b (bdO A (F.filter fun s => !decide (s = a)) bod tdy p)⟩ := by
  have pf := fun G => p_fails A F bod tdy p G
  have lf := l_fails A F bod tdy p
  unfold bdO at h h1 ⊢
  have hc := filtQ (C := C) (own := [2]) (g := .nm 2) (src := .seq (.fld "Board" (.var 0) "own_fails")) (ift := .cmp .ne (.var 2) (.var 1)) (elt := .var 2) (ρ := [some (.ref b), some (.v (.str a)), none]) (m := ⟨[], S1⟩) PyData.str PyData.str (fun x => !decide (x = a)) F
    (by simp [runFn, exs, ex, ev, evAnd, evOr, evs, evO, evL, evIf, evI, asg, asgs, asT, asTs, setL, R.b, R.t, R.ne, RT.s, ofO, peek, peekT, peeks, isiD, tyOf, tyLe, truW, truD, wipe, args, binD, bltD, dmD, strsOf, asStr, intsOf, boolsOf, asInt, asBool, mk, allV, outW, itemsD, itemsW, itemsL, itemsT, ixW, atI, ixN, slW, cut, sIx, freeze, mthW, mtyW, setIxW, enmD, zipD, zipP, rgI, small, szL, isNW, maxI, minI, cl, Mk.pre, Mk.post, isI h1, fdI h1, lf, fD]) (fun x hx => ⟨[some (.ref b), some (.v (.str a)), some (.v (.str x))], by simp [runFn, exs, ex, ev, evAnd, evOr, evs, evO, evL, evIf, evI, asg, asgs, asT, asTs, setL, R.b, R.t, R.ne, RT.s, ofO, peek, peekT, peeks, isiD, tyOf, tyLe, truW, truD, wipe, args, binD, cmpD, eqD, inD, bltD, dmD, strsOf, asStr, intsOf, boolsOf, asInt, asBool, mk, allV, outW, itemsD, itemsW, itemsL, itemsT, ixW, atI, ixN, slW, cut, sIx, freeze, mthW, mtyW, setIxW, enmD, zipD, zipP, rgI, small, szL, isNW, maxI, minI, cl, isIns, noFld, fldW, putA, setFld, Mk.pre, Mk.post], by simp [runFn, exs, ex, ev, evAnd, evOr, evs, evO, evL, evIf, evI, asg, asgs, asT, asTs, setL, R.b, R.t, R.ne, RT.s, ofO, peek, peekT, peeks, isiD, tyOf, tyLe, truW, truD, wipe, args, binD, cmpD, eqD, inD, bltD, dmD, strsOf, asStr, intsOf, boolsOf, asInt, asBool, mk, allV, outW, itemsD, itemsW, itemsL, itemsT, ixW, atI, ixN, slW, cut, sIx, freeze, mthW, mtyW, setIxW, enmD, zipD, zipP, rgI, small, szL, isNW, maxI, minI, cl, isIns, noFld, fldW, putA, setFld, Mk.pre, Mk.post], by simp [runFn, exs, ex, ev, evAnd, evOr, evs, evO, evL, evIf, evI, asg, asgs, asT, asTs, setL, R.b, R.t, R.ne, RT.s, ofO, peek, peekT, peeks, isiD, tyOf, tyLe, truW, truD, wipe, args, binD, cmpD, eqD, inD, bltD, dmD, strsOf, asStr, intsOf, boolsOf, asInt, asBool, mk, allV, outW, itemsD, itemsW, itemsL, itemsT, ixW, atI, ixN, slW, cut, sIx, freeze, mthW, mtyW, setIxW, enmD, zipD, zipP, rgI, small, szL, isNW, maxI, minI, cl, isIns, noFld, fldW, putA, setFld, Mk.pre, Mk.post]⟩) (Nat.le_trans (Nat.le_of_lt hl) (by decide))
  have st := fun (d : PyData) (f : Str) => stI (S := S1) (L := []) h1 f (d := d) (by rw [fl_len]; decide)
  have e1 : ex C (.st1 (.fld "Board" (.var 0) "own_fails") (.blt .tuple (.cons (.lst .fz (.comp [2] (.nm 2) (.seq (.fld "Board" (.var 0) "own_fails")) (.cons (.cmp .ne (.var 2) (.var 1)) .nil) (.var 2))) .nil))) [some (.ref b), some (.v (.str a)), none] ⟨[], S1⟩ = .nx [some (.ref b), some (.v (.str a)), none] ⟨[], S1.set b (.ins "Board" (fl_ A (F.filter fun s => !decide (s = a)) bod tdy p))⟩ := by
    have pf' := pf (F.filter fun s => !decide (s = a))
    unfold fD at pf'
    rw [ex, ev, evs, hc]
    generalize (F.filter fun s => !decide (s = a)) = G at *
    simp [runFn, exs, ex, ev, evAnd, evOr, evs, evO, evL, evIf, evI, asg, asgs, asT, asTs, setL, R.b, R.t, R.ne, RT.s, ofO, peek, peekT, peeks, isiD, tyOf, tyLe, truW, truD, wipe, args, binD, bltD, dmD, strsOf, asStr, intsOf, boolsOf, asInt, asBool, mk, allV, outW, itemsD, itemsW, itemsL, itemsT, ixW, atI, ixN, slW, cut, sIx, freeze, mthW, mtyW, setIxW, enmD, zipD, zipP, rgI, small, szL, isNW, maxI, minI, cl, Mk.pre, Mk.post, isI h1, fdI h1, st, pf']
  have e0 : ex C (.ex (.mc (.meth "check_act") "Board" 47 (.var 0) (.cons (.var 1) .nil) [])) [some (.ref b), some (.v (.str a)), none] ⟨[], S⟩ = .nx [some (.ref b), some (.v (.str a)), none] ⟨[], S⟩ := by
    simp [runFn, exs, ex, ev, evAnd, evOr, evs, evO, evL, evIf, evI, asg, asgs, asT, asTs, setL, R.b, R.t, R.ne, RT.s, ofO, peek, peekT, peeks, isiD, tyOf, tyLe, truW, truD, wipe, args, binD, bltD, dmD, strsOf, asStr, intsOf, boolsOf, asInt, asBool, mk, allV, outW, itemsD, itemsW, itemsL, itemsT, ixW, atI, ixN, slW, cut, sIx, freeze, mthW, mtyW, setIxW, enmD, zipD, zipP, rgI, small, szL, isNW, maxI, minI, cl, Mk.pre, Mk.post, isI h, noI h, n_check_act, h19]
  have e2 : ex C (.ex (.mc (.meth "keep") "Board" 32 (.var 0) .nil [])) [some (.ref b), some (.v (.str a)), none] ⟨[], S⟩ = .nx [some (.ref b), some (.v (.str a)), none] ⟨[], S1⟩ := by
    simp [runFn, exs, ex, ev, evAnd, evOr, evs, evO, evL, evIf, evI, asg, asgs, asT, asTs, setL, R.b, R.t, R.ne, RT.s, ofO, peek, peekT, peeks, isiD, tyOf, tyLe, truW, truD, wipe, args, binD, bltD, dmD, strsOf, asStr, intsOf, boolsOf, asInt, asBool, mk, allV, outW, itemsD, itemsW, itemsL, itemsT, ixW, atI, ixN, slW, cut, sIx, freeze, mthW, mtyW, setIxW, enmD, zipD, zipP, rgI, small, szL, isNW, maxI, minI, cl, Mk.pre, Mk.post, isI h, noI h, n_keep, h18]
  refine run_nx (f := FBoard_mend) (ρ := [some (.ref b), some (.v (.str a)), none]) (m := ⟨[], S1.set b (.ins "Board" (fl_ A (F.filter fun s => !decide (s = a)) bod tdy p))⟩) (ρ' := [some (.ref b), some (.v (.str a)), none]) rfl rfl ?_
  have hb : FBoard_mend.body = .cons (.ex (.mc (.meth "check_act") "Board" 47 (.var 0) (.cons (.var 1) .nil) [])) (.cons (.ex (.mc (.meth "keep") "Board" 32 (.var 0) .nil [])) (.cons (.st1 (.fld "Board" (.var 0) "own_fails") (.blt .tuple (.cons (.lst .fz (.comp [2] (.nm 2) (.seq (.fld "Board" (.var 0) "own_fails")) (.cons (.cmp .ne (.var 2) (.var 1)) .nil) (.var 2))) .nil))) .nil)) := rfl
  rw [hb, exs_nx e0, exs_nx e2, exs_nx e1, exs]
theorem mendg (k : Nat) (h : S[b]? = some (bdO A F bod tdy p)) (hp : S[p]? = some (.lst past)) (hn : p ≠ b) (hl : past.length < 16777216) {a : Str} (ha : A.contains a = true) (hF : F.length < 63) :
    callP fs (k + 3) 40 [.ref b, .v (.str a)] S = .ok (.v .none) ⟨[], (S.set p (.lst (past ++ [stD F bod tdy]))).set b (bdO A (F.filter fun s => !decide (s = a)) bod tdy p)⟩ :=
  mend_ (C := callP fs (k + 2)) h (by rw [setN hn]; exact h) (m19 (C := callP fs (k + 1)) h ha) (keepg k h hp hl) hF
def wf : Bool → Str | true => "fail" | false => "mend"
def nf (t : Bool) (F : List Str) (a : Str) : List Str := if t = true then usort (F ++ [a]) else F.filter fun s => !decide (s = a)
theorem n_mend : (fl_ A F bod tdy p).lookup ("mend" : Str) = none := by kernel_rfl
theorem n_do : (fl_ A F bod tdy p).lookup ("do" : Str) = none := by kernel_rfl
theorem n_attempt : (fl_ A F bod tdy p).lookup ("attempt" : Str) = none := by kernel_rfl
theorem p_past (q : Nat) : putA "own_past" (.ref q) (fl_ A F bod tdy p) = fl_ A F bod tdy q := by kernel_rfl
theorem do_ (t : Bool) (h : S[b]? = some (bdO A F bod tdy p)) {a : Str} {S1 : List OS} (e : C (if t = true then 39 else 40) [.ref b, .v (.str a)] S = .ok (.v .none) ⟨[], S1⟩) : runFn C FBoard_do [.ref b, .v (.tuple [.str (wf t), .str a])] S = .ok (.v .none) ⟨[], S1⟩ := by
  unfold bdO at h
  cases t
  · simp at e
    have c1 : cmpD .eq (.str (wf false)) (.str "fail") = some false := by kernel_rfl
    have c2 : cmpD .eq (.str (wf false)) (.str "mend") = some true := by kernel_rfl
    generalize wf false = x at *
    simp [FBoard_do, runFn, exs, ex, ev, evAnd, evOr, evs, evO, evL, evIf, evI, asg, asgs, asT, asTs, setL, R.b, R.t, R.ne, RT.s, ofO, peek, peekT, peeks, isiD, tyOf, tyLe, truW, truD, wipe, args, binD, bltD, dmD, strsOf, asStr, intsOf, boolsOf, asInt, asBool, mk, allV, outW, itemsD, itemsW, itemsL, itemsT, ixW, atI, ixN, slW, cut, sIx, freeze, mthW, mtyW, setIxW, enmD, zipD, zipP, rgI, small, szL, isNW, maxI, minI, cl, Mk.pre, Mk.post, isI h, noI h, n_mend, e, c1, c2]
  · simp at e
    have c1 : cmpD .eq (.str (wf true)) (.str "fail") = some true := by kernel_rfl
    generalize wf true = x at *
    simp [FBoard_do, runFn, exs, ex, ev, evAnd, evOr, evs, evO, evL, evIf, evI, asg, asgs, asT, asTs, setL, R.b, R.t, R.ne, RT.s, ofO, peek, peekT, peeks, isiD, tyOf, tyLe, truW, truD, wipe, args, binD, bltD, dmD, strsOf, asStr, intsOf, boolsOf, asInt, asBool, mk, allV, outW, itemsD, itemsW, itemsL, itemsT, ixW, atI, ixN, slW, cut, sIx, freeze, mthW, mtyW, setIxW, enmD, zipD, zipP, rgI, small, szL, isNW, maxI, minI, cl, Mk.pre, Mk.post, isI h, noI h, n_fail, e, c1]
theorem dog (t : Bool) (k : Nat) (h : S[b]? = some (bdO A F bod tdy p)) (hp : S[p]? = some (.lst past)) (hn : p ≠ b) (hl : past.length < 16777216) {a : Str} (ha : A.contains a = true) (hF : F.length < 63) :
    callP fs (k + 4) 29 [.ref b, .v (.tuple [.str (wf t), .str a])] S = .ok (.v .none) ⟨[], (S.set p (.lst (past ++ [stD F bod tdy]))).set b (bdO A (nf t F a) bod tdy p)⟩ := by
  refine do_ (C := callP fs (k + 3)) t h ?_
  cases t
  · exact mendg k h hp hn hl ha hF
  · exact failg k h hp hn hl ha hF
theorem att_ (h : S[b]? = some (bdO A F bod tdy p)) (hp : S[p]? = some (.lst past)) {S1 : List OS} {G : List Str} (h1 : S1[b]? = some (bdO A G bod tdy p)) (hl : past.length < 16777215) {w a : PyData} (e0 : C 30 [.ref b] S = .ok (.v (stD F bod tdy)) ⟨[], S⟩)
    (e : C 29 [.ref b, .v (.tuple [w, a])] S = .ok (.v .none) ⟨[], S1⟩) :
    runFn C FBoard_attempt [.ref b, .v (.tuple [.tuple [w, a]])] S = .ok (.v .none) ⟨[], (S1 ++ [OS.lst (past ++ [stD F bod tdy])]).set b (bdO A G bod tdy S1.length)⟩ := by
  have pp := p_past (A := A) (F := G) (bod := bod) (tdy := tdy) (p := p)
  have lp := l_past A F bod tdy p
  have av := allV_mapQ (fun x => x) past
  rw [ids] at av
  have av2 := allV_mapQ (fun x => x) (past ++ [stD F bod tdy])
  rw [ids] at av2
  have hb1 : (S1 ++ [OS.lst (past ++ [stD F bod tdy])])[b]? = some (bdO A G bod tdy p) := by
    rw [List.getElem?_append_left (List.getElem?_eq_some_iff.mp h1).1]
    exact h1
  unfold bdO at h h1 hb1 ⊢
  have sf : setFld ⟨[], S1 ++ [OS.lst (past ++ [stD F bod tdy])]⟩ (.ref b) "own_past" (.ref S1.length) = some ⟨[], (S1 ++ [OS.lst (past ++ [stD F bod tdy])]).set b (.ins "Board" (fl_ A G bod tdy S1.length))⟩ := by
    unfold setFld
    dsimp only
    rw [if_pos (show args [W.ref S1.length] = true from rfl), hb1]
    dsimp only
    rw [if_pos (by rw [fl_len]; decide), pp]
  generalize stD F bod tdy = sd at *
  have l1 : past.length ≤ 16777216 := by omega
  have l2 : past.length + 1 ≤ 16777216 := by omega
  have av3 : allV (past.map W.v ++ [W.v sd]) = some (past ++ [sd]) := by
    rw [← av2]
    simp
  simp [FBoard_attempt, forR, runFn, exs, ex, ev, evAnd, evOr, evs, evO, evL, evIf, evI, asg, asgs, asT, asTs, setL, R.b, R.t, R.ne, RT.s, ofO, peek, peekT, peeks, isiD, tyOf, tyLe, truW, truD, wipe, args, binD, bltD, dmD, strsOf, asStr, intsOf, boolsOf, asInt, asBool, mk, allV, outW, itemsD, itemsW, itemsL, itemsT, ixW, atI, ixN, slW, cut, sIx, freeze, mthW, mtyW, setIxW, enmD, zipD, zipP, rgI, small, szL, isNW, maxI, minI, cl, Mk.pre, Mk.post, isI h, noI h, fdI h, n_state, n_do, lp, hp, e0, av, l1, e, av3, l2, isI hb1, sf]
end
end L.B
set_option maxHeartbeats 8000000
/-! N3: the Board is brought to a lot of fails. -/
namespace L.B
open PySem Z
def Bd (n b : Nat) (A F : List Str) (bod tdy : Dd) (q : Nat) (S : List OS) : Prop := ∃ p past, S[b]? = some (bdO A F bod tdy p) ∧ S[p]? = some (.lst past) ∧ p ≠ b ∧ p ≠ n ∧ past.length ≤ q
theorem Bd.lt {n b : Nat} {A F : List Str} {bod tdy : Dd} {q : Nat} {S : List OS} (h : Bd n b A F bod tdy q S) : b < S.length := by
  obtain ⟨p, past, h1, _⟩ := h
  exact (List.getElem?_eq_some_iff.mp h1).1
section
variable {n b : Nat} {A F : List Str} {bod tdy : Dd} {q : Nat} {S : List OS}
theorem attg (t : Bool) (k : Nat) (h : Bd n b A F bod tdy q S) (nb : n ≠ b) (hn : n < S.length) (hq : q < 16777000) {a : Str} (ha : A.contains a = true) (hF : F.length < 63) :
    ∃ S', callP fs (k + 5) 16 [.ref b, .v (.tuple [.tuple [.str (wf t), .str a]])] S = .ok (.v .none) ⟨[], S'⟩ ∧ Bd n b A (nf t F a) bod tdy (q + 1) S' ∧ S'[n]? = S[n]? := by
  obtain ⟨p, past, h1, h2, h3, h4, h5⟩ := h
  have hb := (List.getElem?_eq_some_iff.mp h1).1
  have hp := (List.getElem?_eq_some_iff.mp h2).1
  have e := dog t k h1 h2 h3 (by omega) ha hF
  generalize hS1 : (S.set p (.lst (past ++ [stD F bod tdy]))).set b (bdO A (nf t F a) bod tdy p) = S1 at e
  have l1 : S1.length = S.length := by rw [← hS1]; simp
  have g1 : S1[b]? = some (bdO A (nf t F a) bod tdy p) := by rw [← hS1, List.getElem?_set_self (by simpa using hb)]
  have gn : S1[n]? = S[n]? := by rw [← hS1, List.getElem?_set_ne (Ne.symm nb), List.getElem?_set_ne h4]
  have e2 := att_ (C := callP fs (k + 4)) h1 h2 g1 (by omega) (m26 (C := callP fs (k + 3)) h1) e
  refine ⟨_, e2, ⟨S1.length, past ++ [stD F bod tdy], ?_, ?_, by omega, by omega, by simp; omega⟩, ?_⟩
  · rw [List.getElem?_set_self (by simp; omega)]
  · rw [List.getElem?_set_ne (by omega)]
    simp
  · rw [List.getElem?_set_ne (Ne.symm nb), List.getElem?_append_left (by omega), gn]
def iB : TS := .cons (.ife (.cmp .ne (.cmp .isin (.var 10) (.var 9)) (.cmp .isin (.var 10) (.prp "Board" "fails" 15 (.var 4)))) (.cons (.ex (.mc (.meth "attempt") "Board" 16 (.var 4) (.cons (.tup (.cons (.tup (.cons (.ix (.lst .fz (.disp (.cons (.cst (.str "mend")) (.cons (.cst (.str "fail")) .nil)))) (.blt .int (.cons (.cmp .isin (.var 10) (.var 9)) .nil))) (.cons (.var 10) .nil))) .nil)) .nil) [])) .nil) .nil) .nil
section
variable {C : Orc} {L : List Str} {L0 : List OL} {y1 y3 y5 y6 y7 y8 y11 y12 y13 y14 : Option W} {a : Str}
theorem att_no (hB : Bd n b A F bod tdy q S) (e15 : C 15 [.ref b] S = .ok (.v (fD F)) ⟨[], S⟩) (he : L.contains a = F.contains a) :
    exs C iB [some (.ref n), y1, some (.v (fD A)), y3, some (.ref b), y5, y6, y7, y8, some (.v (fD L)), some (.v (.str a)), y11, y12, y13, y14] ⟨L0, S⟩ = .nx [some (.ref n), y1, some (.v (fD A)), y3, some (.ref b), y5, y6, y7, y8, some (.v (fD L)), some (.v (.str a)), y11, y12, y13, y14] ⟨L0, S⟩ := by
  obtain ⟨p, past, h1, _⟩ := hB
  unfold bdO at h1
  have i1 := in_fD L a
  have i2 := in_fD F a
  have c : ∀ x : Bool, cmpD .ne (.bool x) (.bool x) = some false := fun x => by cases x <;> rfl
  rw [he] at i1
  generalize fD L = dL at *
  generalize fD F = dF at *
  simp [iB, runFn, exs, ex, ev, evAnd, evOr, evs, evO, evL, evIf, evI, asg, asgs, asT, asTs, setL, R.b, R.t, R.ne, RT.s, ofO, peek, peekT, peeks, isiD, tyOf, tyLe, truW, truD, wipe, args, binD, bltD, dmD, strsOf, asStr, intsOf, boolsOf, asInt, asBool, mk, allV, outW, itemsD, itemsW, itemsL, itemsT, ixW, atI, ixN, slW, cut, sIx, freeze, mthW, mtyW, setIxW, enmD, zipD, zipP, rgI, small, szL, isNW, maxI, minI, cl, Mk.pre, Mk.post, isI h1, e15, i1, i2, c]
theorem att_yes (t : Bool) {S' : List OS} (hB : Bd n b A F bod tdy q S) (e15 : C 15 [.ref b] S = .ok (.v (fD F)) ⟨[], S⟩) (hl : L.contains a = t) (hf : F.contains a = !t) (e : C 16 [.ref b, .v (.tuple [.tuple [.str (wf t), .str a]])] S = .ok (.v .none) ⟨[], S'⟩) :
    exs C iB [some (.ref n), y1, some (.v (fD A)), y3, some (.ref b), y5, y6, y7, y8, some (.v (fD L)), some (.v (.str a)), y11, y12, y13, y14] ⟨L0, S⟩ = .nx [some (.ref n), y1, some (.v (fD A)), y3, some (.ref b), y5, y6, y7, y8, some (.v (fD L)), some (.v (.str a)), y11, y12, y13, y14] ⟨L0, S'⟩ := by
  obtain ⟨p, past, h1, _⟩ := hB
  have na := n_attempt (A := A) (F := F) (bod := bod) (tdy := tdy) (p := p)
  unfold bdO at h1
  have i1 := in_fD L a
  have i2 := in_fD F a
  have c : cmpD .ne (.bool t) (.bool (!t)) = some true := by cases t <;> rfl
  have w : wf true = "fail" := rfl
  have w' : wf false = "mend" := rfl
  rw [hl] at i1
  rw [hf] at i2
  generalize fD L = dL at *
  generalize fD F = dF at *
  cases t
  · simp only [Bool.not_false] at i2 c
    rw [w'] at e
    simp [iB, runFn, exs, ex, ev, evAnd, evOr, evs, evO, evL, evIf, evI, asg, asgs, asT, asTs, setL, R.b, R.t, R.ne, RT.s, ofO, peek, peekT, peeks, isiD, tyOf, tyLe, truW, truD, wipe, args, binD, bltD, dmD, strsOf, asStr, intsOf, boolsOf, asInt, asBool, mk, allV, outW, itemsD, itemsW, itemsL, itemsT, ixW, atI, ixN, slW, cut, sIx, freeze, mthW, mtyW, setIxW, enmD, zipD, zipP, rgI, small, szL, isNW, maxI, minI, cl, Mk.pre, Mk.post, isI h1, noI h1, na, e15, i1, i2, c, e]
  · simp only [Bool.not_true] at i2 c
    rw [w] at e
    simp [iB, runFn, exs, ex, ev, evAnd, evOr, evs, evO, evL, evIf, evI, asg, asgs, asT, asTs, setL, R.b, R.t, R.ne, RT.s, ofO, peek, peekT, peeks, isiD, tyOf, tyLe, truW, truD, wipe, args, binD, bltD, dmD, strsOf, asStr, intsOf, boolsOf, asInt, asBool, mk, allV, outW, itemsD, itemsW, itemsL, itemsT, ixW, atI, ixN, slW, cut, sIx, freeze, mthW, mtyW, setIxW, enmD, zipD, zipP, rgI, small, szL, isNW, maxI, minI, cl, Mk.pre, Mk.post, isI h1, noI h1, na, e15, i1, i2, c, e]
end
def iF (C : Orc) : PyData → Z.Env → Mem → RT := fun d ρ m => match asg (.nm 10) (.v d) ρ with | some ρ => exs C iB ρ m | none => .bad
theorem lots_len {A L : List Str} (h : Ac A) (hL : L ∈ lots A) : L.length ≤ 6 := by
  have := h.lt L hL
  rw [← this]
  exact Nat.le_trans (List.length_filter_le ..) h.l2
theorem in_loop (k : Nat) (hA : Ac A) (nb : n ≠ b) {L : List Str} {L0 : List OL} {y1 y3 y5 y6 y7 y8 y11 y12 y13 y14 : Option W} : ∀ (B F : List Str) (S : List OS) (q : Nat) (y10 : Option W), (∀ a ∈ B, a ∈ A) → F ∈ lots A → Bd n b A F bod tdy q S → n < S.length → q + B.length < 16777000 →
    ∃ S' z10, forR (iF (callP fs (k + 5))) (B.map .str) [some (.ref n), y1, some (.v (fD A)), y3, some (.ref b), y5, y6, y7, y8, some (.v (fD L)), y10, y11, y12, y13, y14] ⟨L0, S⟩ = .nx [some (.ref n), y1, some (.v (fD A)), y3, some (.ref b), y5, y6, y7, y8, some (.v (fD L)), z10, y11, y12, y13, y14] ⟨L0, S'⟩ ∧
      Bd n b A (A.filter fun s => if B.contains s = true then L.contains s else F.contains s) bod tdy (q + B.length) S' ∧ S'[n]? = S[n]?
  | [], F, S, q, y10, _, hF, hB, _, _ => ⟨S, y10, rfl, by
    have e : (A.filter fun s => if ([] : List Str).contains s = true then L.contains s else F.contains s) = F := by
      conv => rhs; rw [← hA.lt F hF]
      refine List.filter_congr fun s _ => ?_
      simp
    rw [e]
    exact hB, rfl⟩
  | a :: B, F, S, q, y10, hs, hF, hB, hn, hq => by
    rw [List.length_cons] at hq
    have ha : a ∈ A := hs a (by simp)
    have e15 : callP fs (k + 5) 15 [.ref b] S = .ok (.v (fD F)) ⟨[], S⟩ := by
      obtain ⟨p, past, h1, _⟩ := hB
      exact m7 (C := callP fs (k + 4)) h1
    have ea : iF (callP fs (k + 5)) (.str a) [some (.ref n), y1, some (.v (fD A)), y3, some (.ref b), y5, y6, y7, y8, some (.v (fD L)), y10, y11, y12, y13, y14] ⟨L0, S⟩ = exs (callP fs (k + 5)) iB [some (.ref n), y1, some (.v (fD A)), y3, some (.ref b), y5, y6, y7, y8, some (.v (fD L)), some (.v (.str a)), y11, y12, y13, y14] ⟨L0, S⟩ := by simp [iF, asg]
    have hlt := hA.lt F hF
    -- one step
    have one : ∃ S1, exs (callP fs (k + 5)) iB [some (.ref n), y1, some (.v (fD A)), y3, some (.ref b), y5, y6, y7, y8, some (.v (fD L)), some (.v (.str a)), y11, y12, y13, y14] ⟨L0, S⟩ = .nx [some (.ref n), y1, some (.v (fD A)), y3, some (.ref b), y5, y6, y7, y8, some (.v (fD L)), some (.v (.str a)), y11, y12, y13, y14] ⟨L0, S1⟩ ∧
        Bd n b A (A.filter fun s => if s = a then L.contains a else F.contains s) bod tdy (q + 1) S1 ∧ S1[n]? = S[n]? := by
      by_cases he : L.contains a = F.contains a
      · refine ⟨S, att_no hB e15 he, ?_, rfl⟩
        have : (A.filter fun s => if s = a then L.contains a else F.contains s) = F := by
          conv => rhs; rw [← hlt]
          refine List.filter_congr fun s _ => ?_
          by_cases h : s = a
          · rw [if_pos h, he, h]
          · rw [if_neg h]
        rw [this]
        obtain ⟨p, past, h1, h2, h3, h4, h5⟩ := hB
        exact ⟨p, past, h1, h2, h3, h4, by omega⟩
      · have hf : F.contains a = !L.contains a := by
          cases h1 : L.contains a <;> cases h2 : F.contains a <;> rw [h1, h2] at he <;> simp at he ⊢
        obtain ⟨S1, e1, hB1, g1⟩ := attg (L.contains a) k hB nb hn (by omega) (a := a) (by simpa using ha) (by have := lots_len hA hF; omega)
        refine ⟨S1, att_yes (L.contains a) hB e15 rfl hf e1, ?_, g1⟩
        have : nf (L.contains a) F a = (A.filter fun s => if s = a then L.contains a else F.contains s) := by
          cases ht : L.contains a
          · rw [ht] at hf
            unfold nf
            rw [if_neg (by simp)]
            conv => lhs; rw [← hlt]
            rw [List.filter_filter]
            refine List.filter_congr fun s _ => ?_
            by_cases h : s = a <;> simp [h]
          · rw [ht] at hf
            unfold nf
            rw [if_pos rfl, hA.ad F hF a ha hf]
            refine List.filter_congr fun s _ => ?_
            by_cases h : s = a <;> simp [h]
        rw [this] at hB1
        exact hB1
    obtain ⟨S1, e1, hB1, g1⟩ := one
    have ln : n < S1.length := by
      have : S1[n]? = some S[n] := by rw [g1, List.getElem?_eq_getElem hn]
      exact (List.getElem?_eq_some_iff.mp this).1
    obtain ⟨S2, z10, e2, hB2, g2⟩ := in_loop k hA nb (L := L) (L0 := L0) (y1 := y1) (y3 := y3) (y5 := y5) (y6 := y6) (y7 := y7) (y8 := y8) (y11 := y11) (y12 := y12) (y13 := y13) (y14 := y14) B _ S1 (q + 1) (some (.v (.str a))) (fun x hx => hs x (by simp [hx])) (lots_mem _ A) hB1 ln (by omega)
    refine ⟨S2, z10, ?_, ?_, by rw [g2, g1]⟩
    · rw [List.map_cons, forR, ea, e1]
      exact e2
    · rw [List.length_cons, show q + (B.length + 1) = q + 1 + B.length by omega]
      have : (A.filter fun s => if B.contains s = true then L.contains s else (A.filter fun s => if s = a then L.contains a else F.contains s).contains s) = (A.filter fun s => if (a :: B).contains s = true then L.contains s else F.contains s) := by
        refine List.filter_congr fun s hs => ?_
        by_cases h : s = a
        · subst h
          by_cases hb : s ∈ B <;> simp [List.contains_eq_mem, hb, hs]
        · by_cases hb : s ∈ B <;> simp [List.contains_eq_mem, hb, hs, h]
      rw [this] at hB2
      exact hB2
theorem in_all (k : Nat) (hA : Ac A) (nb : n ≠ b) {L : List Str} (hL : L ∈ lots A) {L0 : List OL} {y1 y3 y5 y6 y7 y8 y10 y11 y12 y13 y14 : Option W} (hF : F ∈ lots A) (hB : Bd n b A F bod tdy q S) (hn : n < S.length) (hq : q < 16000000) :
    ∃ S' z10, ex (callP fs (k + 5)) (.forT (.nm 10) (.seq (.var 2)) iB) [some (.ref n), y1, some (.v (fD A)), y3, some (.ref b), y5, y6, y7, y8, some (.v (fD L)), y10, y11, y12, y13, y14] ⟨L0, S⟩ = .nx [some (.ref n), y1, some (.v (fD A)), y3, some (.ref b), y5, y6, y7, y8, some (.v (fD L)), z10, y11, y12, y13, y14] ⟨L0, S'⟩ ∧
      Bd n b A L bod tdy (q + 6) S' ∧ S'[n]? = S[n]? := by
  have l2 := hA.l2
  obtain ⟨S', z10, e, h1, h2⟩ := in_loop k hA nb (L := L) (L0 := L0) (y1 := y1) (y3 := y3) (y5 := y5) (y6 := y6) (y7 := y7) (y8 := y8) (y11 := y11) (y12 := y12) (y13 := y13) (y14 := y14) A F S q y10 (fun _ h => h) hF hB hn (by omega)
  refine ⟨S', z10, (ex_for (ds := A.map .str) (by simp [runFn, exs, ex, ev, evAnd, evOr, evs, evO, evL, evIf, evI, asg, asgs, asT, asTs, setL, R.b, R.t, R.ne, RT.s, ofO, peek, peekT, peeks, isiD, tyOf, tyLe, truW, truD, wipe, args, binD, bltD, dmD, strsOf, asStr, intsOf, boolsOf, asInt, asBool, mk, allV, outW, itemsD, itemsW, itemsL, itemsT, ixW, atI, ixN, slW, cut, sIx, freeze, mthW, mtyW, setIxW, enmD, zipD, zipP, rgI, small, szL, isNW, maxI, minI, cl, isIns, noFld, fldW, putA, setFld, Mk.pre, Mk.post, fD])).trans e, ?_, h2⟩
  have : (A.filter fun s => if A.contains s = true then L.contains s else F.contains s) = L := by
    conv => rhs; rw [← hA.lt L hL]
    refine List.filter_congr fun s hs => ?_
    simp [hs]
  rw [this] at h1
  obtain ⟨p, past, h1, h2, h3, h4, h5⟩ := h1
  exact ⟨p, past, h1, h2, h3, h4, by omega⟩
end
end L.B
set_option maxHeartbeats 8000000
/-! N4: over all lots. -/
namespace L.B
open PySem Z
structure Sm where
  sz : List Int
  lst : Int
  en : List Str
  al : List Str
def stepL (f : Fm) (st : Sm) (L : List Str) : Sm := ⟨st.sz ++ [((nmsR (gt L f)).length : Int)], if (gt L f).2 = none then st.lst else if (L.length : Int) < st.lst then L.length else st.lst, st.en ++ (gt L f).2.toList, st.al.filter fun s => (nmsR (gt L f)).contains s⟩
def o2 : T := .asg (.nm 11) (.lst .fz (.comp [10, 14] (.tp (.cons (.nm 10) (.cons (.nm 14) .nil))) (.seq (.mc (.meth "run") "Board" 14 (.var 4) (.cons (.cst (.str "m")) .nil) [])) .nil (.var 10)))
def o3 : T := .par [5, 8] (.cons (.bin .add (.var 5) (.lst .fz (.disp (.cons (.blt .len (.cons (.var 11) .nil)) .nil)))) (.cons (.lst .fz (.comp [10] (.nm 10) (.seq (.var 8)) (.cons (.cmp .isin (.var 10) (.var 11)) .nil) (.var 10))) .nil))
def o4 : T := .ife (.notN (.mc (.meth "end") "Board" 13 (.var 4) (.cons (.cst (.str "m")) .nil) [])) (.cons (.par [6, 7] (.cons (.blt .min (.cons (.var 6) (.cons (.blt .len (.cons (.var 9) .nil)) .nil))) (.cons (.bin .add (.var 7) (.lst .fz (.disp (.cons (.mc (.meth "end") "Board" 13 (.var 4) (.cons (.cst (.str "m")) .nil) []) .nil)))) .nil))) .nil) .nil
def oB : TS := .cons (.forT (.nm 10) (.seq (.var 2)) iB) (.cons o2 (.cons o3 (.cons o4 .nil)))
def bm (f : Fm) : Dd := [(.str "m", f.D)]
theorem bm_get (d : PyData) : dgetD "m" ([(.str "m", d)] : Dd) = some d := by kernel_rfl
theorem bm_in (d : PyData) : cmpD .notin (.str "m") (.dict [(.str "m", d)]) = some false := by kernel_rfl
section
variable {n b : Nat} {A F : List Str} {tdy : Dd} {q : Nat} {S : List OS}
theorem runm (f : Fm) (k : Nat) (hk : f.dep + 5 ≤ k) (hB : Bd n b A F (bm f) tdy q S) (hw : f.row.length ≤ 999) (h64 : f.dep ≤ 64) (hs : Ok f.row) : callP fs (k + 1) 14 [.ref b, .v (.str "m")] S = .ok (.v (.tuple ((gt F f).1.map dn))) ⟨[], S⟩ := by
  obtain ⟨k, rfl⟩ : ∃ j, k = j + 1 := ⟨k - 1, by omega⟩
  obtain ⟨p, past, h, _⟩ := hB
  exact m6 (C := callP fs (k + 1)) h (m16 (C := callP fs k) h (bm_in _)) (bm_get _) (_root_.L.c17 F f (k + 1) _ (by omega) hw h64 hs)
theorem endm (f : Fm) (k : Nat) (hk : f.dep + 5 ≤ k) (hB : Bd n b A F (bm f) tdy q S) (hw : f.row.length ≤ 999) (h64 : f.dep ≤ 64) (hs : Ok f.row) : callP fs (k + 1) 13 [.ref b, .v (.str "m")] S = .ok (.v (enD (gt F f).2)) ⟨[], S⟩ := by
  obtain ⟨k, rfl⟩ : ∃ j, k = j + 1 := ⟨k - 1, by omega⟩
  obtain ⟨p, past, h, _⟩ := hB
  exact m5 (C := callP fs (k + 1)) h (m16 (C := callP fs k) h (bm_in _)) (bm_get _) (_root_.L.c15 F f (k + 1) _ (by omega) hw h64 hs)
theorem isb (hB : Bd n b A F bod tdy q S) (L0 : List OL) : isIns ⟨L0, S⟩ (.ref b) "Board" = true := by
  obtain ⟨p, past, h, _⟩ := hB
  exact isI h
theorem nob (hB : Bd n b A F bod tdy q S) (L0 : List OL) : noFld ⟨L0, S⟩ (.ref b) "run" = true ∧ noFld ⟨L0, S⟩ (.ref b) "end" = true := by
  obtain ⟨p, past, h, _⟩ := hB
  unfold bdO at h
  rw [noI h, noI h, n_run, n_end]
  exact ⟨rfl, rfl⟩
section
variable {C : Orc} {f : Fm} {L0 : List OL} {y1 y9 y10 y11 y12 y13 y14 : Option W} {st : Sm} {dA : W} {df : PyData}
theorem o2_ {r : List (Str × Bool)} (hB : Bd n b A F bod tdy q S) (e : C 14 [.ref b, .v (.str "m")] S = .ok (.v (.tuple (r.map dn))) ⟨[], S⟩) (hl : r.length ≤ 1000) {y5 y6 y7 y8 : Option W} :
    ex C o2 [some (.ref n), y1, some dA, some (.v df), some (.ref b), y5, y6, y7, y8, y9, y10, y11, y12, y13, y14] ⟨L0, S⟩ = .nx [some (.ref n), y1, some dA, some (.v df), some (.ref b), y5, y6, y7, y8, y9, y10, some (.v (.list ((r.map (·.1)).map .str))), y12, y13, y14] ⟨L0, S⟩ := by
  have i := isb hB L0
  have nn := (nob hB L0).1
  have hc := compQ (C := C) (own := [10, 14]) (g := .tp (.cons (.nm 10) (.cons (.nm 14) .nil))) (src := .seq (.mc (.meth "run") "Board" 14 (.var 4) (.cons (.cst (.str "m")) .nil) [])) (elt := .var 10) (ρ := [some (.ref n), y1, some dA, some (.v df), some (.ref b), y5, y6, y7, y8, y9, y10, y11, y12, y13, y14]) (m := ⟨L0, S⟩) dn (fun p => .str p.1) r
    (by simp [runFn, exs, ex, ev, evAnd, evOr, evs, evO, evL, evIf, evI, asg, asgs, asT, asTs, setL, R.b, R.t, R.ne, RT.s, ofO, peek, peekT, peeks, isiD, tyOf, tyLe, truW, truD, wipe, args, binD, bltD, dmD, strsOf, asStr, intsOf, boolsOf, asInt, asBool, mk, allV, outW, itemsD, itemsW, itemsL, itemsT, ixW, atI, ixN, slW, cut, sIx, freeze, mthW, mtyW, setIxW, enmD, zipD, zipP, rgI, small, szL, isNW, maxI, minI, cl, Mk.pre, Mk.post, i, nn, e]) (fun p hp => ⟨[some (.ref n), y1, some dA, some (.v df), some (.ref b), y5, y6, y7, y8, y9, some (.v (.str p.1)), y11, y12, y13, some (.v (.bool p.2))], by simp [runFn, exs, ex, ev, evAnd, evOr, evs, evO, evL, evIf, evI, asg, asgs, asT, asTs, setL, R.b, R.t, R.ne, RT.s, ofO, peek, peekT, peeks, isiD, tyOf, tyLe, truW, truD, wipe, args, binD, cmpD, eqD, inD, bltD, dmD, strsOf, asStr, intsOf, boolsOf, asInt, asBool, mk, allV, outW, itemsD, itemsW, itemsL, itemsT, ixW, atI, ixN, slW, cut, sIx, freeze, mthW, mtyW, setIxW, enmD, zipD, zipP, rgI, small, szL, isNW, maxI, minI, cl, isIns, noFld, fldW, putA, setFld, Mk.pre, Mk.post, dn], by simp [runFn, exs, ex, ev, evAnd, evOr, evs, evO, evL, evIf, evI, asg, asgs, asT, asTs, setL, R.b, R.t, R.ne, RT.s, ofO, peek, peekT, peeks, isiD, tyOf, tyLe, truW, truD, wipe, args, binD, cmpD, eqD, inD, bltD, dmD, strsOf, asStr, intsOf, boolsOf, asInt, asBool, mk, allV, outW, itemsD, itemsW, itemsL, itemsT, ixW, atI, ixN, slW, cut, sIx, freeze, mthW, mtyW, setIxW, enmD, zipD, zipP, rgI, small, szL, isNW, maxI, minI, cl, isIns, noFld, fldW, putA, setFld, Mk.pre, Mk.post]⟩) (Nat.le_trans hl (by decide))
  unfold o2
  rw [ex, hc]
  simp [runFn, exs, ex, ev, evAnd, evOr, evs, evO, evL, evIf, evI, asg, asgs, asT, asTs, setL, R.b, R.t, R.ne, RT.s, ofO, peek, peekT, peeks, isiD, tyOf, tyLe, truW, truD, wipe, args, binD, cmpD, eqD, inD, bltD, dmD, strsOf, asStr, intsOf, boolsOf, asInt, asBool, mk, allV, outW, itemsD, itemsW, itemsL, itemsT, ixW, atI, ixN, slW, cut, sIx, freeze, mthW, mtyW, setIxW, enmD, zipD, zipP, rgI, small, szL, isNW, maxI, minI, cl, isIns, noFld, fldW, putA, setFld, Mk.pre, Mk.post]
theorem o3_ {nm al : List Str} {sz : List Int} (hs : sz.length ≤ 1000) (ha : al.length ≤ 1000) {y6 y7 : Option W} :
    ex C o3 [some (.ref n), y1, some dA, some (.v df), some (.ref b), some (.v (.list (sz.map .int))), y6, y7, some (.v (.list (al.map .str))), y9, y10, some (.v (.list (nm.map .str))), y12, y13, y14] ⟨L0, S⟩ =
      .nx [some (.ref n), y1, some dA, some (.v df), some (.ref b), some (.v (.list ((sz ++ [(nm.length : Int)]).map .int))), y6, y7, some (.v (.list ((al.filter fun s => nm.contains s).map .str))), y9, y10, some (.v (.list (nm.map .str))), y12, y13, y14] ⟨L0, S⟩ := by
  have inn : ∀ x, cmpD .isin (.str x) (.list (nm.map .str)) = some (nm.contains x) := fun x => by
    show (strsOf (nm.map .str)).map _ = _
    rw [strs_of]
    rfl
  have hc := filtQ (C := C) (own := [10]) (g := .nm 10) (src := .seq (.var 8)) (ift := .cmp .isin (.var 10) (.var 11)) (elt := .var 10) (ρ := [some (.ref n), y1, some dA, some (.v df), some (.ref b), some (.v (.list (sz.map .int))), y6, y7, some (.v (.list (al.map .str))), y9, y10, some (.v (.list (nm.map .str))), y12, y13, y14]) (m := ⟨L0, S⟩) PyData.str PyData.str (fun x => nm.contains x) al
    (by simp [runFn, exs, ex, ev, evAnd, evOr, evs, evO, evL, evIf, evI, asg, asgs, asT, asTs, setL, R.b, R.t, R.ne, RT.s, ofO, peek, peekT, peeks, isiD, tyOf, tyLe, truW, truD, wipe, args, binD, cmpD, eqD, inD, bltD, dmD, strsOf, asStr, intsOf, boolsOf, asInt, asBool, mk, allV, outW, itemsD, itemsW, itemsL, itemsT, ixW, atI, ixN, slW, cut, sIx, freeze, mthW, mtyW, setIxW, enmD, zipD, zipP, rgI, small, szL, isNW, maxI, minI, cl, isIns, noFld, fldW, putA, setFld, Mk.pre, Mk.post]) (fun x hx => ⟨[some (.ref n), y1, some dA, some (.v df), some (.ref b), some (.v (.list (sz.map .int))), y6, y7, some (.v (.list (al.map .str))), y9, some (.v (.str x)), some (.v (.list (nm.map .str))), y12, y13, y14], by simp [runFn, exs, ex, ev, evAnd, evOr, evs, evO, evL, evIf, evI, asg, asgs, asT, asTs, setL, R.b, R.t, R.ne, RT.s, ofO, peek, peekT, peeks, isiD, tyOf, tyLe, truW, truD, wipe, args, binD, cmpD, eqD, inD, bltD, dmD, strsOf, asStr, intsOf, boolsOf, asInt, asBool, mk, allV, outW, itemsD, itemsW, itemsL, itemsT, ixW, atI, ixN, slW, cut, sIx, freeze, mthW, mtyW, setIxW, enmD, zipD, zipP, rgI, small, szL, isNW, maxI, minI, cl, isIns, noFld, fldW, putA, setFld, Mk.pre, Mk.post], by have := inn x; generalize nm.map PyData.str = d at *; simp only [ev, R.b, List.getElem?_cons_succ, List.getElem?_cons_zero, peek, Option.bind_some, this, Option.map_some, ofO], by simp [runFn, exs, ex, ev, evAnd, evOr, evs, evO, evL, evIf, evI, asg, asgs, asT, asTs, setL, R.b, R.t, R.ne, RT.s, ofO, peek, peekT, peeks, isiD, tyOf, tyLe, truW, truD, wipe, args, binD, cmpD, eqD, inD, bltD, dmD, strsOf, asStr, intsOf, boolsOf, asInt, asBool, mk, allV, outW, itemsD, itemsW, itemsL, itemsT, ixW, atI, ixN, slW, cut, sIx, freeze, mthW, mtyW, setIxW, enmD, zipD, zipP, rgI, small, szL, isNW, maxI, minI, cl, isIns, noFld, fldW, putA, setFld, Mk.pre, Mk.post]⟩) (Nat.le_trans ha (by decide))
  have h1 : sz.length + 1 ≤ 16777216 := by omega
  unfold o3
  have h0 : ev C (.bin .add (.var 5) (.lst .fz (.disp (.cons (.blt .len (.cons (.var 11) .nil)) .nil)))) [some (.ref n), y1, some dA, some (.v df), some (.ref b), some (.v (.list (sz.map .int))), y6, y7, some (.v (.list (al.map .str))), y9, y10, some (.v (.list (nm.map .str))), y12, y13, y14] ⟨L0, S⟩ = .ok (.v (.list ((sz ++ [(nm.length : Int)]).map .int))) ⟨L0, S⟩ := by
    simp [runFn, exs, ex, ev, evAnd, evOr, evs, evO, evL, evIf, evI, asg, asgs, asT, asTs, setL, R.b, R.t, R.ne, RT.s, ofO, peek, peekT, peeks, isiD, tyOf, tyLe, truW, truD, wipe, args, binD, cmpD, eqD, inD, bltD, dmD, strsOf, asStr, intsOf, boolsOf, asInt, asBool, mk, allV, outW, itemsD, itemsW, itemsL, itemsT, ixW, atI, ixN, slW, cut, sIx, freeze, mthW, mtyW, setIxW, enmD, zipD, zipP, rgI, small, szL, isNW, maxI, minI, cl, isIns, noFld, fldW, putA, setFld, Mk.pre, Mk.post, h1]
  simp only [ex, evs, h0, hc, R.b]
  generalize (al.filter fun s => nm.contains s).map PyData.str = al2
  generalize al.map PyData.str = al1
  simp [runFn, exs, ex, ev, evAnd, evOr, evs, evO, evL, evIf, evI, asg, asgs, asT, asTs, setL, R.b, R.t, R.ne, RT.s, ofO, peek, peekT, peeks, isiD, tyOf, tyLe, truW, truD, wipe, args, binD, cmpD, eqD, inD, bltD, dmD, strsOf, asStr, intsOf, boolsOf, asInt, asBool, mk, allV, outW, itemsD, itemsW, itemsL, itemsT, ixW, atI, ixN, slW, cut, sIx, freeze, mthW, mtyW, setIxW, enmD, zipD, zipP, rgI, small, szL, isNW, maxI, minI, cl, isIns, noFld, fldW, putA, setFld, Mk.pre, Mk.post, h1]
theorem o4_no (hB : Bd n b A F bod tdy q S) (e : C 13 [.ref b, .v (.str "m")] S = .ok (.v .none) ⟨[], S⟩) {y5 y6 y7 y8 : Option W} :
    ex C o4 [some (.ref n), y1, some dA, some (.v df), some (.ref b), y5, y6, y7, y8, y9, y10, y11, y12, y13, y14] ⟨L0, S⟩ = .nx [some (.ref n), y1, some dA, some (.v df), some (.ref b), y5, y6, y7, y8, y9, y10, y11, y12, y13, y14] ⟨L0, S⟩ := by
  have i := isb hB L0
  have nn := (nob hB L0).2
  simp [o4, runFn, exs, ex, ev, evAnd, evOr, evs, evO, evL, evIf, evI, asg, asgs, asT, asTs, setL, R.b, R.t, R.ne, RT.s, ofO, peek, peekT, peeks, isiD, tyOf, tyLe, truW, truD, wipe, args, binD, bltD, dmD, strsOf, asStr, intsOf, boolsOf, asInt, asBool, mk, allV, outW, itemsD, itemsW, itemsL, itemsT, ixW, atI, ixN, slW, cut, sIx, freeze, mthW, mtyW, setIxW, enmD, zipD, zipP, rgI, small, szL, isNW, maxI, minI, cl, Mk.pre, Mk.post, i, nn, e]
theorem o4_yes (hB : Bd n b A F bod tdy q S) {s : Str} (e : C 13 [.ref b, .v (.str "m")] S = .ok (.v (.str s)) ⟨[], S⟩) {L en : List Str} {lst : Int} (hl : en.length ≤ 1000) {y5 y8 : Option W} :
    ex C o4 [some (.ref n), y1, some dA, some (.v df), some (.ref b), y5, some (.v (.int lst)), some (.v (.list (en.map .str))), y8, some (.v (fD L)), y10, y11, y12, y13, y14] ⟨L0, S⟩ =
      .nx [some (.ref n), y1, some dA, some (.v df), some (.ref b), y5, some (.v (.int (if (L.length : Int) < lst then L.length else lst))), some (.v (.list ((en ++ [s]).map .str))), y8, some (.v (fD L)), y10, y11, y12, y13, y14] ⟨L0, S⟩ := by
  have i := isb hB L0
  have nn := (nob hB L0).2
  have h1 : en.length + 1 ≤ 16777216 := by omega
  simp [o4, runFn, exs, ex, ev, evAnd, evOr, evs, evO, evL, evIf, evI, asg, asgs, asT, asTs, setL, R.b, R.t, R.ne, RT.s, ofO, peek, peekT, peeks, isiD, tyOf, tyLe, truW, truD, wipe, args, binD, bltD, dmD, strsOf, asStr, intsOf, boolsOf, asInt, asBool, mk, allV, outW, itemsD, itemsW, itemsL, itemsT, ixW, atI, ixN, slW, cut, sIx, freeze, mthW, mtyW, setIxW, enmD, zipD, zipP, rgI, small, szL, isNW, maxI, minI, cl, Mk.pre, Mk.post, i, nn, e, fD, h1]
end
def oE (n b : Nat) (A : List Str) (f : Fm) (st : Sm) (y1 y9 y10 y11 y12 y13 y14 : Option W) : Z.Env := [some (.ref n), y1, some (.v (fD A)), some (.v f.D), some (.ref b), some (.v (.list (st.sz.map .int))), some (.v (.int st.lst)), some (.v (.list (st.en.map .str))), some (.v (.list (st.al.map .str))), y9, y10, y11, y12, y13, y14]
theorem o_step (k : Nat) (hk : 30 ≤ k) (hA : Ac A) (nb : n ≠ b) {f : Fm} (hd : f.dep ≤ 10) (hw : f.row.length ≤ 900) (hs : Ok f.row) {L : List Str} (hL : L ∈ lots A) (st : Sm) (h1 : st.sz.length ≤ 900) (h2 : st.al.length ≤ 900) (h3 : st.en.length ≤ 900) {L0 : List OL} {y1 y10 y11 y12 y13 y14 : Option W} (hF : F ∈ lots A) (hB : Bd n b A F (bm f) tdy q S) (hn : n < S.length) (hq : q < 16000000) :
    ∃ S' z10 z11, exs (callP fs k) oB (oE n b A f st y1 (some (.v (fD L))) y10 y11 y12 y13 y14) ⟨L0, S⟩ = .nx (oE n b A f (stepL f st L) y1 (some (.v (fD L))) z10 z11 y12 y13 y14) ⟨L0, S'⟩ ∧ Bd n b A L (bm f) tdy (q + 6) S' ∧ S'[n]? = S[n]? := by
  obtain ⟨k, rfl⟩ : ∃ j, k = j + 5 := ⟨k - 5, by omega⟩
  obtain ⟨S', z10, e1, hB', g⟩ := in_all k hA nb hL (L0 := L0) (y1 := y1) (y3 := some (.v f.D)) (y5 := some (.v (.list (st.sz.map .int)))) (y6 := some (.v (.int st.lst))) (y7 := some (.v (.list (st.en.map .str)))) (y8 := some (.v (.list (st.al.map .str)))) (y10 := y10) (y11 := y11) (y12 := y12) (y13 := y13) (y14 := y14) hF hB hn hq
  have er := runm f (k + 4) (by omega) hB' (by omega) (by omega) hs
  have ee := endm f (k + 4) (by omega) hB' (by omega) (by omega) hs
  have gl := gt_len L f
  refine ⟨S', z10, some (.v (.list ((nmsR (gt L f)).map .str))), ?_, hB', g⟩
  generalize callP fs (k + 5) = C at *
  unfold oB oE
  rw [exs_nx e1, exs_nx (o2_ hB' er (by omega)), exs_nx (o3_ (by omega) (by omega))]
  have nm : (gt L f).1.map (·.1) = nmsR (gt L f) := rfl
  rw [nm]
  cases hend : (gt L f).2 with
  | none =>
    rw [hend] at ee
    rw [exs_nx (o4_no hB' ee), exs]
    simp only [stepL, hend, if_true, Option.toList, List.append_nil]
  | some s =>
    rw [hend] at ee
    rw [exs_nx (o4_yes hB' ee (by omega)), exs]
    simp only [stepL, hend, Option.toList, reduceCtorEq, if_false]
def oF (C : Orc) : PyData → Z.Env → Mem → RT := fun d ρ m => match asg (.nm 9) (.v d) ρ with | some ρ => exs C oB ρ m | none => .bad
theorem o_loop (k : Nat) (hk : 30 ≤ k) (hA : Ac A) (nb : n ≠ b) {f : Fm} (hd : f.dep ≤ 10) (hw : f.row.length ≤ 900) (hs : Ok f.row) {L0 : List OL} {y1 y12 y13 y14 : Option W} : ∀ (Ls : List (List Str)) (st : Sm) (F : List Str) (S : List OS) (q : Nat) (y9 y10 y11 : Option W), (∀ L ∈ Ls, L ∈ lots A) → st.sz.length + Ls.length ≤ 900 → st.al.length ≤ 900 → st.en.length + Ls.length ≤ 900 → F ∈ lots A → Bd n b A F (bm f) tdy q S → n < S.length → q + 6 * Ls.length < 16000000 →
    ∃ S' z9 z10 z11, forR (oF (callP fs k)) (Ls.map fD) (oE n b A f st y1 y9 y10 y11 y12 y13 y14) ⟨L0, S⟩ = .nx (oE n b A f (Ls.foldl (stepL f) st) y1 z9 z10 z11 y12 y13 y14) ⟨L0, S'⟩ ∧ S'[n]? = S[n]?
  | [], st, F, S, q, y9, y10, y11, _, _, _, _, _, _, _, _ => ⟨S, y9, y10, y11, rfl, rfl⟩
  | L :: Ls, st, F, S, q, y9, y10, y11, hin, h1, h2, h3, hF, hB, hn, hq => by
    rw [List.length_cons] at h1 h3 hq
    obtain ⟨S1, z10, z11, e1, hB1, g1⟩ := o_step k hk hA nb hd hw hs (hin L (by simp)) st (by omega) h2 (by omega) (L0 := L0) (y1 := y1) (y10 := y10) (y11 := y11) (y12 := y12) (y13 := y13) (y14 := y14) hF hB hn (by omega)
    have ln : n < S1.length := by
      have : S1[n]? = some S[n] := by rw [g1, List.getElem?_eq_getElem hn]
      exact (List.getElem?_eq_some_iff.mp this).1
    obtain ⟨S2, z9, u10, u11, e2, g2⟩ := o_loop k hk hA nb hd hw hs (L0 := L0) (y1 := y1) (y12 := y12) (y13 := y13) (y14 := y14) Ls (stepL f st L) L S1 (q + 6) (some (.v (fD L))) z10 z11 (fun x hx => hin x (by simp [hx])) (by simp only [stepL, List.length_append, List.length_singleton]; omega) (Nat.le_trans (List.length_filter_le ..) h2) (by
      simp only [stepL, List.length_append]
      have : (gt L f).2.toList.length ≤ 1 := by cases (gt L f).2 <;> simp
      omega) (hin L (by simp)) hB1 ln (by omega)
    refine ⟨S2, z9, u10, u11, ?_, by rw [g2, g1]⟩
    have ea : oF (callP fs k) (fD L) (oE n b A f st y1 y9 y10 y11 y12 y13 y14) ⟨L0, S⟩ = exs (callP fs k) oB (oE n b A f st y1 (some (.v (fD L))) y10 y11 y12 y13 y14) ⟨L0, S⟩ := by
      unfold oF oE
      simp [asg]
    rw [List.map_cons, forR, ea, e1]
    exact e2
end
end L.B
set_option maxHeartbeats 8000000
/-! N5: what is found over all lots is what the BIG tells. -/
namespace L.B
open PySem Z
theorem fold_sz (f : Fm) : ∀ (Ls : List (List Str)) (st : Sm), (Ls.foldl (stepL f) st).sz = st.sz ++ Ls.map fun L => ((nmsR (gt L f)).length : Int)
  | [], st => by simp
  | L :: Ls, st => by
    rw [List.foldl_cons, fold_sz f Ls]
    simp [stepL]
theorem fold_en (f : Fm) : ∀ (Ls : List (List Str)) (st : Sm), (Ls.foldl (stepL f) st).en = st.en ++ Ls.flatMap fun L => (gt L f).2.toList
  | [], st => by simp
  | L :: Ls, st => by
    rw [List.foldl_cons, fold_en f Ls]
    simp [stepL]
theorem fold_al (f : Fm) : ∀ (Ls : List (List Str)) (st : Sm), (Ls.foldl (stepL f) st).al = st.al.filter fun s => Ls.all fun L => (nmsR (gt L f)).contains s
  | [], st => (List.filter_eq_self.mpr (by simp)).symm
  | L :: Ls, st => by
    rw [List.foldl_cons, fold_al f Ls]
    simp only [stepL, List.filter_filter]
    refine List.filter_congr fun s _ => ?_
    rw [List.all_cons, Bool.and_comm]
theorem fold_lst (f : Fm) : ∀ (Ls : List (List Str)) (st : Sm), (Ls.foldl (stepL f) st).lst ≤ st.lst ∧ (∀ L ∈ Ls, (gt L f).2.isNone = false → (Ls.foldl (stepL f) st).lst ≤ L.length) ∧ ((Ls.foldl (stepL f) st).lst = st.lst ∨ ∃ L ∈ Ls, (gt L f).2.isNone = false ∧ (Ls.foldl (stepL f) st).lst = L.length)
  | [], st => ⟨Int.le_refl _, (fun L h => by cases h), .inl rfl⟩
  | L :: Ls, st => by
    rw [List.foldl_cons]
    obtain ⟨h1, h2, h3⟩ := fold_lst f Ls (stepL f st L)
    generalize (Ls.foldl (stepL f) (stepL f st L)).lst = z at *
    have e : (stepL f st L).lst = if (gt L f).2.isNone = true then st.lst else if (L.length : Int) < st.lst then L.length else st.lst := by
      cases h : (gt L f).2 <;> simp [stepL, h]
    rw [e] at h1 h3
    refine ⟨by split at h1 <;> (try split at h1) <;> omega, fun M hM hf => ?_, ?_⟩
    · rcases List.mem_cons.mp hM with rfl | hM
      · rw [if_neg (by simp [hf])] at h1
        split at h1 <;> omega
      · exact h2 M hM hf
    · rcases h3 with h3 | ⟨M, hM, hf, h3⟩
      · split at h3
        · exact .inl h3
        · rename_i hn
          split at h3
          · exact .inr ⟨L, by simp, by cases h : (gt L f).2 <;> simp_all, h3⟩
          · exact .inl h3
      · exact .inr ⟨M, by simp [hM], hf, h3⟩
theorem max_is : ∀ (l : List Int) (x : Int), x ∈ l → (∀ y ∈ l, y ≤ x) → maxI l = some x := by
  have fm : ∀ (l : List Int) (a x : Int), (x = a ∨ x ∈ l) → a ≤ x → (∀ y ∈ l, y ≤ x) → l.foldl max a = x := by
    intro l
    induction l with
    | nil => intro a x h _ _; simpa using h.elim (fun h => h.symm) (fun h => by cases h)
    | cons b l ih =>
      intro a x h ha hl
      rw [List.foldl_cons]
      have hb := hl b (by simp)
      refine ih _ _ ?_ (by omega) (fun y hy => hl y (by simp [hy]))
      rcases h with h | h
      · exact .inl (by omega)
      · rcases List.mem_cons.mp h with h | h
        · exact .inl (by omega)
        · exact .inr h
  intro l x hx h
  cases l with
  | nil => cases hx
  | cons a l =>
    refine congrArg some (fm l a x (List.mem_cons.mp hx) (h a (by simp)) (fun y hy => h y (by simp [hy])))
theorem min_is : ∀ (l : List Int) (x : Int), x ∈ l → (∀ y ∈ l, x ≤ y) → minI l = some x := by
  have fm : ∀ (l : List Int) (a x : Int), (x = a ∨ x ∈ l) → x ≤ a → (∀ y ∈ l, x ≤ y) → l.foldl min a = x := by
    intro l
    induction l with
    | nil => intro a x h _ _; simpa using h.elim (fun h => h.symm) (fun h => by cases h)
    | cons b l ih =>
      intro a x h ha hl
      rw [List.foldl_cons]
      have hb := hl b (by simp)
      refine ih _ _ ?_ (by omega) (fun y hy => hl y (by simp [hy]))
      rcases h with h | h
      · exact .inl (by omega)
      · rcases List.mem_cons.mp h with h | h
        · exact .inl (by omega)
        · exact .inr h
  intro l x hx h
  cases l with
  | nil => cases hx
  | cons a l =>
    refine congrArg some (fm l a x (List.mem_cons.mp hx) (h a (by simp)) (fun y hy => h y (by simp [hy])))
section
variable {A : List Str} {b : Big}
theorem go_lot (hr : (row b).Perm A) (F : List Str) : go (A.filter fun s => F.contains s) b = go F b := by
  refine go_congr b fun s hs => ?_
  have : s ∈ A := hr.mem_iff.mp hs
  simp [List.contains_eq_mem, this]
theorem cnt_lot (hr : (row b).Perm A) (F : List Str) : cnt F (row b) = (A.filter fun s => F.contains s).length := (hr.filter _).length_eq
def fin (A : List Str) (b : Big) : Sm := (lots A).foldl (stepL (ofB b)) ⟨[], (A.length : Int) + 1, [], A⟩
theorem nm_len (L : List Str) : (nmsR (gt L (ofB b))).length = (go L b).1.length := by simp [nmsR]
theorem fin_max (hp : plain b) (hA : Ac A) (hr : (row b).Perm A) : maxI (fin A b).sz = some (longest b) := by
  have hn : (row b).Nodup := hr.nodup_iff.mpr hA.nd
  obtain ⟨⟨x, ⟨F, hF⟩, hx⟩, h2⟩ := run_best true hp hn
  unfold fin
  rw [fold_sz, List.nil_append]
  refine max_is _ _ ?_ fun y hy => ?_
  · refine List.mem_map.mpr ⟨A.filter fun s => F.contains s, lots_mem _ A, ?_⟩
    rw [nm_len, go_lot hr, hF]
    exact hx
  · obtain ⟨L, _, rfl⟩ := List.mem_map.mp hy
    rw [nm_len]
    exact h2 _ ⟨L, rfl⟩
theorem fin_min (hp : plain b) (hA : Ac A) (hr : (row b).Perm A) : minI (fin A b).sz = some (shortest b) := by
  have hn : (row b).Nodup := hr.nodup_iff.mpr hA.nd
  obtain ⟨⟨x, ⟨F, hF⟩, hx⟩, h2⟩ := run_best false hp hn
  unfold fin
  rw [fold_sz, List.nil_append]
  refine min_is _ _ ?_ fun y hy => ?_
  · refine List.mem_map.mpr ⟨A.filter fun s => F.contains s, lots_mem _ A, ?_⟩
    rw [nm_len, go_lot hr, hF]
    exact hx
  · obtain ⟨L, _, rfl⟩ := List.mem_map.mp hy
    rw [nm_len]
    exact h2 _ ⟨L, rfl⟩
theorem fin_lst (hp : plain b) (hA : Ac A) (hr : (row b).Perm A) : (fin A b).lst = ff b := by
  have hn : (row b).Nodup := hr.nodup_iff.mpr hA.nd
  have fb := ff_best b hp hn
  obtain ⟨n, ⟨F, hF⟩, hx⟩ := fb.at_
  obtain ⟨h1, h2, h3⟩ := fold_lst (ofB b) (lots A) ⟨[], (A.length : Int) + 1, [], A⟩
  unfold fin
  generalize ((lots A).foldl (stepL (ofB b)) ⟨[], (A.length : Int) + 1, [], A⟩).lst = z at *
  have e1 := congrArg Prod.fst hF
  have e2 := congrArg Prod.snd hF
  simp only at e1 e2
  rw [cnt_lot hr] at e2
  have hz : z ≤ n := by
    rw [← e2]
    refine h2 _ (lots_mem (fun s => F.contains s) A) ?_
    rw [← e1]
    exact congrArg (fun r : Rs => r.2.isNone) (go_lot hr F)
  have nA : n ≤ A.length := by rw [← e2]; exact List.length_filter_le ..
  rcases h3 with h3 | ⟨L, hL, hf, h3⟩
  · simp only at h3
    omega
  · have := fb.low L.length ⟨L, by
      rw [cnt_lot hr, hA.lt L hL]
      exact congrArg (fun x => (x, L.length)) hf⟩
    omega
theorem fin_al (hp : plain b) (hA : Ac A) (hr : (row b).Perm A) {p : Int} (h0 : 0 ≤ p) (h1 : p < acts b) : (fin A b).al.contains (atB b p) = alw b p := by
  have hn : (row b).Nodup := hr.nodup_iff.mpr hA.nd
  obtain ⟨k1, k2, _⟩ := pr_all b hp hn p h0 h1
  unfold fin
  rw [fold_al]
  refine Bool.eq_iff_iff.mpr ?_
  rw [k2]
  simp only [List.contains_eq_mem, decide_eq_true_eq, List.mem_filter, List.all_eq_true]
  constructor
  · rintro ⟨_, h⟩ F
    have := h _ (lots_mem (fun s => F.contains s) A)
    rw [← go_lot hr F]
    exact this
  · intro h
    exact ⟨hr.mem_iff.mp k1, fun L _ => h L⟩
theorem fin_en (hp : plain b) (hA : Ac A) (hr : (row b).Perm A) {p : Int} (h0 : 0 ≤ p) (h1 : p < acts b) : (fin A b).en.contains (atB b p) = cbe b p := by
  have hn : (row b).Nodup := hr.nodup_iff.mpr hA.nd
  obtain ⟨_, _, k3⟩ := pr_all b hp hn p h0 h1
  unfold fin
  rw [fold_en, List.nil_append]
  refine Bool.eq_iff_iff.mpr ?_
  rw [k3]
  simp only [List.contains_eq_mem, decide_eq_true_eq, List.mem_flatMap, Option.mem_toList]
  constructor
  · rintro ⟨L, _, h⟩
    exact ⟨L, h⟩
  · rintro ⟨F, h⟩
    refine ⟨_, lots_mem (fun s => F.contains s) A, ?_⟩
    rw [← go_lot hr F] at h
    exact h
end
end L.B
set_option maxHeartbeats 8000000
/-! N6: the statements of a turn (printed). -/
namespace L.B
open PySem Z
def t1 : Z.T := (.asg (.nm 2) (.sl (.tup (.cons (.cst (.str "a")) (.cons (.cst (.str "b")) (.cons (.cst (.str "c")) (.cons (.cst (.str "d")) (.cons (.cst (.str "e")) (.cons (.cst (.str "f")) .nil))))))) .none (.some (.bin .add (.cst (.int 2)) (.call 20 (.cons (.var 0) (.cons (.cst (.int 5)) .nil)))))))
def t2 : Z.T := (.par [3, 4] (.cons (.call 19 (.cons (.var 0) (.cons (.var 2) .nil))) (.cons (.new "Board" 18 (.cons (.var 2) .nil) []) .nil)))
def t3 : Z.T := (.st1 (.it "Board" 17 (.var 4) (.cst (.str "m"))) (.var 3))
def t4 : Z.T := (.unp [(.nm 5), (.nm 6), (.nm 7), (.nm 8)] (.cons (.lst .fz (.disp .nil)) (.cons (.bin .add (.blt .len (.cons (.var 2) .nil)) (.cst (.int 1))) (.cons (.lst .fz (.disp .nil)) (.cons (.lst .fz (.of (.var 2))) .nil)))))
def t6 : Z.T := (.asg (.nm 12) (.lst .fz (.disp (.cons (.call 11 (.cons (.var 3) .nil)) (.cons (.call 10 (.cons (.var 3) .nil)) (.cons (.call 9 (.cons (.var 3) .nil)) (.cons (.call 8 (.cons (.var 3) .nil)) .nil)))))))
def t7 : Z.T := (.ife (.not (.call 4 (.cons (.var 12) (.cons (.lst .fz (.disp (.cons (.blt .len (.cons (.var 2) .nil)) (.cons (.var 6) (.cons (.blt .max (.cons (.var 5) .nil)) (.cons (.blt .min (.cons (.var 5) .nil)) .nil)))))) .nil)))) (.cons (.ret (.cst (.bool false))) .nil) .nil)
def t8 : Z.T := (.forT (.nm 13) (.rng1 (.blt .len (.cons (.var 2) .nil))) (.cons (.asg (.nm 10) (.call 7 (.cons (.var 3) (.cons (.var 13) .nil)))) (.cons (.ife (.not (.call 4 (.cons (.lst .fz (.disp (.cons (.call 6 (.cons (.var 3) (.cons (.var 13) .nil))) (.cons (.call 5 (.cons (.var 3) (.cons (.var 13) .nil))) .nil)))) (.cons (.lst .fz (.disp (.cons (.cmp .isin (.var 10) (.var 8)) (.cons (.cmp .isin (.var 10) (.var 7)) .nil)))) .nil)))) (.cons (.ret (.cst (.bool false))) .nil) .nil) .nil)))
def t5 : Z.T := .forT (.nm 9) (.seq (.call 12 (.cons (.var 2) .nil))) oB
def b8 : TS := (.cons (.asg (.nm 10) (.call 7 (.cons (.var 3) (.cons (.var 13) .nil)))) (.cons (.ife (.not (.call 4 (.cons (.lst .fz (.disp (.cons (.call 6 (.cons (.var 3) (.cons (.var 13) .nil))) (.cons (.call 5 (.cons (.var 3) (.cons (.var 13) .nil))) .nil)))) (.cons (.lst .fz (.disp (.cons (.cmp .isin (.var 10) (.var 8)) (.cons (.cmp .isin (.var 10) (.var 7)) .nil)))) .nil)))) (.cons (.ret (.cst (.bool false))) .nil) .nil) .nil))
def rB : TS := .cons t1 (.cons t2 (.cons t3 (.cons t4 (.cons t5 (.cons t6 (.cons t7 (.cons t8 (.nil))))))))
theorem right_eq : F_law_right = ⟨1, 15, .cons (.ife (.not (.call 21 .nil)) (.cons (.ret (.cst (.bool false))) .nil) .nil) (.cons (.forT (.nm 1) (.rng1 (.cst (.int 8))) rB) (.cons (.ret (.cst (.bool true))) .nil))⟩ := rfl
section
variable {C : Orc} {S : List OS} {L0 : List OL} {n b p : Nat} {y1 y2 y3 y4 y5 y6 y7 y8 y9 y10 y11 y12 y13 y14 : Option W}
theorem st1_ {r : Nat} (hr : r < 5) {S1 : List OS} (e : C 20 [.ref n, .v (.int 5)] S = .ok (.v (.int r)) ⟨[], S1⟩) : ex C t1 [some (.ref n), y1, y2, y3, y4, y5, y6, y7, y8, y9, y10, y11, y12, y13, y14] ⟨L0, S⟩ = .nx [some (.ref n), y1, some (.v (fD (acs r))), y3, y4, y5, y6, y7, y8, y9, y10, y11, y12, y13, y14] ⟨L0, S1⟩ := by
  match r, hr with
  | 0, _ =>
    have e0 : C 20 [.ref n, .v (.int 5)] S = .ok (.v (.int 0)) ⟨[], S1⟩ := e
    simp [t1, runFn, exs, ex, ev, evAnd, evOr, evs, evO, evL, evIf, evI, asg, asgs, asT, asTs, setL, R.b, R.t, R.ne, RT.s, ofO, peek, peekT, peeks, isiD, tyOf, tyLe, truW, truD, turns, turnsL, wipe, args, binD, cmpD, eqD, inD, bltD, dmD, strsOf, asStr, intsOf, boolsOf, asInt, asBool, mk, allV, outW, itemsD, itemsW, itemsL, itemsT, ixW, atI, ixN, slW, cut, sIx, freeze, mthW, mtyW, setIxW, forR, enmD, zipD, zipP, rgI, small, szL, isNW, maxI, minI, cl, isIns, noFld, fldW, putA, setFld, Mk.pre, Mk.post, fD, acs, e0]
  | 1, _ =>
    have e0 : C 20 [.ref n, .v (.int 5)] S = .ok (.v (.int 1)) ⟨[], S1⟩ := e
    simp [t1, runFn, exs, ex, ev, evAnd, evOr, evs, evO, evL, evIf, evI, asg, asgs, asT, asTs, setL, R.b, R.t, R.ne, RT.s, ofO, peek, peekT, peeks, isiD, tyOf, tyLe, truW, truD, turns, turnsL, wipe, args, binD, cmpD, eqD, inD, bltD, dmD, strsOf, asStr, intsOf, boolsOf, asInt, asBool, mk, allV, outW, itemsD, itemsW, itemsL, itemsT, ixW, atI, ixN, slW, cut, sIx, freeze, mthW, mtyW, setIxW, forR, enmD, zipD, zipP, rgI, small, szL, isNW, maxI, minI, cl, isIns, noFld, fldW, putA, setFld, Mk.pre, Mk.post, fD, acs, e0]
  | 2, _ =>
    have e0 : C 20 [.ref n, .v (.int 5)] S = .ok (.v (.int 2)) ⟨[], S1⟩ := e
    simp [t1, runFn, exs, ex, ev, evAnd, evOr, evs, evO, evL, evIf, evI, asg, asgs, asT, asTs, setL, R.b, R.t, R.ne, RT.s, ofO, peek, peekT, peeks, isiD, tyOf, tyLe, truW, truD, turns, turnsL, wipe, args, binD, cmpD, eqD, inD, bltD, dmD, strsOf, asStr, intsOf, boolsOf, asInt, asBool, mk, allV, outW, itemsD, itemsW, itemsL, itemsT, ixW, atI, ixN, slW, cut, sIx, freeze, mthW, mtyW, setIxW, forR, enmD, zipD, zipP, rgI, small, szL, isNW, maxI, minI, cl, isIns, noFld, fldW, putA, setFld, Mk.pre, Mk.post, fD, acs, e0]
  | 3, _ =>
    have e0 : C 20 [.ref n, .v (.int 5)] S = .ok (.v (.int 3)) ⟨[], S1⟩ := e
    simp [t1, runFn, exs, ex, ev, evAnd, evOr, evs, evO, evL, evIf, evI, asg, asgs, asT, asTs, setL, R.b, R.t, R.ne, RT.s, ofO, peek, peekT, peeks, isiD, tyOf, tyLe, truW, truD, turns, turnsL, wipe, args, binD, cmpD, eqD, inD, bltD, dmD, strsOf, asStr, intsOf, boolsOf, asInt, asBool, mk, allV, outW, itemsD, itemsW, itemsL, itemsT, ixW, atI, ixN, slW, cut, sIx, freeze, mthW, mtyW, setIxW, forR, enmD, zipD, zipP, rgI, small, szL, isNW, maxI, minI, cl, isIns, noFld, fldW, putA, setFld, Mk.pre, Mk.post, fD, acs, e0]
  | 4, _ =>
    have e0 : C 20 [.ref n, .v (.int 5)] S = .ok (.v (.int 4)) ⟨[], S1⟩ := e
    simp [t1, runFn, exs, ex, ev, evAnd, evOr, evs, evO, evL, evIf, evI, asg, asgs, asT, asTs, setL, R.b, R.t, R.ne, RT.s, ofO, peek, peekT, peeks, isiD, tyOf, tyLe, truW, truD, turns, turnsL, wipe, args, binD, cmpD, eqD, inD, bltD, dmD, strsOf, asStr, intsOf, boolsOf, asInt, asBool, mk, allV, outW, itemsD, itemsW, itemsL, itemsT, ixW, atI, ixN, slW, cut, sIx, freeze, mthW, mtyW, setIxW, forR, enmD, zipD, zipP, rgI, small, szL, isNW, maxI, minI, cl, isIns, noFld, fldW, putA, setFld, Mk.pre, Mk.post, fD, acs, e0]
theorem st2_ {A A' : List Str} {f : Fm} {S1 : List OS} (e13 : C 19 [.ref n, .v (fD A)] S = .ok (.v f.D) ⟨[], S1⟩) (e12 : C 18 [.ref S1.length, .v (fD A)] (S1 ++ [.ins "Board" []]) = .ok (.v .none) ⟨[], Bs S1 A' [] [] [] []⟩) : ex C t2 [some (.ref n), y1, some (.v (fD A)), y3, y4, y5, y6, y7, y8, y9, y10, y11, y12, y13, y14] ⟨L0, S⟩ = .nx [some (.ref n), y1, some (.v (fD A)), some (.v f.D), some (.ref S1.length), y5, y6, y7, y8, y9, y10, y11, y12, y13, y14] ⟨L0, Bs S1 A' [] [] [] []⟩ := by
  generalize f.D = d at *
  generalize fD A = a at *
  generalize Bs S1 A' [] [] [] [] = M at *
  simp [t2, runFn, exs, ex, ev, evAnd, evOr, evs, evO, evL, evIf, evI, asg, asgs, asT, asTs, setL, R.b, R.t, R.ne, RT.s, ofO, peek, peekT, peeks, isiD, tyOf, tyLe, truW, truD, wipe, args, binD, bltD, dmD, strsOf, asStr, intsOf, boolsOf, asInt, asBool, mk, allV, outW, itemsD, itemsW, itemsL, itemsT, ixW, atI, ixN, slW, cut, sIx, freeze, mthW, mtyW, setIxW, enmD, zipD, zipP, rgI, small, szL, isNW, maxI, minI, cl, Mk.pre, Mk.post, e13, e12]
theorem st3_ {A : List Str} {d : PyData} {M : List OS} (hI : isIns ⟨L0, S⟩ (.ref b) "Board" = true) (e : C 17 [.ref b, .v (.str "m"), .v d] S = .ok (.v .none) ⟨[], M⟩) : ex C t3 [some (.ref n), y1, some (.v (fD A)), some (.v d), some (.ref b), y5, y6, y7, y8, y9, y10, y11, y12, y13, y14] ⟨L0, S⟩ = .nx [some (.ref n), y1, some (.v (fD A)), some (.v d), some (.ref b), y5, y6, y7, y8, y9, y10, y11, y12, y13, y14] ⟨L0, M⟩ := by
  simp [t3, runFn, exs, ex, ev, evAnd, evOr, evs, evO, evL, evIf, evI, asg, asgs, asT, asTs, setL, R.b, R.t, R.ne, RT.s, ofO, peek, peekT, peeks, isiD, tyOf, tyLe, truW, truD, wipe, args, binD, bltD, dmD, strsOf, asStr, intsOf, boolsOf, asInt, asBool, mk, allV, outW, itemsD, itemsW, itemsL, itemsT, ixW, atI, ixN, slW, cut, sIx, freeze, mthW, mtyW, setIxW, enmD, zipD, zipP, rgI, small, szL, isNW, maxI, minI, cl, Mk.pre, Mk.post, e, hI]
theorem st4_ {A : List Str} {d : PyData} (hl : A.length ≤ 1000) : ex C t4 [some (.ref n), y1, some (.v (fD A)), some (.v d), some (.ref b), y5, y6, y7, y8, y9, y10, y11, y12, y13, y14] ⟨L0, S⟩ = .nx [some (.ref n), y1, some (.v (fD A)), some (.v d), some (.ref b), some (.v (.list [])), some (.v (.int ((A.length : Int) + 1))), some (.v (.list [])), some (.v (.list (A.map .str))), y9, y10, y11, y12, y13, y14] ⟨L0, S⟩ := by
  have h1 : A.length ≤ 16777216 := by omega
  have av := allV_mapQ PyData.str A
  rw [show (fun x => W.v (PyData.str x)) = (W.v ∘ PyData.str) from rfl] at av
  simp [t4, runFn, exs, ex, ev, evAnd, evOr, evs, evO, evL, evIf, evI, asg, asgs, asT, asTs, setL, R.b, R.t, R.ne, RT.s, ofO, peek, peekT, peeks, isiD, tyOf, tyLe, truW, truD, turns, turnsL, wipe, args, binD, cmpD, eqD, inD, bltD, dmD, strsOf, asStr, intsOf, boolsOf, asInt, asBool, mk, allV, outW, itemsD, itemsW, itemsL, itemsT, ixW, atI, ixN, slW, cut, sIx, freeze, mthW, mtyW, setIxW, forR, enmD, zipD, zipP, rgI, small, szL, isNW, maxI, minI, cl, isIns, noFld, fldW, putA, setFld, Mk.pre, Mk.post, fD, h1, av]
theorem st6_ {A en al : List Str} {sz : List Int} {lst a1 a2 a3 a4 : Int} {d : PyData} (e1 : C 11 [.v d] S = .ok (.v (.int a1)) ⟨[], S⟩) (e2 : C 10 [.v d] S = .ok (.v (.int a2)) ⟨[], S⟩) (e3 : C 9 [.v d] S = .ok (.v (.int a3)) ⟨[], S⟩) (e4 : C 8 [.v d] S = .ok (.v (.int a4)) ⟨[], S⟩) : ex C t6 [some (.ref n), y1, some (.v (fD A)), some (.v d), some (.ref b), some (.v (.list (sz.map .int))), some (.v (.int lst)), some (.v (.list (en.map .str))), some (.v (.list (al.map .str))), y9, y10, y11, y12, y13, y14] ⟨L0, S⟩ = .nx [some (.ref n), y1, some (.v (fD A)), some (.v d), some (.ref b), some (.v (.list (sz.map .int))), some (.v (.int lst)), some (.v (.list (en.map .str))), some (.v (.list (al.map .str))), y9, y10, y11, some (.v (.list [.int a1, .int a2, .int a3, .int a4])), y13, y14] ⟨L0, S⟩ := by
  generalize sz.map PyData.int = z1
  generalize en.map PyData.str = z2
  generalize al.map PyData.str = z3
  simp [t6, runFn, exs, ex, ev, evAnd, evOr, evs, evO, evL, evIf, evI, asg, asgs, asT, asTs, setL, R.b, R.t, R.ne, RT.s, ofO, peek, peekT, peeks, isiD, tyOf, tyLe, truW, truD, wipe, args, binD, bltD, dmD, strsOf, asStr, intsOf, boolsOf, asInt, asBool, mk, allV, outW, itemsD, itemsW, itemsL, itemsT, ixW, atI, ixN, slW, cut, sIx, freeze, mthW, mtyW, setIxW, enmD, zipD, zipP, rgI, small, szL, isNW, maxI, minI, cl, Mk.pre, Mk.post, e1, e2, e3, e4]
theorem ints_of : ∀ l : List Int, intsOf (l.map .int) = some l
  | [] => rfl
  | x :: r => by simp [intsOf, asInt, ints_of r]
theorem st7_ {A en al : List Str} {sz : List Int} {lst a1 a2 a3 a4 : Int} {d : PyData} (h1 : (A.length : Int) = a1) (h2 : lst = a2) (h3 : maxI sz = some a3) (h4 : minI sz = some a4) (e : C 4 [.v (.list [.int a1, .int a2, .int a3, .int a4]), .v (.list [.int a1, .int a2, .int a3, .int a4])] S = .ok (.v (.bool true)) ⟨[], S⟩) : ex C t7 [some (.ref n), y1, some (.v (fD A)), some (.v d), some (.ref b), some (.v (.list (sz.map .int))), some (.v (.int lst)), some (.v (.list (en.map .str))), some (.v (.list (al.map .str))), y9, y10, y11, some (.v (.list [.int a1, .int a2, .int a3, .int a4])), y13, y14] ⟨L0, S⟩ = .nx [some (.ref n), y1, some (.v (fD A)), some (.v d), some (.ref b), some (.v (.list (sz.map .int))), some (.v (.int lst)), some (.v (.list (en.map .str))), some (.v (.list (al.map .str))), y9, y10, y11, some (.v (.list [.int a1, .int a2, .int a3, .int a4])), y13, y14] ⟨L0, S⟩ := by
  have b1 : bltD .max [.list (sz.map .int)] = some (.int a3) := by
    show (intsOf (sz.map .int)).bind _ = _
    rw [ints_of]
    simp [h3]
  have b2 : bltD .min [.list (sz.map .int)] = some (.int a4) := by
    show (intsOf (sz.map .int)).bind _ = _
    rw [ints_of]
    simp [h4]
  have b3 : bltD .len [fD A] = some (.int a1) := by
    rw [← h1]
    show some (PyData.int ((A.map PyData.str).length : Nat)) = _
    rw [List.length_map]
  subst h2
  generalize sz.map PyData.int = z1 at *
  generalize en.map PyData.str = z2
  generalize al.map PyData.str = z3
  generalize fD A = z4 at *
  simp [t7, runFn, exs, ex, ev, evAnd, evOr, evs, evO, evL, evIf, evI, asg, asgs, asT, asTs, setL, R.b, R.t, R.ne, RT.s, ofO, peek, peekT, peeks, isiD, tyOf, tyLe, truW, truD, wipe, args, binD, dmD, strsOf, asStr, intsOf, boolsOf, asInt, asBool, mk, allV, outW, itemsD, itemsW, itemsL, itemsT, ixW, atI, ixN, slW, cut, sIx, freeze, mthW, mtyW, setIxW, enmD, zipD, zipP, rgI, small, szL, maxI, minI, cl, Mk.pre, Mk.post, b1, b2, b3, e]
theorem b8_ {A en al : List Str} {sz : List Int} {lst a1 a2 a3 a4 j : Int} {d : PyData} {x : Str} {u v : Bool} (e7 : C 7 [.v d, .v (.int j)] S = .ok (.v (.str x)) ⟨[], S⟩) (e6 : C 6 [.v d, .v (.int j)] S = .ok (.v (.bool u)) ⟨[], S⟩) (e5 : C 5 [.v d, .v (.int j)] S = .ok (.v (.bool v)) ⟨[], S⟩) (ha : al.contains x = u) (he : en.contains x = v) (e : C 4 [.v (.list [.bool u, .bool v]), .v (.list [.bool u, .bool v])] S = .ok (.v (.bool true)) ⟨[], S⟩) : exs C b8 [some (.ref n), y1, some (.v (fD A)), some (.v d), some (.ref b), some (.v (.list (sz.map .int))), some (.v (.int lst)), some (.v (.list (en.map .str))), some (.v (.list (al.map .str))), y9, y10, y11, some (.v (.list [.int a1, .int a2, .int a3, .int a4])), some (.v (.int j)), y14] ⟨L0, S⟩ = .nx [some (.ref n), y1, some (.v (fD A)), some (.v d), some (.ref b), some (.v (.list (sz.map .int))), some (.v (.int lst)), some (.v (.list (en.map .str))), some (.v (.list (al.map .str))), y9, some (.v (.str x)), y11, some (.v (.list [.int a1, .int a2, .int a3, .int a4])), some (.v (.int j)), y14] ⟨L0, S⟩ := by
  have i1 : cmpD .isin (.str x) (.list (al.map .str)) = some u := by
    show (strsOf (al.map .str)).map _ = _
    rw [strs_of, ← ha]
    rfl
  have i2 : cmpD .isin (.str x) (.list (en.map .str)) = some v := by
    show (strsOf (en.map .str)).map _ = _
    rw [strs_of, ← he]
    rfl
  generalize sz.map PyData.int = z1 at *
  generalize en.map PyData.str = z2 at *
  generalize al.map PyData.str = z3 at *
  generalize fD A = z4 at *
  simp [b8, runFn, exs, ex, ev, evAnd, evOr, evs, evO, evL, evIf, evI, asg, asgs, asT, asTs, setL, R.b, R.t, R.ne, RT.s, ofO, peek, peekT, peeks, isiD, tyOf, tyLe, truW, truD, wipe, args, binD, bltD, dmD, strsOf, asStr, intsOf, boolsOf, asInt, asBool, mk, allV, outW, itemsD, itemsW, itemsL, itemsT, ixW, atI, ixN, slW, cut, sIx, freeze, mthW, mtyW, setIxW, enmD, zipD, zipP, rgI, small, szL, isNW, maxI, minI, cl, isIns, noFld, fldW, putA, setFld, Mk.pre, Mk.post, e7, e6, e5, i1, i2, e]
end
end L.B
set_option maxHeartbeats 1000000
/-! LG: the law's own def, over cells of any number. -/
namespace LG
open PySem Z
theorem turns_mem {f : PyData → Mem → R (Option W)} {L : List OL} : ∀ (n : Nat) (i : Nat) (S : List OS) (acc : List W), (∀ j, i ≤ j → j < i + n → ∀ S, ∃ S', f (.int j) ⟨L, S⟩ = .ok (some (.v (.bool true))) ⟨L, S'⟩) → acc.length + n ≤ szL →
    ∃ S', turns f (rgI i n) acc ⟨L, S⟩ = .ok (acc ++ List.replicate n (.v (.bool true))) ⟨L, S'⟩
  | 0, i, S, acc, _, _ => ⟨S, by simp [rgI, turns]⟩
  | n + 1, i, S, acc, h, hl => by
    obtain ⟨S1, e1⟩ := h i (Nat.le_refl _) (by omega) S
    obtain ⟨S2, e2⟩ := turns_mem n (i + 1) S1 (acc ++ [.v (.bool true)]) (fun j h1 h2 => h j (by omega) (by omega)) (by simp; omega)
    refine ⟨S2, ?_⟩
    rw [rgI, turns, e1]
    show (if acc.length < szL then _ else _) = _
    rw [if_pos (by omega)]
    have : ((i : Int) + 1) = ((i + 1 : Nat) : Int) := by omega
    rw [this, e2]
    simp [List.replicate_succ]
theorem allV_true : ∀ n : Nat, allV (List.replicate n (.v (.bool true))) = some (List.replicate n (.bool true))
  | 0 => rfl
  | n + 1 => by
    rw [List.replicate_succ, allV, allV_true n]
    rfl
theorem bools_true : ∀ n : Nat, boolsOf (List.replicate n (.bool true)) = some (List.replicate n true)
  | 0 => rfl
  | n + 1 => by
    rw [List.replicate_succ, boolsOf, bools_true n]
    rfl
theorem all_true : ∀ n : Nat, (List.replicate n true).all id = true
  | 0 => rfl
  | n + 1 => by rw [List.replicate_succ, List.all_cons, all_true n]; rfl
theorem blt_all (n : Nat) : bltD .all [.list (List.replicate n (.bool true))] = some (.bool true) := by
  show (boolsOf (List.replicate n (.bool true))).map _ = _
  rw [bools_true, Option.map_some, all_true]
def elX (a b : Nat) : E := .call a (.cons (.call b (.cons (.var 1) (.cons (.var 2) .nil))) .nil)
def cX (a b : Nat) : E := .lst .fz (.comp [2] (.nm 2) (.rng1 (.blt .len (.cons (.var 1) .nil))) .nil (elX a b))
def lawF (a b c : Nat) (t : Int) : Fn := ⟨1, 3, (.cons (.asg (.nm 1) (.call c (.cons (.var 0) (.cons (.cst (.int t)) .nil)))) (.cons (.ret (.blt .all (.cons (cX a b) .nil))) .nil))⟩
theorem rng_ {C : Orc} {ρ : Z.Env} {m : Mem} {i : Nat} {ds : List PyData} (h : ρ[i]? = some (some (.v (.list ds)))) (hl : ds.length ≤ 1000) : evI C (.rng1 (.blt .len (.cons (.var i) .nil))) ρ m = .ok (rgI ((0 : Nat) : Int) ds.length) m := by
  have sm : small (ds.length : Int) = true := by
    unfold small
    rw [Bool.and_eq_true, decide_eq_true_eq, decide_eq_true_eq]
    omega
  have b3 : bltD .len [.list ds] = some (.int ds.length) := rfl
  have e1 : ev C (.blt .len (.cons (.var i) .nil)) ρ m = .ok (.v (.int ds.length)) m := by
    simp only [ev, evs, R.b, h, peeks, peek, Option.bind_some, Option.map_some, b3, ofO]
  simp only [evI, e1, R.b, Int.toNat_natCast]
  generalize small (ds.length : Int) = b at sm ⊢
  subst sm
  rfl
theorem fin_turns {f : PyData → Mem → R (Option W)} {ds : List PyData} {L : List OL} {S : List OS} {n : Nat} (hl : n ≤ 1000) (h : ∃ S', turns f ds [] ⟨L, S⟩ = .ok ([] ++ List.replicate n (.v (.bool true))) ⟨L, S'⟩) :
    ∃ S', (R.b (turns f ds [] ⟨L, S⟩) fun ws m => mk .fz ws m) = .ok (.v (.list (List.replicate n (.bool true)))) ⟨L, S'⟩ := by
  obtain ⟨S', h⟩ := h
  refine ⟨S', ?_⟩
  rw [h]
  have : n ≤ szL := Nat.le_trans hl (by decide)
  simp only [R.b, List.nil_append, mk, List.length_replicate, this, if_true, allV_true, Option.map_some, ofO]
theorem comp_mem {C : Orc} {own : List Nat} {g : G} {src : IT} {elt : E} {ρ : Z.Env} {L : List OL} {S : List OS} {n : Nat} (hs : evI C src ρ ⟨L, S⟩ = .ok (rgI ((0 : Nat) : Int) n) ⟨L, S⟩)
    (he : ∀ j : Nat, j < n → ∀ S, ∃ ρ1 S', asg g (.v (.int j)) (wipe ρ own) = some ρ1 ∧ ev C elt ρ1 ⟨L, S⟩ = .ok (.v (.bool true)) ⟨L, S'⟩) (hl : n ≤ 1000) :
    ∃ S', ev C (.lst .fz (.comp own g src .nil elt)) ρ ⟨L, S⟩ = .ok (.v (.list (List.replicate n (.bool true)))) ⟨L, S'⟩ := by
  rw [ev, evL, hs]
  show ∃ S', (R.b (turns _ (rgI ((0 : Nat) : Int) n) [] ⟨L, S⟩) fun ws m => mk .fz ws m) = _
  refine fin_turns hl (turns_mem n 0 S [] (fun j _ hj S => ?_) (by simp; exact Nat.le_trans hl (by decide)))
  obtain ⟨ρ1, S', h1, h2⟩ := he j (by omega) S
  refine ⟨S', ?_⟩
  simp only [h1, evIf, R.b, if_true, h2]
theorem blt1 {C : Orc} {b : Blt} {e : E} {ρ : Z.Env} {m m' : Mem} {d x : PyData} (h : ev C e ρ m = .ok (.v d) m') (hb : bltD b [d] = some x) : ev C (.blt b (.cons e .nil)) ρ m = .ok (.v x) m' := by
  simp only [ev, evs, h, R.b, peeks, peek, Option.bind_some, Option.map_some, hb, ofO]
theorem run_rt {C : Orc} {f : Fn} {ws : List W} {S : List OS} {ρ : Z.Env} {r : W} {m : Mem} (h1 : ws.length = f.np) (h2 : ws.map some ++ List.replicate (f.ns - f.np) none = ρ) (h : exs C f.body ρ ⟨[], S⟩ = .rt r m) : runFn C f ws S = .ok r ⟨[], m.S⟩ := by
  rw [runFn, if_pos h1, h2, h]
theorem exs2 {C : Orc} {t u : T} {r : TS} {ρ ρ' : Z.Env} {m m' m2 : Mem} {w : W} (h : ex C t ρ m = .nx ρ' m') (h2 : ex C u ρ' m' = .rt w m2) : exs C (.cons t (.cons u r)) ρ m = .rt w m2 := by
  rw [exs, h]
  show exs C (.cons u r) ρ' m' = _
  rw [exs, h2]
  rfl
theorem law_all {C : Orc} {a b c : Nat} {t : Int} {xs : List PyData} {ds : List PyData} (e : C c [.ro xs, .v (.int t)] [] = .ok (.v (.list ds)) ⟨[], []⟩) (hl : ds.length ≤ 1000)
    (one : ∀ i : Nat, i < ds.length → ∀ S, ∃ n S' S'', C b [.v (.list ds), .v (.int i)] S = .ok (.ref n) ⟨[], S'⟩ ∧ C a [.ref n] S' = .ok (.v (.bool true)) ⟨[], S''⟩) : ∃ m, runFn C (lawF a b c t) [.ro xs] [] = .ok (.v (.bool true)) m := by
  have h1 : ex C (.asg (.nm 1) (.call c (.cons (.var 0) (.cons (.cst (.int t)) .nil)))) [some (.ro xs), none, none] ⟨[], []⟩ = .nx [some (.ro xs), some (.v (.list ds)), none] ⟨[], []⟩ := by
    simp [runFn, exs, ex, ev, evAnd, evOr, evs, evO, evL, evIf, evI, asg, asgs, asT, asTs, setL, R.b, R.t, R.ne, RT.s, ofO, peek, peekT, peeks, isiD, tyOf, tyLe, truW, truD, wipe, args, binD, cmpD, eqD, inD, bltD, dmD, strsOf, asStr, intsOf, boolsOf, asInt, asBool, mk, allV, outW, itemsD, itemsW, itemsL, itemsT, ixW, atI, ixN, slW, cut, sIx, freeze, mthW, mtyW, setIxW, enmD, zipD, zipP, rgI, small, szL, isNW, maxI, minI, cl, isIns, noFld, fldW, putA, setFld, Mk.pre, Mk.post, e]
  have hr := rng_ (C := C) (ρ := [some (.ro xs), some (.v (.list ds)), none]) (m := ⟨[], []⟩) (i := 1) rfl hl
  obtain ⟨S', h2⟩ : ∃ S', ev C (cX a b) [some (.ro xs), some (.v (.list ds)), none] ⟨[], []⟩ = .ok (.v (.list (List.replicate ds.length (.bool true)))) ⟨[], S'⟩ := by
    unfold cX
    refine comp_mem hr (fun j hj S => ?_) hl
    obtain ⟨n, S1, S2, e1, e2⟩ := one j hj S
    refine ⟨[some (.ro xs), some (.v (.list ds)), some (.v (.int j))], S2, by simp [wipe, asg], ?_⟩
    simp [elX, runFn, exs, ex, ev, evAnd, evOr, evs, evO, evL, evIf, evI, asg, asgs, asT, asTs, setL, R.b, R.t, R.ne, RT.s, ofO, peek, peekT, peeks, isiD, tyOf, tyLe, truW, truD, wipe, args, binD, cmpD, eqD, inD, bltD, dmD, strsOf, asStr, intsOf, boolsOf, asInt, asBool, mk, allV, outW, itemsD, itemsW, itemsL, itemsT, ixW, atI, ixN, slW, cut, sIx, freeze, mthW, mtyW, setIxW, enmD, zipD, zipP, rgI, small, szL, isNW, maxI, minI, cl, isIns, noFld, fldW, putA, setFld, Mk.pre, Mk.post, e1, e2]
  have h3 : ev C (.blt .all (.cons (cX a b) .nil)) [some (.ro xs), some (.v (.list ds)), none] ⟨[], []⟩ = .ok (.v (.bool true)) ⟨[], S'⟩ := by
    have hb := blt_all ds.length
    generalize PyData.list (List.replicate ds.length (.bool true)) = L at h2 hb
    exact blt1 h2 hb
  have h4 : ex C (.ret (.blt .all (.cons (cX a b) .nil))) [some (.ro xs), some (.v (.list ds)), none] ⟨[], []⟩ = .rt (.v (.bool true)) ⟨[], S'⟩ := by
    rw [ex, h3]
    rfl
  refine ⟨⟨[], S'⟩, run_rt (m := ⟨[], S'⟩) (ρ := [some (.ro xs), none, none]) rfl rfl ?_⟩
  exact exs2 h1 h4
end LG
set_option maxHeartbeats 8000000
/-! N7: a turn, the law (printed by genN7.py). -/
namespace L.B
open PySem Z
theorem same_int (k : Nat) (i : Int) (S : List OS) : callP fs (k + 1) 4 [.v (.int i), .v (.int i)] S = .ok (.v (.bool true)) ⟨[], S⟩ := by
  show runFn (callP fs k) F_law_same _ S = _
  simp [runFn, exs, ex, ev, evAnd, evOr, evs, evO, evL, evIf, evI, asg, asgs, asT, asTs, setL, R.b, R.t, R.ne, RT.s, ofO, peek, peekT, peeks, isiD, tyOf, tyLe, truW, truD, turns, turnsL, wipe, args, binD, cmpD, eqD, inD, bltD, dmD, strsOf, asStr, intsOf, boolsOf, asInt, asBool, mk, allV, outW, itemsD, itemsW, itemsL, itemsT, ixW, atI, ixN, slW, cut, sIx, freeze, mthW, mtyW, setIxW, forR, enmD, zipD, zipP, rgI, small, szL, isNW, maxI, minI, cl, isIns, noFld, fldW, putA, setFld, Mk.pre, Mk.post, F_law_same]
theorem same_bool (k : Nat) (i : Bool) (S : List OS) : callP fs (k + 1) 4 [.v (.bool i), .v (.bool i)] S = .ok (.v (.bool true)) ⟨[], S⟩ := by
  show runFn (callP fs k) F_law_same _ S = _
  simp [runFn, exs, ex, ev, evAnd, evOr, evs, evO, evL, evIf, evI, asg, asgs, asT, asTs, setL, R.b, R.t, R.ne, RT.s, ofO, peek, peekT, peeks, isiD, tyOf, tyLe, truW, truD, turns, turnsL, wipe, args, binD, cmpD, eqD, inD, bltD, dmD, strsOf, asStr, intsOf, boolsOf, asInt, asBool, mk, allV, outW, itemsD, itemsW, itemsL, itemsT, ixW, atI, ixN, slW, cut, sIx, freeze, mthW, mtyW, setIxW, forR, enmD, zipD, zipP, rgI, small, szL, isNW, maxI, minI, cl, isIns, noFld, fldW, putA, setFld, Mk.pre, Mk.post, F_law_same]
theorem rng_ {C : Orc} {ρ : Z.Env} {m : Mem} {i : Nat} {A : List Str} (h : ρ[i]? = some (some (.v (fD A)))) (hl : A.length ≤ 1000) : evI C (.rng1 (.blt .len (.cons (.var i) .nil))) ρ m = .ok (rgI 0 A.length) m := by
  have sm : small (A.length : Int) = true := by
    unfold small
    rw [Bool.and_eq_true, decide_eq_true_eq, decide_eq_true_eq]
    omega
  have b3 : bltD .len [fD A] = some (.int A.length) := by
    show some (PyData.int ((A.map PyData.str).length : Nat)) = _
    rw [List.length_map]
  have e1 : ev C (.blt .len (.cons (.var i) .nil)) ρ m = .ok (.v (.int A.length)) m := by
    simp only [ev, evs, R.b, h, peeks, peek, Option.bind_some, Option.map_some, b3, ofO]
  simp only [evI, e1, R.b, Int.toNat_natCast]
  generalize small (A.length : Int) = b at sm ⊢
  subst sm
  rfl
def kF (C : Orc) : PyData → Z.Env → Mem → RT := fun d ρ m => match asg (.nm 13) (.v d) ρ with | some ρ => exs C b8 ρ m | none => .bad
theorem k_loop {C : Orc} {S : List OS} {L0 : List OL} {n b : Nat} {y1 y9 y11 y14 : Option W} {A en al : List Str} {sz : List Int} {lst a1 a2 a3 a4 : Int} {d : PyData} {x : Int → Str} {u v : Int → Bool} {N : Nat}
    (e7 : ∀ p : Int, 0 ≤ p → p < N → C 7 [.v d, .v (.int p)] S = .ok (.v (.str (x p))) ⟨[], S⟩) (e6 : ∀ p : Int, 0 ≤ p → p < N → C 6 [.v d, .v (.int p)] S = .ok (.v (.bool (u p))) ⟨[], S⟩) (e5 : ∀ p : Int, 0 ≤ p → p < N → C 5 [.v d, .v (.int p)] S = .ok (.v (.bool (v p))) ⟨[], S⟩)
    (hsm : ∀ u v : Bool, C 4 [.v (.list [.bool u, .bool v]), .v (.list [.bool u, .bool v])] S = .ok (.v (.bool true)) ⟨[], S⟩) (ha : ∀ p : Int, 0 ≤ p → p < N → al.contains (x p) = u p) (he : ∀ p : Int, 0 ≤ p → p < N → en.contains (x p) = v p) : ∀ (m : Nat) (i : Nat) (y10 y13 : Option W), i + m = N →
    ∃ z10 z13, forR (kF (C)) (rgI i m) [some (.ref n), y1, some (.v (fD A)), some (.v d), some (.ref b), some (.v (.list (sz.map .int))), some (.v (.int lst)), some (.v (.list (en.map .str))), some (.v (.list (al.map .str))), y9, y10, y11, some (.v (.list [.int a1, .int a2, .int a3, .int a4])), y13, y14] ⟨L0, S⟩ = .nx [some (.ref n), y1, some (.v (fD A)), some (.v d), some (.ref b), some (.v (.list (sz.map .int))), some (.v (.int lst)), some (.v (.list (en.map .str))), some (.v (.list (al.map .str))), y9, z10, y11, some (.v (.list [.int a1, .int a2, .int a3, .int a4])), z13, y14] ⟨L0, S⟩
  | 0, i, y10, y13, _ => ⟨y10, y13, rfl⟩
  | m + 1, i, y10, y13, h => by
    have i0 : (0 : Int) ≤ (i : Int) := by omega
    have i1 : (i : Int) < N := by omega
    have sm := hsm (u i) (v i)
    have st := b8_ (n := n) (b := b) (L0 := L0) (y1 := y1) (y9 := y9) (y10 := y10) (y11 := y11) (y14 := y14) (A := A) (sz := sz) (lst := lst) (a1 := a1) (a2 := a2) (a3 := a3) (a4 := a4) (e7 i i0 i1) (e6 i i0 i1) (e5 i i0 i1) (ha i i0 i1) (he i i0 i1) sm
    obtain ⟨z10, z13, e⟩ := k_loop e7 e6 e5 hsm ha he m (i + 1) (some (.v (.str (x i)))) (some (.v (.int i))) (by omega)
    refine ⟨z10, z13, ?_⟩
    have ea : kF (C) (.int i) [some (.ref n), y1, some (.v (fD A)), some (.v d), some (.ref b), some (.v (.list (sz.map .int))), some (.v (.int lst)), some (.v (.list (en.map .str))), some (.v (.list (al.map .str))), y9, y10, y11, some (.v (.list [.int a1, .int a2, .int a3, .int a4])), y13, y14] ⟨L0, S⟩ = exs (C) b8 [some (.ref n), y1, some (.v (fD A)), some (.v d), some (.ref b), some (.v (.list (sz.map .int))), some (.v (.int lst)), some (.v (.list (en.map .str))), some (.v (.list (al.map .str))), y9, y10, y11, some (.v (.list [.int a1, .int a2, .int a3, .int a4])), some (.v (.int i)), y14] ⟨L0, S⟩ := by simp [kF, asg]
    rw [rgI, forR, ea, st]
    exact e
theorem turn (k : Nat) (hk : 40 ≤ k) {N n : Nat} {S : List OS} (hU : Urn N n S) (hN : N + 50 ≤ 1000000) (L0 : List OL) (y1 y2 y3 y4 y5 y6 y7 y8 y9 y10 y11 y12 y13 y14 : Option W) :
    ∃ (z1 z2 z3 z4 z5 z6 z7 z8 z9 z10 z11 z12 z13 z14 : Option W) (S1 : List OS), exs (callP fs k) rB [some (.ref n), y1, y2, y3, y4, y5, y6, y7, y8, y9, y10, y11, y12, y13, y14] ⟨L0, S⟩ = .nx [some (.ref n), z1, z2, z3, z4, z5, z6, z7, z8, z9, z10, z11, z12, z13, z14] ⟨L0, S1⟩ ∧ Urn (N + 50) n S1 := by
  obtain ⟨k, rfl⟩ : ∃ j, k = j + 40 := ⟨k - 40, by omega⟩
  obtain ⟨r, S1, l1, e8, r0, r1, hU1⟩ := c8 hU (by omega) (low := 5) (by decide) (by have := cap20; omega) (k + 39) []
  rw [List.append_nil, List.append_nil] at e8
  obtain ⟨r, rfl⟩ : ∃ j : Nat, r = j := ⟨r.toNat, by omega⟩
  have hr : r < 5 := by omega
  have x1 := st1_ (C := callP fs (k + 40)) (L0 := L0) (y1 := y1) (y2 := y2) (y3 := y3) (y4 := y4) (y5 := y5) (y6 := y6) (y7 := y7) (y8 := y8) (y9 := y9) (y10 := y10) (y11 := y11) (y12 := y12) (y13 := y13) (y14 := y14) hr e8
  have ac := acs_ok r hr
  have e12 := c12 r hr
  generalize acs r = A at x1 ac e12
  obtain ⟨f, S2, e13, hp, hd, hn, ht, hU2, l2⟩ := c13 hU1 (A := A) (by have := ac.l2; omega) ac.nd ac.ok ac.ne (by have := ac.l1; omega) (by have := ac.l2; omega) (k + 37) []
  rw [List.append_nil, List.append_nil] at e13
  obtain ⟨bg, pb, rfl, db⟩ := big_of f ht
  have al := ac.l2
  have al1 := ac.l1
  have e18 := q12 (S := S2) (A := A) (k + 39) (by omega)
  rw [ac.us] at e18
  have x2 := st2_ (C := callP fs (k + 40)) (L0 := L0) (A := A) (A' := A) (y1 := y1) (y3 := y3) (y4 := y4) (y5 := y5) (y6 := y6) (y7 := y7) (y8 := y8) (y9 := y9) (y10 := y10) (y11 := y11) (y12 := y12) (y13 := y13) (y14 := y14) e13 e18
  have nl := hU2.lt
  have hrl : (ofB bg).row.length = A.length := hp.length_eq
  have okR : Ok (ofB bg).row := fun s hs => ac.ok s (hp.mem_iff.mp hs)
  have e17 := q10 (S := S2) (A := A) (F := []) (bod := []) (tdy := []) (past := []) (ofB bg) (k + 39) (by omega) (n := "m") hp ac.ss (shp_tup ac.ok) hn (by omega) (by simp) (by simp) (by simp)
  have x3 := st3_ (n := n) (L0 := L0) (A := A) (y1 := y1) (y5 := y5) (y6 := y6) (y7 := y7) (y8 := y8) (y9 := y9) (y10 := y10) (y11 := y11) (y12 := y12) (y13 := y13) (y14 := y14) (isI g0) e17
  have pm : dputD "m" (ofB bg).D [] = bm (ofB bg) := by unfold bm; kernel_rfl
  rw [pm] at x3
  have hB : Bd n S2.length A [] (bm (ofB bg)) (dputD "m" (tid (ofB bg)).D []) 1 (Bs S2 A [] (bm (ofB bg)) (dputD "m" (tid (ofB bg)).D []) ([] ++ [stD [] [] []])) := ⟨S2.length + 1, _, g0, g1, by omega, by omega, by simp⟩
  have nS : n < (Bs S2 A [] (bm (ofB bg)) (dputD "m" (tid (ofB bg)).D []) ([] ++ [stD [] [] []])).length := by simp; omega
  have gS : (Bs S2 A [] (bm (ofB bg)) (dputD "m" (tid (ofB bg)).D []) ([] ++ [stD [] [] []]))[n]? = S2[n]? := List.getElem?_append_left nl
  generalize Bs S2 A [] (bm (ofB bg)) (dputD "m" (tid (ofB bg)).D []) ([] ++ [stD [] [] []]) = S3 at x3 hB nS gS
  have x4 := st4_ (C := callP fs (k + 40)) (n := n) (L0 := L0) (S := S3) (A := A) (d := (ofB bg).D) (b := S2.length) (y1 := y1) (y5 := y5) (y6 := y6) (y7 := y7) (y8 := y8) (y9 := y9) (y10 := y10) (y11 := y11) (y12 := y12) (y13 := y13) (y14 := y14) (by omega)
  obtain ⟨S4, z9, z10, z11, e5, g5⟩ := o_loop (k + 40) (by omega) ac (by omega) (by omega) (by omega) okR (L0 := L0) (y1 := y1) (y12 := y12) (y13 := y13) (y14 := y14) (lots A) ⟨[], (A.length : Int) + 1, [], A⟩ [] S3 1 y9 y10 y11 (fun _ h => h) (by have := ac.sz; simp; omega) (by simp; omega) (by have := ac.sz; simp; omega) (by have := lots_mem (fun _ => false) A; rw [show (A.filter fun _ => false) = [] from List.filter_eq_nil_iff.mpr (by simp)] at this; exact this) hB nS (by have := ac.sz; omega)
  have hi : evI (callP fs (k + 40)) (.seq (.call 12 (.cons (.var 2) .nil))) (oE n S2.length A (ofB bg) ⟨[], (A.length : Int) + 1, [], A⟩ y1 y9 y10 y11 y12 y13 y14) ⟨L0, S3⟩ = .ok ((lots A).map fD) ⟨L0, S3⟩ := by
    have := e12 (k + 39) S3
    clear x1 x2 x3 x4 e5 e8 e13 e17 e18
    generalize callP fs (k + 40) = C at *
    simp [runFn, exs, ex, ev, evAnd, evOr, evs, evO, evL, evIf, evI, asg, asgs, asT, asTs, setL, R.b, R.t, R.ne, RT.s, ofO, peek, peekT, peeks, isiD, tyOf, tyLe, truW, truD, wipe, args, binD, cmpD, eqD, inD, bltD, dmD, strsOf, asStr, intsOf, boolsOf, asInt, asBool, mk, allV, outW, itemsD, itemsW, itemsL, itemsT, ixW, atI, ixN, slW, cut, sIx, freeze, mthW, mtyW, setIxW, enmD, zipD, zipP, rgI, small, szL, isNW, maxI, minI, cl, isIns, noFld, fldW, putA, setFld, Mk.pre, Mk.post, oE, this]
  have x5 : ex (callP fs (k + 40)) t5 (oE n S2.length A (ofB bg) ⟨[], (A.length : Int) + 1, [], A⟩ y1 y9 y10 y11 y12 y13 y14) ⟨L0, S3⟩ = RT.nx (oE n S2.length A (ofB bg) (fin A bg) y1 z9 z10 z11 y12 y13 y14) ⟨L0, S4⟩ := (ex_for hi).trans e5
  have f1 := fin_max pb ac hp
  have f2 := fin_min pb ac hp
  have f3 := fin_lst pb ac hp
  have f4 := fun p h0 h1 => fin_al pb ac hp (p := p) h0 h1
  have f5 := fun p h0 h1 => fin_en pb ac hp (p := p) h0 h1
  generalize fin A bg = st at x5 f1 f2 f3 f4 f5
  have okb := plain_ok bg pb
  have eD := ofB_D bg pb
  have b20 : bg.dep ≤ 20 := by omega
  have w11 := c11 bg (k + 40) S4 okb (by omega) b20
  have w10 := c18 bg (k + 40) S4 okb (by omega) b20
  have w9 := c17 bg (k + 40) S4 okb (by omega) b20
  have w8 := c16 bg (k + 40) S4 okb (by omega) b20
  rw [← eD] at w11 w10 w9 w8
  have x6 := st6_ (n := n) (L0 := L0) (A := A) (b := S2.length) (sz := st.sz) (lst := st.lst) (en := st.en) (al := st.al) (y1 := y1) (y9 := z9) (y10 := z10) (y11 := z11) (y12 := y12) (y13 := y13) (y14 := y14) w11 w10 w9 w8
  have ar : (A.length : Int) = acts bg := by rw [acts_row bg pb, ← hrl]
  have x7 := st7_ (C := callP fs (k + 40)) (S := S4) (n := n) (L0 := L0) (A := A) (b := S2.length) (sz := st.sz) (lst := st.lst) (en := st.en) (al := st.al) (d := (ofB bg).D) (y1 := y1) (y9 := z9) (y10 := z10) (y11 := z11) (y13 := y13) (y14 := y14) ar f3 f1 f2 (same_list (k + 39) _ S4 (by simp) (fun d hd => by
    simp only [List.mem_cons, List.not_mem_nil, or_false] at hd
    rcases hd with rfl | rfl | rfl | rfl <;> exact same_int (k + 38) _ S4))
  obtain ⟨u10, u13, e8⟩ := k_loop (C := callP fs (k + 40)) (S := S4) (L0 := L0) (n := n) (b := S2.length) (y1 := y1) (y9 := z9) (y11 := z11) (y14 := y14) (A := A) (en := st.en) (al := st.al) (sz := st.sz) (lst := st.lst) (a1 := acts bg) (a2 := ff bg) (a3 := longest bg) (a4 := shortest bg) (d := (ofB bg).D) (x := atB bg) (u := alw bg) (v := cbe bg) (N := A.length)
    (fun p h0 h1 => by rw [eD]; exact c9 bg p (k + 40) S4 okb (by omega) b20 h0 (by omega)) (fun p h0 h1 => by rw [eD]; exact c7 bg p (k + 40) S4 okb (by omega) b20 h0 (by omega)) (fun p h0 h1 => by rw [eD]; exact c6 bg p (k + 40) S4 okb (by omega) b20 h0 (by omega))
    (fun u v => same_list (k + 39) _ S4 (by simp) (fun d hd => by
      simp only [List.mem_cons, List.not_mem_nil, or_false] at hd
      rcases hd with rfl | rfl <;> exact same_bool (k + 38) _ S4)) (fun p h0 h1 => f4 p h0 (by omega)) (fun p h0 h1 => f5 p h0 (by omega)) A.length 0 z10 y13 (by omega)
  rw [show ((0 : Nat) : Int) = 0 from rfl] at e8
  have hi8 : evI (callP fs (k + 40)) (.rng1 (.blt .len (.cons (.var 2) .nil))) [some (.ref n), y1, some (.v (fD A)), some (.v (ofB bg).D), some (.ref S2.length), some (.v (.list (st.sz.map .int))), some (.v (.int st.lst)), some (.v (.list (st.en.map .str))), some (.v (.list (st.al.map .str))), z9, z10, z11, some (.v (.list [.int (acts bg), .int (ff bg), .int (longest bg), .int (shortest bg)])), y13, y14] ⟨L0, S4⟩ = .ok (rgI 0 A.length) ⟨L0, S4⟩ := by
    exact rng_ (i := 2) rfl (by omega)
  have x8 : ex (callP fs (k + 40)) t8 [some (.ref n), y1, some (.v (fD A)), some (.v (ofB bg).D), some (.ref S2.length), some (.v (.list (st.sz.map .int))), some (.v (.int st.lst)), some (.v (.list (st.en.map .str))), some (.v (.list (st.al.map .str))), z9, z10, z11, some (.v (.list [.int (acts bg), .int (ff bg), .int (longest bg), .int (shortest bg)])), y13, y14] ⟨L0, S4⟩ = RT.nx [some (.ref n), y1, some (.v (fD A)), some (.v (ofB bg).D), some (.ref S2.length), some (.v (.list (st.sz.map .int))), some (.v (.int st.lst)), some (.v (.list (st.en.map .str))), some (.v (.list (st.al.map .str))), z9, u10, z11, some (.v (.list [.int (acts bg), .int (ff bg), .int (longest bg), .int (shortest bg)])), u13, y14] ⟨L0, S4⟩ := (ex_for hi8).trans e8
  refine ⟨y1, some (.v (fD A)), some (.v (ofB bg).D), some (.ref S2.length), some (.v (.list (st.sz.map .int))), some (.v (.int st.lst)), some (.v (.list (st.en.map .str))), some (.v (.list (st.al.map .str))), z9, u10, z11, some (.v (.list [.int (acts bg), .int (ff bg), .int (longest bg), .int (shortest bg)])), u13, y14, S4, ?_, ?_⟩
  · unfold rB
    refine (exs_nx x1).trans ((exs_nx x2).trans ((exs_nx x3).trans ((exs_nx x4).trans ((exs_nx x5).trans ((exs_nx x6).trans ((exs_nx x7).trans ((exs_nx x8).trans ?_)))))))
    rfl
  · obtain ⟨a, b', c, h1, h2⟩ := hU2.le (M := N + 50) (by omega)
    exact ⟨a, b', c, by rw [g5, gS]; exact h1, h2⟩
def rF (C : Orc) : PyData → Z.Env → Mem → RT := fun d ρ m => match asg (.nm 1) (.v d) ρ with | some ρ => exs C rB ρ m | none => .bad
theorem right_loop (k : Nat) (hk : 40 ≤ k) {n : Nat} : ∀ (ds : List PyData) {N : Nat} {S : List OS}, Urn N n S → N + 50 * ds.length ≤ 1000000 → ∀ (L0 : List OL) (y1 y2 y3 y4 y5 y6 y7 y8 y9 y10 y11 y12 y13 y14 : Option W),
    ∃ (z1 z2 z3 z4 z5 z6 z7 z8 z9 z10 z11 z12 z13 z14 : Option W) (S1 : List OS), forR (rF (callP fs k)) ds [some (.ref n), y1, y2, y3, y4, y5, y6, y7, y8, y9, y10, y11, y12, y13, y14] ⟨L0, S⟩ = .nx [some (.ref n), z1, z2, z3, z4, z5, z6, z7, z8, z9, z10, z11, z12, z13, z14] ⟨L0, S1⟩
  | [], N, S, hU, hN, L0, y1, y2, y3, y4, y5, y6, y7, y8, y9, y10, y11, y12, y13, y14 => ⟨y1, y2, y3, y4, y5, y6, y7, y8, y9, y10, y11, y12, y13, y14, S, rfl⟩
  | d :: ds, N, S, hU, hN, L0, y1, y2, y3, y4, y5, y6, y7, y8, y9, y10, y11, y12, y13, y14 => by
    rw [List.length_cons] at hN
    obtain ⟨w1, w2, w3, w4, w5, w6, w7, w8, w9, w10, w11, w12, w13, w14, S1, e, hU1⟩ := turn k hk hU (by omega) L0 (some (.v d)) y2 y3 y4 y5 y6 y7 y8 y9 y10 y11 y12 y13 y14
    obtain ⟨z1, z2, z3, z4, z5, z6, z7, z8, z9, z10, z11, z12, z13, z14, S2, e2⟩ := right_loop k hk ds hU1 (by omega) L0 w1 w2 w3 w4 w5 w6 w7 w8 w9 w10 w11 w12 w13 w14
    refine ⟨z1, z2, z3, z4, z5, z6, z7, z8, z9, z10, z11, z12, z13, z14, S2, ?_⟩
    have ea : rF (callP fs k) d [some (.ref n), y1, y2, y3, y4, y5, y6, y7, y8, y9, y10, y11, y12, y13, y14] ⟨L0, S⟩ = exs (callP fs k) rB [some (.ref n), some (.v d), y2, y3, y4, y5, y6, y7, y8, y9, y10, y11, y12, y13, y14] ⟨L0, S⟩ := by simp [rF, asg]
    rw [forR, ea, e]
    exact e2
theorem call_eq {P : List (Option Fn)} {k f : Nat} {fn : Fn} {ws : List W} {S : List OS} (h : P[f]? = some (some fn)) : callP P (k + 1) f ws S = runFn (callP P k) fn ws S := by
  show (match P[f]? with | some (some fn) => runFn (callP P k) fn ws S | _ => .bad) = _
  rw [h]
theorem c1 {n : Nat} {S : List OS} (hU : Urn 0 n S) (k : Nat) : ∃ S', callP fs (k + 40 + 1) 1 [.ref n] S = .ok (.v (.bool true)) ⟨[], S'⟩ := by
  have e14 := c21 k S
  obtain ⟨z1, z2, z3, z4, z5, z6, z7, z8, z9, z10, z11, z12, z13, z14, S1, e⟩ := right_loop (k + 40) (by omega) (rgI 0 8) hU (by simp [rgI]) [] none none none none none none none none none none none none none none
  refine ⟨S1, ?_⟩
  have a0 : ex (callP fs (k + 40)) (.ife (.not (.call 21 .nil)) (.cons (.ret (.cst (.bool false))) .nil) .nil) [some (.ref n), none, none, none, none, none, none, none, none, none, none, none, none, none, none] ⟨[], S⟩ = .nx [some (.ref n), none, none, none, none, none, none, none, none, none, none, none, none, none, none] ⟨[], S⟩ := by
    generalize callP fs (k + 40) = C at *
    simp [runFn, exs, ex, ev, evAnd, evOr, evs, evO, evL, evIf, evI, asg, asgs, asT, asTs, setL, R.b, R.t, R.ne, RT.s, ofO, peek, peekT, peeks, isiD, tyOf, tyLe, truW, truD, wipe, args, binD, bltD, dmD, strsOf, asStr, intsOf, boolsOf, asInt, asBool, mk, allV, outW, itemsD, itemsW, itemsL, itemsT, ixW, atI, ixN, slW, cut, sIx, freeze, mthW, mtyW, setIxW, enmD, zipD, zipP, rgI, small, szL, isNW, maxI, minI, cl, isIns, noFld, fldW, putA, setFld, Mk.pre, Mk.post, e14]
  have a1 : ex (callP fs (k + 40)) (.forT (.nm 1) (.rng1 (.cst (.int 8))) rB) [some (.ref n), none, none, none, none, none, none, none, none, none, none, none, none, none, none] ⟨[], S⟩ = .nx [some (.ref n), z1, z2, z3, z4, z5, z6, z7, z8, z9, z10, z11, z12, z13, z14] ⟨[], S1⟩ := (ex_for (ds := rgI 0 8) (by simp [runFn, exs, ex, ev, evAnd, evOr, evs, evO, evL, evIf, evI, asg, asgs, asT, asTs, setL, R.b, R.t, R.ne, RT.s, ofO, peek, peekT, peeks, isiD, tyOf, tyLe, truW, truD, wipe, args, binD, bltD, dmD, strsOf, asStr, intsOf, boolsOf, asInt, asBool, mk, allV, outW, itemsD, itemsW, itemsL, itemsT, ixW, atI, ixN, slW, cut, sIx, freeze, mthW, mtyW, setIxW, enmD, zipD, zipP, rgI, small, szL, isNW, maxI, minI, cl, isIns, noFld, fldW, putA, setFld, Mk.pre, Mk.post])).trans e
  rw [call_eq (fn := F_law_right) rfl]
  refine run_of (C := callP fs (k + 40)) (f := F_law_right) (m := ⟨[], S1⟩) (r := .v (.bool true)) rfl rfl ?_
  rw [right_eq]
  dsimp only
  refine Eq.trans (exs_nx a0) (Eq.trans (exs_nx a1) ?_)
  simp [runFn, exs, ex, ev, evAnd, evOr, evs, evO, evL, evIf, evI, asg, asgs, asT, asTs, setL, R.b, R.t, R.ne, RT.s, ofO, peek, peekT, peeks, isiD, tyOf, tyLe, truW, truD, wipe, args, binD, bltD, dmD, strsOf, asStr, intsOf, boolsOf, asInt, asBool, mk, allV, outW, itemsD, itemsW, itemsL, itemsT, ixW, atI, ixN, slW, cut, sIx, freeze, mthW, mtyW, setIxW, enmD, zipD, zipP, rgI, small, szL, isNW, maxI, minI, cl, isIns, noFld, fldW, putA, setFld, Mk.pre, Mk.post]
theorem c1' {n : Nat} {S : List OS} (hU : Urn 0 n S) (K : Nat) (hK : 41 ≤ K) : ∃ S', callP fs K 1 [.ref n] S = .ok (.v (.bool true)) ⟨[], S'⟩ := by
  obtain ⟨k, rfl⟩ : ∃ j, K = j + 40 + 1 := ⟨K - 41, by omega⟩
  exact c1 hU k
theorem law_true (ns : List Int) (hl : ns.length ≤ 63) (hb : ∀ z ∈ ns, PySem.Builtin.Int.intBits z ≤ 1048576) : ∃ m, callP fs 50 0 [.ro (ns.map .int)] [] = .ok (.v (.bool true)) m := by
  have hb' : ∀ z ∈ ns, z.natAbs.log2 ≤ 1048576 := fun z hz => by
    have := hb z hz
    unfold PySem.Builtin.Int.intBits at this
    split at this
    · rename_i e
      have : z = 0 := by simpa using e
      subst this
      decide +kernel
    · omega
  obtain ⟨ds, h1, h2, h3, e⟩ := c3 ns hl hb' 48 []
  obtain ⟨K, hK⟩ : ∃ K, 50 = K + 1 := ⟨49, rfl⟩
  rw [hK, call_eq (fn := Flaw) rfl]
  obtain rfl : K = 49 := by omega
  have one : ∀ (i : Nat) (hi : i < ds.length) (S : List OS), ∃ n S' S'', callP fs 49 2 [.v (.list (ds.map .int)), .v (.int i)] S = .ok (.ref n) ⟨[], S'⟩ ∧ callP fs 49 1 [.ref n] S' = .ok (.v (.bool true)) ⟨[], S''⟩ := by
    intro i hi S
    obtain ⟨x, e1, hU⟩ := c2 ds h3 i hi (by omega) 48 S
    obtain ⟨S'', e2⟩ := c1' hU 49 (by decide)
    exact ⟨_, _, S'', e1, e2⟩
  exact LG.law_all (a := 1) (b := 2) (c := 3) (t := 3) e (by rw [List.length_map]; omega) (fun i hi S => by
    rw [List.length_map] at hi
    exact one i hi S)
end L.B
namespace L
theorem fs_ds_ : Z.fnsT ds = fs := by kernel_rfl
theorem law_tab (ns : List Int) (hl : ns.length ≤ 63) (hb : ∀ z ∈ ns, PySem.Builtin.Int.intBits z ≤ 1048576) : ∃ m, Z.callP (Z.fnsT ds) 50 0 [.ro (ns.map .int)] [] = .ok (.v (.bool true)) m := by
  rw [fs_ds_]
  exact B.law_true ns hl hb
end L
open PySem PySem.W PyProof.Rows
set_option maxHeartbeats 0 in
theorem PySem.Challenge.cw_wayoutdeeds_k98_whole_great_bodies_and_b_holds : PySem.Challenge.rw_wayoutdeeds_k98_whole_great_bodies_and_b.Holds := by
  w_on; o_law; k_head; (case hw => w_witness2)
  k_fill
  refine L2.walk_ofB (l := PySem.Challenge.rw_wayoutdeeds_k98_whole_great_bodies_and_b) (n := 63) (k := 2 * 50) (x := "_law_script") (CX := fun w => L2.CX PySem.Challenge.pw_wayoutdeeds_k98_whole_great_bodies_and_b w) (sp := fun w => Z.spZ _ (Z.callP (Z.fnsT L.ds) 50) 0 1) rfl (by decide) rfl ⟨rfl, by decide, by decide⟩ (fun w h Y => PySem.W.kIn_of Y) ?F (fun _ _ a ns hl hb hO hS => Z.sp_law hO hS (L.law_tab ns hl hb)) (fun _ _ _ _ _ h => Z.CX_no h)
  case F =>
    intro w mg fa h KX G hmg
    refine' Z.law_fn (i := 0) (d := L.Dlaw) (kn := L.kn) KX G rfl hmg ⟨?df, L.ds_ok, ?bl, ?gc, ?cl, ?fc⟩ rfl rfl rfl
    case gc =>
      refine' (Z.gc_str ?zgc0 ?zge0 (Z.gc_str ?zgc1 ?zge1 (Z.gc_str ?zgc2 ?zge2 Z.gc_nil)))
      (case zgc0 => k_is); (case zge0 => decide +kernel); (case zgc1 => k_is); (case zge1 => decide +kernel); (case zgc2 => k_is); (case zge2 => decide +kernel)
    case bl => refine' Z.bl_21 ?zbl0 ?zbl1 ?zbl2 ?zbl3 ?zbl4 ?zbl5 ?zbl6 ?zbl7 ?zbl8 ?zbl9 ?zbl10 ?zbl11 ?zbl12 ?zbl13 ?zbl14 ?zbl15 ?zbl16 ?zbl17 ?zbl18 ?zbl19 ?zbl20 <;> k_is
    case cl =>
      refine' Z.cl_one (c := "Board") (fl := ["own_acts", "own_bodies", "own_edges", "own_fails", "own_frames", "own_past", "own_tidied"]) (Z.cl_mk ?zch ?zc1 ?zc2 ?zc3 ?zc4 ?zh1 ?zh2 ?zh3 ?zh4 (Z.na_cons (x := "own_acts") ?zfl0 (Z.na_cons (x := "own_bodies") ?zfl1 (Z.na_cons (x := "own_edges") ?zfl2 (Z.na_cons (x := "own_fails") ?zfl3 (Z.na_cons (x := "own_frames") ?zfl4 (Z.na_cons (x := "own_past") ?zfl5 (Z.na_cons (x := "own_tidied") ?zfl6 Z.na_nil))))))))
      (case zch => k_is)
      (case zc1 => k_is)
      (case zc2 => k_is)
      (case zc3 => k_is)
      (case zc4 => k_is)
      (case zh1 => k_is)
      (case zh2 => k_is)
      (case zh3 => k_is)
      (case zh4 => k_is)
      (case zfl0 => k_is)
      (case zfl1 => k_is)
      (case zfl2 => k_is)
      (case zfl3 => k_is)
      (case zfl4 => k_is)
      (case zfl5 => k_is)
      (case zfl6 => k_is)
    case fc => exact Z.fc_one (c := "Board") (fl := ["own_acts", "own_bodies", "own_edges", "own_fails", "own_frames", "own_past", "own_tidied"])
    case df =>
      refine' Z.df_cons ?yd0 ?yr0
      case yd0 =>
        refine' Z.dfN (lo := .gl "law") (n := "law") (q := "law") (st := L.topS 71) (ps := ["_law_script"]) rfl (Z.lo_gl ?yn0) ?yl0 ?yc0 ?yk0 (fun _ _ _ _ _ _ us hl => match us, hl with | [_], _ => rfl)
        (case yn0 => k_is); (case yl0 => k_is); (case yc0 => k_is); (case yk0 => k_is)
      refine' Z.df_cons ?yd1 ?yr1
      case yd1 =>
        refine' Z.dfN (lo := .gl "_law_right") (n := "_law_right") (q := "_law_right") (st := L.topS 70) (ps := ["_law_urn"]) rfl (Z.lo_gl ?yn1) ?yl1 ?yc1 ?yk1 (fun _ _ _ _ _ _ us hl => match us, hl with | [_], _ => rfl)
        (case yn1 => k_is); (case yl1 => k_is); (case yc1 => k_is); (case yk1 => k_is)
      refine' Z.df_cons ?yd2 ?yr2
      case yd2 =>
        refine' Z.dfN (lo := .gl "_law_box") (n := "_law_box") (q := "_law_box") (st := L.topS 62) (ps := ["_law_script", "_law_k"]) rfl (Z.lo_gl ?yn2) ?yl2 ?yc2 ?yk2 (fun _ _ _ _ _ _ us hl => match us, hl with | [_, _], _ => rfl)
        (case yn2 => k_is); (case yl2 => k_is); (case yc2 => k_is); (case yk2 => k_is)
      refine' Z.df_cons ?yd3 ?yr3
      case yd3 =>
        refine' Z.dfN (lo := .gl "_law_cells") (n := "_law_cells") (q := "_law_cells") (st := L.topS 64) (ps := ["_law_script", "_law_top"]) rfl (Z.lo_gl ?yn3) ?yl3 ?yc3 ?yk3 (fun _ _ _ _ _ _ us hl => match us, hl with | [_, _], _ => rfl)
        (case yn3 => k_is); (case yl3 => k_is); (case yc3 => k_is); (case yk3 => k_is)
      refine' Z.df_cons ?yd4 ?yr4
      case yd4 =>
        refine' Z.dfN (lo := .gl "_law_same") (n := "_law_same") (q := "_law_same") (st := L.topS 66) (ps := ["_law_got", "_law_goal"]) rfl (Z.lo_gl ?yn4) ?yl4 ?yc4 ?yk4 (fun _ _ _ _ _ _ us hl => match us, hl with | [_, _], _ => rfl)
        (case yn4 => k_is); (case yl4 => k_is); (case yc4 => k_is); (case yk4 => k_is)
      refine' Z.df_cons ?yd5 ?yr5
      case yd5 =>
        refine' Z.dfN (lo := .gl "can_be_end") (n := "can_be_end") (q := "can_be_end") (st := L.topS 18) (ps := ["big", "place"]) rfl (Z.lo_gl ?yn5) ?yl5 ?yc5 ?yk5 (fun _ _ _ _ _ _ us hl => match us, hl with | [_, _], _ => rfl)
        (case yn5 => k_is); (case yl5 => k_is); (case yc5 => k_is); (case yk5 => k_is)
      refine' Z.df_cons ?yd6 ?yr6
      case yd6 =>
        refine' Z.dfN (lo := .gl "is_always_done") (n := "is_always_done") (q := "is_always_done") (st := L.topS 17) (ps := ["big", "place"]) rfl (Z.lo_gl ?yn6) ?yl6 ?yc6 ?yk6 (fun _ _ _ _ _ _ us hl => match us, hl with | [_, _], _ => rfl)
        (case yn6 => k_is); (case yl6 => k_is); (case yc6 => k_is); (case yk6 => k_is)
      refine' Z.df_cons ?yd7 ?yr7
      case yd7 =>
        refine' Z.dfN (lo := .gl "act_at") (n := "act_at") (q := "act_at") (st := L.topS 14) (ps := ["big", "place"]) rfl (Z.lo_gl ?yn7) ?yl7 ?yc7 ?yk7 (fun _ _ _ _ _ _ us hl => match us, hl with | [_, _], _ => rfl)
        (case yn7 => k_is); (case yl7 => k_is); (case yc7 => k_is); (case yk7 => k_is)
      refine' Z.df_cons ?yd8 ?yr8
      case yd8 =>
        refine' Z.dfN (lo := .gl "shortest_run") (n := "shortest_run") (q := "shortest_run") (st := L.topS 24) (ps := ["big"]) rfl (Z.lo_gl ?yn8) ?yl8 ?yc8 ?yk8 (fun _ _ _ _ _ _ us hl => match us, hl with | [_], _ => rfl)
        (case yn8 => k_is); (case yl8 => k_is); (case yc8 => k_is); (case yk8 => k_is)
      refine' Z.df_cons ?yd9 ?yr9
      case yd9 =>
        refine' Z.dfN (lo := .gl "longest_run") (n := "longest_run") (q := "longest_run") (st := L.topS 23) (ps := ["big"]) rfl (Z.lo_gl ?yn9) ?yl9 ?yc9 ?yk9 (fun _ _ _ _ _ _ us hl => match us, hl with | [_], _ => rfl)
        (case yn9 => k_is); (case yl9 => k_is); (case yc9 => k_is); (case yk9 => k_is)
      refine' Z.df_cons ?yd10 ?yr10
      case yd10 =>
        refine' Z.dfN (lo := .gl "fewest_failing") (n := "fewest_failing") (q := "fewest_failing") (st := L.topS 16) (ps := ["big"]) rfl (Z.lo_gl ?yn10) ?yl10 ?yc10 ?yk10 (fun _ _ _ _ _ _ us hl => match us, hl with | [_], _ => rfl)
        (case yn10 => k_is); (case yl10 => k_is); (case yc10 => k_is); (case yk10 => k_is)
      refine' Z.df_cons ?yd11 ?yr11
      case yd11 =>
        refine' Z.dfN (lo := .gl "how_many_acts") (n := "how_many_acts") (q := "how_many_acts") (st := L.topS 12) (ps := ["big"]) rfl (Z.lo_gl ?yn11) ?yl11 ?yc11 ?yk11 (fun _ _ _ _ _ _ us hl => match us, hl with | [_], _ => rfl)
        (case yn11 => k_is); (case yl11 => k_is); (case yc11 => k_is); (case yk11 => k_is)
      refine' Z.df_cons ?yd12 ?yr12
      case yd12 =>
        refine' Z.dfN (lo := .gl "_law_lots") (n := "_law_lots") (q := "_law_lots") (st := L.topS 67) (ps := ["_law_acts_so"]) rfl (Z.lo_gl ?yn12) ?yl12 ?yc12 ?yk12 (fun _ _ _ _ _ _ us hl => match us, hl with | [_], _ => rfl)
        (case yn12 => k_is); (case yl12 => k_is); (case yc12 => k_is); (case yk12 => k_is)
      refine' Z.df_cons ?yd13 ?yr13
      case yd13 =>
        refine' Z.dfN (lo := .me "Board" "end") (n := "end") (q := "Board.end") (st := L.clsS 60 22) (ps := ["self", "name"]) rfl (Z.lo_me ?yn13 ?ya13 ?yb13 ?ye13) ?yl13 ?yc13 ?yk13 (fun _ _ _ _ _ _ us hl => match us, hl with | [_, _], _ => rfl)
        (case yn13 => k_is); (case ya13 => k_is); (case yb13 => k_is); (case ye13 => k_is); (case yl13 => k_is); (case yc13 => k_is); (case yk13 => k_is)
      refine' Z.df_cons ?yd14 ?yr14
      case yd14 =>
        refine' Z.dfN (lo := .me "Board" "run") (n := "run") (q := "Board.run") (st := L.clsS 60 21) (ps := ["self", "name"]) rfl (Z.lo_me ?yn14 ?ya14 ?yb14 ?ye14) ?yl14 ?yc14 ?yk14 (fun _ _ _ _ _ _ us hl => match us, hl with | [_, _], _ => rfl)
        (case yn14 => k_is); (case ya14 => k_is); (case yb14 => k_is); (case ye14 => k_is); (case yl14 => k_is); (case yc14 => k_is); (case yk14 => k_is)
      refine' Z.df_cons ?yd15 ?yr15
      case yd15 =>
        refine' Z.dfN (lo := .pr "Board" "fails") (n := "fails") (q := "Board.fails") (st := L.clsS 60 9) (ps := ["self"]) rfl (Z.lo_pr ?yn15 ?ya15 ?ys15 ?yb15 ?ye15) ?yl15 ?yc15 ?yk15 (fun _ _ _ _ _ _ us hl => match us, hl with | [_], _ => rfl)
        (case yn15 => k_is); (case ya15 => k_is); (case ys15 => k_is); (case yb15 => k_is); (case ye15 => k_is); (case yl15 => k_is); (case yc15 => k_is); (case yk15 => k_is)
      refine' Z.df_cons ?yd16 ?yr16
      case yd16 =>
        refine' Z.dfN (lo := .me "Board" "attempt") (n := "attempt") (q := "Board.attempt") (st := L.clsS 60 31) (ps := ["self", "deeds"]) rfl (Z.lo_me ?yn16 ?ya16 ?yb16 ?ye16) ?yl16 ?yc16 ?yk16 (fun _ _ _ _ _ _ us hl => match us, hl with | [_, _], _ => rfl)
        (case yn16 => k_is); (case ya16 => k_is); (case yb16 => k_is); (case ye16 => k_is); (case yl16 => k_is); (case yc16 => k_is); (case yk16 => k_is)
      refine' Z.df_cons ?yd17 ?yr17
      case yd17 =>
        refine' Z.dfN (lo := .me "Board" "__setitem__") (n := "__setitem__") (q := "Board.__setitem__") (st := L.clsS 60 16) (ps := ["self", "name", "body"]) rfl (Z.lo_me ?yn17 ?ya17 ?yb17 ?ye17) ?yl17 ?yc17 ?yk17 (fun _ _ _ _ _ _ us hl => match us, hl with | [_, _, _], _ => rfl)
        (case yn17 => k_is); (case ya17 => k_is); (case yb17 => k_is); (case ye17 => k_is); (case yl17 => k_is); (case yc17 => k_is); (case yk17 => k_is)
      refine' Z.df_cons ?yd18 ?yr18
      case yd18 =>
        refine' Z.dfU (lo := .me "Board" "__init__") (n := "__init__") (q := "Board.__init__") (st := L.clsS 60 0) (ps := ["self", "acts"]) rfl (Z.lo_me ?yn18 ?ya18 ?yb18 ?ye18) ?yl18 ?yc18 ?yk18 ?yt18 ?yu18 ?yv18 ?yw18 ?yz18 (by decide) ?yx18
        (case yn18 => k_is); (case ya18 => k_is); (case yb18 => k_is); (case ye18 => k_is); (case yl18 => k_is); (case yc18 => k_is); (case yk18 => k_is); (case yt18 => k_is)
        (case yu18 => exact rfl)
        (case yv18 => k_is); (case yw18 => exact rfl); (case yz18 => exact rfl)
        (case yx18 =>
          intro j hj T kV doc pm an cdv ct us its h1 h2
          match its, h2 with
          | [_], _ =>
            rcases Nat.le_one_iff_eq_zero_or_eq_one.mp hj with rfl | rfl
            · match us, h1 with | [_], _ => exact ⟨_, rfl, rfl⟩
            · match us, h1 with | [_, _], _ => exact ⟨_, rfl, rfl⟩)
      refine' Z.df_cons ?yd19 ?yr19
      case yd19 =>
        refine' Z.dfN (lo := .gl "_law_body") (n := "_law_body") (q := "_law_body") (st := L.topS 68) (ps := ["_law_urn", "_law_acts_so"]) rfl (Z.lo_gl ?yn19) ?yl19 ?yc19 ?yk19 (fun _ _ _ _ _ _ us hl => match us, hl with | [_, _], _ => rfl)
        (case yn19 => k_is); (case yl19 => k_is); (case yc19 => k_is); (case yk19 => k_is)
      refine' Z.df_cons ?yd20 ?yr20
      case yd20 =>
        refine' Z.dfN (lo := .gl "_law_take") (n := "_law_take") (q := "_law_take") (st := L.topS 63) (ps := ["_law_urn", "_law_low_so"]) rfl (Z.lo_gl ?yn20) ?yl20 ?yc20 ?yk20 (fun _ _ _ _ _ _ us hl => match us, hl with | [_, _], _ => rfl)
        (case yn20 => k_is); (case yl20 => k_is); (case yc20 => k_is); (case yk20 => k_is)
      refine' Z.df_cons ?yd21 ?yr21
      case yd21 =>
        refine' Z.dfN (lo := .gl "_law_by_hand_right") (n := "_law_by_hand_right") (q := "_law_by_hand_right") (st := L.topS 69) (ps := []) rfl (Z.lo_gl ?yn21) ?yl21 ?yc21 ?yk21 (fun _ _ _ _ _ _ us hl => match us, hl with | [], _ => rfl)
        (case yn21 => k_is); (case yl21 => k_is); (case yc21 => k_is); (case yk21 => k_is)
      refine' Z.df_cons ?yd22 ?yr22
      case yd22 =>
        refine' Z.dfN (lo := .gl "way_to") (n := "way_to") (q := "way_to") (st := L.topS 15) (ps := ["big", "place"]) rfl (Z.lo_gl ?yn22) ?yl22 ?yc22 ?yk22 (fun _ _ _ _ _ _ us hl => match us, hl with | [_, _], _ => rfl)
        (case yn22 => k_is); (case yl22 => k_is); (case yc22 => k_is); (case yk22 => k_is)
      refine' Z.df_cons ?yd23 ?yr23
      case yd23 =>
        refine' Z.dfN (lo := .gl "check") (n := "check") (q := "check") (st := L.topS 13) (ps := ["big", "place"]) rfl (Z.lo_gl ?yn23) ?yl23 ?yc23 ?yk23 (fun _ _ _ _ _ _ us hl => match us, hl with | [_, _], _ => rfl)
        (case yn23 => k_is); (case yl23 => k_is); (case yc23 => k_is); (case yk23 => k_is)
      refine' Z.df_cons ?yd24 ?yr24
      case yd24 =>
        refine' Z.dfN (lo := .gl "parts_of") (n := "parts_of") (q := "parts_of") (st := L.topS 11) (ps := ["big"]) rfl (Z.lo_gl ?yn24) ?yl24 ?yc24 ?yk24 (fun _ _ _ _ _ _ us hl => match us, hl with | [_], _ => rfl)
        (case yn24 => k_is); (case yl24 => k_is); (case yc24 => k_is); (case yk24 => k_is)
      refine' Z.df_cons ?yd25 ?yr25
      case yd25 =>
        refine' Z.dfN (lo := .gl "lengths_of") (n := "lengths_of") (q := "lengths_of") (st := L.topS 22) (ps := ["big", "is_most"]) rfl (Z.lo_gl ?yn25) ?yl25 ?yc25 ?yk25 (fun _ _ _ _ _ _ us hl => match us, hl with | [_, _], _ => rfl)
        (case yn25 => k_is); (case yl25 => k_is); (case yc25 => k_is); (case yk25 => k_is)
      refine' Z.df_cons ?yd26 ?yr26
      case yd26 =>
        refine' Z.dfN (lo := .gl "end_of") (n := "end_of") (q := "end_of") (st := L.topS 47) (ps := ["body", "fails"]) rfl (Z.lo_gl ?yn26) ?yl26 ?yc26 ?yk26 (fun _ _ _ _ _ _ us hl => match us, hl with | [_, _], _ => rfl)
        (case yn26 => k_is); (case yl26 => k_is); (case yc26 => k_is); (case yk26 => k_is)
      refine' Z.df_cons ?yd27 ?yr27
      case yd27 =>
        refine' Z.dfN (lo := .me "Board" "check") (n := "check") (q := "Board.check") (st := L.clsS 60 5) (ps := ["self", "name"]) rfl (Z.lo_me ?yn27 ?ya27 ?yb27 ?ye27) ?yl27 ?yc27 ?yk27 (fun _ _ _ _ _ _ us hl => match us, hl with | [_, _], _ => rfl)
        (case yn27 => k_is); (case ya27 => k_is); (case yb27 => k_is); (case ye27 => k_is); (case yl27 => k_is); (case yc27 => k_is); (case yk27 => k_is)
      refine' Z.df_cons ?yd28 ?yr28
      case yd28 =>
        refine' Z.dfN (lo := .gl "run_runs") (n := "run") (q := "run") (st := L.topS 45) (ps := ["body", "fails"]) rfl (Z.lo_gl ?yn28) ?yl28 ?yc28 ?yk28 (fun _ _ _ _ _ _ us hl => match us, hl with | [_, _], _ => rfl)
        (case yn28 => k_is); (case yl28 => k_is); (case yc28 => k_is); (case yk28 => k_is)
      refine' Z.df_cons ?yd29 ?yr29
      case yd29 =>
        refine' Z.dfN (lo := .me "Board" "do") (n := "do") (q := "Board.do") (st := L.clsS 60 30) (ps := ["self", "deed"]) rfl (Z.lo_me ?yn29 ?ya29 ?yb29 ?ye29) ?yl29 ?yc29 ?yk29 (fun _ _ _ _ _ _ us hl => match us, hl with | [_, _], _ => rfl)
        (case yn29 => k_is); (case ya29 => k_is); (case yb29 => k_is); (case ye29 => k_is); (case yl29 => k_is); (case yc29 => k_is); (case yk29 => k_is)
      refine' Z.df_cons ?yd30 ?yr30
      case yd30 =>
        refine' Z.dfN (lo := .me "Board" "state") (n := "state") (q := "Board.state") (st := L.clsS 60 2) (ps := ["self"]) rfl (Z.lo_me ?yn30 ?ya30 ?yb30 ?ye30) ?yl30 ?yc30 ?yk30 (fun _ _ _ _ _ _ us hl => match us, hl with | [_], _ => rfl)
        (case yn30 => k_is); (case ya30 => k_is); (case yb30 => k_is); (case ye30 => k_is); (case yl30 => k_is); (case yc30 => k_is); (case yk30 => k_is)
      refine' Z.df_cons ?yd31 ?yr31
      case yd31 =>
        refine' Z.dfN (lo := .gl "tidy") (n := "tidy") (q := "tidy") (st := L.topS 34) (ps := ["body"]) rfl (Z.lo_gl ?yn31) ?yl31 ?yc31 ?yk31 (fun _ _ _ _ _ _ us hl => match us, hl with | [_], _ => rfl)
        (case yn31 => k_is); (case yl31 => k_is); (case yc31 => k_is); (case yk31 => k_is)
      refine' Z.df_cons ?yd32 ?yr32
      case yd32 =>
        refine' Z.dfN (lo := .me "Board" "keep") (n := "keep") (q := "Board.keep") (st := L.clsS 60 4) (ps := ["self"]) rfl (Z.lo_me ?yn32 ?ya32 ?yb32 ?ye32) ?yl32 ?yc32 ?yk32 (fun _ _ _ _ _ _ us hl => match us, hl with | [_], _ => rfl)
        (case yn32 => k_is); (case ya32 => k_is); (case yb32 => k_is); (case ye32 => k_is); (case yl32 => k_is); (case yc32 => k_is); (case yk32 => k_is)
      refine' Z.df_cons ?yd33 ?yr33
      case yd33 =>
        refine' Z.dfN (lo := .me "Board" "check_acts") (n := "check_acts") (q := "Board.check_acts") (st := L.clsS 60 7) (ps := ["self", "body"]) rfl (Z.lo_me ?yn33 ?ya33 ?yb33 ?ye33) ?yl33 ?yc33 ?yk33 (fun _ _ _ _ _ _ us hl => match us, hl with | [_, _], _ => rfl)
        (case yn33 => k_is); (case ya33 => k_is); (case yb33 => k_is); (case ye33 => k_is); (case yl33 => k_is); (case yc33 => k_is); (case yk33 => k_is)
      refine' Z.df_cons ?yd34 ?yr34
      case yd34 =>
        refine' Z.dfN (lo := .gl "tupled") (n := "tupled") (q := "tupled") (st := L.topS 27) (ps := ["value"]) rfl (Z.lo_gl ?yn34) ?yl34 ?yc34 ?yk34 (fun _ _ _ _ _ _ us hl => match us, hl with | [_], _ => rfl)
        (case yn34 => k_is); (case yl34 => k_is); (case yc34 => k_is); (case yk34 => k_is)
      refine' Z.df_cons ?yd35 ?yr35
      case yd35 =>
        refine' Z.dfN (lo := .gl "_law_of") (n := "_law_of") (q := "_law_of") (st := L.topS 65) (ps := ["_law_urn", "_law_some_so"]) rfl (Z.lo_gl ?yn35) ?yl35 ?yc35 ?yk35 (fun _ _ _ _ _ _ us hl => match us, hl with | [_, _], _ => rfl)
        (case yn35 => k_is); (case yl35 => k_is); (case yc35 => k_is); (case yk35 => k_is)
      refine' Z.df_cons ?yd36 ?yr36
      case yd36 =>
        refine' Z.dfN (lo := .gl "joined_lengths") (n := "joined_lengths") (q := "joined_lengths") (st := L.topS 20) (ps := ["word", "lengths", "is_most"]) rfl (Z.lo_gl ?yn36) ?yl36 ?yc36 ?yk36 (fun _ _ _ _ _ _ us hl => match us, hl with | [_, _, _], _ => rfl)
        (case yn36 => k_is); (case yl36 => k_is); (case yc36 => k_is); (case yk36 => k_is)
      refine' Z.df_cons ?yd37 ?yr37
      case yd37 =>
        refine' Z.dfN (lo := .gl "many_lengths") (n := "many_lengths") (q := "many_lengths") (st := L.topS 21) (ps := ["word", "many", "own", "is_most"]) rfl (Z.lo_gl ?yn37) ?yl37 ?yc37 ?yk37 (fun _ _ _ _ _ _ us hl => match us, hl with | [_, _, _, _], _ => rfl)
        (case yn37 => k_is); (case yl37 => k_is); (case yc37 => k_is); (case yk37 => k_is)
      refine' Z.df_cons ?yd38 ?yr38
      case yd38 =>
        refine' Z.dfN (lo := .gl "whole") (n := "whole") (q := "whole") (st := L.topS 44) (ps := ["body", "fails"]) rfl (Z.lo_gl ?yn38) ?yl38 ?yc38 ?yk38 (fun _ _ _ _ _ _ us hl => match us, hl with | [_, _], _ => rfl)
        (case yn38 => k_is); (case yl38 => k_is); (case yc38 => k_is); (case yk38 => k_is)
      refine' Z.df_cons ?yd39 ?yr39
      case yd39 =>
        refine' Z.dfN (lo := .me "Board" "fail") (n := "fail") (q := "Board.fail") (st := L.clsS 60 19) (ps := ["self", "act"]) rfl (Z.lo_me ?yn39 ?ya39 ?yb39 ?ye39) ?yl39 ?yc39 ?yk39 (fun _ _ _ _ _ _ us hl => match us, hl with | [_, _], _ => rfl)
        (case yn39 => k_is); (case ya39 => k_is); (case yb39 => k_is); (case ye39 => k_is); (case yl39 => k_is); (case yc39 => k_is); (case yk39 => k_is)
      refine' Z.df_cons ?yd40 ?yr40
      case yd40 =>
        refine' Z.dfN (lo := .me "Board" "mend") (n := "mend") (q := "Board.mend") (st := L.clsS 60 20) (ps := ["self", "act"]) rfl (Z.lo_me ?yn40 ?ya40 ?yb40 ?ye40) ?yl40 ?yc40 ?yk40 (fun _ _ _ _ _ _ us hl => match us, hl with | [_, _], _ => rfl)
        (case yn40 => k_is); (case ya40 => k_is); (case yb40 => k_is); (case ye40 => k_is); (case yl40 => k_is); (case yc40 => k_is); (case yk40 => k_is)
      refine' Z.df_cons ?yd41 ?yr41
      case yd41 =>
        refine' Z.dfN (lo := .gl "joined_forms") (n := "joined_forms") (q := "joined_forms") (st := L.topS 33) (ps := ["word", "forms"]) rfl (Z.lo_gl ?yn41) ?yl41 ?yc41 ?yk41 (fun _ _ _ _ _ _ us hl => match us, hl with | [_, _], _ => rfl)
        (case yn41 => k_is); (case yl41 => k_is); (case yc41 => k_is); (case yk41 => k_is)
      refine' Z.df_cons ?yd42 ?yr42
      case yd42 =>
        refine' Z.dfN (lo := .gl "parts") (n := "parts") (q := "parts") (st := L.topS 32) (ps := ["body"]) rfl (Z.lo_gl ?yn42) ?yl42 ?yc42 ?yk42 (fun _ _ _ _ _ _ us hl => match us, hl with | [_], _ => rfl)
        (case yn42 => k_is); (case yl42 => k_is); (case yc42 => k_is); (case yk42 => k_is)
      refine' Z.df_cons ?yd43 ?yr43
      case yd43 =>
        refine' Z.dfN (lo := .gl "top_word") (n := "top_word") (q := "top_word") (st := L.topS 31) (ps := ["body"]) rfl (Z.lo_gl ?yn43) ?yl43 ?yc43 ?yk43 (fun _ _ _ _ _ _ us hl => match us, hl with | [_], _ => rfl)
        (case yn43 => k_is); (case yl43 => k_is); (case yc43 => k_is); (case yk43 => k_is)
      refine' Z.df_cons ?yd44 ?yr44
      case yd44 =>
        refine' Z.dfN (lo := .gl "row_of") (n := "row_of") (q := "row_of") (st := L.topS 30) (ps := ["body"]) rfl (Z.lo_gl ?yn44) ?yl44 ?yc44 ?yk44 (fun _ _ _ _ _ _ us hl => match us, hl with | [_], _ => rfl)
        (case yn44 => k_is); (case yl44 => k_is); (case yc44 => k_is); (case yk44 => k_is)
      refine' Z.df_cons ?yd45 ?yr45
      case yd45 =>
        refine' Z.dfN (lo := .gl "picked") (n := "picked") (q := "picked") (st := L.topS 19) (ps := ["one", "other", "is_most"]) rfl (Z.lo_gl ?yn45) ?yl45 ?yc45 ?yk45 (fun _ _ _ _ _ _ us hl => match us, hl with | [_, _, _], _ => rfl)
        (case yn45 => k_is); (case yl45 => k_is); (case yc45 => k_is); (case yk45 => k_is)
      refine' Z.df_cons ?yd46 ?yr46
      case yd46 =>
        refine' Z.dfN (lo := .gl "gone_through") (n := "gone_through") (q := "gone_through") (st := L.topS 43) (ps := ["form", "fails"]) rfl (Z.lo_gl ?yn46) ?yl46 ?yc46 ?yk46 (fun _ _ _ _ _ _ us hl => match us, hl with | [_, _], _ => rfl)
        (case yn46 => k_is); (case yl46 => k_is); (case yc46 => k_is); (case yk46 => k_is)
      refine' Z.df_cons ?yd47 ?yr47
      case yd47 =>
        refine' Z.dfN (lo := .me "Board" "check_act") (n := "check_act") (q := "Board.check_act") (st := L.clsS 60 6) (ps := ["self", "act"]) rfl (Z.lo_me ?yn47 ?ya47 ?yb47 ?ye47) ?yl47 ?yc47 ?yk47 (fun _ _ _ _ _ _ us hl => match us, hl with | [_, _], _ => rfl)
        (case yn47 => k_is); (case ya47 => k_is); (case yb47 => k_is); (case ye47 => k_is); (case yl47 => k_is); (case yc47 => k_is); (case yk47 => k_is)
      refine' Z.df_cons ?yd48 ?yr48
      case yd48 =>
        refine' Z.dfN (lo := .gl "form_acts") (n := "form_acts") (q := "form_acts") (st := L.topS 29) (ps := ["form"]) rfl (Z.lo_gl ?yn48) ?yl48 ?yc48 ?yk48 (fun _ _ _ _ _ _ us hl => match us, hl with | [_], _ => rfl)
        (case yn48 => k_is); (case yl48 => k_is); (case yc48 => k_is); (case yk48 => k_is)
      exact Z.df_nil
