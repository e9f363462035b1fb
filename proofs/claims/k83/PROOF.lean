import PyProof.Rows.All
import Wide.All
import OpenK.AllK
import Wide.FinOn
import PySem.PyData
import PySem.Syntax
import PyProof.EqLayable
import HandS.ForMost
import HandS.Exc
import HandS.Wide
import HandS.IsInst
import HandS.Star
import HandS.TupAny
import HandS.Flow
import HandS.Walk
import HandS.Zip
import HandS.WideBits
import HandS.CallSlots
import HandS.NoneIn
import HandS.Style
import HandS.WordsExc
import HandS.EndBits
import PyProof.TableCode
import PySem.Challenge.RW_wayoutdeeds_k83_whole_great_bodies_one_b
set_option Elab.async false
set_option linter.all false
set_option maxRecDepth 100000
/-! Z1: a small language with slots, its plain evaluator. -/
namespace Z
open PySem

/-- what a name or a place of a local list holds: data, a shared object, a local object -/
inductive W where
  | v (d : PyData) | ref (n : Nat) | loc (n : Nat) | ro (ds : List PyData)
/-- a local object: gone, a list, a dict -/
inductive OL where
  | dead | lst (ws : List W) | dic (ks : List PyData) (ws : List W)
/-- a shared object: a list of data, one that is only read, an instance -/
inductive OS where
  | lst (ds : List PyData) | ro (ds : List PyData) | ins (c : Nat) (fs : List (Str × W))
structure Mem where
  L : List OL
  S : List OS
/-- an exception: its class's name, the names and values that it keeps (none: it has no own __init__) -/
structure Ex where
  c : Str
  fs : Option (List Str × List PyData)
inductive R (α : Type) where
  | ok (a : α) (m : Mem) | err (x : Ex) (m : Mem) | bad
def R.b {α β : Type} (r : R α) (f : α → Mem → R β) : R β := match r with
  | .ok a m => f a m
  | .err x m => .err x m
  | .bad => .bad
def ofO {α : Type} (o : Option α) (m : Mem) : R α := match o with
  | some a => .ok a m
  | none => .bad

abbrev szL : Nat := 16777216

inductive Bop where
  | add | sub | mul | fdiv | mod | pow
inductive Cop where
  | eq | ne | lt | le | gt | ge | isin | notin
inductive Ty where
  | int | bool | str | list | tuple
inductive Blt where
  | len | sum | min | max | all | any | int | abs | list | tuple
inductive Mth where
  | append
inductive Kd where
  | fz | loc | shr

mutual
inductive E where
  | var (i : Nat) | cst (d : PyData)
  | bin (o : Bop) (a b : E) | neg (a : E)
  | cmp (o : Cop) (a b : E) | chn (o1 o2 : Cop) (a b c : E)
  | isN (a : E) | notN (a : E)
  | not (a : E) | and (es : ES) | or (es : ES)
  | ite (c a b : E)
  | tup (es : ES)
  | lst (k : Kd) (l : LE)
  | ix (a i : E)
  | sl (a : E) (lo hi : OE)
  | call (f : Nat) (es : ES)
  | blt (b : Blt) (es : ES)
  | isi (ts : List Ty) (a : E)
  | frz (a : E)
  | mth (m : Mth) (o : E) (es : ES)
inductive ES where
  | nil | cons (e : E) (r : ES) | star (e : E) (r : ES)
inductive OE where
  | none | some (e : E)
inductive LE where
  | disp (es : ES)
  | cat (a b : E)
  | comp (own : List Nat) (g : G) (src : IT) (ifs : ES) (elt : E)
  | of (e : E)
inductive IT where
  | seq (e : E) | rng1 (e : E) | rng2 (a b : E) | enm (e : E) | zip (a b : E)
inductive G where
  | nm (i : Nat) | tp (gs : GS)
inductive GS where
  | nil | cons (g : G) (r : GS)
end

abbrev Env := List (Option W)
abbrev Orc := Nat → List W → List OS → R W

/-! ### values -/
def eqD (a b : PyData) : Option Bool := match a, b with
  | .str x, .str y => some (decide (x = y))
  | .int i, .int j => some (decide (i = j))
  | .bool i, .bool j => some (decide (i = j))
  | .none, .none => some true
  | a, b => if SeqAt.shaped a && SeqAt.shaped b then some (PyData.eqv a b) else none

def mulFit (i j : Int) : Bool := decide (i.natAbs.log2 + j.natAbs.log2 < 100000000)
def divFit (j : Int) : Bool := decide (0 < j ∧ j.natAbs.log2 < 9000)
def powFit (i j : Int) : Bool := decide (0 ≤ j ∧ j ≤ 1000000 ∧ i.natAbs < 2 ^ 64)
def binD (o : Bop) (a b : PyData) : Option PyData := match o, a, b with
  | .add, .int i, .int j => some (.int (i + j))
  | .add, .str x, .str y => if x.length + y.length ≤ szL then some (.str (x ++ y)) else none
  | .add, .tuple xs, .tuple ys => if xs.length + ys.length ≤ szL then some (.tuple (xs ++ ys)) else none
  | .add, .list xs, .list ys => if xs.length + ys.length ≤ szL then some (.list (xs ++ ys)) else none
  | .sub, .int i, .int j => some (.int (i - j))
  | .mul, .int i, .int j => if mulFit i j = true then some (.int (i * j)) else none
  | .fdiv, .int i, .int j => if divFit j = true then some (.int (i / j)) else none
  | .mod, .int i, .int j => if 0 < j then some (.int (i % j)) else none
  | .pow, .int i, .int j => if powFit i j = true then some (.int (i ^ j.toNat)) else none
  | _, _, _ => none

def cmpD (o : Cop) (a b : PyData) : Option Bool := match o with
  | .eq => eqD a b
  | .ne => (eqD a b).map (!·)
  | .lt => match a, b with | .int i, .int j => some (decide (i < j)) | _, _ => none
  | .le => match a, b with | .int i, .int j => some (decide (i ≤ j)) | _, _ => none
  | .gt => match a, b with | .int i, .int j => some (decide (j < i)) | _, _ => none
  | .ge => match a, b with | .int i, .int j => some (decide (j ≤ i)) | _, _ => none
  | _ => none

def allV : List W → Option (List PyData)
  | [] => some []
  | .v d :: r => (allV r).map (d :: ·)
  | _ :: _ => none

/-- what stands there to be read, as data -/
def peek (m : Mem) : W → Option PyData
  | .v d => some d
  | .ro ds => some (.list ds)
  | .ref n => match m.S[n]? with
    | some (.lst ds) => some (.list ds)
    | some (.ro ds) => some (.list ds)
    | _ => none
  | .loc n => match m.L[n]? with
    | some (.lst ws) => (allV ws).map .list
    | _ => none
/-- .. one that may be added to -/
def peekT (m : Mem) : W → Option PyData
  | .ref n => match m.S[n]? with
    | some (.lst ds) => some (.list ds)
    | _ => none
  | .ro _ => none
  | w => peek m w
def itemsD : PyData → Option (List PyData)
  | .list ds => some ds
  | .tuple ds => some ds
  | _ => none
/-- the items of a list or a tuple -/
def itemsW (m : Mem) (w : W) : Option (List W) := match w with
  | .v d => (itemsD d).map (·.map .v)
  | .ro ds => some (ds.map .v)
  | .ref n => match m.S[n]? with
    | some (.lst ds) => some (ds.map .v)
    | some (.ro ds) => some (ds.map .v)
    | _ => none
  | .loc n => match m.L[n]? with
    | some (.lst ws) => some ws
    | _ => none

/-- .. of a list that may be added to -/
def itemsL (m : Mem) (w : W) : Option (List W) := match w with
  | .v (.list ds) => some (ds.map .v)
  | .v _ => none
  | .ro _ => none
  | .ref n => match m.S[n]? with
    | some (.lst ds) => some (ds.map .v)
    | _ => none
  | .loc n => match m.L[n]? with
    | some (.lst ws) => some ws
    | _ => none

def truD : PyData → Option Bool
  | .none => some false
  | .bool b => some b
  | .int i => some (i != 0)
  | .str x => if x.length ≤ szL then some ((x.length : Int) != 0) else none
  | .list ds => some (!ds.isEmpty)
  | .tuple ds => some (!ds.isEmpty)
  | .dict _ => none
def truW (m : Mem) : W → Option Bool
  | .v d => truD d
  | .ro ds => some (!ds.isEmpty)
  | .ref n => match m.S[n]? with
    | some (.lst ds) => some (!ds.isEmpty)
    | some (.ro ds) => some (!ds.isEmpty)
    | _ => none
  | .loc n => match m.L[n]? with
    | some (.lst ws) => some (!ws.isEmpty)
    | _ => none

def isNW : W → Option Bool
  | .v .none => some true
  | .v _ => some false
  | .ref _ => some false
  | .ro _ => some false
  | .loc _ => none
def asInt : PyData → Option Int
  | .int i => some i
  | _ => none
def asBool : PyData → Option Bool
  | .bool b => some b
  | _ => none
def intsOf : List PyData → Option (List Int)
  | [] => some []
  | d :: r => (asInt d).bind fun i => (intsOf r).map (i :: ·)
def boolsOf : List PyData → Option (List Bool)
  | [] => some []
  | d :: r => (asBool d).bind fun i => (boolsOf r).map (i :: ·)
def maxI : List Int → Option Int
  | [] => none
  | x :: r => some (r.foldl max x)
def minI : List Int → Option Int
  | [] => none
  | x :: r => some (r.foldl min x)

def tyOf : PyData → Option Ty
  | .bool _ => some .bool
  | .int _ => some .int
  | .str _ => some .str
  | .list _ => some .list
  | .tuple _ => some .tuple
  | _ => none
def tyLe : Ty → Ty → Bool
  | .int, .int => true | .bool, .bool => true | .bool, .int => true | .str, .str => true | .list, .list => true | .tuple, .tuple => true
  | _, _ => false
def isiD (ts : List Ty) (d : PyData) : Option Bool := match d with
  | .dict _ => none
  | d => match tyOf d with
    | none => some false
    | some t => some (ts.any (tyLe t))

def ixN (n : Nat) (i : Int) : Option Nat := if 0 ≤ i then (if i < n then some i.toNat else none) else if -(n : Int) ≤ i then some (i + n).toNat else none
def atI {α : Type} (xs : List α) (i : Int) : Option α := (ixN xs.length i).bind fun j => xs[j]?
def sIx (n d : Nat) : Option Int → Nat
  | none => d
  | some v => if v < 0 then (v + n).toNat else min v.toNat n
def cut {α : Type} (xs : List α) (lo hi : Option Int) : List α := (xs.drop (sIx xs.length 0 lo)).take (sIx xs.length xs.length hi - sIx xs.length 0 lo)

def ixW (m : Mem) (w : W) (i : W) : Option W := match i with
  | .v (.int i) => match w with
    | .v (.str x) => if x.length ≤ szL then (atI x.cps.toList i).map fun c => .v (.str ⟨#[c]⟩) else none
    | w => (itemsW m w).bind fun ws => atI ws i
  | _ => none
/-- a slice: of a tuple, of a list (a new one) -/
def slW (m : Mem) (w : W) (lo hi : Option Int) : Option PyData := (peek m w).bind fun d => match d with
  | .tuple ds => some (.tuple (cut ds lo hi))
  | .list ds => some (.list (cut ds lo hi))
  | _ => none

def bltD (b : Blt) (ds : List PyData) : Option PyData := match b, ds with
  | .len, [.list xs] => some (.int xs.length)
  | .len, [.tuple xs] => some (.int xs.length)
  | .len, [.str x] => if x.length ≤ szL then some (.int x.length) else none
  | .sum, [.list xs] => (intsOf xs).map fun ns => .int ns.sum
  | .max, [.list xs] => (intsOf xs).bind fun ns => (maxI ns).map .int
  | .min, [.list xs] => (intsOf xs).bind fun ns => (minI ns).map .int
  | .max, [.tuple xs] => (intsOf xs).bind fun ns => (maxI ns).map .int
  | .min, [.tuple xs] => (intsOf xs).bind fun ns => (minI ns).map .int
  | .max, [.int i, .int j] => some (.int (if i < j then j else i))
  | .min, [.int i, .int j] => some (.int (if j < i then j else i))
  | .all, [.list xs] => (boolsOf xs).map fun bs => .bool (bs.all id)
  | .any, [.list xs] => (boolsOf xs).map fun bs => .bool (bs.any id)
  | .int, [.int i] => some (.int i)
  | .int, [.bool b] => some (.int (if b then 1 else 0))
  | .abs, [.int i] => some (.int i.natAbs)
  | .tuple, [.list xs] => some (.tuple xs)
  | .tuple, [.tuple xs] => some (.tuple xs)
  | _, _ => none

def peeks (m : Mem) : List W → Option (List PyData)
  | [] => some []
  | w :: r => (peek m w).bind fun d => (peeks m r).map (d :: ·)

def args : List W → Bool
  | [] => true
  | .loc _ :: _ => false
  | _ :: r => args r

/-- the local object becomes data: nothing may be done to it any more -/
def freeze (m : Mem) : W → R W
  | .loc n => match m.L[n]? with
    | some (.lst ws) => match allV ws with
      | some ds => .ok (.v (.list ds)) { m with L := m.L.set n .dead }
      | none => .bad
    | _ => .bad
  | w => .ok w m

def mk (k : Kd) (ws : List W) (m : Mem) : R W := if ws.length ≤ szL then (match k with
  | .fz => ofO ((allV ws).map fun ds => .v (.list ds)) m
  | .loc => .ok (.loc m.L.length) { m with L := m.L ++ [.lst ws] }
  | .shr => match allV ws with
    | some ds => .ok (.ref m.S.length) { m with S := m.S ++ [.lst ds] }
    | none => .bad) else .bad

/-- is it of the type that the method is of -/
def mtyW (t : Mth) (m : Mem) (w : W) : Bool := match t, w with
  | .append, .loc n => match m.L[n]? with
    | some (.lst _) => true
    | _ => false
  | .append, .ref n => match m.S[n]? with
    | some (.lst _) => true
    | _ => false
  | _, _ => false
def mthW (t : Mth) (o : W) (ws : List W) (m : Mem) : R W := match t, o, ws with
  | .append, .loc n, [w] => match m.L[n]? with
    | some (.lst xs) => if xs.length < szL then .ok (.v .none) { m with L := m.L.set n (.lst (xs ++ [w])) } else .bad
    | _ => .bad
  | _, _, _ => .bad

def wipe (ρ : Env) : List Nat → Env
  | [] => ρ
  | v :: vs => (wipe ρ vs).set v none

mutual
def asg : G → W → Env → Option Env
  | .nm i, w, ρ => if i < ρ.length then some (ρ.set i (some w)) else none
  | .tp gs, .v (.tuple ds), ρ => asgs gs (ds.map .v) ρ
  | .tp gs, .v (.list ds), ρ => asgs gs (ds.map .v) ρ
  | .tp _, _, _ => none
def asgs : GS → List W → Env → Option Env
  | .nil, [], ρ => some ρ
  | .cons g r, w :: ws, ρ => (asg g w ρ).bind fun ρ => asgs r ws ρ
  | _, _, _ => none
end

def rgI (a : Int) : Nat → List PyData
  | 0 => []
  | n + 1 => .int a :: rgI (a + 1) n
def enmD (i : Int) : List PyData → List PyData
  | [] => []
  | d :: r => .tuple [.int i, d] :: enmD (i + 1) r
def zipD : List PyData → List PyData → List PyData
  | x :: xs, y :: ys => .tuple [x, y] :: zipD xs ys
  | _, _ => []
def zipP : PyData → PyData → Option (List PyData)
  | .list xs, .list ys => some (zipD xs ys)
  | .tuple xs, .tuple ys => some (zipD xs ys)
  | _, _ => none
def small (i : Int) : Bool := decide (-(2 ^ 62) ≤ i) && decide (i < 2 ^ 62)

def R.ne {α : Type} : R α → R α
  | .ok a m => .ok a m
  | _ => .bad
/-- the turns of a comprehension: what is laid so far, behind -/
def turns (f : PyData → Mem → R (Option W)) : List PyData → List W → Mem → R (List W)
  | [], acc, m => .ok acc m
  | d :: r, acc, m => (f d m).ne.b fun o m' => match o with
    | some w => if acc.length < szL then turns f r (acc ++ [w]) m' else .bad
    | none => turns f r acc m'

mutual
def ev (C : Orc) : E → Env → Mem → R W
  | .var i, ρ, m => match ρ[i]? with
    | some (some w) => .ok w m
    | _ => .bad
  | .cst d, _, m => .ok (.v d) m
  | .bin o a b, ρ, m => (ev C a ρ m).b fun x m => (ev C b ρ m).b fun y m => ofO ((peekT m x).bind fun x => (peekT m y).bind fun y => (binD o x y).map .v) m
  | .neg a, ρ, m => (ev C a ρ m).b fun x m => match x with
    | .v (.int i) => .ok (.v (.int (-i))) m
    | _ => .bad
  | .cmp o a b, ρ, m => (ev C a ρ m).b fun x m => (ev C b ρ m).b fun y m => ofO ((peek m x).bind fun x => (peek m y).bind fun y => (cmpD o x y).map fun b => .v (.bool b)) m
  | .chn o1 o2 a b c, ρ, m => (ev C a ρ m).b fun x m => (ev C b ρ m).b fun y m => (ofO ((peek m x).bind fun x => (peek m y).bind fun y => cmpD o1 x y) m).b fun k m =>
    if k = true then (ev C c ρ m).b fun z m => ofO ((peek m y).bind fun y => (peek m z).bind fun z => (cmpD o2 y z).map fun b => .v (.bool b)) m else .ok (.v (.bool false)) m
  | .isN a, ρ, m => (ev C a ρ m).b fun x m => ofO ((isNW x).map fun b => .v (.bool b)) m
  | .notN a, ρ, m => (ev C a ρ m).b fun x m => ofO ((isNW x).map fun b => .v (.bool (!b))) m
  | .not a, ρ, m => (ev C a ρ m).b fun x m => (ofO (truW m x) m).b fun k m => .ok (.v (.bool (!k))) m
  | .and es, ρ, m => evAnd C es ρ m
  | .or es, ρ, m => evOr C es ρ m
  | .ite c a b, ρ, m => (ev C c ρ m).b fun x m => (ofO (truW m x) m).b fun k m => if k = true then ev C a ρ m else ev C b ρ m
  | .tup es, ρ, m => (evs C es ρ m).b fun ws m => if ws.length ≤ szL then ofO ((allV ws).map fun ds => .v (.tuple ds)) m else .bad
  | .lst k l, ρ, m => (evL C l ρ m).b fun ws m => mk k ws m
  | .ix a i, ρ, m => (ev C a ρ m).b fun x m => (ev C i ρ m).b fun y m => ofO (ixW m x y) m
  | .sl a lo hi, ρ, m => (ev C a ρ m).b fun x m => (evO C lo ρ m).b fun l m => (evO C hi ρ m).b fun h m => ofO ((slW m x l h).map .v) m
  | .call f es, ρ, m => (evs C es ρ m).b fun ws m => if args ws then (match C f ws m.S with
    | .ok w m' => if args [w] then .ok w { m with S := m'.S } else .bad
    | .err x m' => .err x { m with S := m'.S }
    | .bad => .bad) else .bad
  | .blt b es, ρ, m => (evs C es ρ m).b fun ws m => ofO ((peeks m ws).bind fun ds => (bltD b ds).map .v) m
  | .isi ts a, ρ, m => (ev C a ρ m).b fun x m => ofO ((peek m x).bind fun d => (isiD ts d).map fun b => .v (.bool b)) m
  | .frz a, ρ, m => (ev C a ρ m).b fun x m => freeze m x
  | .mth t o es, ρ, m => (ev C o ρ m).b fun x m => if mtyW t m x = true then (evs C es ρ m).b fun ws m => mthW t x ws m else .bad
def evAnd (C : Orc) : ES → Env → Mem → R W
  | .nil, _, _ => .bad
  | .cons e .nil, ρ, m => ev C e ρ m
  | .cons e r, ρ, m => (ev C e ρ m).b fun x m => (ofO (truW m x) m).b fun k m => if k = true then evAnd C r ρ m else .ok x m
  | .star _ _, _, _ => .bad
def evOr (C : Orc) : ES → Env → Mem → R W
  | .nil, _, _ => .bad
  | .cons e .nil, ρ, m => ev C e ρ m
  | .cons e r, ρ, m => (ev C e ρ m).b fun x m => (ofO (truW m x) m).b fun k m => if k = true then .ok x m else evOr C r ρ m
  | .star _ _, _, _ => .bad
def evs (C : Orc) : ES → Env → Mem → R (List W)
  | .nil, _, m => .ok [] m
  | .cons e r, ρ, m => (ev C e ρ m).b fun w m => (evs C r ρ m).b fun ws m => .ok (w :: ws) m
  | .star e r, ρ, m => (ev C e ρ m).b fun w m => (ofO (itemsW m w) m).b fun xs m => (evs C r ρ m).b fun ws m => .ok (xs ++ ws) m
def evO (C : Orc) : OE → Env → Mem → R (Option Int)
  | .none, _, m => .ok none m
  | .some e, ρ, m => (ev C e ρ m).b fun w m => match w with
    | .v (.int i) => .ok (some i) m
    | _ => .bad
def evL (C : Orc) : LE → Env → Mem → R (List W)
  | .disp es, ρ, m => evs C es ρ m
  | .cat a b, ρ, m => (ev C a ρ m).b fun x m => (ev C b ρ m).b fun y m => ofO ((itemsL m x).bind fun xs => (itemsL m y).bind fun ys => if xs.length + ys.length ≤ szL then some (xs ++ ys) else none) m
  | .of e, ρ, m => (ev C e ρ m).b fun w m => ofO (itemsW m w) m
  | .comp own g src ifs elt, ρ, m => (evI C src ρ m).b fun ds m => turns (fun d m => match asg g (.v d) (wipe ρ own) with
    | none => .bad
    | some ρ1 => (evIf C ifs ρ1 m).b fun k m => if k = true then (ev C elt ρ1 m).b fun w m => .ok (some w) m else .ok none m) ds [] m
def evIf (C : Orc) : ES → Env → Mem → R Bool
  | .nil, _, m => .ok true m
  | .cons e .nil, ρ, m => (ev C e ρ m).b fun x m => ofO (truW m x) m
  | _, _, _ => .bad
def evI (C : Orc) : IT → Env → Mem → R (List PyData)
  | .seq e, ρ, m => (ev C e ρ m).b fun w m => match w with
    | .v (.str x) => .ok (x.cps.toList.map fun c => .str ⟨#[c]⟩) m
    | .v d => ofO (itemsD d) m
    | .ref n => (match m.S[n]? with
      | some (.ro ds) => .ok ds m
      | _ => .bad)
    | .ro ds => .ok ds m
    | _ => .bad
  | .rng1 e, ρ, m => (ev C e ρ m).b fun w m => match w with
    | .v (.int j) => if small j then .ok (rgI 0 j.toNat) m else .bad
    | _ => .bad
  | .rng2 a b, ρ, m => (ev C a ρ m).b fun x m => (ev C b ρ m).b fun y m => match x, y with
    | .v (.int i), .v (.int j) => if small i && small j then .ok (rgI i (j - i).toNat) m else .bad
    | _, _ => .bad
  | .enm e, ρ, m => (ev C e ρ m).b fun w m => match w with
    | .v (.list ds) => .ok (enmD 0 ds) m
    | _ => .bad
  | .zip a b, ρ, m => (ev C a ρ m).b fun x m => (ev C b ρ m).b fun y m => match x, y with
    | .v d, .v e => ofO (zipP d e) m
    | _, _ => .bad
end

/-! ### statements -/
inductive RT where
  | nx (ρ : Env) (m : Mem) | bk (ρ : Env) (m : Mem) | ct (ρ : Env) (m : Mem) | rt (w : W) (m : Mem) | err (x : Ex) (ρ : Env) (m : Mem) | bad
def R.t {α : Type} (r : R α) (ρ : Env) (f : α → Mem → RT) : RT := match r with
  | .ok a m => f a m
  | .err x m => .err x ρ m
  | .bad => .bad
def RT.s (r : RT) (f : Env → Mem → RT) : RT := match r with
  | .nx ρ m => f ρ m
  | r => r

mutual
inductive T where
  | asg (g : G) (e : E)
  | par (is : List Nat) (es : ES)
  | setIx (o i e : E)
  | ex (e : E)
  | ret (e : E) | retN
  | ife (c : E) (a b : TS)
  | forT (g : G) (it : IT) (b : TS)
  | while (fuel : Nat) (c : E) (b : TS)
  | brk | cont | pass
  | never
inductive TS where
  | nil | cons (t : T) (r : TS)
end

def setL (ρ : Env) : List Nat → List W → Option Env
  | [], [] => some ρ
  | i :: is, w :: ws => if i < ρ.length then setL (ρ.set i (some w)) is ws else none
  | _, _ => none
def setIxW (m : Mem) (o i w : W) : Option Mem := match i with
  | .v (.int k) => match o with
    | .loc n => match m.L[n]? with
      | some (.lst ws) => (ixN ws.length k).map fun j => { m with L := m.L.set n (.lst (ws.set j w)) }
      | _ => none
    | .ref n => match m.S[n]?, w with
      | some (.lst ds), .v d => (ixN ds.length k).map fun j => { m with S := m.S.set n (.lst (ds.set j d)) }
      | _, _ => none
    | _ => none
  | _ => none

def forR (f : PyData → Env → Mem → RT) : List PyData → Env → Mem → RT
  | [], ρ, m => .nx ρ m
  | d :: r, ρ, m => match f d ρ m with
    | .nx ρ m => forR f r ρ m
    | .ct ρ m => forR f r ρ m
    | .bk ρ m => .nx ρ m
    | r => r
def whileR (c : Env → Mem → R Bool) (f : Env → Mem → RT) : Nat → Env → Mem → RT
  | 0, _, _ => .bad
  | n + 1, ρ, m => (c ρ m).t ρ fun k m => if k = true then (match f ρ m with
    | .nx ρ m => whileR c f n ρ m
    | .ct ρ m => whileR c f n ρ m
    | .bk ρ m => .nx ρ m
    | r => r) else .nx ρ m
/-- what leaves a def: data or a shared object -/
def outW : W → Mem → RT
  | .loc _, _ => .bad
  | w, m => .rt w m

mutual
def ex (C : Orc) : T → Env → Mem → RT
  | .asg g e, ρ, m => (ev C e ρ m).t ρ fun w m => match asg g w ρ with
    | some ρ => .nx ρ m
    | none => .bad
  | .par is es, ρ, m => (evs C es ρ m).t ρ fun ws m => match setL ρ is ws with
    | some ρ => .nx ρ m
    | none => .bad
  | .setIx o i e, ρ, m => (ev C e ρ m).t ρ fun w m => (ev C o ρ m).t ρ fun x m => (ev C i ρ m).t ρ fun y m => match setIxW m x y w with
    | some m => .nx ρ m
    | none => .bad
  | .ex e, ρ, m => (ev C e ρ m).t ρ fun _ m => .nx ρ m
  | .ret e, ρ, m => (ev C e ρ m).t ρ outW
  | .retN, _, m => .rt (.v .none) m
  | .ife c a b, ρ, m => (ev C c ρ m).t ρ fun x m => (ofO (truW m x) m).t ρ fun k m => if k = true then exs C a ρ m else exs C b ρ m
  | .forT g it b, ρ, m => (evI C it ρ m).t ρ fun ds m => forR (fun d ρ m => match asg g (.v d) ρ with
    | some ρ => exs C b ρ m
    | none => .bad) ds ρ m
  | .while n c b, ρ, m => whileR (fun ρ m => (ev C c ρ m).b fun x m => ofO (truW m x) m) (exs C b) n ρ m
  | .brk, ρ, m => .bk ρ m
  | .cont, ρ, m => .ct ρ m
  | .pass, ρ, m => .nx ρ m
  | .never, _, _ => .bad
def exs (C : Orc) : TS → Env → Mem → RT
  | .nil, ρ, m => .nx ρ m
  | .cons t r, ρ, m => (ex C t ρ m).s fun ρ m => exs C r ρ m
end

/-- a def: how many parameters, how many slots, its body -/
structure Fn where
  np : Nat
  ns : Nat
  body : TS
def runFn (C : Orc) (f : Fn) (ws : List W) (S : List OS) : R W :=
  if ws.length = f.np then (match exs C f.body (ws.map some ++ List.replicate (f.ns - f.np) none) ⟨[], S⟩ with
    | .nx _ m => .ok (.v .none) ⟨[], m.S⟩
    | .rt w m => .ok w ⟨[], m.S⟩
    | .err x _ m => .err x ⟨[], m.S⟩
    | _ => .bad) else .bad
def callP (P : List Fn) : Nat → Orc
  | 0 => fun _ _ _ => .bad
  | k + 1 => fun f ws S => match P[f]? with
    | some fn => runFn (callP P k) fn ws S
    | none => .bad
end Z

set_option maxHeartbeats 1000000
/-! Z2: how the evaluator's memory lies in the abstract heap. -/
namespace Z
open PySem PySem.Spec PyProof.Rows L2

/-- where the shared and the local objects lie; what others own -/
structure Wd where
  mu : List Addr
  l : List (Option Addr)
  p : Addr → Prop
def Wd.live (w : Wd) (a : Addr) : Prop := a ∈ w.mu ∨ some a ∈ w.l ∨ w.p a

mutual
inductive RD (K : PySem.W.Frag) (w : Wd) (H : Hp) : PyData → V → Prop
  | non : RD K w H .none .non
  | bl (b : Bool) : RD K w H (.bool b) (.bl b)
  | int (i : Int) : RD K w H (.int i) (.int i)
  | str (x : Str) : RD K w H (.str x) (.str x)
  | lst {a : Addr} {xs : List V} {ds : List PyData} : H a = some (.lst xs) → ¬ w.live a → RDs K w H ds xs → RD K w H (.list ds) (.ref a)
  | tup {a : Addr} {xs : List V} {ds : List PyData} : SqT K H a xs → RDs K w H ds xs → RD K w H (.tuple ds) (.ref a)
inductive RDs (K : PySem.W.Frag) (w : Wd) (H : Hp) : List PyData → List V → Prop
  | nil : RDs K w H [] []
  | cons {d : PyData} {ds : List PyData} {v : V} {vs : List V} : RD K w H d v → RDs K w H ds vs → RDs K w H (d :: ds) (v :: vs)
end

def SqR (K : PySem.W.Frag) (H : Hp) (a : Addr) (xs : List V) : Prop := (∃ o, H a = some (.frz o (.lst xs))) ∨
  ∃ (o : Obj) (its : Array Value) (n : Nat), K.lookup a = some o ∧ o.cls = .type "list" ∧ o.dict = none ∧ o.data = .seq its n ∧ its.size ≤ sizeLine ∧ Vals xs its.toList
theorem SqR.l {K : PySem.W.Frag} {H : Hp} {a : Addr} {xs : List V} (h : SqR K H a xs) : SqL K H a xs := h.elim (fun z => .inl (.inr z)) .inr
inductive RW (K : PySem.W.Frag) (w : Wd) (H : Hp) : W → V → Prop
  | v {d : PyData} {x : V} : RD K w H d x → RW K w H (.v d) x
  | ref {n : Nat} {a : Addr} : w.mu[n]? = some a → RW K w H (.ref n) (.ref a)
  | ro {a : Addr} {xs : List V} {ds : List PyData} : SqR K H a xs → RDs K w H ds xs → RW K w H (.ro ds) (.ref a)
  | loc {n : Nat} {x : V} : n < w.l.length → (∀ a, w.l[n]? = some (some a) → x = .ref a) → RW K w H (.loc n) x
abbrev RWs (K : PySem.W.Frag) (w : Wd) (H : Hp) : List W → List V → Prop := Paired (RW K w H)

def RS (K : PySem.W.Frag) (w : Wd) (H : Hp) (a : Addr) : OS → Prop
  | .lst ds => ∃ xs, H a = some (.lst xs) ∧ RDs K w H ds xs
  | .ro ds => ∃ o xs, H a = some (.frz o (.lst xs)) ∧ RDs K w H ds xs
  | .ins _ _ => False
def RL (K : PySem.W.Frag) (w : Wd) (H : Hp) (x : Option Addr) : OL → Prop
  | .dead => x = none
  | .lst ws => ∃ a xs, x = some a ∧ H a = some (.lst xs) ∧ RWs K w H ws xs
  | .dic _ _ => False

structure Rl (K : PySem.W.Frag) (w : Wd) (m : Mem) (H : Hp) : Prop where
  lenS : m.S.length = w.mu.length
  lenL : m.L.length = w.l.length
  ndS : w.mu.Nodup
  ndL : ∀ (i j : Nat) (a : Addr), w.l[i]? = some (some a) → w.l[j]? = some (some a) → i = j
  ap : ∀ a, a ∈ w.mu → some a ∉ w.l
  apP : ∀ a, w.p a → a ∉ w.mu ∧ some a ∉ w.l ∧ ∃ o, H a = some o
  s : ∀ (n : Nat) (o : OS) (a : Addr), m.S[n]? = some o → w.mu[n]? = some a → RS K w H a o
  l : ∀ (n : Nat) (o : OL) (x : Option Addr), m.L[n]? = some o → w.l[n]? = some x → RL K w H x o

structure Ext (w : Wd) (H : Hp) (w' : Wd) (H' : Hp) : Prop where
  mu : ∃ r, w'.mu = w.mu ++ r
  ln : w.l.length ≤ w'.l.length
  l : ∀ (n : Nat), n < w.l.length → w'.l[n]? = w.l[n]? ∨ w'.l[n]? = some none
  p : w'.p = w.p
  keep : ∀ a o, H a = some o → ¬ w.live a → H' a = some o ∧ ¬ w'.live a
  pk : ∀ a o, w.p a → H a = some o → H' a = some o
  tup : ∀ a xs, H a = some (.tup xs) → H' a = some (.tup xs)
  frz : ∀ a o u, H a = some (.frz o u) → H' a = some (.frz o u)

theorem Ext.refl (w : Wd) (H : Hp) : Ext w H w H := ⟨⟨[], by simp⟩, Nat.le_refl _, fun _ _ => .inl rfl, rfl, fun _ _ e n => ⟨e, n⟩, fun _ _ _ e => e, fun _ _ e => e, fun _ _ _ e => e⟩
theorem Ext.trans {w w1 w2 : Wd} {H H1 H2 : Hp} (a : Ext w H w1 H1) (b : Ext w1 H1 w2 H2) : Ext w H w2 H2 where
  mu := by
    obtain ⟨r, e⟩ := a.mu
    obtain ⟨r', e'⟩ := b.mu
    exact ⟨r ++ r', by rw [e', e, List.append_assoc]⟩
  ln := Nat.le_trans a.ln b.ln
  l := fun n h => by
    rcases b.l n (Nat.lt_of_lt_of_le h a.ln) with e | e
    · rcases a.l n h with e' | e'
      · exact .inl (e.trans e')
      · exact .inr (e.trans e')
    · exact .inr e
  p := b.p.trans a.p
  keep := fun x o e n => by
    obtain ⟨e1, n1⟩ := a.keep x o e n
    exact b.keep x o e1 n1
  pk := fun x o hp e => b.pk x o (by rw [a.p]; exact hp) (a.pk x o hp e)
  tup := fun x xs e => b.tup x xs (a.tup x xs e)
  frz := fun x o u e => b.frz x o u (a.frz x o u e)

section
variable {K : PySem.W.Frag} {w w' : Wd} {H H' : Hp}
theorem sqT_ext (e : Ext w H w' H') {a : Addr} {xs : List V} (h : SqT K H a xs) : SqT K H' a xs := by
  rcases h with (h | ⟨o, h⟩) | h
  · exact .inl (.inl (e.tup _ _ h))
  · exact .inl (.inr ⟨o, e.frz _ _ _ h⟩)
  · exact .inr h
mutual
theorem RD.ext (e : Ext w H w' H') : ∀ {d : PyData} {v : V}, RD K w H d v → RD K w' H' d v
  | _, _, .non => .non
  | _, _, .bl b => .bl b
  | _, _, .int i => .int i
  | _, _, .str x => .str x
  | _, _, .lst h n r => .lst (e.keep _ _ h n).1 (e.keep _ _ h n).2 (RDs.ext e r)
  | _, _, .tup h r => .tup (sqT_ext e h) (RDs.ext e r)
theorem RDs.ext (e : Ext w H w' H') : ∀ {ds : List PyData} {vs : List V}, RDs K w H ds vs → RDs K w' H' ds vs
  | _, _, .nil => .nil
  | _, _, .cons a b => .cons (RD.ext e a) (RDs.ext e b)
end
theorem RW.ext (e : Ext w H w' H') {x : W} {v : V} (h : RW K w H x v) : RW K w' H' x v := by
  cases h with
  | v h => exact .v (h.ext e)
  | ro h1 h2 => exact .ro (h1.elim (fun ⟨o, z⟩ => .inl ⟨o, e.frz _ _ _ z⟩) .inr) (h2.ext e)
  | @ref n a h =>
    refine .ref ?_
    obtain ⟨r, q⟩ := e.mu
    rw [q, List.getElem?_append_left (List.getElem?_eq_some_iff.mp h).1]
    exact h
  | @loc n x h1 h2 =>
    refine .loc (Nat.lt_of_lt_of_le h1 e.ln) fun a ha => ?_
    rcases e.l n h1 with q | q
    · exact h2 a (by rw [← q]; exact ha)
    · rw [q] at ha; cases ha
theorem paired_imp {α β : Type} {F G : α → β → Prop} (f : ∀ a b, F a b → G a b) : ∀ {xs : List α} {ys : List β}, Paired F xs ys → Paired G xs ys
  | _, _, .nil => .nil
  | _, _, .cons r t => .cons (f _ _ r) (paired_imp f t)
theorem RWs.ext (e : Ext w H w' H') {xs : List W} {vs : List V} (h : RWs K w H xs vs) : RWs K w' H' xs vs := paired_imp (fun _ _ r => r.ext e) h
theorem RDs.length : ∀ {ds : List PyData} {vs : List V}, RDs K w H ds vs → ds.length = vs.length
  | _, _, .nil => rfl
  | _, _, .cons _ t => congrArg (· + 1) (RDs.length t)
theorem RDs.ws : ∀ {ds : List PyData} {vs : List V}, RDs K w H ds vs → RWs K w H (ds.map .v) vs
  | _, _, .nil => .nil
  | _, _, .cons a b => .cons (.v a) (RDs.ws b)
theorem RDs.of_ws : ∀ {ws : List W} {vs : List V} {ds : List PyData}, RWs K w H ws vs → allV ws = some ds → RDs K w H ds vs
  | _, _, ds, .nil, h => by
    cases h
    exact .nil
  | _, _, ds, .cons (a := x) r t, h => by
    cases x with
    | v d =>
      unfold allV at h
      rename_i b l1 l2
      cases hq : allV l1 with
      | none => rw [hq] at h; cases h
      | some es =>
        rw [hq] at h
        cases h
        cases r with
        | v r => exact .cons r (RDs.of_ws t hq)
    | ref n => cases h
    | loc n => cases h
    | ro _ => cases h
theorem RDs.get : ∀ {ds : List PyData} {vs : List V} {i : Nat} {d : PyData}, RDs K w H ds vs → ds[i]? = some d → ∃ v, vs[i]? = some v ∧ RD K w H d v
  | _, _, _, _, .nil, h => by simp at h
  | _, _, 0, _, .cons a _, h => by
    simp at h
    subst h
    exact ⟨_, rfl, a⟩
  | _, _, i + 1, _, .cons _ b, h => by
    obtain ⟨v, e, r⟩ := RDs.get (i := i) b (by simpa using h)
    exact ⟨v, by simpa using e, r⟩
theorem RDs.get' {ds : List PyData} {vs : List V} {i : Nat} {v : V} (h : RDs K w H ds vs) (e : vs[i]? = some v) : ∃ d, ds[i]? = some d ∧ RD K w H d v := by
  obtain ⟨hi, _⟩ := List.getElem?_eq_some_iff.mp e
  have hd : i < ds.length := by rw [h.length]; exact hi
  obtain ⟨v', e', r⟩ := h.get (List.getElem?_eq_getElem hd)
  rw [e] at e'
  cases e'
  exact ⟨_, List.getElem?_eq_getElem hd, r⟩
theorem RWs.get : ∀ {ds : List W} {vs : List V} {i : Nat} {d : W}, RWs K w H ds vs → ds[i]? = some d → ∃ v, vs[i]? = some v ∧ RW K w H d v
  | _, _, _, _, .nil, h => by simp at h
  | _, _, 0, _, .cons a _, h => by
    simp at h
    subst h
    exact ⟨_, rfl, a⟩
  | _, _, i + 1, _, .cons _ b, h => by
    obtain ⟨v, e, r⟩ := RWs.get (i := i) b (by simpa using h)
    exact ⟨v, by simpa using e, r⟩
theorem RWs.length {ws : List W} {vs : List V} (h : RWs K w H ws vs) : ws.length = vs.length := Paired.length h
theorem RWs.append : ∀ {xs ys : List W} {us vs : List V}, RWs K w H xs us → RWs K w H ys vs → RWs K w H (xs ++ ys) (us ++ vs)
  | _, _, _, _, .nil, s => s
  | _, _, _, _, .cons r t, s => .cons r (RWs.append t s)
theorem RDs.append : ∀ {xs ys : List PyData} {us vs : List V}, RDs K w H xs us → RDs K w H ys vs → RDs K w H (xs ++ ys) (us ++ vs)
  | _, _, _, _, .nil, s => s
  | _, _, _, _, .cons r t, s => .cons r (RDs.append t s)
theorem RDs.drop : ∀ (n : Nat) {xs : List PyData} {us : List V}, RDs K w H xs us → RDs K w H (xs.drop n) (us.drop n)
  | 0, _, _, h => h
  | _ + 1, _, _, .nil => .nil
  | n + 1, _, _, .cons _ t => RDs.drop n t
theorem RDs.take : ∀ (n : Nat) {xs : List PyData} {us : List V}, RDs K w H xs us → RDs K w H (xs.take n) (us.take n)
  | 0, _, _, _ => .nil
  | _ + 1, _, _, .nil => .nil
  | n + 1, _, _, .cons r t => .cons r (RDs.take n t)
theorem RDs.set : ∀ {xs : List PyData} {us : List V} {d : PyData} {v : V} (i : Nat), RDs K w H xs us → RD K w H d v → RDs K w H (xs.set i d) (us.set i v)
  | _, _, _, _, _, .nil, _ => .nil
  | _, _, _, _, 0, .cons _ t, q => .cons q t
  | _, _, _, _, i + 1, .cons r t, q => .cons r (RDs.set i t q)
theorem RWs.set : ∀ {xs : List W} {us : List V} {d : W} {v : V} (i : Nat), RWs K w H xs us → RW K w H d v → RWs K w H (xs.set i d) (us.set i v)
  | _, _, _, _, _, .nil, _ => .nil
  | _, _, _, _, 0, .cons _ t, q => .cons q t
  | _, _, _, _, i + 1, .cons r t, q => .cons r (RWs.set i t q)

/-! data as the library's data -/
mutual
theorem RD.dp : ∀ {d : PyData} {v : V}, RD K w H d v → Dp K H v d
  | _, _, .non => .non
  | _, _, .bl b => .bl b
  | _, _, .int i => .int i
  | _, _, .str x => .str x
  | _, _, .lst h _ r => .lst (SqL.of h) (RDs.dp r)
  | _, _, .tup h r => .tup h (RDs.dp r)
theorem RDs.dp : ∀ {ds : List PyData} {vs : List V}, RDs K w H ds vs → DpAll K H vs ds
  | _, _, .nil => .nil
  | _, _, .cons a b => .cons (RD.dp a) (RDs.dp b)
end
theorem Rl.live_some {m : Mem} (r : Rl K w m H) {a : Addr} (h : w.live a) : ∃ o, H a = some o := by
  rcases h with h | h | h
  · obtain ⟨n, hn⟩ := List.getElem?_of_mem h
    have hl : n < m.S.length := by rw [r.lenS]; exact (List.getElem?_eq_some_iff.mp hn).1
    have z := r.s n _ a (List.getElem?_eq_getElem hl) hn
    generalize m.S[n] = o at z
    cases o with
    | lst ds => obtain ⟨xs, e, _⟩ := z; exact ⟨_, e⟩
    | ro ds => obtain ⟨o, xs, e, _⟩ := z; exact ⟨_, e⟩
    | ins c fs => exact z.elim
  · obtain ⟨n, hn⟩ := List.getElem?_of_mem h
    have hl : n < m.L.length := by rw [r.lenL]; exact (List.getElem?_eq_some_iff.mp hn).1
    have z := r.l n _ (some a) (List.getElem?_eq_getElem hl) hn
    generalize m.L[n] = o at z
    cases o with
    | dead => cases z
    | lst ds =>
      obtain ⟨a', xs, e1, e, _⟩ := z
      cases e1
      exact ⟨_, e⟩
    | dic _ _ => exact z.elim
  · exact (r.apP a h).2.2
theorem Rl.fresh {m : Mem} (r : Rl K w m H) {a : Addr} (h : H a = none) : ¬ w.live a := fun z => by
  obtain ⟨o, e⟩ := r.live_some z
  rw [h] at e
  cases e

/-- a new object that nobody writes to -/
theorem ext_upd {m : Mem} (r : Rl K w m H) {p : Addr} {o : HO} (h : H p = none) : Ext w H w (upd H p o) :=
  ⟨⟨[], by simp⟩, Nat.le_refl _, fun _ _ => .inl rfl, rfl, fun a u e n => ⟨by rw [upd_ne (ne_of_none e h)]; exact e, n⟩, fun a u _ e => by rw [upd_ne (ne_of_none e h)]; exact e,
    fun a u e => by rw [upd_ne (ne_of_none e h)]; exact e, fun a u z e => by rw [upd_ne (ne_of_none e h)]; exact e⟩
theorem RS.ext {a : Addr} {o : OS} (e : Ext w H w' H') (h : RS K w H a o) (k : H' a = H a) : RS K w' H' a o := by
  cases o with
  | lst ds => obtain ⟨xs, e1, q⟩ := h; exact ⟨xs, k.trans e1, q.ext e⟩
  | ro ds => obtain ⟨o, xs, e1, q⟩ := h; exact ⟨o, xs, k.trans e1, q.ext e⟩
  | ins c fs => exact h.elim
theorem RL.ext {x : Option Addr} {o : OL} (e : Ext w H w' H') (h : RL K w H x o) (k : ∀ a, x = some a → H' a = H a) : RL K w' H' x o := by
  cases o with
  | dead => exact h
  | lst ds => obtain ⟨a, xs, e0, e1, q⟩ := h; exact ⟨a, xs, e0, (k a e0).trans e1, q.ext e⟩
  | dic _ _ => exact h.elim
theorem Rl.upd_ {m : Mem} (r : Rl K w m H) {p : Addr} {o : HO} (h : H p = none) : Rl K w m (upd H p o) := by
  have e := ext_upd (o := o) r h
  have ne : ∀ a, w.live a → a ≠ p := fun a z q => by subst q; exact r.fresh h z
  refine ⟨r.lenS, r.lenL, r.ndS, r.ndL, r.ap, fun a z => ⟨(r.apP a z).1, (r.apP a z).2.1, ?_⟩, fun n u a h1 h2 => (r.s n u a h1 h2).ext e ?_, fun n u x h1 h2 => (r.l n u x h1 h2).ext e fun a q => ?_⟩
  · obtain ⟨u, q⟩ := (r.apP a z).2.2
    exact ⟨u, by rw [upd_ne (ne_of_none q h)]; exact q⟩
  · rw [upd_ne (ne a (.inl (List.mem_of_getElem? h2)))]
  · subst q
    rw [upd_ne (ne a (.inr (.inl (List.mem_of_getElem? h2))))]
end
end Z

set_option maxHeartbeats 1000000
/-! Z3: what is read; operators by values. -/
namespace Z
open PySem PySem.Spec PyProof.Rows L2

/-- data that may be read: as RD, but a list may be anybody's -/
def PD (K : PySem.W.Frag) (w : Wd) (H : Hp) (d : PyData) (v : V) : Prop := match d with
  | .list ds => ∃ a xs, v = .ref a ∧ SqL K H a xs ∧ RDs K w H ds xs
  | d => RD K w H d v
/-- .. tracked -/
def PTk (K : PySem.W.Frag) (w : Wd) (H : Hp) (d : PyData) (v : V) : Prop := match d with
  | .list ds => ∃ a xs, v = .ref a ∧ H a = some (.lst xs) ∧ RDs K w H ds xs
  | d => RD K w H d v
section
variable {K : PySem.W.Frag} {w w' : Wd} {H H' : Hp} {m : Mem}
theorem PTk.pd {d : PyData} {v : V} (h : PTk K w H d v) : PD K w H d v := by
  cases d with
  | list ds => obtain ⟨a, xs, e, q, r⟩ := h; exact ⟨a, xs, e, SqL.of q, r⟩
  | _ => exact h
theorem RD.pt {d : PyData} {v : V} (h : RD K w H d v) : PTk K w H d v := by
  cases h with
  | lst a b c => exact ⟨_, _, rfl, a, c⟩
  | non => exact .non
  | bl b => exact .bl b
  | int i => exact .int i
  | str x => exact .str x
  | tup a b => exact .tup a b
theorem RD.pd {d : PyData} {v : V} (h : RD K w H d v) : PD K w H d v := h.pt.pd
theorem PD.dp {d : PyData} {v : V} (h : PD K w H d v) : Dp K H v d := by
  cases d with
  | list ds => obtain ⟨a, xs, e, q, r⟩ := h; subst e; exact .lst q r.dp
  | none => exact RD.dp h
  | bool b => exact RD.dp h
  | int i => exact RD.dp h
  | str x => exact RD.dp h
  | tuple ds => exact RD.dp h
  | dict ks => exact RD.dp h
theorem Rl.mu_ {n : Nat} {a : Addr} {o : OS} (r : Rl K w m H) (h : w.mu[n]? = some a) (e : m.S[n]? = some o) : RS K w H a o := r.s n o a e h
theorem Rl.l_ {n : Nat} {o : OL} {v : V} (r : Rl K w m H) (h : RW K w H (.loc n) v) (e : m.L[n]? = some (.lst o')) : ∃ a xs, v = .ref a ∧ w.l[n]? = some (some a) ∧ H a = some (.lst xs) ∧ RWs K w H o' xs := by
  cases h with
  | loc h1 h2 =>
    obtain ⟨x, hx⟩ : ∃ x, w.l[n]? = some x := ⟨_, List.getElem?_eq_getElem h1⟩
    obtain ⟨a, xs, e1, e2, e3⟩ := r.l n _ x e hx
    subst e1
    exact ⟨a, xs, h2 a hx, hx, e2, e3⟩
theorem peekT_ok {x : W} {d : PyData} {v : V} (r : Rl K w m H) (h : RW K w H x v) (e : peekT m x = some d) : PTk K w H d v := by
  cases x with
  | v d' =>
    cases e
    cases h with
    | v h => exact h.pt
  | ro ds => cases e
  | ref n =>
    unfold peekT at e
    cases h with
    | ref h =>
      cases q : m.S[n]? with
      | none => simp only [q] at e; cases e
      | some o =>
        simp only [q] at e
        have z := r.mu_ h q
        cases o with
        | lst ds =>
          cases e
          obtain ⟨xs, e1, e2⟩ := z
          exact ⟨_, xs, rfl, e1, e2⟩
        | ro ds => cases e
        | ins c fs => cases e
  | loc n =>
    unfold peekT peek at e
    cases q : m.L[n]? with
    | none => simp only [q] at e; cases e
    | some o =>
      simp only [q] at e
      cases o with
      | lst ws =>
        obtain ⟨a, xs, rfl, h1, h2, h3⟩ := r.l_ (o := .dead) h q
        cases hq : allV ws with
        | none => simp only [hq] at e; cases e
        | some ds =>
          simp only [hq] at e
          cases e
          exact ⟨a, xs, rfl, h2, RDs.of_ws h3 hq⟩
      | dead => cases e
      | dic _ _ => cases e
theorem peek_ok {x : W} {d : PyData} {v : V} (r : Rl K w m H) (h : RW K w H x v) (e : peek m x = some d) : PD K w H d v := by
  cases x with
  | v d' =>
    cases e
    cases h with
    | v h => exact h.pd
  | ro ds =>
    cases e
    cases h with
    | ro h1 h2 => exact ⟨_, _, rfl, h1.l, h2⟩
  | ref n =>
    unfold peek at e
    cases h with
    | ref h =>
      cases q : m.S[n]? with
      | none => simp only [q] at e; cases e
      | some o =>
        simp only [q] at e
        have z := r.mu_ h q
        cases o with
        | lst ds =>
          cases e
          obtain ⟨xs, e1, e2⟩ := z
          exact ⟨_, xs, rfl, SqL.of e1, e2⟩
        | ro ds =>
          cases e
          obtain ⟨o, xs, e1, e2⟩ := z
          exact ⟨_, xs, rfl, .inl (.inr ⟨o, e1⟩), e2⟩
        | ins c fs => cases e
  | loc n => exact (peekT_ok (x := .loc n) r h e).pd

/-- a value comes, the memory as it was -/
abbrev Same (K : PySem.W.Frag) (w : Wd) (m : Mem) (H : Hp) (P : Wd → Hp → V → Prop) (Q : VK) : Prop := ∀ v H', Ext w H w H' → Rl K w m H' → P w H' v → Q v H'
/-- the old state with one new object -/
theorem Same.new {P : Wd → Hp → V → Prop} {Q : VK} {o : HO} (r : Rl K w m H) (q : Same K w m H P Q) (h : ∀ p, H p = none → Ext w H w (upd H p o) → ¬ w.live p → P w (upd H p o) (.ref p)) : ∀ p, H p = none → Q (.ref p) (upd H p o) := fun p hp =>
  q _ _ (ext_upd r hp) (r.upd_ hp) (h p hp (ext_upd r hp) (r.fresh hp))
theorem Same.here {P : Wd → Hp → V → Prop} {Q : VK} {v : V} (r : Rl K w m H) (q : Same K w m H P Q) (h : P w H v) : Q v H := q _ _ (Ext.refl _ _) r h
theorem Same.newT {Q : VK} {ds : List PyData} {xs : List V} (r : Rl K w m H) (q : Same K w m H (fun w' H' v => RD K w' H' (.tuple ds) v) Q) (h : RDs K w H ds xs) : ∀ p, H p = none → Q (.ref p) (upd H p (.tup xs)) :=
  q.new r fun p _ e _ => .tup (SqT.of upd_same) (h.ext e)
theorem Same.newL {Q : VK} {ds : List PyData} {xs : List V} (r : Rl K w m H) (q : Same K w m H (fun w' H' v => RD K w' H' (.list ds) v) Q) (h : RDs K w H ds xs) : ∀ p, H p = none → Q (.ref p) (upd H p (.lst xs)) :=
  q.new r fun p _ e n => .lst upd_same n (h.ext e)
end

def opB : Bop → Operator
  | .add => .Add | .sub => .Sub | .mul => .Mult | .fdiv => .FloorDiv | .mod => .Mod | .pow => .Pow
def opC : Cop → CmpOp
  | .eq => .Eq | .ne => .NotEq | .lt => .Lt | .le => .LtE | .gt => .Gt | .ge => .GtE | .isin => .In | .notin => .NotIn
def rB (K : PySem.W.Frag) (o : Bop) : R2 := fun x y H Q => ∃ (w : Wd) (m : Mem) (a b d : PyData), Rl K w m H ∧ PTk K w H a x ∧ PTk K w H b y ∧ binD o a b = some d ∧ Same K w m H (fun w H v => RD K w H d v) Q
def rC (K : PySem.W.Frag) (o : Cop) : R2 := fun x y H Q => ∃ (w : Wd) (m : Mem) (a b : PyData) (k : Bool), Rl K w m H ∧ PD K w H a x ∧ PD K w H b y ∧ cmpD o a b = some k ∧ Q (.bl k) H
section
variable {X : Cx}
theorem OpR.imp {f : Value → Value → Sem Value} {r r' : R2} (h : OpR X f r) (i : ∀ x y H Q, r' x y H Q → r x y H Q) : OpR X f r' := fun pins s σ H x y v u Q I rx ry q => h pins s σ H x y v u Q I rx ry (i _ _ _ _ q)
theorem RD.int_ {K : PySem.W.Frag} {w : Wd} {H : Hp} {i : Int} {v : V} (h : RD K w H (.int i) v) : v = .int i := by cases h; rfl
theorem RD.str_ {K : PySem.W.Frag} {w : Wd} {H : Hp} {i : Str} {v : V} (h : RD K w H (.str i) v) : v = .str i := by cases h; rfl
theorem RD.tup_ {K : PySem.W.Frag} {w : Wd} {H : Hp} {ds : List PyData} {v : V} (h : RD K w H (.tuple ds) v) : ∃ a xs, v = .ref a ∧ SqT K H a xs ∧ RDs K w H ds xs := by cases h with | tup a b => exact ⟨_, _, rfl, a, b⟩
theorem bits_log (x : Int) : Builtin.Int.intBits x ≤ x.natAbs.log2 + 1 := by
  unfold Builtin.Int.intBits
  split <;> omega
theorem mulC {i j : Int} (h : i.natAbs.log2 + j.natAbs.log2 < 100000000) : CMulX i j := by
  have h1 := bits_log i
  have h2 := bits_log j
  show (Builtin.Int.intBits i : Int) + (Builtin.Int.intBits j : Int) ≤ 134217728
  omega
theorem bin_ok (o : Bop) : OpR X (binaryOp (opB o)) (rB X.K o) := by
  intro pins s σ H x y v u Q I rx ry h
  obtain ⟨w, m, a, b, d, r, ha, hb, e, q⟩ := h
  unfold binD at e
  have hs : sizeLine = szL := sizeLine_eq
  split at e
  all_goals first
    | (cases e; cases (RD.int_ ha); cases (RD.int_ hb); exact op_add pins s σ H _ _ v u Q I rx ry ⟨_, _, rfl, rfl, q.here r (.int _)⟩)
    | (cases e; cases (RD.int_ ha); cases (RD.int_ hb); exact op_sub pins s σ H _ _ v u Q I rx ry ⟨_, _, rfl, rfl, q.here r (.int _)⟩)
    | skip
  · split at e
    · cases e
      cases (RD.str_ ha)
      cases (RD.str_ hb)
      exact op_add_str pins s σ H _ _ v u Q I rx ry ⟨_, _, rfl, rfl, by omega, q.here r (.str _)⟩
    · cases e
  · split at e
    · rename_i xs ys hl
      cases e
      obtain ⟨p1, vs1, rfl, h1, r1⟩ := RD.tup_ ha
      obtain ⟨p2, vs2, rfl, h2, r2⟩ := RD.tup_ hb
      have l1 := r1.length
      have l2 := r2.length
      refine op_catA pins s σ H _ _ v u Q I rx ry ⟨p1, p2, vs1, vs2, rfl, rfl, h1, h2, by omega, fun e => ?_, fun _ e => ?_, fun _ _ => q.newT r (r1.append r2)⟩
      · subst e
        cases r1
        exact q.here r (.tup h2 r2)
      · subst e
        cases r2
        rw [List.append_nil] at q
        exact q.here r (.tup h1 r1)
    · cases e
  · split at e
    · rename_i xs ys hl
      cases e
      obtain ⟨p1, vs1, rfl, h1, r1⟩ := ha
      obtain ⟨p2, vs2, rfl, h2, r2⟩ := hb
      have l1 := r1.length
      have l2 := r2.length
      exact op_cat pins s σ H _ _ v u Q I rx ry ⟨p1, p2, vs1, vs2, rfl, rfl, h1, h2, by omega, q.newL r (r1.append r2)⟩
    · cases e
  · split at e
    · rename_i hl
      cases e
      cases (RD.int_ ha); cases (RD.int_ hb)
      exact op_mulX pins s σ H _ _ v u Q I rx ry ⟨_, _, rfl, rfl, mulC (of_decide_eq_true hl), q.here r (.int _)⟩
    · cases e
  · split at e
    · rename_i hl
      cases e
      cases (RD.int_ ha); cases (RD.int_ hb)
      exact op_fdivW pins s σ H _ _ v u Q I rx ry ⟨_, _, rfl, rfl, (by have h9 := of_decide_eq_true hl; exact h9), q.here r (.int _)⟩
    · cases e
  · split at e
    · rename_i hl
      cases e
      cases (RD.int_ ha); cases (RD.int_ hb)
      exact op_mod pins s σ H _ _ v u Q I rx ry ⟨_, _, rfl, rfl, hl, q.here r (.int _)⟩
    · cases e
  · split at e
    · rename_i hl
      cases e
      cases (RD.int_ ha); cases (RD.int_ hb)
      exact op_pow pins s σ H _ _ v u Q I rx ry ⟨_, _, rfl, rfl, (by have h9 := of_decide_eq_true hl; exact h9), q.here r (.int _)⟩
    · cases e
  · cases e

theorem eqv_str (x y : Str) : PyData.eqv (.str x) (.str y) = (x == y) := by simp only [PyData.eqv]
theorem eqv_int (x y : Int) : PyData.eqv (.int x) (.int y) = (x == y) := by simp only [PyData.eqv]
theorem eq_ok (hu : X.A.units + 64 < cLine) : OpR X (compareOp .Eq) (rC X.K .eq) := by
  intro pins s σ H x y v u Q I rx ry h
  obtain ⟨w, m, a, b, k, r, ha, hb, e, q⟩ := h
  have e : eqD a b = some k := e
  have g : ∀ z, eqD a b = z → (if SeqAt.shaped a && SeqAt.shaped b then some (PyData.eqv a b) else none) = some k → wpAny (model X.prog X.w) X.A (compareOp .Eq v u) (EP X pins σ Q) X.xe s := fun _ _ e => by
    split at e
    · rename_i hsh
      cases e
      rw [Bool.and_eq_true] at hsh
      exact op_eqD hu pins s σ H x y v u Q I rx ry ⟨a, b, ha.dp, hb.dp, hsh.1, hsh.2, q⟩
    · cases e
  unfold eqD at e
  split at e
  · cases e; cases (RD.str_ ha); cases (RD.str_ hb)
    refine op_eq pins s σ H _ _ v u Q I rx ry ⟨rfl, ?_⟩
    simpa using q
  · cases e; cases (RD.int_ ha); cases (RD.int_ hb)
    refine op_eq pins s σ H _ _ v u Q I rx ry ⟨rfl, ?_⟩
    simpa using q
  · cases e; cases ha; cases hb
    refine op_eq pins s σ H _ _ v u Q I rx ry ⟨rfl, ?_⟩
    simpa using q
  · cases e; cases ha; cases hb
    refine op_eq pins s σ H _ _ v u Q I rx ry ⟨rfl, ?_⟩
    simpa using q
  · exact g _ rfl e
theorem ne_ok (hu : X.A.units + 64 < cLine) : OpR X (compareOp .NotEq) (rC X.K .ne) := by
  intro pins s σ H x y v u Q I rx ry h
  obtain ⟨w, m, a, b, k, r, ha, hb, e, q⟩ := h
  have e : (eqD a b).map (!·) = some k := e
  have g : ∀ z, eqD a b = z → (if SeqAt.shaped a && SeqAt.shaped b then some (PyData.eqv a b) else none).map (!·) = some k → wpAny (model X.prog X.w) X.A (compareOp .NotEq v u) (EP X pins σ Q) X.xe s := fun _ _ e => by
    split at e
    · rename_i hsh
      cases e
      rw [Bool.and_eq_true] at hsh
      exact op_neD hu pins s σ H x y v u Q I rx ry ⟨a, b, ha.dp, hb.dp, hsh.1, hsh.2, q⟩
    · cases e
  unfold eqD at e
  split at e
  · cases e; cases (RD.str_ ha); cases (RD.str_ hb)
    refine op_ne pins s σ H _ _ v u Q I rx ry ⟨rfl, ?_⟩
    simpa using q
  · cases e; cases (RD.int_ ha); cases (RD.int_ hb)
    refine op_ne pins s σ H _ _ v u Q I rx ry ⟨rfl, ?_⟩
    simpa using q
  · cases e; cases ha; cases hb
    refine op_ne pins s σ H _ _ v u Q I rx ry ⟨rfl, ?_⟩
    simpa using q
  · cases e; cases ha; cases hb
    refine op_ne pins s σ H _ _ v u Q I rx ry ⟨rfl, ?_⟩
    simpa using q
  · exact g _ rfl e
theorem cmp_ok (hu : X.A.units + 64 < cLine) (o : Cop) : OpR X (compareOp (opC o)) (rC X.K o) := by
  cases o with
  | eq => exact eq_ok hu
  | ne => exact ne_ok hu
  | lt =>
    intro pins s σ H x y v u Q I rx ry h
    obtain ⟨w, m, a, b, k, r, ha, hb, e, q⟩ := h
    unfold cmpD at e
    simp only at e
    split at e
    · cases e; cases (RD.int_ ha); cases (RD.int_ hb)
      exact op_lt pins s σ H _ _ v u Q I rx ry ⟨_, _, rfl, rfl, q⟩
    · cases e
  | le =>
    intro pins s σ H x y v u Q I rx ry h
    obtain ⟨w, m, a, b, k, r, ha, hb, e, q⟩ := h
    unfold cmpD at e
    simp only at e
    split at e
    · cases e; cases (RD.int_ ha); cases (RD.int_ hb)
      exact op_le pins s σ H _ _ v u Q I rx ry ⟨_, _, rfl, rfl, q⟩
    · cases e
  | gt =>
    intro pins s σ H x y v u Q I rx ry h
    obtain ⟨w, m, a, b, k, r, ha, hb, e, q⟩ := h
    unfold cmpD at e
    simp only at e
    split at e
    · cases e; cases (RD.int_ ha); cases (RD.int_ hb)
      exact op_gt pins s σ H _ _ v u Q I rx ry ⟨_, _, rfl, rfl, q⟩
    · cases e
  | ge =>
    intro pins s σ H x y v u Q I rx ry h
    obtain ⟨w, m, a, b, k, r, ha, hb, e, q⟩ := h
    unfold cmpD at e
    simp only at e
    split at e
    · cases e; cases (RD.int_ ha); cases (RD.int_ hb)
      exact op_ge pins s σ H _ _ v u Q I rx ry ⟨_, _, rfl, rfl, q⟩
    · cases e
  | isin =>
    intro pins s σ H x y v u Q I rx ry h
    obtain ⟨w, m, a, b, k, r, ha, hb, e, q⟩ := h
    cases e
  | notin =>
    intro pins s σ H x y v u Q I rx ry h
    obtain ⟨w, m, a, b, k, r, ha, hb, e, q⟩ := h
    cases e
end
end Z

set_option maxHeartbeats 1000000
/-! Z4: built-in functions by values. -/
namespace Z
open PySem PySem.Spec PyProof.Rows L2

/-! ### max, min of a tuple of ints -/
section
variable {prog : Program} {w : World} {A : Around} {E : Value → Shared → Prop} {s : Shared} {l : Addr} {its : List Value} {ns : List Int} {Q : Value → Shared → Prop}
theorem iter_intTup {xs : Array (Int × Tok)} (hl : s.heap.IsTuple l (intItems xs))
    (h : ∀ s₂ : Shared, s₂ = { s with heap := s.heap.push { cls := .type "tuple_iterator", data := .fields #[.ref l, .int 0 0] } } →
      (s₂.heap.IsTupleIter s.heap.objs.size l 0 ∧ s₂.heap.IsTuple l (intItems xs)) → (∀ b ∈ [s.heap.objs.size, l], b < s₂.heap.objs.size) → l ≠ s.heap.objs.size → Q (.ref s.heap.objs.size) s₂) :
    wpAny (model prog w) A (pyIter (.ref l)) Q E s := by
  have hlt : l < s.heap.objs.size := by obtain ⟨_, e, _⟩ := hl; exact Heap.lt_size e
  refine wpAny_pyIter_tuple hl (h _ rfl ⟨⟨_, Heap.get?_push_size _ rfl, rfl, rfl⟩, hl.push _⟩ (fun b hb => ?_) (Nat.ne_of_lt hlt))
  show b < (s.heap.push _).objs.size
  rw [Heap.size_push]
  rcases List.mem_cons.mp hb with rfl | hb
  · exact Nat.lt_succ_self _
  · rcases List.mem_cons.mp hb with rfl | hb
    · exact Nat.lt_succ_of_lt hlt
    · cases hb
theorem old_keptT {h' : Heap} (hk : ∀ b o, b ∉ [s.heap.objs.size] → (s.heap.push { cls := .type "tuple_iterator", data := .fields #[.ref l, .int 0 0] }).get? b = some o → h'.get? b = some o) :
    ∀ b o, s.heap.get? b = some o → h'.get? b = some o := fun b o e => by
  refine hk b o (fun hm => ?_) (Heap.get?_push_of_some _ e)
  rcases List.mem_cons.mp hm with e1 | hm
  · exact absurd (e1 ▸ Heap.lt_size e) (Nat.lt_irrefl _)
  · cases hm
theorem max_rawT (hh : A.handled = none) (hl : s.heap.IsTuple l its.toArray) (hi : IntsAre its ns) (hne : 0 < ns.length)
    (h : ∀ h' tk M t', (∀ b o, s.heap.get? b = some o → h'.get? b = some o) → M ∈ ns → (∀ a, a ∈ ns → a ≤ M) → Q (.int M t') { s with heap := h', toks := tk }) : wpAny (model prog w) A (call (.builtin "max") [.ref l]) Q E s := by
  obtain ⟨xs, e⟩ := hi.allInts.items
  have hn : numsOf (intItems xs).toList = ns := by rw [← e]; exact hi.numsOf
  rw [nums_intItems] at hn
  subst hn
  rw [e] at hl
  have hsz : 0 < xs.size := by simpa using hne
  refine call_max_walk (iter_intTup hl fun s₂ e st hfp hlI => ?_)
  subst e
  refine ⟨_, _, _, _, _, _, _, rfl, Walks.tuple (A := A.in1) hh _ l hlI (intItems xs), st, hfp, by simpa [intItems] using hsz, CmpOf.ints_gt (numAt xs) (fun _ _ => intItems_at), fun v h' tk hP hk => ?_⟩
  have hv : (intItems xs)[argBest (fun i j => decide (numAt xs i > numAt xs j)) (xs.size - 1)]? = some v := by simpa [intItems] using hP
  obtain ⟨t, rfl⟩ := intItems_at hv
  obtain ⟨h1, h2⟩ := argBest_gt (numAt xs) (xs.size - 1)
  refine h h' tk _ t (old_keptT hk) ?_ fun a ha => ?_
  · rw [numAt_eq]; exact PySem.getD_mem (by rw [List.length_map, Array.length_toList]; omega)
  · obtain ⟨j, hj, rfl⟩ := mem_getD ha
    rw [List.length_map, Array.length_toList] at hj
    rw [← numAt_eq]; exact h2 j (by omega)
theorem min_rawT (hh : A.handled = none) (hl : s.heap.IsTuple l its.toArray) (hi : IntsAre its ns) (hne : 0 < ns.length)
    (h : ∀ h' tk M t', (∀ b o, s.heap.get? b = some o → h'.get? b = some o) → M ∈ ns → (∀ a, a ∈ ns → M ≤ a) → Q (.int M t') { s with heap := h', toks := tk }) : wpAny (model prog w) A (call (.builtin "min") [.ref l]) Q E s := by
  obtain ⟨xs, e⟩ := hi.allInts.items
  have hn : numsOf (intItems xs).toList = ns := by rw [← e]; exact hi.numsOf
  rw [nums_intItems] at hn
  subst hn
  rw [e] at hl
  have hsz : 0 < xs.size := by simpa using hne
  refine call_min_walk (iter_intTup hl fun s₂ e st hfp hlI => ?_)
  subst e
  refine ⟨_, _, _, _, _, _, _, rfl, Walks.tuple (A := A.in1) hh _ l hlI (intItems xs), st, hfp, by simpa [intItems] using hsz, CmpOf.ints_lt (numAt xs) (fun _ _ => intItems_at), fun v h' tk hP hk => ?_⟩
  have hv : (intItems xs)[argBest (fun i j => decide (numAt xs i < numAt xs j)) (xs.size - 1)]? = some v := by simpa [intItems] using hP
  obtain ⟨t, rfl⟩ := intItems_at hv
  obtain ⟨h1, h2⟩ := argBest_lt (numAt xs) (xs.size - 1)
  refine h h' tk _ t (old_keptT hk) ?_ fun a ha => ?_
  · rw [numAt_eq]; exact PySem.getD_mem (by rw [List.length_map, Array.length_toList]; omega)
  · obtain ⟨j, hj, rfl⟩ := mem_getD ha
    rw [List.length_map, Array.length_toList] at hj
    rw [← numAt_eq]; exact h2 j (by omega)
end

section
variable {X : Cx} {K : PySem.W.Frag} {w : Wd} {m : Mem} {H : Hp}
def rMaxT (K : PySem.W.Frag) : List V → Hp → VK → Prop := fun vs H Q => ∃ (a : Addr) (ns : List Int), vs = [V.ref a] ∧ SqT K H a (ns.map V.int) ∧ 0 < ns.length ∧ ∀ m, m ∈ ns → (∀ y, y ∈ ns → y ≤ m) → Q (.int m) H
def rMinT (K : PySem.W.Frag) : List V → Hp → VK → Prop := fun vs H Q => ∃ (a : Addr) (ns : List Int), vs = [V.ref a] ∧ SqT K H a (ns.map V.int) ∧ 0 < ns.length ∧ ∀ m, m ∈ ns → (∀ y, y ∈ ns → m ≤ y) → Q (.int m) H
theorem cr_maxT (hc : X.calm = true) : CallR X (.builtin "max") (rMaxT X.K) := by
  intro pins s σ H vs us Q I r h
  obtain ⟨a, ns, rfl, hs, hne, q⟩ := h
  obtain ⟨its, rv, hl, _⟩ := I.tuple hs
  rw [Vals.ref1 r]
  exact max_rawT (I.ok.hd hc) hl rv.ints hne fun h' tk m t' hk h1 h2 => ⟨.int _, H, I.kept hk, ⟨_, rfl⟩, q m h1 h2⟩
theorem cr_minT (hc : X.calm = true) : CallR X (.builtin "min") (rMinT X.K) := by
  intro pins s σ H vs us Q I r h
  obtain ⟨a, ns, rfl, hs, hne, q⟩ := h
  obtain ⟨its, rv, hl, _⟩ := I.tuple hs
  rw [Vals.ref1 r]
  exact min_rawT (I.ok.hd hc) hl rv.ints hne fun h' tk m t' hk h1 h2 => ⟨.int _, H, I.kept hk, ⟨_, rfl⟩, q m h1 h2⟩

theorem intsOf_rd : ∀ {ds : List PyData} {vs : List V} {ns : List Int}, RDs K w H ds vs → intsOf ds = some ns → vs = ns.map V.int
  | _, _, _, .nil, e => by cases e; rfl
  | _, _, _, .cons (d := d) (ds := ds) a b, e => by
    unfold intsOf at e
    cases d with
    | int i =>
      cases a
      simp only [asInt, Option.bind_some] at e
      cases q : intsOf ds with
      | none => rw [q] at e; cases e
      | some ms =>
        rw [q] at e
        cases e
        rw [intsOf_rd b q]
        rfl
    | _ => cases e
theorem boolsOf_rd : ∀ {ds : List PyData} {vs : List V} {ns : List Bool}, RDs K w H ds vs → boolsOf ds = some ns → vs = ns.map V.bl
  | _, _, _, .nil, e => by cases e; rfl
  | _, _, _, .cons (d := d) (ds := ds) a b, e => by
    unfold boolsOf at e
    cases d with
    | bool i =>
      cases a
      simp only [asBool, Option.bind_some] at e
      cases q : boolsOf ds with
      | none => rw [q] at e; cases e
      | some ms =>
        rw [q] at e
        cases e
        rw [boolsOf_rd b q]
        rfl
    | _ => cases e
theorem foldl_max_mem : ∀ (l : List Int) (x : Int), l.foldl max x ∈ x :: l
  | [], x => by simp
  | y :: r, x => by
    have := foldl_max_mem r (max x y)
    rw [List.foldl_cons]
    rcases List.mem_cons.mp this with e | h
    · rw [e]
      by_cases h : x ≤ y
      · rw [Int.max_eq_right h]; simp
      · rw [Int.max_eq_left (by omega)]; simp
    · exact List.mem_cons_of_mem _ (List.mem_cons_of_mem _ h)
theorem foldl_max_ge : ∀ (l : List Int) (x : Int), ∀ y ∈ x :: l, y ≤ l.foldl max x
  | [], x, y, h => by simp at h; simp [h]
  | z :: r, x, y, h => by
    rw [List.foldl_cons]
    have ih := foldl_max_ge r (max x z)
    have h0 := ih (max x z) (by simp)
    rcases List.mem_cons.mp h with e | h
    · subst e; have := Int.le_max_left y z; omega
    · rcases List.mem_cons.mp h with e | h
      · subst e; have := Int.le_max_right x y; omega
      · exact ih y (List.mem_cons_of_mem _ h)
theorem foldl_min_mem : ∀ (l : List Int) (x : Int), l.foldl min x ∈ x :: l
  | [], x => by simp
  | y :: r, x => by
    have := foldl_min_mem r (min x y)
    rw [List.foldl_cons]
    rcases List.mem_cons.mp this with e | h
    · rw [e]
      by_cases h : x ≤ y
      · rw [Int.min_eq_left h]; simp
      · rw [Int.min_eq_right (by omega)]; simp
    · exact List.mem_cons_of_mem _ (List.mem_cons_of_mem _ h)
theorem foldl_min_le : ∀ (l : List Int) (x : Int), ∀ y ∈ x :: l, l.foldl min x ≤ y
  | [], x, y, h => by simp at h; simp [h]
  | z :: r, x, y, h => by
    rw [List.foldl_cons]
    have ih := foldl_min_le r (min x z)
    have h0 := ih (min x z) (by simp)
    rcases List.mem_cons.mp h with e | h
    · subst e; have := Int.min_le_left y z; omega
    · rcases List.mem_cons.mp h with e | h
      · subst e; have := Int.min_le_right x y; omega
      · exact ih y (List.mem_cons_of_mem _ h)
theorem maxI_is {ns : List Int} {k m : Int} (e : maxI ns = some k) (h : m ∈ ns) (h2 : ∀ y ∈ ns, y ≤ m) : m = k := by
  cases ns with
  | nil => cases e
  | cons x r =>
    cases e
    have h3 := foldl_max_ge r x m h
    have h4 := h2 _ (foldl_max_mem r x)
    omega
theorem minI_is {ns : List Int} {k m : Int} (e : minI ns = some k) (h : m ∈ ns) (h2 : ∀ y ∈ ns, m ≤ y) : m = k := by
  cases ns with
  | nil => cases e
  | cons x r =>
    cases e
    have h3 := foldl_min_le r x m h
    have h4 := h2 _ (foldl_min_mem r x)
    omega
theorem maxI_pos {ns : List Int} {k : Int} (e : maxI ns = some k) : 0 < ns.length := by cases ns with | nil => cases e | cons x r => simp
theorem minI_pos {ns : List Int} {k : Int} (e : minI ns = some k) : 0 < ns.length := by cases ns with | nil => cases e | cons x r => simp
abbrev PDs (K : PySem.W.Frag) (w : Wd) (H : Hp) : List PyData → List V → Prop := Paired (PD K w H)
theorem peeks_ok {x : List W} {ds : List PyData} {vs : List V} (r : Rl K w m H) (h : RWs K w H x vs) : peeks m x = some ds → PDs K w H ds vs := by
  induction h generalizing ds with
  | nil => intro e; cases e; exact .nil
  | cons a b ih =>
    intro e
    unfold peeks at e
    rename_i d _ l1 _
    cases q1 : peek m d with
    | none => rw [q1] at e; cases e
    | some d1 =>
      rw [q1] at e
      simp only [Option.bind_some] at e
      cases q2 : peeks m l1 with
      | none => rw [q2] at e; cases e
      | some d2 =>
        rw [q2] at e
        cases e
        exact .cons (peek_ok r a q1) (ih q2)

def bltV : Blt → Value
  | .len => .builtin "len" | .sum => .builtin "sum" | .min => .builtin "min" | .max => .builtin "max" | .all => .builtin "all" | .any => .builtin "any" | .int => .type "int" | .abs => .builtin "abs" | .list => .type "list" | .tuple => .type "tuple"
def bltN : Blt → Str
  | .len => "len" | .sum => "sum" | .min => "min" | .max => "max" | .all => "all" | .any => "any" | .int => "int" | .abs => "abs" | .list => "list" | .tuple => "tuple"
def rBlt (K : PySem.W.Frag) (b : Blt) : List V → Hp → VK → Prop := fun xs H Q => ∃ (w : Wd) (m : Mem) (ds : List PyData) (d : PyData), Rl K w m H ∧ PDs K w H ds xs ∧ bltD b ds = some d ∧ Same K w m H (fun w H v => RD K w H d v) Q
theorem PDs.one {d : PyData} {xs : List V} (h : PDs K w H [d] xs) : ∃ v, xs = [v] ∧ PD K w H d v := by
  cases h with | cons a b => cases b; exact ⟨_, rfl, a⟩
theorem PDs.two {d e : PyData} {xs : List V} (h : PDs K w H [d, e] xs) : ∃ v u, xs = [v, u] ∧ PD K w H d v ∧ PD K w H e u := by
  cases h with | cons a b => cases b with | cons c d => cases d; exact ⟨_, _, rfl, a, c⟩
theorem blt_ok (hc : X.calm = true) (b : Blt) : CallR X (bltV b) (rBlt X.K b) := by
  intro pins s σ H xs us Q I rs h
  obtain ⟨w, m, ds, d, r, hd, e, q⟩ := h
  have hs : sizeLine = szL := sizeLine_eq
  unfold bltD at e
  split at e
  · obtain ⟨v, rfl, a, vs, rfl, h1, h2⟩ := hd.one
    cases e
    exact call_len_seq pins s σ H _ us Q I rs ⟨a, vs, rfl, .inl h1, by rw [← h2.length]; exact q.here r (.int _)⟩
  · obtain ⟨v, rfl, h⟩ := hd.one
    obtain ⟨a, vs, rfl, h1, h2⟩ := RD.tup_ h
    cases e
    exact call_len_seq pins s σ H _ us Q I rs ⟨a, vs, rfl, .inr h1, by rw [← h2.length]; exact q.here r (.int _)⟩
  · obtain ⟨v, rfl, h⟩ := hd.one
    cases (RD.str_ h)
    split at e
    · cases e
      exact call_len_str pins s σ H _ us Q I rs ⟨_, rfl, by omega, q.here r (.int _)⟩
    · cases e
  · obtain ⟨v, rfl, a, vs, rfl, h1, h2⟩ := hd.one
    rename_i ds'
    cases qq : intsOf ds' with
    | none => rw [qq] at e; cases e
    | some ns =>
      rw [qq] at e
      cases e
      rw [intsOf_rd h2 qq] at h1
      exact cr_sum hc pins s σ H _ us Q I rs ⟨a, ns, rfl, h1, q.here r (.int _)⟩
  · obtain ⟨v, rfl, a, vs, rfl, h1, h2⟩ := hd.one
    rename_i ds'
    cases qq : intsOf ds' with
    | none => rw [qq] at e; cases e
    | some ns =>
      rw [qq] at e
      simp only [Option.bind_some] at e
      cases qm : maxI ns with
      | none => rw [qm] at e; cases e
      | some k =>
        rw [qm] at e
        cases e
        rw [intsOf_rd h2 qq] at h1
        exact cr_max hc pins s σ H _ us Q I rs ⟨a, ns, rfl, h1, maxI_pos qm, fun m h3 h4 => by rw [maxI_is qm h3 h4]; exact q.here r (.int _)⟩
  · obtain ⟨v, rfl, a, vs, rfl, h1, h2⟩ := hd.one
    rename_i ds'
    cases qq : intsOf ds' with
    | none => rw [qq] at e; cases e
    | some ns =>
      rw [qq] at e
      simp only [Option.bind_some] at e
      cases qm : minI ns with
      | none => rw [qm] at e; cases e
      | some k =>
        rw [qm] at e
        cases e
        rw [intsOf_rd h2 qq] at h1
        exact cr_min hc pins s σ H _ us Q I rs ⟨a, ns, rfl, h1, minI_pos qm, fun m h3 h4 => by rw [minI_is qm h3 h4]; exact q.here r (.int _)⟩
  · obtain ⟨v, rfl, h⟩ := hd.one
    obtain ⟨a, vs, rfl, h1, h2⟩ := RD.tup_ h
    rename_i ds'
    cases qq : intsOf ds' with
    | none => rw [qq] at e; cases e
    | some ns =>
      rw [qq] at e
      simp only [Option.bind_some] at e
      cases qm : maxI ns with
      | none => rw [qm] at e; cases e
      | some k =>
        rw [qm] at e
        cases e
        rw [intsOf_rd h2 qq] at h1
        exact cr_maxT hc pins s σ H _ us Q I rs ⟨a, ns, rfl, h1, maxI_pos qm, fun m h3 h4 => by rw [maxI_is qm h3 h4]; exact q.here r (.int _)⟩
  · obtain ⟨v, rfl, h⟩ := hd.one
    obtain ⟨a, vs, rfl, h1, h2⟩ := RD.tup_ h
    rename_i ds'
    cases qq : intsOf ds' with
    | none => rw [qq] at e; cases e
    | some ns =>
      rw [qq] at e
      simp only [Option.bind_some] at e
      cases qm : minI ns with
      | none => rw [qm] at e; cases e
      | some k =>
        rw [qm] at e
        cases e
        rw [intsOf_rd h2 qq] at h1
        exact cr_minT hc pins s σ H _ us Q I rs ⟨a, ns, rfl, h1, minI_pos qm, fun m h3 h4 => by rw [minI_is qm h3 h4]; exact q.here r (.int _)⟩
  · obtain ⟨v, u, rfl, h1, h2⟩ := hd.two
    cases (RD.int_ h1); cases (RD.int_ h2)
    cases e
    exact call_max2 hc pins s σ H _ us Q I rs ⟨_, _, rfl, q.here r (.int _)⟩
  · obtain ⟨v, u, rfl, h1, h2⟩ := hd.two
    cases (RD.int_ h1); cases (RD.int_ h2)
    cases e
    exact call_min2 hc pins s σ H _ us Q I rs ⟨_, _, rfl, q.here r (.int _)⟩
  · obtain ⟨v, rfl, a, vs, rfl, h1, h2⟩ := hd.one
    rename_i ds'
    cases qq : boolsOf ds' with
    | none => rw [qq] at e; cases e
    | some ns =>
      rw [qq] at e
      cases e
      rw [boolsOf_rd h2 qq] at h1
      exact cr_all hc pins s σ H _ us Q I rs ⟨a, ns, rfl, h1, q.here r (.bl _)⟩
  · obtain ⟨v, rfl, a, vs, rfl, h1, h2⟩ := hd.one
    rename_i ds'
    cases qq : boolsOf ds' with
    | none => rw [qq] at e; cases e
    | some ns =>
      rw [qq] at e
      cases e
      rw [boolsOf_rd h2 qq] at h1
      exact cr_any hc pins s σ H _ us Q I rs ⟨a, ns, rfl, h1, q.here r (.bl _)⟩
  · obtain ⟨v, rfl, h⟩ := hd.one
    cases (RD.int_ h)
    cases e
    exact call_int1 pins s σ H _ us Q I rs (.inl ⟨_, rfl, q.here r (.int _)⟩)
  · obtain ⟨v, rfl, h⟩ := hd.one
    cases h
    cases e
    exact call_int1 pins s σ H _ us Q I rs (.inr ⟨_, rfl, q.here r (.int _)⟩)
  · obtain ⟨v, rfl, h⟩ := hd.one
    cases (RD.int_ h)
    cases e
    rename_i i
    refine call_abs pins s σ H _ us Q I rs ⟨_, rfl, ?_⟩
    have ei : (if i < 0 then -i else i) = (i.natAbs : Int) := by split <;> omega
    rw [ei]
    exact q.here r (.int _)
  · obtain ⟨v, rfl, a, vs, rfl, h1, h2⟩ := hd.one
    cases e
    exact call_tuple_of pins s σ H _ us Q I rs ⟨a, vs, rfl, .inl ⟨h1, q.newT r h2⟩⟩
  · obtain ⟨v, rfl, h⟩ := hd.one
    obtain ⟨a, vs, rfl, h1, h2⟩ := RD.tup_ h
    cases e
    exact call_tuple_of pins s σ H _ us Q I rs ⟨a, vs, rfl, .inr ⟨h1, q.here r (.tup h1 h2)⟩⟩
  · cases e

/-! ### isinstance -/
def tyS : Ty → String
  | .int => "int" | .bool => "bool" | .str => "str" | .list => "list" | .tuple => "tuple"
theorem ty_kit (K : PySem.W.Frag) (t u : Ty) : PySem.W.kitOne K (.type (tyS t)) (.type (tyS u)) = some (tyLe t u) := by
  refine kit_ty ?_
  cases t <;> cases u <;> decide +kernel
theorem ty_kitN (K : PySem.W.Frag) (u : Ty) : PySem.W.kitOne K (.type "NoneType") (.type (tyS u)) = some false := by
  refine kit_ty ?_
  cases u <;> decide +kernel
theorem kitAny_map {K : PySem.W.Frag} {t : Value} {f : Ty → Bool} (h : ∀ u, PySem.W.kitOne K t (.type (tyS u)) = some (f u)) : ∀ ts : List Ty, PySem.W.kitAny K t (ts.map fun u => .type (tyS u)) = some (ts.any f)
  | [] => rfl
  | u :: r => by
    rw [List.map_cons]
    refine kitAny_cons (h u) (fun e => ?_) fun e => ?_
    · rw [kitAny_map h r, List.any_cons, e]; rfl
    · rw [List.any_cons, e]; rfl
theorem PD.tyx {d : PyData} {v : V} (h : PD K w H d v) (nd : ∀ kvs, d ≠ .dict kvs) : (∃ t, tyOf d = some t ∧ TyX K H v (.type (tyS t))) ∨ (tyOf d = none ∧ TyX K H v (.type "NoneType")) := by
  cases d with
  | none => cases h; exact .inr ⟨rfl, .base .non⟩
  | bool b => cases h; exact .inl ⟨_, rfl, .base (.bl _)⟩
  | int b => cases h; exact .inl ⟨_, rfl, .base (.int _)⟩
  | str b => cases h; exact .inl ⟨_, rfl, .base (.str _)⟩
  | list ds =>
    obtain ⟨a, xs, rfl, hq, _⟩ := h
    refine .inl ⟨_, rfl, ?_⟩
    rcases hq with (hq | ⟨o, hq⟩) | ⟨o, its, n, hk, hc, _⟩
    · exact .base (.lst hq)
    · exact .base (.frz hq)
    · exact .kList hk hc
  | tuple ds =>
    obtain ⟨a, xs, rfl, hq, _⟩ := RD.tup_ h
    refine .inl ⟨_, rfl, ?_⟩
    rcases hq with (hq | ⟨o, hq⟩) | ⟨o, its, n, hk, hc, _⟩
    · exact .base (.tup hq)
    · exact .fTuple hq
    · exact .kTuple hk hc
  | dict kvs => exact absurd rfl (nd kvs)
end
end Z

set_option maxHeartbeats 1000000
/-! Z5: what the evaluator's answer means for the machine. -/
namespace Z
open PySem PySem.Spec PyProof.Rows L2

/-- how an exception lies: its class, its own dict -/
def RX (K : PySem.W.Frag) (w : Wd) (H : Hp) (x : Ex) (cls : Value) (d : Option Addr) : Prop :=
  ∃ C, PySem.W.nsIn K mainGlobals x.c = some (some (.ref C)) ∧ cls = .ref C ∧ match x.fs with
    | none => d = none
    | some (ns, ds) => ∃ dx vs, d = some dx ∧ H dx = some (.xd (ns.zip vs)) ∧ RDs K w H ds vs
abbrev St := L2.St
abbrev EW := Ex → Wd → Mem → Hp → Prop
section
variable {K : PySem.W.Frag} {w w1 w' : Wd} {H H1 H' : Hp} {m : Mem} {α β γ δ : Type}
def Cont (K : PySem.W.Frag) (w : Wd) (H : Hp) (rel : Wd → Hp → α → β → Prop) (Q : β → Hp → Prop) (E : EW) : R α → Prop
  | .ok a m => ∀ v w' H', Ext w H w' H' → Rl K w' m H' → rel w' H' a v → Q v H'
  | .err x m => ∀ w' H', Ext w H w' H' → Rl K w' m H' → E x w' m H'
  | .bad => False
variable {rel : Wd → Hp → α → β → Prop} {Q : β → Hp → Prop} {E : EW} {r : R α}
theorem Cont.later (e : Ext w H w1 H1) (h : Cont K w H rel Q E r) : Cont K w1 H1 rel Q E r := by
  cases r with
  | ok a m => exact fun v w' H' e' => h v w' H' (e.trans e')
  | err x m => exact fun w' H' e' => h w' H' (e.trans e')
  | bad => exact h
/-- the rest behind a value -/
structure Rest (K : PySem.W.Frag) (w : Wd) (H : Hp) (rel : Wd → Hp → α → β → Prop) (f : α → Mem → R γ) (relg : Wd → Hp → γ → δ → Prop) (Q : δ → Hp → Prop) (E : EW) (v : β) (H1 : Hp) (a : α) (m1 : Mem) (w1 : Wd) : Prop where
  e : Ext w H w1 H1
  r : Rl K w1 m1 H1
  v : rel w1 H1 a v
  c : Cont K w1 H1 relg Q E (f a m1)
theorem Cont.bind {f : α → Mem → R γ} {relg : Wd → Hp → γ → δ → Prop} {Q : δ → Hp → Prop} (rel : Wd → Hp → α → β → Prop) (h : Cont K w H relg Q E (r.b f)) : Cont K w H rel (fun v H1 => ∃ a m1 w1, Rest K w H rel f relg Q E v H1 a m1 w1) E r := by
  cases r with
  | ok a m => exact fun v w' H' e rl rv => ⟨a, m, w', e, rl, rv, Cont.later e h⟩
  | err x m => exact h
  | bad => exact h
theorem Cont.imp {Q' : β → Hp → Prop} (h : Cont K w H rel Q E r) (i : ∀ v H', Q v H' → Q' v H') : Cont K w H rel Q' E r := by
  cases r with
  | ok a m => exact fun v w' H' e rl rv => i _ _ (h v w' H' e rl rv)
  | err x m => exact h
  | bad => exact h
theorem Cont.o {o : Option α} {f : α → Mem → R γ} {relg : Wd → Hp → γ → δ → Prop} {Q : δ → Hp → Prop} (h : Cont K w H relg Q E ((ofO o m).b f)) : ∃ a, o = some a ∧ Cont K w H relg Q E (f a m) := by
  cases o with
  | none => exact h.elim
  | some a => exact ⟨a, rfl, h⟩
theorem Cont.o0 {o : Option α} (h : Cont K w H rel Q E (ofO o m)) : ∃ a, o = some a ∧ Cont K w H rel Q E (.ok a m) := by
  cases o with
  | none => exact h.elim
  | some a => exact ⟨a, rfl, h⟩
end

/-- the slots -/
structure RE (K : PySem.W.Frag) (w : Wd) (H : Hp) (ρ : Env) (σ : St) : Prop where
  len : ρ.length = σ.length
  get : ∀ (i : Nat) (a : W), ρ[i]? = some (some a) → ∃ v, σ[i]? = some (some v) ∧ RW K w H a v
theorem RE.ext {K : PySem.W.Frag} {w w' : Wd} {H H' : Hp} {ρ : Env} {σ : St} (h : RE K w H ρ σ) (e : Ext w H w' H') : RE K w' H' ρ σ := ⟨h.len, fun i a q => by
  obtain ⟨v, h1, h2⟩ := h.get i a q
  exact ⟨v, h1, h2.ext e⟩⟩
theorem RE.set {K : PySem.W.Frag} {w : Wd} {H : Hp} {ρ : Env} {σ : St} {i : Nat} {a : W} {v : V} (h : RE K w H ρ σ) (r : RW K w H a v) : RE K w H (ρ.set i (some a)) (σ.set i (some v)) := by
  refine ⟨by simp [h.len], fun j b q => ?_⟩
  by_cases hj : i = j
  · subst hj
    by_cases hi : i < ρ.length
    · rw [List.getElem?_set_self hi] at q
      cases q
      exact ⟨v, by rw [List.getElem?_set_self (by rw [← h.len]; exact hi)], r⟩
    · rw [List.getElem?_eq_none (by simpa using hi)] at q
      cases q
  · rw [List.getElem?_set_ne hj] at q
    obtain ⟨u, h1, h2⟩ := h.get j b q
    exact ⟨u, by rw [List.getElem?_set_ne hj]; exact h1, h2⟩
theorem RE.set0 {K : PySem.W.Frag} {w : Wd} {H : Hp} {ρ : Env} {σ : St} {i : Nat} (h : RE K w H ρ σ) : RE K w H (ρ.set i none) (σ.set i none) := by
  refine ⟨by simp [h.len], fun j b q => ?_⟩
  by_cases hj : i = j
  · subst hj
    by_cases hi : i < ρ.length
    · rw [List.getElem?_set_self hi] at q
      cases q
    · rw [List.getElem?_eq_none (by simpa using hi)] at q
      cases q
  · rw [List.getElem?_set_ne hj] at q
    obtain ⟨u, h1, h2⟩ := h.get j b q
    exact ⟨u, by rw [List.getElem?_set_ne hj]; exact h1, h2⟩
theorem RE.wipe {K : PySem.W.Frag} {w : Wd} {H : Hp} {ρ : Env} {σ : St} (h : RE K w H ρ σ) : ∀ vs : List Nat, RE K w H (Z.wipe ρ vs) (L2.wipe σ vs)
  | [] => h
  | _ :: vs => (RE.wipe h vs).set0

/-! ### readings -/
def tE (K : PySem.W.Frag) (C : Orc) (ω : St → EW) (e : E) : TE := fun σ H Q => ∃ ρ m w, RE K w H ρ σ ∧ Rl K w m H ∧ Cont K w H (RW K) Q (ω σ) (ev C e ρ m)
def tT (K : PySem.W.Frag) (C : Orc) (ω : St → EW) (e : E) : TT := fun σ H Q => ∃ ρ m w, RE K w H ρ σ ∧ Rl K w m H ∧ Cont K w H (fun _ _ a b => a = b) Q (ω σ) ((ev C e ρ m).b fun x m => ofO (truW m x) m)
def tA (K : PySem.W.Frag) (C : Orc) (ω : St → EW) (es : ES) : TA := fun σ H Q => ∃ ρ m w, RE K w H ρ σ ∧ Rl K w m H ∧ Cont K w H (RWs K) Q (ω σ) (evs C es ρ m)
theorem tE.of {K : PySem.W.Frag} {C : Orc} {ω : St → EW} {e : E} {σ : St} {H : Hp} {Q : VK} {ρ : Env} {m : Mem} {w : Wd} (h1 : RE K w H ρ σ) (h2 : Rl K w m H) (h : Cont K w H (RW K) Q (ω σ) (ev C e ρ m)) : tE K C ω e σ H Q := ⟨ρ, m, w, h1, h2, h⟩

/-- what a def promises -/
def spZ (K : PySem.W.Frag) (C : Orc) (f : Nat) (n : Nat) : Sp := fun vs H Q Ek => ∃ ws w S, ws.length = n ∧ RWs K w H ws vs ∧ args ws = true ∧ Rl K w ⟨[], S⟩ H ∧
  Cont K w H (RW K) Q (fun x w' _ H' => ∀ cls d, RX K w' H' x cls d → Ek cls d H') (C f ws S)

/-- what is known of names where the text is looked at -/
structure Gm where
  N : List Str
  nm : List (Str × NameKind)
  on : List (Str × NameKind)
  fn : List (Str × Nat × Nat)
  gc : List (Str × PyData)
def bltNames : List Str := ["len", "sum", "min", "max", "all", "any", "int", "abs", "list", "tuple", "isinstance", "str", "bool", "range", "enumerate", "zip"]
/-- the world behind all that: the module's names, the defs that may be called -/
structure Cok0 (P : Program) (W0 : World) (K : PySem.W.Frag) (mg : Str → Option Value) (base : Heap) (A : Around) (fns : List (Str × Nat × Nat)) (gc : List (Str × PyData)) (C : Orc) : Prop where
  un : A.units + 64 < cLine
  bl : ∀ x ∈ bltNames, mg x = none
  fn : ∀ x f n, fns.lookup x = some (f, n) → ∃ fa fd ps k, mg x = some (.ref fa) ∧ PySem.W.keepIn K (.ref fa) = true ∧ FnOk P W0 K mg base (L2.CX P W0) k fa fd ps (spZ K C f n) ∧ Room k A ∧ Binds K fd ps []
  gc : ∀ x d, gc.lookup x = some d → ∃ u v, mg x = some u ∧ RelV v u ∧ ∀ w H, RD K w H d v
structure Cok (X : Cx) (Γ : Gm) (C : Orc) (ω : St → EW) : Prop where
  N : X.N = Γ.N
  nd : X.N.Nodup
  nm : X.env.scope.names = Γ.nm
  kd : X.env.scope.kind = .function
  calm : X.calm = true
  g : Cok0 X.prog X.w X.K X.mg X.base X.A Γ.fn Γ.gc C
  hx : ∀ σ, PassesAt (L2.CX X.prog X.w) X σ (fun cls d H' => ∃ x w m, Rl X.K w m H' ∧ RX X.K w H' x cls d ∧ ω σ x w m H')

theorem PEimp {X : Cx} {e : Expr} {t t' : TE} (h : PE X e t) (i : ∀ σ H Q, t' σ H Q → t σ H Q) : PE X e t' := ⟨fun pins s σ H Q I q => h.run pins s σ H Q I (i _ _ _ q)⟩
theorem PTimp {X : Cx} {e : Expr} {t t' : TT} (h : L2.PT X e t) (i : ∀ σ H Q, t' σ H Q → t σ H Q) : L2.PT X e t' := ⟨fun pins s σ H Q I q => h.run pins s σ H Q I (i _ _ _ q)⟩
theorem PAimp {X : Cx} {e : List Expr} {t t' : TA} (h : PA X e t) (i : ∀ σ H Q, t' σ H Q → t σ H Q) : PA X e t' := ⟨fun pos pins s σ H Q I q => h.run pos pins s σ H Q I (i _ _ _ q)⟩
end Z

set_option maxHeartbeats 1000000
/-! Z5b: a list under construction. -/
namespace Z
open PySem PySem.Spec PyProof.Rows L2
/-! ### a list under construction -/
section
variable {K : PySem.W.Frag} {w w' : Wd} {H H' : Hp} {D : Addr}
def Wd.add (w : Wd) (D : Addr) : Wd := { w with p := fun a => w.p a ∨ a = D }
theorem Wd.add_live {a : Addr} : (w.add D).live a ↔ w.live a ∨ a = D := by
  simp only [Wd.live, Wd.add]
  constructor
  · rintro (h | h | h | h)
    · exact .inl (.inl h)
    · exact .inl (.inr (.inl h))
    · exact .inl (.inr (.inr h))
    · exact .inr h
  · rintro ((h | h | h) | h)
    · exact .inl h
    · exact .inr (.inl h)
    · exact .inr (.inr (.inl h))
    · exact .inr (.inr (.inr h))
theorem sqT_upd {o : HO} {a : Addr} {xs : List V} (hD : H D = none) (h : SqT K H a xs) : SqT K (upd H D o) a xs := by
  rcases h with (h | ⟨u, h⟩) | h
  · exact .inl (.inl (by rw [upd_ne (ne_of_none h hD)]; exact h))
  · exact .inl (.inr ⟨u, by rw [upd_ne (ne_of_none h hD)]; exact h⟩)
  · exact .inr h
mutual
theorem RD.add {o : HO} (hD : H D = none) : ∀ {d : PyData} {v : V}, RD K w H d v → RD K (w.add D) (upd H D o) d v
  | _, _, .non => .non
  | _, _, .bl b => .bl b
  | _, _, .int i => .int i
  | _, _, .str x => .str x
  | _, _, .lst h n r => .lst (by rw [upd_ne (ne_of_none h hD)]; exact h) (fun z => (Wd.add_live.mp z).elim n fun e => ne_of_none h hD e) (RDs.add hD r)
  | _, _, .tup h r => .tup (sqT_upd hD h) (RDs.add hD r)
theorem RDs.add {o : HO} (hD : H D = none) : ∀ {ds : List PyData} {vs : List V}, RDs K w H ds vs → RDs K (w.add D) (upd H D o) ds vs
  | _, _, .nil => .nil
  | _, _, .cons a b => .cons (RD.add hD a) (RDs.add hD b)
end
theorem sqR_add {o : HO} {a : Addr} {xs : List V} (hD : H D = none) (h : SqR K H a xs) : SqR K (upd H D o) a xs := by
  rcases h with ⟨u, h⟩ | h
  · exact .inl ⟨u, by rw [upd_ne (ne_of_none h hD)]; exact h⟩
  · exact .inr h
theorem RW.add {o : HO} {x : W} {v : V} (hD : H D = none) (h : RW K w H x v) : RW K (w.add D) (upd H D o) x v := by
  cases h with
  | v h => exact .v (h.add hD)
  | ro h1 h2 => exact .ro (sqR_add hD h1) (h2.add hD)
  | ref h => exact .ref h
  | loc h1 h2 => exact .loc h1 h2
theorem Rl.add {m : Mem} {o : HO} (r : Rl K w m H) (hD : H D = none) : Rl K (w.add D) m (upd H D o) where
  lenS := r.lenS
  lenL := r.lenL
  ndS := r.ndS
  ndL := r.ndL
  ap := r.ap
  apP := fun a h => by
    rcases h with h | h
    · obtain ⟨h1, h2, u, h3⟩ := r.apP a h
      exact ⟨h1, h2, u, by rw [upd_ne (ne_of_none h3 hD)]; exact h3⟩
    · subst h
      exact ⟨fun z => r.fresh hD (.inl z), fun z => r.fresh hD (.inr (.inl z)), o, upd_same⟩
  s := fun n u a h1 h2 => by
    have z := r.s n u a h1 h2
    cases u with
    | lst ds => obtain ⟨xs, e1, q⟩ := z; exact ⟨xs, by rw [upd_ne (ne_of_none e1 hD)]; exact e1, q.add hD⟩
    | ro ds => obtain ⟨u, xs, e1, q⟩ := z; exact ⟨u, xs, by rw [upd_ne (ne_of_none e1 hD)]; exact e1, q.add hD⟩
    | ins c fs => exact z.elim
  l := fun n u x h1 h2 => by
    have z := r.l n u x h1 h2
    cases u with
    | dead => exact z
    | lst ds => obtain ⟨a, xs, e0, e1, q⟩ := z; exact ⟨a, xs, e0, by rw [upd_ne (ne_of_none e1 hD)]; exact e1, paired_imp (fun _ _ r => r.add hD) q⟩
    | dic _ _ => exact z.elim
/-- the heap without D -/
def cutH (H : Hp) (D : Addr) : Hp := fun a => if a = D then none else H a
theorem cutH_ne {a : Addr} (h : a ≠ D) : cutH H D a = H a := if_neg h
theorem cutH_self : cutH H D D = none := if_pos rfl
theorem upd_cut {o : HO} (h : H D = some o) : upd (cutH H D) D o = H := by
  funext a
  by_cases e : a = D
  · subst e
    rw [upd_same, h]
  · rw [upd_ne e, cutH_ne e]
def Wd.sub (w : Wd) (p : Addr → Prop) : Wd := { w with p := p }
section
variable {P : Addr → Prop} {acc : List V}
theorem sqT_cut {a : Addr} {xs : List V} (hD : H D = some (.lst acc)) (h : SqT K H a xs) : SqT K (cutH H D) a xs := by
  rcases h with (h | ⟨u, h⟩) | h
  · exact .inl (.inl (by rw [cutH_ne (fun e => by subst e; rw [hD] at h; cases h)]; exact h))
  · exact .inl (.inr ⟨u, by rw [cutH_ne (fun e => by subst e; rw [hD] at h; cases h)]; exact h⟩)
  · exact .inr h
mutual
theorem RD.cut (hD : H D = some (.lst acc)) (hl : w.live D) (i : ∀ a, P a → w.p a) : ∀ {d : PyData} {v : V}, RD K w H d v → RD K (w.sub P) (cutH H D) d v
  | _, _, .non => .non
  | _, _, .bl b => .bl b
  | _, _, .int i => .int i
  | _, _, .str x => .str x
  | _, _, .lst h n r => .lst (by rw [cutH_ne (fun e => n (by rw [e]; exact hl))]; exact h) (fun z => n (z.elim .inl fun z => z.elim (fun z => .inr (.inl z)) fun z => .inr (.inr (i _ z)))) (RDs.cut hD hl i r)
  | _, _, .tup h r => .tup (sqT_cut hD h) (RDs.cut hD hl i r)
theorem RDs.cut (hD : H D = some (.lst acc)) (hl : w.live D) (i : ∀ a, P a → w.p a) : ∀ {ds : List PyData} {vs : List V}, RDs K w H ds vs → RDs K (w.sub P) (cutH H D) ds vs
  | _, _, .nil => .nil
  | _, _, .cons a b => .cons (RD.cut hD hl i a) (RDs.cut hD hl i b)
end
theorem sqR_cut {a : Addr} {xs : List V} (hD : H D = some (.lst acc)) (h : SqR K H a xs) : SqR K (cutH H D) a xs := by
  rcases h with ⟨u, h⟩ | h
  · exact .inl ⟨u, by rw [cutH_ne (fun e => by subst e; rw [hD] at h; cases h)]; exact h⟩
  · exact .inr h
theorem RW.cut (hD : H D = some (.lst acc)) (hl : w.live D) (i : ∀ a, P a → w.p a) {x : W} {v : V} (h : RW K w H x v) : RW K (w.sub P) (cutH H D) x v := by
  cases h with
  | v h => exact .v (h.cut hD hl i)
  | ro h1 h2 => exact .ro (sqR_cut hD h1) (h2.cut hD hl i)
  | ref h => exact .ref h
  | loc h1 h2 => exact .loc h1 h2
theorem Rl.cut {m : Mem} (r : Rl K w m H) (hD : H D = some (.lst acc)) (hl : w.p D) (i : ∀ a, P a → w.p a ∧ a ≠ D) : Rl K (w.sub P) m (cutH H D) where
  lenS := r.lenS
  lenL := r.lenL
  ndS := r.ndS
  ndL := r.ndL
  ap := r.ap
  apP := fun a h => by
    obtain ⟨h1, h2, u, h3⟩ := r.apP a (i a h).1
    exact ⟨h1, h2, u, by rw [cutH_ne (i a h).2]; exact h3⟩
  s := fun n u a h1 h2 => by
    have ne : a ≠ D := fun e => by subst e; exact (r.apP _ hl).1 (List.mem_of_getElem? h2)
    have z := r.s n u a h1 h2
    cases u with
    | lst ds => obtain ⟨xs, e1, q⟩ := z; exact ⟨xs, by rw [cutH_ne ne]; exact e1, q.cut hD (.inr (.inr hl)) fun a h => (i a h).1⟩
    | ro ds => obtain ⟨u, xs, e1, q⟩ := z; exact ⟨u, xs, by rw [cutH_ne ne]; exact e1, q.cut hD (.inr (.inr hl)) fun a h => (i a h).1⟩
    | ins c fs => exact z.elim
  l := fun n u x h1 h2 => by
    have z := r.l n u x h1 h2
    cases u with
    | dead => exact z
    | lst ds =>
      obtain ⟨a, xs, e0, e1, q⟩ := z
      subst e0
      have ne : a ≠ D := fun e => by subst e; exact (r.apP _ hl).2.1 (List.mem_of_getElem? h2)
      exact ⟨a, xs, rfl, by rw [cutH_ne ne]; exact e1, paired_imp (fun _ _ r => r.cut hD (.inr (.inr hl)) fun a h => (i a h).1) q⟩
    | dic _ _ => exact z.elim
theorem Ext.cut {o : HO} (e : Ext (w.add D) (upd H D o) w' H') (hD : H D = none) (hw : ¬ w.live D) : Ext w H (w'.sub w.p) (cutH H' D) where
  mu := e.mu
  ln := e.ln
  l := e.l
  p := rfl
  keep := fun a u h n => by
    have ne := ne_of_none h hD
    obtain ⟨h1, h2⟩ := e.keep a u (by rw [upd_ne ne]; exact h) fun z => (Wd.add_live.mp z).elim n ne
    refine ⟨by rw [cutH_ne ne]; exact h1, fun z => h2 ?_⟩
    rcases z with z | z | z
    · exact .inl z
    · exact .inr (.inl z)
    · exact .inr (.inr (by rw [e.p]; exact .inl z))
  pk := fun a u hp h => by
    have ne := ne_of_none h hD
    rw [cutH_ne ne]
    exact e.pk a u (.inl hp) (by rw [upd_ne ne]; exact h)
  tup := fun a xs h => by
    have ne := ne_of_none h hD
    rw [cutH_ne ne]
    exact e.tup a xs (by rw [upd_ne ne]; exact h)
  frz := fun a x u h => by
    have ne := ne_of_none h hD
    rw [cutH_ne ne]
    exact e.frz a x u (by rw [upd_ne ne]; exact h)
end
section
variable {acc acc' : List V}
theorem sqT_wr {a : Addr} {xs : List V} (hD : H D = some (.lst acc)) (h : SqT K H a xs) : SqT K (upd H D (.lst acc')) a xs := by
  rcases h with (h | ⟨u, h⟩) | h
  · exact .inl (.inl (by rw [upd_ne (fun e => by subst e; rw [hD] at h; cases h)]; exact h))
  · exact .inl (.inr ⟨u, by rw [upd_ne (fun e => by subst e; rw [hD] at h; cases h)]; exact h⟩)
  · exact .inr h
mutual
theorem RD.wr (hD : H D = some (.lst acc)) (hl : w.live D) : ∀ {d : PyData} {v : V}, RD K w H d v → RD K w (upd H D (.lst acc')) d v
  | _, _, .non => .non
  | _, _, .bl b => .bl b
  | _, _, .int i => .int i
  | _, _, .str x => .str x
  | _, _, .lst h n r => .lst (by rw [upd_ne (fun e => n (by rw [e]; exact hl))]; exact h) n (RDs.wr hD hl r)
  | _, _, .tup h r => .tup (sqT_wr hD h) (RDs.wr hD hl r)
theorem RDs.wr (hD : H D = some (.lst acc)) (hl : w.live D) : ∀ {ds : List PyData} {vs : List V}, RDs K w H ds vs → RDs K w (upd H D (.lst acc')) ds vs
  | _, _, .nil => .nil
  | _, _, .cons a b => .cons (RD.wr hD hl a) (RDs.wr hD hl b)
end
theorem sqR_wr {a : Addr} {xs : List V} (hD : H D = some (.lst acc)) (h : SqR K H a xs) : SqR K (upd H D (.lst acc')) a xs := by
  rcases h with ⟨u, h⟩ | h
  · exact .inl ⟨u, by rw [upd_ne (fun e => by subst e; rw [hD] at h; cases h)]; exact h⟩
  · exact .inr h
theorem RW.wr (hD : H D = some (.lst acc)) (hl : w.live D) {x : W} {v : V} (h : RW K w H x v) : RW K w (upd H D (.lst acc')) x v := by
  cases h with
  | v h => exact .v (h.wr hD hl)
  | ro h1 h2 => exact .ro (sqR_wr hD h1) (h2.wr hD hl)
  | ref h => exact .ref h
  | loc h1 h2 => exact .loc h1 h2
theorem Rl.wr {m : Mem} (r : Rl K w m H) (hD : H D = some (.lst acc)) (hl : w.p D) : Rl K w m (upd H D (.lst acc')) where
  lenS := r.lenS
  lenL := r.lenL
  ndS := r.ndS
  ndL := r.ndL
  ap := r.ap
  apP := fun a h => by
    obtain ⟨h1, h2, u, h3⟩ := r.apP a h
    refine ⟨h1, h2, ?_⟩
    by_cases e : a = D
    · exact ⟨_, by rw [e, upd_same]⟩
    · exact ⟨u, by rw [upd_ne e]; exact h3⟩
  s := fun n u a h1 h2 => by
    have ne : a ≠ D := fun e => by subst e; exact (r.apP _ hl).1 (List.mem_of_getElem? h2)
    have z := r.s n u a h1 h2
    cases u with
    | lst ds => obtain ⟨xs, e1, q⟩ := z; exact ⟨xs, by rw [upd_ne ne]; exact e1, q.wr hD (.inr (.inr hl))⟩
    | ro ds => obtain ⟨u, xs, e1, q⟩ := z; exact ⟨u, xs, by rw [upd_ne ne]; exact e1, q.wr hD (.inr (.inr hl))⟩
    | ins c fs => exact z.elim
  l := fun n u x h1 h2 => by
    have z := r.l n u x h1 h2
    cases u with
    | dead => exact z
    | lst ds =>
      obtain ⟨a, xs, e0, e1, q⟩ := z
      subst e0
      have ne : a ≠ D := fun e => by subst e; exact (r.apP _ hl).2.1 (List.mem_of_getElem? h2)
      exact ⟨a, xs, rfl, by rw [upd_ne ne]; exact e1, paired_imp (fun _ _ r => r.wr hD (.inr (.inr hl))) q⟩
    | dic _ _ => exact z.elim
end
section
variable {w1 w2 : Wd} {H1 H2 : Hp} {acc : List V}
theorem Ext.cut2 (e : Ext w1 H1 w2 H2) (hp : w1.p = (w.add D).p) (hD : H1 D = some (.lst acc)) : Ext (w1.sub w.p) (cutH H1 D) (w2.sub w.p) (cutH H2 D) where
  mu := e.mu
  ln := e.ln
  l := e.l
  p := rfl
  keep := fun a u h n => by
    have ne : a ≠ D := fun z => by rw [z, cutH_self] at h; cases h
    rw [cutH_ne ne] at h ⊢
    have n1 : ¬ w1.live a := by
      rintro (z | z | z)
      · exact n (.inl z)
      · exact n (.inr (.inl z))
      · rw [hp] at z
        rcases z with z | z
        · exact n (.inr (.inr z))
        · exact ne z
    obtain ⟨g1, g2⟩ := e.keep a u h n1
    refine ⟨g1, fun z => g2 ?_⟩
    rcases z with z | z | z
    · exact .inl z
    · exact .inr (.inl z)
    · exact .inr (.inr (by rw [e.p, hp]; exact .inl z))
  pk := fun a u q h => by
    have ne : a ≠ D := fun z => by rw [z, cutH_self] at h; cases h
    rw [cutH_ne ne] at h ⊢
    exact e.pk a u (by rw [hp]; exact .inl q) h
  tup := fun a xs h => by
    have ne : a ≠ D := fun z => by rw [z, cutH_self] at h; cases h
    rw [cutH_ne ne] at h ⊢
    exact e.tup a xs h
  frz := fun a x u h => by
    have ne : a ≠ D := fun z => by rw [z, cutH_self] at h; cases h
    rw [cutH_ne ne] at h ⊢
    exact e.frz a x u h
theorem cut_upd {o : HO} : cutH (upd H D o) D = cutH H D := by
  funext a
  by_cases e : a = D
  · rw [e, cutH_self, cutH_self]
  · rw [cutH_ne e, cutH_ne e, upd_ne e]
theorem cut_none (h : H D = none) : cutH H D = H := by
  funext a
  by_cases e : a = D
  · rw [e, cutH_self, h]
  · rw [cutH_ne e]
end
end
end Z

set_option maxHeartbeats 1000000
/-! Z6: targets, what is walked. -/
namespace Z
open PySem PySem.Spec PyProof.Rows L2 RZ

/-! ### targets -/
mutual
def slots : G → List Nat
  | .nm i => [i]
  | .tp gs => slotss gs
def slotss : GS → List Nat
  | .nil => []
  | .cons g r => slots g ++ slotss r
end
/-- unlike only at some slots -/
def Like (vs : List Nat) (σ σ' : St) : Prop := σ'.length = σ.length ∧ ∀ j, j ∉ vs → σ'[j]? = σ[j]?
theorem Like.trans {a b : List Nat} {σ σ1 σ2 : St} (h : Like a σ σ1) (k : Like b σ1 σ2) : Like (a ++ b) σ σ2 := ⟨k.1.trans h.1, fun j hj => (k.2 j fun z => hj (List.mem_append_right _ z)).trans (h.2 j fun z => hj (List.mem_append_left _ z))⟩
def tG (K : PySem.W.Frag) (g : G) : TG := fun v σ H Q => ∃ ρ w a ρ', RE K w H ρ σ ∧ RW K w H a v ∧ asg g a ρ = some ρ' ∧ ∀ σ', RE K w H ρ' σ' → Like (slots g) σ σ' → Q σ' H
def tGs (K : PySem.W.Frag) (gs : GS) : TGs := fun vs σ H Q => ∃ ρ w as ρ', RE K w H ρ σ ∧ RWs K w H as vs ∧ asgs gs as ρ = some ρ' ∧ ∀ σ', RE K w H ρ' σ' → Like (slotss gs) σ σ' → Q σ' H
theorem PGimp {X : Cx} {e : Expr} {t t' : TG} (h : PG X e t) (i : ∀ v σ H Q, t' v σ H Q → t v σ H Q) : PG X e t' := ⟨fun pins s σ H v u Q I r q => h.run pins s σ H v u Q I r (i _ _ _ _ q)⟩
theorem PGsimp {X : Cx} {e : List Expr} {t t' : TGs} (h : PGs X e t) (i : ∀ v σ H Q, t' v σ H Q → t v σ H Q) : PGs X e t' := ⟨fun pins s σ H v u Q I r q => h.run pins s σ H v u Q I r (i _ _ _ _ q)⟩
theorem PG.or {X : Cx} {e : Expr} {t u : TG} (h : PG X e t) (k : PG X e u) : PG X e (fun v σ H Q => t v σ H Q ∨ u v σ H Q) := ⟨fun pins s σ H v x Q I r q => q.elim (fun q => h.run pins s σ H v x Q I r q) (fun q => k.run pins s σ H v x Q I r q)⟩
def lenGS : GS → Nat
  | .nil => 0
  | .cons _ r => lenGS r + 1
/-- a name that may be stored -/
def locN (Γ : Gm) (x : Str) : Bool := decide (Γ.on.lookup x = some .local) || decide (Γ.on.lookup x = some .cell)
mutual
/-- own: the names whose cells are made here (a comprehension's), none: a def -/
def chkG (Γ : Gm) : G → Expr → Bool
  | .nm i, .Name x _ => decide (Γ.N[i]? = some x) && locN Γ x
  | .tp gs, .Tuple es _ _ => chkGs Γ gs es
  | _, _ => false
def chkGs (Γ : Gm) : GS → List Expr → Bool
  | .nil, [] => true
  | .cons g r, e :: es => chkG Γ g e && chkGs Γ r es
  | _, _ => false
end
theorem asgs_len : ∀ {gs : GS} {as : List W} {ρ ρ' : Env}, asgs gs as ρ = some ρ' → as.length = lenGS gs
  | .nil, [], _, _, _ => rfl
  | .cons g r, a :: as, ρ, ρ', h => by
    unfold asgs at h
    cases q : asg g a ρ with
    | none => rw [q] at h; cases h
    | some ρ1 =>
      rw [q] at h
      exact congrArg (· + 1) (asgs_len (gs := r) (as := as) h)
  | .nil, _ :: _, _, _, h => by unfold asgs at h; cases h
  | .cons _ _, [], _, _, h => by unfold asgs at h; cases h
theorem assignEach_cons {e : Expr} {es : List Expr} {env : PySem.Env} (h : ∀ t p, e ≠ .Starred t p) : assignEach (e :: es) env = (false, assign e env) :: assignEach es env := by
  cases e <;> first | rfl | exact absurd rfl (h _ _)
theorem chkG_star {Γ : Gm} {g : G} {e : Expr} (h : chkG Γ g e = true) : ∀ t p, e ≠ .Starred t p := by
  intro t p z
  subst z
  cases g <;> exact absurd h (by unfold chkG; exact Bool.false_ne_true)
theorem chkGs_each {Γ : Gm} {env : PySem.Env} : ∀ {gs : GS} {es : List Expr}, chkGs Γ gs es = true → (assignEach es env).length = lenGS gs ∧ (assignEach es env).findIdx? (·.1) = none
  | .nil, [], _ => ⟨rfl, rfl⟩
  | .cons g r, e :: es, h => by
    unfold chkGs at h
    rw [Bool.and_eq_true] at h
    obtain ⟨i1, i2⟩ := chkGs_each (env := env) (gs := r) (es := es) h.2
    rw [assignEach_cons (chkG_star h.1)]
    refine ⟨congrArg (· + 1) i1, ?_⟩
    rw [List.findIdx?_cons]
    simp only [Bool.false_eq_true, if_false, i2, Option.map_none]
  | .nil, _ :: _, h => by unfold chkGs at h; cases h
  | .cons _ _, [], h => by unfold chkGs at h; cases h
theorem asg_nm {i : Nat} {a : W} {ρ ρ' : Env} (h : asg (.nm i) a ρ = some ρ') : i < ρ.length ∧ ρ' = ρ.set i (some a) := by
  simp only [asg] at h
  split at h
  · rename_i hi
    cases h
    exact ⟨hi, rfl⟩
  · cases h
theorem asg_tp {gs : GS} {a : W} {ρ ρ' : Env} (h : asg (.tp gs) a ρ = some ρ') : ∃ ds, (a = .v (.tuple ds) ∨ a = .v (.list ds)) ∧ asgs gs (ds.map .v) ρ = some ρ' := by
  cases a with
  | v d => cases d with
    | tuple ds => simp only [asg] at h; exact ⟨ds, .inl rfl, h⟩
    | list ds => simp only [asg] at h; exact ⟨ds, .inr rfl, h⟩
    | _ => simp only [asg] at h; cases h
  | _ => simp only [asg] at h; cases h
theorem asgs_nil {as : List W} {ρ ρ' : Env} (h : asgs .nil as ρ = some ρ') : as = [] ∧ ρ' = ρ := by
  cases as with
  | nil => simp only [asgs] at h; cases h; exact ⟨rfl, rfl⟩
  | cons a r => simp only [asgs] at h; cases h
theorem asgs_cons {g : G} {r : GS} {as : List W} {ρ ρ' : Env} (h : asgs (.cons g r) as ρ = some ρ') : ∃ a t ρ1, as = a :: t ∧ asg g a ρ = some ρ1 ∧ asgs r t ρ1 = some ρ' := by
  cases as with
  | nil => simp only [asgs] at h; cases h
  | cons a t =>
    simp only [asgs] at h
    cases q : asg g a ρ with
    | none => rw [q] at h; cases h
    | some ρ1 => rw [q] at h; exact ⟨a, t, ρ1, rfl, q, h⟩
theorem chkG_nm {Γ : Gm} {i : Nat} {e : Expr} (h : chkG Γ (.nm i) e = true) : ∃ x p, e = .Name x p ∧ Γ.N[i]? = some x ∧ locN Γ x = true := by
  cases e <;> first | exact absurd h Bool.false_ne_true | skip
  rename_i x p
  have h : (decide (Γ.N[i]? = some x) && locN Γ x) = true := h
  rw [Bool.and_eq_true, decide_eq_true_eq] at h
  exact ⟨x, p, rfl, h⟩
theorem chkG_tp {Γ : Gm} {gs : GS} {e : Expr} (h : chkG Γ (.tp gs) e = true) : ∃ es k p, e = .Tuple es k p ∧ chkGs Γ gs es = true := by
  cases e <;> first | exact absurd h Bool.false_ne_true | exact ⟨_, _, _, rfl, h⟩
theorem chkGs_nil {Γ : Gm} {es : List Expr} (h : chkGs Γ .nil es = true) : es = [] := by
  cases es with
  | nil => rfl
  | cons _ _ => exact absurd h Bool.false_ne_true
theorem chkGs_cons {Γ : Gm} {g : G} {r : GS} {es : List Expr} (h : chkGs Γ (.cons g r) es = true) : ∃ e t, es = e :: t ∧ chkG Γ g e = true ∧ chkGs Γ r t = true := by
  cases es with
  | nil => exact absurd h Bool.false_ne_true
  | cons e t => exact ⟨e, t, rfl, Bool.and_eq_true_iff.mp h⟩
/-- where names may be stored: in a def all, in a comprehension's block its own -/
structure Sto (X : Cx) (Γ : Gm) : Prop where
  N : X.N = Γ.N
  nd : X.N.Nodup
  calm : X.calm = true
  s : ∀ x, locN Γ x = true → Loc X.env.scope x ∧ (X.fn x = true ∨ X.env.scope.names.lookup x = some .local)
section
variable {X : Cx} {Γ : Gm}
mutual
theorem pgZ (S : Sto X Γ) : ∀ (g : G) (e : Expr), chkG Γ g e = true → PG X e (tG X.K g)
  | .nm i, e, h => by
    obtain ⟨x, p, rfl, h1, h2⟩ := chkG_nm h
    obtain ⟨l1, l2⟩ := S.s x h2
    refine PGimp (pg_name (i := i) S.nd (by rw [S.N]; exact h1) l1 l2) fun v σ H Q q => ?_
    obtain ⟨ρ, w, a, ρ', re, r, e, q⟩ := q
    obtain ⟨_, rfl⟩ := asg_nm e
    refine q _ (re.set r) ⟨by simp, fun j hj => ?_⟩
    have : i ≠ j := fun z => hj (by simp [slots, z])
    rw [List.getElem?_set_ne this]
  | .tp gs, e, h => by
    obtain ⟨es, k, p, rfl, h⟩ := chkG_tp h
    have ih := pgsZ S gs es h
    obtain ⟨c1, c2⟩ := chkGs_each (env := X.env) h
    refine PGimp (PG.or (pg_tup (n := lenGS gs) S.calm ih c1 c2) (pg_unl (n := lenGS gs) S.calm ih c1 c2)) fun v σ H Q q => ?_
    obtain ⟨ρ, w, a, ρ', re, r, e, q⟩ := q
    obtain ⟨ds, rfl | rfl, e⟩ := asg_tp e
    · cases r with
      | v r =>
        obtain ⟨p, xs, rfl, h1, h2⟩ := RD.tup_ r
        have hl := asgs_len e
        rw [List.length_map, h2.length] at hl
        exact .inl ⟨p, xs, rfl, h1, hl, ρ, w, _, ρ', re, h2.ws, e, q⟩
    · cases r with
      | v r =>
        cases r with
        | lst h1 _ h2 =>
          have hl := asgs_len e
          rw [List.length_map, h2.length] at hl
          exact .inr ⟨_, _, rfl, SqL.of h1, hl, ρ, w, _, ρ', re, h2.ws, e, q⟩
theorem pgsZ (S : Sto X Γ) : ∀ (gs : GS) (es : List Expr), chkGs Γ gs es = true → PGs X es (tGs X.K gs)
  | .nil, es, h => by
    obtain rfl := chkGs_nil h
    refine PGsimp pgs_nil fun v σ H Q q => ?_
    obtain ⟨ρ, w, as, ρ', re, r, e, q⟩ := q
    obtain ⟨rfl, rfl⟩ := asgs_nil e
    cases r
    exact ⟨rfl, q _ re ⟨rfl, fun _ _ => rfl⟩⟩
  | .cons g r, es, h => by
    obtain ⟨e, t, rfl, h1, h2⟩ := chkGs_cons h
    have i1 := pgZ S g e h1
    have i2 := pgsZ S r t h2
    refine PGsimp (pgs_cons i1 i2 (by rw [assignEach_cons (chkG_star h1)]; rfl)) fun v σ H Q q => ?_
    obtain ⟨ρ, w, as, ρ', re, rr, e, q⟩ := q
    obtain ⟨a, t, ρ1, rfl, e1, e2⟩ := asgs_cons e
    cases rr with
    | cons r1 r2 =>
      refine ⟨_, _, rfl, ρ, w, a, ρ1, re, r1, e1, fun σ1 re1 l1 => ?_⟩
      exact ⟨ρ1, w, _, ρ', re1, r2, e2, fun σ2 re2 l2 => q σ2 re2 (l1.trans l2)⟩
end
end

/-! ### what is walked -/
/-- an iterator that gives these data, one behind another, as long as G stands -/
structure WalkZ (K : PySem.W.Frag) (J : It) (ds : List PyData) (G : Wd → Hp → Prop) : Prop where
  ext : ∀ w H w' H', G w H → Ext w H w' H' → G w' H'
  go : ∀ i w H, i < ds.length → G w H → J.go i H
  stop : ∀ w H, G w H → J.stop ds.length H
  add : ∀ w H D o, H D = none → G w H → G (w.add D) (upd H D o)
  wr : ∀ w H D acc acc', w.live D → H D = some (.lst acc) → G w H → G w (upd H D (.lst acc'))
  yld : ∀ i w m H x H' d, ds[i]? = some d → G w H → Rl K w m H → J.yld i H x H' → Ext w H w H' ∧ Rl K w m H' ∧ RD K w H' d x
def relI (K : PySem.W.Frag) : Wd → Hp → List PyData → It → Prop := fun w H ds J => ∃ G, WalkZ K J ds G ∧ G w H
def tI (K : PySem.W.Frag) (C : Orc) (ω : St → EW) (it : IT) : TI := fun σ H R => ∃ ρ m w, RE K w H ρ σ ∧ Rl K w m H ∧ Cont K w H (relI K) R (ω σ) (evI C it ρ m)
theorem PIimp {X : Cx} {tg e : Expr} {t t' : TI} (h : PI X tg e t) (i : ∀ σ H R, t' σ H R → t σ H R) : PI X tg e t' := ⟨fun pins s σ H R I q => h.run pins s σ H R I (i _ _ _ q)⟩
section
variable {K : PySem.W.Frag} {a b : Addr} {xs ys : List V} {ds es : List PyData}
abbrev gL (K : PySem.W.Frag) (a : Addr) (xs : List V) (ds : List PyData) (w : Wd) (H : Hp) : Prop := H a = some (.lst xs) ∧ ¬ w.live a ∧ RDs K w H ds xs
abbrev gT (K : PySem.W.Frag) (a : Addr) (xs : List V) (ds : List PyData) (w : Wd) (H : Hp) : Prop := SqT K H a xs ∧ RDs K w H ds xs
theorem gL_add {w : Wd} {H : Hp} {D : Addr} {o : HO} (hD : H D = none) (g : gL K a xs ds w H) : gL K a xs ds (w.add D) (upd H D o) :=
  ⟨by rw [upd_ne (ne_of_none g.1 hD)]; exact g.1, fun z => (Wd.add_live.mp z).elim g.2.1 fun e => ne_of_none g.1 hD e, g.2.2.add hD⟩
theorem gL_wr {w : Wd} {H : Hp} {D : Addr} {acc acc' : List V} (hl : w.live D) (hD : H D = some (.lst acc)) (g : gL K a xs ds w H) : gL K a xs ds w (upd H D (.lst acc')) :=
  ⟨by rw [upd_ne (fun e => g.2.1 (by rw [e]; exact hl))]; exact g.1, g.2.1, g.2.2.wr hD hl⟩
theorem gT_add {w : Wd} {H : Hp} {D : Addr} {o : HO} (hD : H D = none) (g : gT K a xs ds w H) : gT K a xs ds (w.add D) (upd H D o) := ⟨sqT_upd hD g.1, g.2.add hD⟩
theorem gT_wr {w : Wd} {H : Hp} {D : Addr} {acc acc' : List V} (hl : w.live D) (hD : H D = some (.lst acc)) (g : gT K a xs ds w H) : gT K a xs ds w (upd H D (.lst acc')) := ⟨sqT_wr hD g.1, g.2.wr hD hl⟩
theorem wz_list (G : Wd → Hp → Prop) (hG : ∀ w H, G w H → H a = some (.lst xs) ∧ ¬ w.live a ∧ RDs K w H ds xs) (ext : ∀ w H w' H', G w H → Ext w H w' H' → G w' H')
    (add : ∀ w H D o, H D = none → G w H → G (w.add D) (upd H D o)) (wr : ∀ w H D acc acc', w.live D → H D = some (.lst acc) → G w H → G w (upd H D (.lst acc'))) : WalkZ K (Itl K a) ds G where
  ext := ext
  add := add
  wr := wr
  go := fun i w H hi g => by
    obtain ⟨h1, _, h2⟩ := hG w H g
    rw [h2.length] at hi
    exact ⟨xs, xs[i], SqL.of h1, by simp [hi]⟩
  stop := fun w H g => by
    obtain ⟨h1, _, h2⟩ := hG w H g
    exact ⟨xs, SqL.of h1, by rw [h2.length]; exact Nat.le_refl _⟩
  yld := fun i w m H x H' d e g r y => by
    obtain ⟨h1, _, h2⟩ := hG w H g
    obtain ⟨rfl, y⟩ := y
    obtain ⟨v, e1, e2⟩ := h2.get e
    have := y xs (SqL.of h1)
    rw [e1] at this
    cases this
    exact ⟨Ext.refl _ _, r, e2⟩
theorem wz_ro : WalkZ K (Itl K a) ds (fun w H => (∃ o, H a = some (.frz o (.lst xs))) ∧ RDs K w H ds xs) where
  ext := fun w H w' H' g e => ⟨by obtain ⟨o, h⟩ := g.1; exact ⟨o, e.frz _ _ _ h⟩, g.2.ext e⟩
  add := fun w H D o hD g => ⟨by obtain ⟨u, h⟩ := g.1; exact ⟨u, by rw [upd_ne (ne_of_none h hD)]; exact h⟩, g.2.add hD⟩
  wr := fun w H D acc acc' hl hD g => ⟨by obtain ⟨u, h⟩ := g.1; exact ⟨u, by rw [upd_ne (fun e => by subst e; rw [hD] at h; cases h)]; exact h⟩, g.2.wr hD hl⟩
  go := fun i w H hi g => by
    rw [g.2.length] at hi
    exact ⟨xs, xs[i], .inl (.inr g.1), by simp [hi]⟩
  stop := fun w H g => ⟨xs, .inl (.inr g.1), by rw [g.2.length]; exact Nat.le_refl _⟩
  yld := fun i w m H x H' d e g r y => by
    obtain ⟨rfl, y⟩ := y
    obtain ⟨v, e1, e2⟩ := g.2.get e
    have := y xs (.inl (.inr g.1))
    rw [e1] at this
    cases this
    exact ⟨Ext.refl _ _, r, e2⟩
theorem wz_roR : WalkZ K (Itl K a) ds (fun w H => SqR K H a xs ∧ RDs K w H ds xs) where
  ext := fun w H w' H' g e => ⟨g.1.elim (fun ⟨o, z⟩ => .inl ⟨o, e.frz _ _ _ z⟩) .inr, g.2.ext e⟩
  add := fun w H D o hD g => ⟨sqR_add hD g.1, g.2.add hD⟩
  wr := fun w H D acc acc' hl hD g => ⟨sqR_wr hD g.1, g.2.wr hD hl⟩
  go := fun i w H hi g => by
    rw [g.2.length] at hi
    exact ⟨xs, xs[i], g.1.l, by simp [hi]⟩
  stop := fun w H g => ⟨xs, g.1.l, by rw [g.2.length]; exact Nat.le_refl _⟩
  yld := fun i w m H x H' d e g r y => by
    obtain ⟨rfl, y⟩ := y
    obtain ⟨v, e1, e2⟩ := g.2.get e
    have := y xs g.1.l
    rw [e1] at this
    cases this
    exact ⟨Ext.refl _ _, r, e2⟩
theorem wz_tup : WalkZ K (Itt K a) ds (fun w H => SqT K H a xs ∧ RDs K w H ds xs) where
  ext := fun w H w' H' g e => ⟨sqT_ext e g.1, g.2.ext e⟩
  add := fun w H D o hD g => gT_add hD g
  wr := fun w H D acc acc' hl hD g => gT_wr hl hD g
  go := fun i w H hi g => by
    have hi : i < ds.length := hi
    rw [g.2.length] at hi
    exact ⟨xs, xs[i], g.1, by simp [hi]⟩
  stop := fun w H g => ⟨xs, g.1, by rw [g.2.length]; exact Nat.le_refl _⟩
  yld := fun i w m H x H' d e g r y => by
    obtain ⟨rfl, y⟩ := y
    obtain ⟨v, e1, e2⟩ := g.2.get e
    have := y xs g.1
    rw [e1] at this
    cases this
    exact ⟨Ext.refl _ _, r, e2⟩
theorem wz_listG : WalkZ K (Itl K a) ds (fun w H => H a = some (.lst xs) ∧ ¬ w.live a ∧ RDs K w H ds xs) :=
  wz_list _ (fun _ _ g => g) (fun w H w' H' g e => ⟨(e.keep _ _ g.1 g.2.1).1, (e.keep _ _ g.1 g.2.1).2, g.2.2.ext e⟩) (fun w H D o hD g => gL_add hD g) (fun w H D acc acc' hl hD g => gL_wr hl hD g)
theorem rgI_get : ∀ (n i : Nat) (a : Int), i < n → (rgI a n)[i]? = some (.int (a + i))
  | n + 1, 0, a, _ => by simp [rgI]
  | n + 1, i + 1, a, h => by
    rw [rgI, List.getElem?_cons_succ, rgI_get n i (a + 1) (Nat.lt_of_succ_lt_succ h)]
    congr 2
    push_cast
    omega
theorem rgI_len : ∀ (n : Nat) (a : Int), (rgI a n).length = n
  | 0, _ => rfl
  | n + 1, a => congrArg (· + 1) (rgI_len n (a + 1))
theorem wz_range {lo : Int} {n : Nat} : WalkZ K (Itr lo n) (rgI lo n) (fun _ _ => True) where
  ext := fun _ _ _ _ _ _ => trivial
  add := fun _ _ _ _ _ _ => trivial
  wr := fun _ _ _ _ _ _ _ _ => trivial
  go := fun i w H hi _ => by rw [rgI_len] at hi; exact hi
  stop := fun w H _ => by rw [rgI_len]; exact Nat.le_refl n
  yld := fun i w m H x H' d e _ r y => by
    obtain ⟨rfl, rfl⟩ := y
    have hi : i < n := by
      have := (List.getElem?_eq_some_iff.mp e).1
      rw [rgI_len] at this
      exact this
    rw [rgI_get n i lo hi] at e
    cases e
    exact ⟨Ext.refl _ _, r, .int _⟩
theorem wz_str {z : Str} : WalkZ K (Its z) (z.cps.toList.map fun c => .str ⟨#[c]⟩) (fun _ _ => True) where
  ext := fun _ _ _ _ _ _ => trivial
  add := fun _ _ _ _ _ _ => trivial
  wr := fun _ _ _ _ _ _ _ _ => trivial
  go := fun i w H hi _ => by
    show i < z.cps.size
    simpa using hi
  stop := fun w H _ => by simp [Its]
  yld := fun i w m H x H' d e _ r y => by
    obtain ⟨rfl, c, h, rfl⟩ := y
    rw [List.getElem?_map, Array.getElem?_toList, h] at e
    cases e
    exact ⟨Ext.refl _ _, r, .str _⟩
theorem enmD_get : ∀ (ds : List PyData) (i : Nat) (k : Int), (enmD k ds)[i]? = (ds[i]?).map fun d => .tuple [.int (k + i), d]
  | [], i, k => by simp [enmD]
  | d :: r, 0, k => by simp [enmD]
  | d :: r, i + 1, k => by
    rw [enmD, List.getElem?_cons_succ, List.getElem?_cons_succ, enmD_get r i (k + 1)]
    congr 2
    funext d
    congr 3
    push_cast
    omega
theorem enmD_len : ∀ (ds : List PyData) (k : Int), (enmD k ds).length = ds.length
  | [], _ => rfl
  | _ :: r, k => congrArg (· + 1) (enmD_len r (k + 1))
theorem wz_enum : WalkZ K (Ite K a) (enmD 0 ds) (fun w H => H a = some (.lst xs) ∧ ¬ w.live a ∧ RDs K w H ds xs) where
  ext := fun w H w' H' g e => ⟨(e.keep _ _ g.1 g.2.1).1, (e.keep _ _ g.1 g.2.1).2, g.2.2.ext e⟩
  add := fun w H D o hD g => gL_add hD g
  wr := fun w H D acc acc' hl hD g => gL_wr hl hD g
  go := fun i w H hi g => by
    rw [enmD_len, g.2.2.length] at hi
    exact ⟨xs, xs[i], SqL.of g.1, by simp [hi]⟩
  stop := fun w H g => ⟨xs, SqL.of g.1, by rw [enmD_len, g.2.2.length]; exact Nat.le_refl _⟩
  yld := fun i w m H x H' d e g r y => by
    obtain ⟨T, z, rfl, hT, rfl, y⟩ := y
    rw [enmD_get] at e
    cases q : ds[i]? with
    | none => rw [q] at e; cases e
    | some d0 =>
      rw [q] at e
      cases e
      obtain ⟨v, e1, e2⟩ := g.2.2.get q
      have := y xs (SqL.of g.1)
      rw [e1] at this
      cases this
      have ex := ext_upd (o := .tup [.int (i : Nat), z]) r hT
      refine ⟨ex, r.upd_ hT, .tup (SqT.of upd_same) (.cons ?_ (.cons (e2.ext ex) .nil))⟩
      rw [Int.zero_add]
      exact .int _
theorem zipD_get : ∀ (ds es : List PyData) (i : Nat) (d : PyData), (zipD ds es)[i]? = some d → ∃ x y, ds[i]? = some x ∧ es[i]? = some y ∧ d = .tuple [x, y]
  | x :: xs, y :: ys, 0, d, h => by
    simp [zipD] at h
    exact ⟨x, y, rfl, rfl, h.symm⟩
  | x :: xs, y :: ys, i + 1, d, h => by
    rw [zipD, List.getElem?_cons_succ] at h
    exact zipD_get xs ys i d h
  | [], _, i, d, h => by simp [zipD] at h
  | _ :: _, [], i, d, h => by simp [zipD] at h
theorem zipD_len : ∀ (ds es : List PyData), (zipD ds es).length = min ds.length es.length
  | x :: xs, y :: ys => by
    rw [zipD, List.length_cons, zipD_len xs ys, List.length_cons, List.length_cons]
    omega
  | [], es => by simp [zipD]
  | _ :: _, [] => by simp [zipD]
theorem wz_zip : WalkZ K (Itz K a b) (zipD ds es) (fun w H => (H a = some (.lst xs) ∧ ¬ w.live a ∧ RDs K w H ds xs) ∧ H b = some (.lst ys) ∧ ¬ w.live b ∧ RDs K w H es ys) where
  ext := fun w H w' H' g e => ⟨⟨(e.keep _ _ g.1.1 g.1.2.1).1, (e.keep _ _ g.1.1 g.1.2.1).2, g.1.2.2.ext e⟩, (e.keep _ _ g.2.1 g.2.2.1).1, (e.keep _ _ g.2.1 g.2.2.1).2, g.2.2.2.ext e⟩
  add := fun w H D o hD g => ⟨gL_add hD g.1, gL_add hD g.2⟩
  wr := fun w H D acc acc' hl hD g => ⟨gL_wr hl hD g.1, gL_wr hl hD g.2⟩
  go := fun i w H hi g => by
    rw [zipD_len, g.1.2.2.length, g.2.2.2.length] at hi
    have h1 : i < xs.length := by omega
    have h2 : i < ys.length := by omega
    exact ⟨xs, ys, xs[i], ys[i], SqL.of g.1.1, SqL.of g.2.1, by simp [h1], by simp [h2]⟩
  stop := fun w H g => ⟨xs, ys, SqL.of g.1.1, SqL.of g.2.1, by rw [zipD_len, g.1.2.2.length, g.2.2.2.length]; omega⟩
  yld := fun i w m H x H' d e g r y => by
    obtain ⟨T, u, v, rfl, hT, rfl, y1, y2⟩ := y
    obtain ⟨d1, d2, q1, q2, rfl⟩ := zipD_get _ _ _ _ e
    obtain ⟨v1, e1, r1⟩ := g.1.2.2.get q1
    obtain ⟨v2, e2, r2⟩ := g.2.2.2.get q2
    have z1 := y1 xs (SqL.of g.1.1)
    have z2 := y2 ys (SqL.of g.2.1)
    rw [e1] at z1
    rw [e2] at z2
    cases z1
    cases z2
    have ex := ext_upd (o := .tup [u, v]) r hT
    exact ⟨ex, r.upd_ hT, .tup (SqT.of upd_same) (.cons (r1.ext ex) (.cons (r2.ext ex) .nil))⟩
theorem wz_zipT : WalkZ K (ItzT K a b) (zipD ds es) (fun w H => (SqT K H a xs ∧ RDs K w H ds xs) ∧ SqT K H b ys ∧ RDs K w H es ys) where
  ext := fun w H w' H' g e => ⟨⟨sqT_ext e g.1.1, g.1.2.ext e⟩, sqT_ext e g.2.1, g.2.2.ext e⟩
  add := fun w H D o hD g => ⟨gT_add hD g.1, gT_add hD g.2⟩
  wr := fun w H D acc acc' hl hD g => ⟨gT_wr hl hD g.1, gT_wr hl hD g.2⟩
  go := fun i w H hi g => by
    rw [zipD_len, g.1.2.length, g.2.2.length] at hi
    have h1 : i < xs.length := by omega
    have h2 : i < ys.length := by omega
    exact ⟨xs, ys, xs[i], ys[i], g.1.1, g.2.1, by simp [h1], by simp [h2]⟩
  stop := fun w H g => ⟨xs, ys, g.1.1, g.2.1, by rw [zipD_len, g.1.2.length, g.2.2.length]; omega⟩
  yld := fun i w m H x H' d e g r y => by
    obtain ⟨T, u, v, rfl, hT, rfl, y1, y2⟩ := y
    obtain ⟨d1, d2, q1, q2, rfl⟩ := zipD_get _ _ _ _ e
    obtain ⟨v1, e1, r1⟩ := g.1.2.get q1
    obtain ⟨v2, e2, r2⟩ := g.2.2.get q2
    have z1 := y1 xs g.1.1
    have z2 := y2 ys g.2.1
    rw [e1] at z1
    rw [e2] at z2
    cases z1
    cases z2
    have ex := ext_upd (o := .tup [u, v]) r hT
    exact ⟨ex, r.upd_ hT, .tup (SqT.of upd_same) (.cons (r1.ext ex) (.cons (r2.ext ex) .nil))⟩
end
end Z

set_option maxHeartbeats 1000000
/-! Z7: places, slices, new lists, methods, truth, by values. -/
namespace Z
open PySem PySem.Spec PyProof.Rows L2

section
variable {K : PySem.W.Frag} {w w' : Wd} {H H' : Hp} {m : Mem}
theorem szL_eq : sizeLine = szL := sizeLine_eq
theorem pd_tru {d : PyData} {v : V} {k : Bool} (h : PD K w H d v) (e : truD d = some k) : TruV K v H k := by
  have hs := szL_eq
  cases d with
  | none => cases h; cases e; exact rfl
  | bool b => cases h; cases e; exact rfl
  | int i => cases h; cases e; exact rfl
  | str x =>
    cases h
    unfold truD at e
    simp only at e
    split at e
    · cases e; exact ⟨by omega, rfl⟩
    · cases e
  | list ds =>
    obtain ⟨a, xs, rfl, hq, r⟩ := h
    cases e
    refine .inl ⟨xs, hq, ?_⟩
    cases r <;> rfl
  | tuple ds =>
    obtain ⟨a, xs, rfl, hq, r⟩ := RD.tup_ h
    cases e
    refine .inr (.inl ⟨xs, hq, ?_⟩)
    cases r <;> rfl
  | dict kvs => cases h
theorem truW_ok {x : W} {v : V} {k : Bool} (r : Rl K w m H) (h : RW K w H x v) (e : truW m x = some k) : TruV K v H k := by
  cases x with
  | v d =>
    cases h with
    | v h => exact pd_tru h.pd e
  | ro ds =>
    cases h with
    | ro h1 h2 =>
      cases e
      refine .inl ⟨_, h1.l, ?_⟩
      cases h2 <;> rfl
  | ref n =>
    cases h with
    | ref h =>
      unfold truW at e
      cases q : m.S[n]? with
      | none => simp only [q] at e; cases e
      | some o =>
        simp only [q] at e
        have z := r.mu_ h q
        cases o with
        | lst ds =>
          cases e
          obtain ⟨xs, e1, e2⟩ := z
          refine .inl ⟨xs, SqL.of e1, ?_⟩
          cases e2 <;> rfl
        | ro ds =>
          cases e
          obtain ⟨o, xs, e1, e2⟩ := z
          refine .inl ⟨xs, .inl (.inr ⟨o, e1⟩), ?_⟩
          cases e2 <;> rfl
        | ins c fs => cases e
  | loc n =>
    unfold truW at e
    cases q : m.L[n]? with
    | none => simp only [q] at e; cases e
    | some o =>
      simp only [q] at e
      cases o with
      | lst ws =>
        obtain ⟨a, xs, rfl, h1, h2, h3⟩ := r.l_ (o := .dead) h q
        cases e
        refine .inl ⟨xs, SqL.of h2, ?_⟩
        cases h3 <;> rfl
      | dead => cases e
      | dic _ _ => cases e

/-- what itemsW says -/
theorem itemsW_ok {x : W} {v : V} {ws : List W} (r : Rl K w m H) (h : RW K w H x v) (e : itemsW m x = some ws) : ∃ a xs, v = .ref a ∧ (SqL K H a xs ∨ SqT K H a xs) ∧ RWs K w H ws xs := by
  cases x with
  | v d =>
    cases h with
    | v h =>
      cases d with
      | list ds =>
        cases e
        obtain ⟨a, xs, rfl, hq, r⟩ := h.pd
        exact ⟨a, xs, rfl, .inl hq, r.ws⟩
      | tuple ds =>
        cases e
        obtain ⟨a, xs, rfl, hq, r⟩ := RD.tup_ h
        exact ⟨a, xs, rfl, .inr hq, r.ws⟩
      | _ => cases e
  | ro ds =>
    cases h with
    | ro h1 h2 =>
      cases e
      exact ⟨_, _, rfl, .inl h1.l, h2.ws⟩
  | ref n =>
    cases h with
    | ref h =>
      unfold itemsW at e
      cases q : m.S[n]? with
      | none => simp only [q] at e; cases e
      | some o =>
        simp only [q] at e
        have z := r.mu_ h q
        cases o with
        | lst ds =>
          cases e
          obtain ⟨xs, e1, e2⟩ := z
          exact ⟨_, xs, rfl, .inl (SqL.of e1), e2.ws⟩
        | ro ds =>
          cases e
          obtain ⟨o, xs, e1, e2⟩ := z
          exact ⟨_, xs, rfl, .inl (.inl (.inr ⟨o, e1⟩)), e2.ws⟩
        | ins c fs => cases e
  | loc n =>
    unfold itemsW at e
    cases q : m.L[n]? with
    | none => simp only [q] at e; cases e
    | some o =>
      simp only [q] at e
      cases o with
      | lst ws =>
        obtain ⟨a, xs, rfl, h1, h2, h3⟩ := r.l_ (o := .dead) h q
        cases e
        exact ⟨a, xs, rfl, .inl (SqL.of h2), h3⟩
      | dead => cases e
      | dic _ _ => cases e
theorem atI_rel {ws : List W} {xs : List V} {i : Int} {a : W} (h : RWs K w H ws xs) (e : Z.atI ws i = some a) : ∃ v, L2.atI xs i = some v ∧ RW K w H a v := by
  unfold Z.atI at e
  unfold L2.atI
  have hl := h.length
  rw [← hl]
  cases q : Z.ixN ws.length i with
  | none => rw [q] at e; cases e
  | some j =>
    rw [q] at e
    have q' : L2.ixN ws.length i = some j := q
    rw [q']
    exact h.get e
theorem ix_ok {X : Cx} : IxR X (fun x y H Q => ∃ w m a b c, Rl X.K w m H ∧ RW X.K w H a x ∧ RW X.K w H b y ∧ ixW m a b = some c ∧ ∀ v, RW X.K w H c v → Q v H) := by
  intro value slice pins s σ H x y v u Q I rx ry h hs
  obtain ⟨w, m, a, b, c, r, ha, hb, e, q⟩ := h
  unfold ixW at e
  split at e
  · rename_i i
    cases hb with
    | v hb =>
      cases (RD.int_ hb)
      split at e
      · rename_i z
        cases ha with
        | v ha =>
          cases (RD.str_ ha)
          split at e
          · rename_i hz
            cases qq : Z.atI z.cps.toList i with
            | none => rw [qq] at e; cases e
            | some c' =>
              rw [qq] at e
              cases e
              exact ix_str value slice pins s σ H _ _ v u Q I rx ry ⟨z, i, c', rfl, rfl, by rw [szL_eq]; exact hz, qq, q _ (.v (.str _))⟩ hs
          · cases e
      · rename_i w0 hw
        cases qq : itemsW m a with
        | none => rw [qq] at e; cases e
        | some ws =>
          rw [qq] at e
          obtain ⟨p, xs, rfl, hq, hr⟩ := itemsW_ok r ha qq
          obtain ⟨v', e1, e2⟩ := atI_rel hr e
          rcases hq with hq | hq
          · exact ix_list value slice pins s σ H _ _ v u Q I rx ry ⟨p, xs, i, v', rfl, rfl, hq, e1, q _ e2⟩ hs
          · exact ix_tup value slice pins s σ H _ _ v u Q I rx ry ⟨p, xs, i, v', rfl, rfl, hq, e1, q _ e2⟩ hs
  · cases e
theorem cut_rel {ds : List PyData} {xs : List V} (lo hi : Option Int) (h : RDs K w H ds xs) : RDs K w H (Z.cut ds lo hi) (cutV xs lo hi) := by
  have e : ∀ (n d : Nat) (o : Option Int), Z.sIx n d o = HT.sIx n d o := fun n d o => by cases o <;> rfl
  unfold Z.cut cutV
  rw [e, e, h.length]
  exact (h.drop _).take _
theorem sl_ok {X : Cx} : SlR X (fun x lo hi H Q => ∃ w m a d, Rl X.K w m H ∧ RW X.K w H a x ∧ slW m a lo hi = some d ∧ Same X.K w m H (fun w H v => RD X.K w H d v) Q) := by
  intro pins s σ H x v vl vu lo hi sl Q I rx hs pl pu h
  obtain ⟨w, m, a, d, r, ha, e, q⟩ := h
  unfold slW at e
  cases qq : peek m a with
  | none => rw [qq] at e; cases e
  | some d' =>
    rw [qq] at e
    have hp := peek_ok r ha qq
    cases d' with
    | list ds =>
      cases e
      obtain ⟨p, xs, rfl, hq, hr⟩ := hp
      exact sl_list pins s σ H _ v vl vu lo hi sl Q I rx hs pl pu ⟨p, xs, rfl, hq, q.newL r (cut_rel lo hi hr)⟩
    | tuple ds =>
      cases e
      obtain ⟨p, xs, rfl, hq, hr⟩ := RD.tup_ hp
      refine sl_tupA pins s σ H _ v vl vu lo hi sl Q I rx hs pl pu ⟨p, xs, rfl, hq, fun z => ?_, fun _ => q.newT r (cut_rel lo hi hr)⟩
      refine q.here r (.tup hq ?_)
      have := cut_rel lo hi hr
      have e : cutV xs lo hi = xs := by
        unfold cutV
        rw [z.1, z.2]
        simp
      rw [e] at this
      exact this
    | _ => cases e

/-! ### new lists, writing -/
theorem RDs.of_ws' {ws : List W} {vs : List V} {ds : List PyData} (h : RWs K w H ws vs) (e : allV ws = some ds) : RDs K w H ds vs := RDs.of_ws h e
/-- a new object that is the program's own -/
theorem ext_newL {m : Mem} {p : Addr} {xs : List V} (r : Rl K w m H) (h : H p = none) : Ext w H { w with l := w.l ++ [some p] } (upd H p (.lst xs)) := by
  have e := ext_upd (o := .lst xs) r h
  have hp : ∀ a o, H a = some o → a ≠ p := fun a o q => ne_of_none q h
  refine ⟨⟨[], by simp⟩, by simp, fun n hn => .inl (by rw [List.getElem?_append_left hn]), rfl, fun a o q n => ⟨(e.keep a o q n).1, fun z => ?_⟩, e.pk, e.tup, e.frz⟩
  rcases z with z | z | z
  · exact n (.inl z)
  · have z : some a ∈ w.l ++ [some p] := z
    rcases List.mem_append.mp z with z | z
    · exact n (.inr (.inl z))
    · simp at z
      exact hp a o q z
  · exact n (.inr (.inr z))
theorem Rl.newL {m : Mem} {p : Addr} {ws : List W} {xs : List V} (r : Rl K w m H) (h : H p = none) (hw : RWs K w H ws xs) :
    Rl K { w with l := w.l ++ [some p] } { m with L := m.L ++ [.lst ws] } (upd H p (.lst xs)) := by
  have e := ext_newL (xs := xs) r h
  have r0 := r.upd_ (o := .lst xs) h
  have nl : ¬ w.live p := r.fresh h
  refine ⟨r.lenS, by simp [r.lenL], r.ndS, fun i j a hi hj => ?_, fun a ha z => ?_, fun a ha => ?_, fun n o a h1 h2 => ?_, fun n o x h1 h2 => ?_⟩
  · have ap : ∀ k : Nat, (w.l ++ [some p])[k]? = some (some a) → (k < w.l.length ∧ w.l[k]? = some (some a)) ∨ (k = w.l.length ∧ a = p) := fun k hk => by
      by_cases hlt : k < w.l.length
      · rw [List.getElem?_append_left hlt] at hk
        exact .inl ⟨hlt, hk⟩
      · rw [List.getElem?_append_right (by omega)] at hk
        have hk' := (List.getElem?_eq_some_iff.mp hk).1
        simp at hk'
        have ek : k = w.l.length := by omega
        subst ek
        simp at hk
        exact .inr ⟨rfl, hk.symm⟩
    rcases ap i hi with ⟨h1, h2⟩ | ⟨h1, h2⟩ <;> rcases ap j hj with ⟨h3, h4⟩ | ⟨h3, h4⟩
    · exact r.ndL i j a h2 h4
    · subst h4; exact absurd (.inr (.inl (List.mem_of_getElem? h2))) nl
    · subst h2; exact absurd (.inr (.inl (List.mem_of_getElem? h4))) nl
    · omega
  · have z : some a ∈ w.l ++ [some p] := z
    rcases List.mem_append.mp z with z | z
    · exact r.ap a ha z
    · simp at z
      subst z
      exact nl (.inl ha)
  · obtain ⟨h1, h2, h3⟩ := r0.apP a ha
    refine ⟨h1, fun z => ?_, h3⟩
    have z : some a ∈ w.l ++ [some p] := z
    rcases List.mem_append.mp z with z | z
    · exact h2 z
    · simp at z
      subst z
      exact nl (.inr (.inr ha))
  · refine (r.s n o a h1 h2).ext e ?_
    rw [upd_ne]
    rintro rfl
    exact nl (.inl (List.mem_of_getElem? (show w.mu[n]? = _ from h2)))
  · replace h1 : (m.L ++ [.lst ws])[n]? = some o := h1
    replace h2 : (w.l ++ [some p])[n]? = some x := h2
    by_cases hn : n < w.l.length
    · rw [List.getElem?_append_left (by rw [r.lenL]; exact hn)] at h1
      rw [List.getElem?_append_left hn] at h2
      refine (r.l n o x h1 h2).ext e fun a q => ?_
      rw [q] at h2
      have : a ≠ p := fun z => nl (by rw [← z]; exact .inr (.inl (List.mem_of_getElem? h2)))
      rw [upd_ne this]
    · rw [List.getElem?_append_right (by rw [r.lenL]; omega)] at h1
      rw [List.getElem?_append_right (by omega)] at h2
      rw [r.lenL] at h1
      have hk := (List.getElem?_eq_some_iff.mp h2).1
      simp at hk
      have en : n = w.l.length := by omega
      subst en
      simp at h1 h2
      subst h1 h2
      exact ⟨p, xs, rfl, upd_same, hw.ext e⟩
theorem ext_newS {m : Mem} {p : Addr} {o : HO} (r : Rl K w m H) (h : H p = none) : Ext w H { w with mu := w.mu ++ [p] } (upd H p o) := by
  have e := ext_upd (o := o) r h
  have hp : ∀ a o, H a = some o → a ≠ p := fun a o q => ne_of_none q h
  refine ⟨⟨[p], rfl⟩, Nat.le_refl _, fun n hn => .inl rfl, rfl, fun a o q n => ⟨(e.keep a o q n).1, fun z => ?_⟩, e.pk, e.tup, e.frz⟩
  rcases z with z | z | z
  · have z : a ∈ w.mu ++ [p] := z
    rcases List.mem_append.mp z with z | z
    · exact n (.inl z)
    · simp at z
      exact hp a o q z
  · exact n (.inr (.inl z))
  · exact n (.inr (.inr z))
theorem Rl.newS {m : Mem} {p : Addr} {os : OS} {o : HO} (r : Rl K w m H) (h : H p = none) (hw : RS K { w with mu := w.mu ++ [p] } (upd H p o) p os) :
    Rl K { w with mu := w.mu ++ [p] } { m with S := m.S ++ [os] } (upd H p o) := by
  have e := ext_newS (o := o) r h
  have r0 := r.upd_ (o := o) h
  have nl : ¬ w.live p := r.fresh h
  refine ⟨by simp [r.lenS], r.lenL, ?_, r.ndL, fun a ha z => ?_, fun a ha => ?_, fun n u a h1 h2 => ?_, fun n u x h1 h2 => ?_⟩
  · show (w.mu ++ [p]).Nodup
    rw [List.nodup_append]
    refine ⟨r.ndS, by simp, fun a ha b hb => ?_⟩
    simp at hb
    subst hb
    rintro rfl
    exact nl (.inl ha)
  · have ha : a ∈ w.mu ++ [p] := ha
    rcases List.mem_append.mp ha with ha | ha
    · exact r.ap a ha z
    · simp at ha
      subst ha
      exact nl (.inr (.inl z))
  · obtain ⟨h1, h2, h3⟩ := r0.apP a ha
    refine ⟨fun z => ?_, h2, h3⟩
    have z : a ∈ w.mu ++ [p] := z
    rcases List.mem_append.mp z with z | z
    · exact h1 z
    · simp at z
      subst z
      exact nl (.inr (.inr ha))
  · replace h1 : (m.S ++ [os])[n]? = some u := h1
    replace h2 : (w.mu ++ [p])[n]? = some a := h2
    by_cases hn : n < w.mu.length
    · rw [List.getElem?_append_left (by rw [r.lenS]; exact hn)] at h1
      rw [List.getElem?_append_left hn] at h2
      refine (r.s n u a h1 h2).ext e ?_
      have : a ≠ p := fun z => nl (by rw [← z]; exact .inl (List.mem_of_getElem? h2))
      rw [upd_ne this]
    · rw [List.getElem?_append_right (by rw [r.lenS]; omega)] at h1
      rw [List.getElem?_append_right (by omega)] at h2
      rw [r.lenS] at h1
      have hk := (List.getElem?_eq_some_iff.mp h2).1
      simp at hk
      have en : n = w.mu.length := by omega
      subst en
      simp at h1 h2
      subst h1 h2
      exact hw
  · refine (r.l n u x h1 h2).ext e fun a q => ?_
    subst q
    rw [upd_ne]
    rintro rfl
    exact nl (.inr (.inl (List.mem_of_getElem? (show w.l[n]? = _ from h2))))
/-- a new list is laid -/
theorem mk_ok {k : Kd} {ws : List W} {vs : List V} {Q : VK} {ω : EW} (r : Rl K w m H) (hw : RWs K w H ws vs) (h : Cont K w H (RW K) Q ω (mk k ws m)) : vs.length ≤ sizeLine ∧ ∀ p, H p = none → Q (.ref p) (upd H p (.lst vs)) := by
  unfold mk at h
  split at h
  · rename_i hz
    refine ⟨by rw [szL_eq, ← hw.length]; exact hz, fun p hp => ?_⟩
    cases k with
    | fz =>
      simp only at h
      obtain ⟨d, e, h⟩ := Cont.o0 h
      cases qq : allV ws with
      | none => rw [qq] at e; cases e
      | some ds =>
        rw [qq] at e
        cases e
        refine h _ _ _ (ext_upd r hp) (r.upd_ hp) (.v (.lst upd_same (r.fresh hp) ?_))
        exact (RDs.of_ws hw qq).ext (ext_upd r hp)
    | loc =>
      refine h _ _ _ (ext_newL r hp) (r.newL hp hw) ?_
      refine .loc (by show m.L.length < (w.l ++ [some p]).length; rw [r.lenL]; simp) fun a ha => ?_
      have ha : (w.l ++ [some p])[m.L.length]? = some (some a) := ha
      rw [r.lenL, List.getElem?_append_right (Nat.le_refl _)] at ha
      simp at ha
      rw [ha]
    | shr =>
      simp only at h
      split at h
      · rename_i ds qq
        have hd := (RDs.of_ws hw qq).ext (ext_newS (o := .lst vs) r hp)
        refine h _ _ _ (ext_newS r hp) (r.newS hp ⟨vs, upd_same, hd⟩) (.ref ?_)
        show (w.mu ++ [p])[m.S.length]? = some p
        rw [r.lenS, List.getElem?_append_right (Nat.le_refl _)]
        simp
      · exact h.elim
  · exact h.elim
/-- a local list is written -/
theorem Rl.setL {n : Nat} {a : Addr} {ws : List W} {xs xs' : List V} (r : Rl K w m H) (hn : w.l[n]? = some (some a)) (hH : H a = some (.lst xs)) (hw : RWs K w H ws xs') :
    Ext w H w (upd H a (.lst xs')) ∧ Rl K w { m with L := m.L.set n (.lst ws) } (upd H a (.lst xs')) := by
  have lv : w.live a := .inr (.inl (List.mem_of_getElem? hn))
  have e : Ext w H w (upd H a (.lst xs')) := by
    refine ⟨⟨[], by simp⟩, Nat.le_refl _, fun _ _ => .inl rfl, rfl, fun b o q nb => ⟨by rw [upd_ne (fun z => nb (by rw [z]; exact lv))]; exact q, nb⟩, fun b o hp q => ?_, fun b u q => ?_, fun b o u q => ?_⟩
    · rw [upd_ne]
      · exact q
      · rintro rfl
        exact (r.apP b hp).2.1 (List.mem_of_getElem? hn)
    · rw [upd_ne]
      · exact q
      · rintro rfl
        rw [hH] at q
        cases q
    · rw [upd_ne]
      · exact q
      · rintro rfl
        rw [hH] at q
        cases q
  refine ⟨e, ⟨r.lenS, by simp [r.lenL], r.ndS, r.ndL, r.ap, fun b hb => ?_, fun k o b h1 h2 => ?_, fun k o x h1 h2 => ?_⟩⟩
  · obtain ⟨h1, h2, o, h3⟩ := r.apP b hb
    refine ⟨h1, h2, o, ?_⟩
    rw [upd_ne]
    · exact h3
    · rintro rfl
      exact h2 (List.mem_of_getElem? hn)
  · refine (r.s k o b h1 h2).ext e ?_
    rw [upd_ne]
    rintro rfl
    exact r.ap b (List.mem_of_getElem? h2) (List.mem_of_getElem? hn)
  · have h1 : (m.L.set n (.lst ws))[k]? = some o := h1
    by_cases hk : n = k
    · subst hk
      have hlt : n < m.L.length := by rw [r.lenL]; exact (List.getElem?_eq_some_iff.mp hn).1
      rw [List.getElem?_set_self hlt] at h1
      rw [hn] at h2
      cases h1
      cases h2
      exact ⟨a, xs', rfl, upd_same, hw.ext e⟩
    · rw [List.getElem?_set_ne hk] at h1
      refine (r.l k o x h1 h2).ext e fun b q => ?_
      subst q
      rw [upd_ne]
      rintro rfl
      exact hk (r.ndL n k b hn h2)
/-- a shared list is written -/
theorem Rl.setS {n : Nat} {a : Addr} {ds : List PyData} {xs xs' : List V} (r : Rl K w m H) (hn : w.mu[n]? = some a) (hH : H a = some (.lst xs)) (hw : RDs K w H ds xs') :
    Ext w H w (upd H a (.lst xs')) ∧ Rl K w { m with S := m.S.set n (.lst ds) } (upd H a (.lst xs')) := by
  have lv : w.live a := .inl (List.mem_of_getElem? hn)
  have e : Ext w H w (upd H a (.lst xs')) := by
    refine ⟨⟨[], by simp⟩, Nat.le_refl _, fun _ _ => .inl rfl, rfl, fun b o q nb => ⟨by rw [upd_ne (fun z => nb (by rw [z]; exact lv))]; exact q, nb⟩, fun b o hp q => ?_, fun b u q => ?_, fun b o u q => ?_⟩
    · rw [upd_ne]
      · exact q
      · rintro rfl
        exact (r.apP b hp).1 (List.mem_of_getElem? hn)
    · rw [upd_ne]
      · exact q
      · rintro rfl
        rw [hH] at q
        cases q
    · rw [upd_ne]
      · exact q
      · rintro rfl
        rw [hH] at q
        cases q
  refine ⟨e, ⟨by simp [r.lenS], r.lenL, r.ndS, r.ndL, r.ap, fun b hb => ?_, fun k o b h1 h2 => ?_, fun k o x h1 h2 => ?_⟩⟩
  · obtain ⟨h1, h2, o, h3⟩ := r.apP b hb
    refine ⟨h1, h2, o, ?_⟩
    rw [upd_ne]
    · exact h3
    · rintro rfl
      exact h1 (List.mem_of_getElem? hn)
  · have h1 : (m.S.set n (.lst ds))[k]? = some o := h1
    by_cases hk : n = k
    · subst hk
      have hlt : n < m.S.length := by rw [r.lenS]; exact (List.getElem?_eq_some_iff.mp hn).1
      rw [List.getElem?_set_self hlt] at h1
      rw [hn] at h2
      cases h1
      cases h2
      exact ⟨xs', upd_same, hw.ext e⟩
    · rw [List.getElem?_set_ne hk] at h1
      refine (r.s k o b h1 h2).ext e ?_
      rw [upd_ne]
      rintro rfl
      exact hk ((List.getElem_inj r.ndS).mp (((List.getElem?_eq_some_iff.mp hn).2).trans ((List.getElem?_eq_some_iff.mp h2).2).symm))
  · refine (r.l k o x h1 h2).ext e fun b q => ?_
    subst q
    rw [upd_ne]
    rintro rfl
    exact r.ap b (List.mem_of_getElem? hn) (List.mem_of_getElem? h2)
/-- a local list is given up: it is data from now on -/
theorem Rl.kill {n : Nat} {a : Addr} {ds : List PyData} {ws : List W} {xs : List V} (r : Rl K w m H) (hn : w.l[n]? = some (some a)) (hH : H a = some (.lst xs)) (hw : RDs K w H ds xs) :
    Ext w H { w with l := w.l.set n none } H ∧ Rl K { w with l := w.l.set n none } { m with L := m.L.set n .dead } H ∧ RD K { w with l := w.l.set n none } H (.list ds) (.ref a) := by
  have nlt : n < w.l.length := (List.getElem?_eq_some_iff.mp hn).1
  have sub : ∀ b, some b ∈ w.l.set n none → some b ∈ w.l := fun b hb => by
    rcases List.mem_or_eq_of_mem_set hb with h | h
    · exact h
    · cases h
  have lv : ∀ b, ({ w with l := w.l.set n none } : Wd).live b → w.live b := fun b hb => by
    rcases hb with h | h | h
    · exact .inl h
    · exact .inr (.inl (sub b h))
    · exact .inr (.inr h)
  have e : Ext w H { w with l := w.l.set n none } H := by
    refine ⟨⟨[], by simp⟩, by simp, fun k hk => ?_, rfl, fun b o q nb => ⟨q, fun z => nb (lv b z)⟩, fun b o _ q => q, fun _ _ q => q, fun _ _ _ q => q⟩
    by_cases hkn : n = k
    · subst hkn
      exact .inr (by rw [List.getElem?_set_self nlt])
    · exact .inl (by rw [List.getElem?_set_ne hkn])
  have get : ∀ (k : Nat) (b : Addr), (w.l.set n none)[k]? = some (some b) → k ≠ n ∧ w.l[k]? = some (some b) := fun k b hk => by
    by_cases hkn : n = k
    · subst hkn
      rw [List.getElem?_set_self nlt] at hk
      cases hk
    · rw [List.getElem?_set_ne hkn] at hk
      exact ⟨fun z => hkn z.symm, hk⟩
  refine ⟨e, ⟨r.lenS, by simp [r.lenL], r.ndS, fun i j b hi hj => r.ndL i j b (get i b hi).2 (get j b hj).2, fun b hb z => r.ap b hb (sub b z), fun b hb => ?_, fun k o b h1 h2 => (r.s k o b h1 h2).ext e rfl, fun k o x h1 h2 => ?_⟩, .lst hH (fun z => ?_) (hw.ext e)⟩
  · obtain ⟨h1, h2, h3⟩ := r.apP b hb
    exact ⟨h1, fun z => h2 (sub b z), h3⟩
  · have h1 : (m.L.set n .dead)[k]? = some o := h1
    have h2 : (w.l.set n none)[k]? = some x := h2
    by_cases hkn : n = k
    · subst hkn
      rw [List.getElem?_set_self nlt] at h2
      rw [List.getElem?_set_self (by rw [r.lenL]; exact nlt)] at h1
      cases h1
      cases h2
      exact rfl
    · rw [List.getElem?_set_ne hkn] at h1 h2
      exact (r.l k o x h1 h2).ext e fun _ _ => rfl
  · rcases z with z | z | z
    · exact r.ap a z (List.mem_of_getElem? hn)
    · obtain ⟨k, hk⟩ := List.getElem?_of_mem z
      obtain ⟨k1, k2⟩ := get k a hk
      exact k1 (r.ndL k n a k2 hn)
    · exact (r.apP a z).2.1 (List.mem_of_getElem? hn)
theorem freeze_ok {x : W} {v : V} {Q : VK} {ω : EW} (r : Rl K w m H) (h : RW K w H x v) (c : Cont K w H (RW K) Q ω (freeze m x)) : Q v H := by
  cases x with
  | v d => exact c _ _ _ (Ext.refl _ _) r h
  | ref n => exact c _ _ _ (Ext.refl _ _) r h
  | ro ds => exact c _ _ _ (Ext.refl _ _) r h
  | loc n =>
    unfold freeze at c
    cases q : m.L[n]? with
    | none => simp only [q] at c; exact c.elim
    | some o =>
      simp only [q] at c
      cases o with
      | lst ws =>
        obtain ⟨a, xs, rfl, h1, h2, h3⟩ := r.l_ (o := .dead) h q
        cases qa : allV ws with
        | none => simp only [qa] at c; exact c.elim
        | some ds =>
          simp only [qa] at c
          obtain ⟨e1, e2, e3⟩ := r.kill (ws := ws) h1 h2 (RDs.of_ws h3 qa)
          exact c _ _ _ e1 e2 (.v e3)
      | dead => exact c.elim
      | dic _ _ => exact c.elim
theorem mth_ok {X : Cx} {Q : VK} {ω : EW} {w : Wd} {m : Mem} {H : Hp} {o : W} {ws : List W} {v : V} {vs : List V} (r : Rl X.K w m H) (ho : RW X.K w H o v) (hw : RWs X.K w H ws vs) (c : Cont X.K w H (RW X.K) Q ω (mthW .append o ws m)) :
    rAppend v vs H Q := by
  unfold mthW at c
  split at c
  · rename_i n w0 _
    cases q : m.L[n]? with
    | none => simp only [q] at c; exact c.elim
    | some ob =>
      simp only [q] at c
      cases ob with
      | lst xs =>
        simp only at c
        obtain ⟨a, ys, rfl, h1, h2, h3⟩ := r.l_ (o := .dead) ho q
        split at c
        · rename_i hz
          cases hw with
          | cons hw1 hw2 =>
            cases hw2
            refine ⟨a, ys, _, rfl, rfl, h2, by rw [← h3.length, szL_eq]; exact hz, ?_⟩
            obtain ⟨e1, e2⟩ := r.setL (ws := xs ++ [w0]) (xs' := ys ++ [_]) h1 h2 (h3.append (.cons hw1 .nil))
            exact c _ _ _ e1 e2 (.v .non)
        · exact c.elim
      | dead => exact c.elim
      | dic _ _ => exact c.elim
  · exact c.elim
theorem mty_ok {X : Cx} {w : Wd} {m : Mem} {H : Hp} {o : W} {v : V} (r : Rl X.K w m H) (ho : RW X.K w H o v) (e : mtyW .append m o = true) : tyV X.K "list" v H := by
  unfold mtyW at e
  split at e
  · rename_i n _
    cases q : m.L[n]? with
    | none => simp only [q] at e; cases e
    | some ob =>
      simp only [q] at e
      cases ob with
      | lst xs =>
        obtain ⟨a, ys, rfl, h1, h2, h3⟩ := r.l_ (o := .dead) ho q
        exact .inl ⟨rfl, ys, SqL.of h2⟩
      | dead => cases e
      | dic _ _ => cases e
  · rename_i n _
    cases q : m.S[n]? with
    | none => simp only [q] at e; cases e
    | some ob =>
      simp only [q] at e
      cases ho with
      | ref ho =>
        have z := r.mu_ ho q
        cases ob with
        | lst xs =>
          obtain ⟨ys, h2, h3⟩ := z
          exact .inl ⟨rfl, ys, SqL.of h2⟩
        | ro _ => cases e
        | ins _ _ => cases e
  · cases e
theorem setIxW_ok {X : Cx} {w : Wd} {m m' : Mem} {H : Hp} {Q : Hp → Prop} {o i a : W} {x y z : V} (r : Rl X.K w m H) (ho : RW X.K w H o x) (hi : RW X.K w H i y) (ha : RW X.K w H a z) (e : setIxW m o i a = some m')
    (q : ∀ w' H', Ext w H w' H' → Rl X.K w' m' H' → Q H') : rSetL x y z H Q := by
  unfold setIxW at e
  split at e
  · rename_i k
    cases hi with
    | v hi =>
      cases (RD.int_ hi)
      split at e
      · rename_i n
        cases qq : m.L[n]? with
        | none => simp only [qq] at e; cases e
        | some ob =>
          simp only [qq] at e
          cases ob with
          | lst ws =>
            simp only at e
            obtain ⟨p, ys, rfl, h1, h2, h3⟩ := r.l_ (o := .dead) ho qq
            cases qi : Z.ixN ws.length k with
            | none => rw [qi] at e; cases e
            | some j =>
              rw [qi] at e
              cases e
              obtain ⟨e1, e2⟩ := r.setL (ws := ws.set j a) (xs' := ys.set j z) h1 h2 (h3.set j ha)
              exact ⟨p, ys, k, j, rfl, rfl, h2, by rw [← h3.length]; exact qi, q _ _ e1 e2⟩
          | dead => cases e
          | dic _ _ => cases e
      · rename_i n
        cases ho with
        | @ref _ p ho =>
          cases qq : m.S[n]? with
          | none => simp only [qq] at e; cases e
          | some ob =>
            simp only [qq] at e
            cases ob with
            | lst ds =>
              cases a with
              | v d =>
                cases ha with
                | v ha =>
                  simp only at e
                  obtain ⟨ys, h2, h3⟩ := r.mu_ ho qq
                  cases qi : Z.ixN ds.length k with
                  | none => rw [qi] at e; cases e
                  | some j =>
                    rw [qi] at e
                    cases e
                    obtain ⟨e1, e2⟩ := r.setS (ds := ds.set j d) (xs' := ys.set j z) ho h2 (h3.set j ha)
                    exact ⟨p, ys, k, j, rfl, rfl, h2, by rw [← h3.length]; exact qi, q _ _ e1 e2⟩
              | ref _ => cases e
              | loc _ => cases e
              | ro _ => cases e
            | ro ds => cases e
            | ins _ _ => cases e
      · cases e
  · cases e
end
end Z

set_option maxHeartbeats 4000000
/-! Z8: the text against the small language: expressions. -/
namespace Z
open PySem PySem.Spec PyProof.Rows L2

theorem R.b_assoc {α β γ : Type} (r : R α) (f : α → Mem → R β) (g : β → Mem → R γ) : (r.b f).b g = r.b fun a m => (f a m).b g := by cases r <;> rfl
theorem R.b_ok {α β : Type} (a : α) (m : Mem) (f : α → Mem → R β) : (R.ok a m).b f = f a m := rfl

/-! ### the checker -/
def dbg (x : Str) : Bool := !(x == ("__debug__" : Str)) && !(x == ("__classdict__" : Str)) && !(x == ("__name__" : Str))
def glb (Γ : Gm) (x : Str) : Bool := decide (Γ.nm.lookup x = some .globalImplicit)
def vis (Γ : Gm) (x : Str) : Bool := match Γ.nm.lookup x with
  | some .local => true
  | some .cell => true
  | some .free => true
  | _ => false
def constIs : Const → PyData → Bool
  | .none, .none => true
  | .bool a, .bool b => decide (a = b)
  | .int a, .int b => decide (a = b)
  | .str a, .str b => decide (a = b)
  | _, _ => false
mutual
def sameD : PyData → PyData → Bool
  | .none, .none => true
  | .bool a, .bool b => decide (a = b)
  | .int a, .int b => decide (a = b)
  | .str a, .str b => decide (a = b)
  | .tuple xs, .tuple ys => sameDs xs ys
  | _, _ => false
def sameDs : List PyData → List PyData → Bool
  | [], [] => true
  | x :: xs, y :: ys => sameD x y && sameDs xs ys
  | _, _ => false
end
mutual
theorem sameD_eq : ∀ {a b : PyData}, sameD a b = true → a = b
  | .none, .none, _ => rfl
  | .bool a, .bool b, h => by simp only [sameD, decide_eq_true_eq] at h; rw [h]
  | .int a, .int b, h => by simp only [sameD, decide_eq_true_eq] at h; rw [h]
  | .str a, .str b, h => by simp only [sameD, decide_eq_true_eq] at h; rw [h]
  | .tuple xs, .tuple ys, h => by simp only [sameD] at h; rw [sameDs_eq h]
  | .list _, b, h => by simp [sameD] at h
  | .dict _, b, h => by simp [sameD] at h
  | .none, .bool _, h | .none, .int _, h | .none, .str _, h | .none, .tuple _, h | .none, .list _, h | .none, .dict _, h => by simp [sameD] at h
  | .bool _, .none, h | .bool _, .int _, h | .bool _, .str _, h | .bool _, .tuple _, h | .bool _, .list _, h | .bool _, .dict _, h => by simp [sameD] at h
  | .int _, .none, h | .int _, .bool _, h | .int _, .str _, h | .int _, .tuple _, h | .int _, .list _, h | .int _, .dict _, h => by simp [sameD] at h
  | .str _, .none, h | .str _, .bool _, h | .str _, .int _, h | .str _, .tuple _, h | .str _, .list _, h | .str _, .dict _, h => by simp [sameD] at h
  | .tuple _, .none, h | .tuple _, .bool _, h | .tuple _, .int _, h | .tuple _, .str _, h | .tuple _, .list _, h | .tuple _, .dict _, h => by simp [sameD] at h
theorem sameDs_eq : ∀ {a b : List PyData}, sameDs a b = true → a = b
  | [], [], _ => rfl
  | x :: xs, y :: ys, h => by
    simp only [sameDs, Bool.and_eq_true] at h
    rw [sameD_eq h.1, sameDs_eq h.2]
  | [], _ :: _, h => by simp [sameDs] at h
  | _ :: _, [], h => by simp [sameDs] at h
end
def notStar : Expr → Bool
  | .Starred .. => false
  | _ => true
def plain (xs : List Expr) : Bool := !xs.isEmpty && xs.all notStar
/-- may stand as a test -/
def tst : E → Bool
  | .frz _ => false
  | .ite _ a b => tst a && tst b
  | _ => true
def tstS : ES → Bool
  | .nil => true
  | .cons e r => tst e && tstS r
  | .star _ _ => false
def relN (nm : List (Str × NameKind)) (sc : Scope) : List (Str × NameKind) := sc.names.map fun (n, k) => if (k == .free && nm.lookup n == some .cell) then (n, .cell) else (n, k)
def Gm.blk (Γ : Gm) (sc : Scope) : Gm := { Γ with nm := relN Γ.nm sc, on := sc.names }
def ownOf (Γ : Gm) (own : List Nat) : List (Str × Nat) := own.map fun i => (Γ.N.getD i "", i)
def scOf (Γ : Gm) : Scope := { kind := .function, names := Γ.nm, isGenerator := false, isCoroutine := false }
def isTup : Expr → Bool
  | .Tuple .. => true
  | _ => false
def chkTy (Γ : Gm) (t : Ty) : Expr → Bool
  | .Name x _ => decide (x = (tyS t : Str)) && glb Γ x
  | _ => false
def chkTys (Γ : Gm) : List Ty → List Expr → Bool
  | [], [] => true
  | t :: ts, x :: xs => chkTy Γ t x && chkTys Γ ts xs
  | _, _ => false
def mthN : Mth → Str
  | .append => "append"
def notSuper : Expr → Bool
  | .Call .. => false
  | _ => true
def isNone : Expr → Bool
  | .Constant .none _ _ => true
  | _ => false
def isZero : Int → Bool
  | 0 => true
  | _ => false

mutual
def chk (Γ : Gm) : E → Expr → Bool
  | .var i, .Name x _ => decide (Γ.N[i]? = some x) && vis Γ x && dbg x
  | .cst d, .Constant c _ _ => constIs c d
  | .cst d, .Name x _ => (match Γ.gc.lookup x with | some d' => sameD d' d | none => false) && glb Γ x && dbg x
  | .bin o a b, .BinOp x op y _ => decide (op = opB o) && chk Γ a x && chk Γ b y
  | .neg a, .UnaryOp op x _ => decide (op = .USub) && chk Γ a x
  | .cmp o a b, .Compare x [op] [y] _ => decide (op = opC o) && chk Γ a x && chk Γ b y
  | .chn o1 o2 a b c, .Compare x [p1, p2] [y, z] _ => decide (p1 = opC o1) && decide (p2 = opC o2) && chk Γ a x && chk Γ b y && chk Γ c z
  | .isN a, .Compare x [op] [y] _ => decide (op = .Is) && isNone y && chk Γ a x
  | .notN a, .Compare x [op] [y] _ => decide (op = .IsNot) && isNone y && chk Γ a x
  | .not a, .UnaryOp op x _ => decide (op = .Not) && tst a && chk Γ a x
  | .and es, .BoolOp op xs _ => decide (op = .And) && tstS es && chkB Γ es xs
  | .or es, .BoolOp op xs _ => decide (op = .Or) && tstS es && chkB Γ es xs
  | .ite c a b, .IfExp x y z _ => tst c && chk Γ c x && chk Γ a y && chk Γ b z
  | .tup es, .Tuple xs _ _ => chkS Γ es xs
  | .lst _ l, x => chkL Γ l x
  | .ix a i, .Subscript x y _ => chk Γ a x && chk Γ i y
  | .sl a lo hi, .Subscript x (.Slice l h none _) _ => chk Γ a x && chkO Γ lo l && chkO Γ hi h
  | .call f es, .Call (.Name x _) xs [] _ => (match Γ.fn.lookup x with | some (g, n) => decide (g = f) && decide (n = xs.length) | none => false) && glb Γ x && dbg x && xs.all notStar && chkS Γ es xs
  | .blt b es, .Call (.Name x _) xs [] _ => decide (x = bltN b) && glb Γ x && plain xs && chkS Γ es xs
  | .isi ts a, .Call (.Name x _) [y, t] [] _ => decide (x = ("isinstance" : Str)) && glb Γ x && notStar y && chk Γ a y && (match t with
    | .Name n p => (match ts with | [t] => chkTy Γ t (.Name n p) | _ => false)
    | .Tuple ns _ _ => decide (ts.length ≤ 100) && chkTys Γ ts ns
    | _ => false)
  | .frz a, x => chk Γ a x
  | .mth t o es, .Call (.Attribute x n p) xs [] q => decide (n = mthN t) && notSuper x && (p.endLine == q.line) && plain xs && decide (xs.length < 29) && chk Γ o x && chkS Γ es xs
  | _, _ => false
def chkS (Γ : Gm) : ES → List Expr → Bool
  | .nil, [] => true
  | .cons e r, x :: xs => notStar x && chk Γ e x && chkS Γ r xs
  | .star e r, .Starred x _ :: xs => chk Γ e x && chkS Γ r xs
  | _, _ => false
def chkB (Γ : Gm) : ES → List Expr → Bool
  | .cons e .nil, [x] => chk Γ e x
  | .cons e (.cons e2 r), x :: y :: xs => chk Γ e x && chkB Γ (.cons e2 r) (y :: xs)
  | _, _ => false
def chkO (Γ : Gm) : OE → Option Expr → Bool
  | .none, none => true
  | .some e, some x => chk Γ e x
  | _, _ => false
def chkL (Γ : Gm) : LE → Expr → Bool
  | .disp es, .List xs _ => chkS Γ es xs
  | .cat a b, .BinOp x op y _ => decide (op = .Add) && chk Γ a x && chk Γ b y
  | .of e, .Call (.Name x _) [y] [] _ => decide (x = ("list" : Str)) && glb Γ x && notStar y && chk Γ e y
  | .comp own g src ifs elt, .ListComp el [⟨tg, it, fs, as⟩] sc _ => isZero as && blkC Γ.N (scOf Γ) sc (ownOf Γ own) && (slots g).all (fun i => own.contains i) && chkI Γ src tg it && chkG (Γ.blk sc) g tg && chkF (Γ.blk sc) ifs fs && chk (Γ.blk sc) elt el
  | _, _ => false
def chkF (Γ : Gm) : ES → List Expr → Bool
  | .nil, [] => true
  | .cons e .nil, [x] => tst e && chk Γ e x
  | _, _ => false
def chkI (Γ : Gm) : IT → Expr → Expr → Bool
  | .seq e, _, x => chk Γ e x
  | .rng1 e, _, .Call (.Name n _) [x] [] _ => decide (n = ("range" : Str)) && glb Γ n && notStar x && chk Γ e x
  | .rng2 a b, _, .Call (.Name n _) [x, y] [] _ => decide (n = ("range" : Str)) && glb Γ n && notStar x && notStar y && chk Γ a x && chk Γ b y
  | .enm e, tg, .Call (.Name n _) [x] [] _ => decide (n = ("enumerate" : Str)) && glb Γ n && isTup tg && notStar x && chk Γ e x
  | .zip a b, tg, .Call (.Name n _) [x, y] [] _ => decide (n = ("zip" : Str)) && glb Γ n && isTup tg && notStar x && notStar y && chk Γ a x && chk Γ b y
  | _, _, _ => false
end
end Z

set_option maxHeartbeats 4000000
/-! Z9: expressions: the machine does what the evaluator says. -/
namespace Z
open PySem PySem.Spec PyProof.Rows L2 RZ

/-! ### inversions -/
section
variable {Γ : Gm} {x : Expr}
theorem chk_bin {o : Bop} {a b : E} (h : chk Γ (.bin o a b) x = true) : ∃ y z p, x = .BinOp y (opB o) z p ∧ chk Γ a y = true ∧ chk Γ b z = true := by
  cases x <;> first | exact absurd h Bool.false_ne_true | skip
  rename_i y op z p
  simp only [chk, Bool.and_eq_true, decide_eq_true_eq] at h
  exact ⟨y, z, p, by rw [h.1.1], h.1.2, h.2⟩
theorem chk_neg {a : E} (h : chk Γ (.neg a) x = true) : ∃ y p, x = .UnaryOp .USub y p ∧ chk Γ a y = true := by
  cases x <;> first | exact absurd h Bool.false_ne_true | skip
  rename_i op y p
  simp only [chk, Bool.and_eq_true, decide_eq_true_eq] at h
  exact ⟨y, p, by rw [h.1], h.2⟩
theorem chk_not {a : E} (h : chk Γ (.not a) x = true) : ∃ y p, x = .UnaryOp .Not y p ∧ tst a = true ∧ chk Γ a y = true := by
  cases x <;> first | exact absurd h Bool.false_ne_true | skip
  rename_i op y p
  simp only [chk, Bool.and_eq_true, decide_eq_true_eq] at h
  exact ⟨y, p, by rw [h.1.1], h.1.2, h.2⟩
theorem chk_and {es : ES} (h : chk Γ (.and es) x = true) : ∃ xs p, x = .BoolOp .And xs p ∧ tstS es = true ∧ chkB Γ es xs = true := by
  cases x <;> first | exact absurd h Bool.false_ne_true | skip
  rename_i op y p
  simp only [chk, Bool.and_eq_true, decide_eq_true_eq] at h
  exact ⟨y, p, by rw [h.1.1], h.1.2, h.2⟩
theorem chk_or {es : ES} (h : chk Γ (.or es) x = true) : ∃ xs p, x = .BoolOp .Or xs p ∧ tstS es = true ∧ chkB Γ es xs = true := by
  cases x <;> first | exact absurd h Bool.false_ne_true | skip
  rename_i op y p
  simp only [chk, Bool.and_eq_true, decide_eq_true_eq] at h
  exact ⟨y, p, by rw [h.1.1], h.1.2, h.2⟩
theorem chk_ite {c a b : E} (h : chk Γ (.ite c a b) x = true) : ∃ u v y p, x = .IfExp u v y p ∧ tst c = true ∧ chk Γ c u = true ∧ chk Γ a v = true ∧ chk Γ b y = true := by
  cases x <;> first | exact absurd h Bool.false_ne_true | skip
  simp only [chk, Bool.and_eq_true] at h
  exact ⟨_, _, _, _, rfl, h.1.1.1, h.1.1.2, h.1.2, h.2⟩
theorem chk_tup {es : ES} (h : chk Γ (.tup es) x = true) : ∃ xs k p, x = .Tuple xs k p ∧ chkS Γ es xs = true := by
  cases x <;> first | exact absurd h Bool.false_ne_true | exact ⟨_, _, _, rfl, h⟩
theorem chk_ix {a i : E} (h : chk Γ (.ix a i) x = true) : ∃ y z p, x = .Subscript y z p ∧ chk Γ a y = true ∧ chk Γ i z = true := by
  cases x <;> first | exact absurd h Bool.false_ne_true | skip
  simp only [chk, Bool.and_eq_true] at h
  exact ⟨_, _, _, rfl, h⟩
theorem chk_sl {a : E} {lo hi : OE} (h : chk Γ (.sl a lo hi) x = true) : ∃ y l u p q, x = .Subscript y (.Slice l u none q) p ∧ chk Γ a y = true ∧ chkO Γ lo l = true ∧ chkO Γ hi u = true := by
  cases x <;> first | exact absurd h Bool.false_ne_true | skip
  rename_i y z p
  cases z <;> first | exact absurd h Bool.false_ne_true | skip
  rename_i l u st q
  cases st <;> first | exact absurd h Bool.false_ne_true | skip
  simp only [chk, Bool.and_eq_true] at h
  exact ⟨_, _, _, _, _, rfl, h.1.1, h.1.2, h.2⟩
theorem chk_cmp {o : Cop} {a b : E} (h : chk Γ (.cmp o a b) x = true) : ∃ y z p, x = .Compare y [opC o] [z] p ∧ chk Γ a y = true ∧ chk Γ b z = true := by
  cases x <;> first | exact absurd h Bool.false_ne_true | skip
  rename_i y ops zs p
  rcases ops with _ | ⟨op, _ | ⟨op2, ops⟩⟩ <;> rcases zs with _ | ⟨z, _ | ⟨z2, zs⟩⟩ <;> first | exact absurd h Bool.false_ne_true | skip
  simp only [chk, Bool.and_eq_true, decide_eq_true_eq] at h
  exact ⟨_, _, _, by rw [h.1.1], h.1.2, h.2⟩
theorem chk_chn {o1 o2 : Cop} {a b c : E} (h : chk Γ (.chn o1 o2 a b c) x = true) : ∃ y z u p, x = .Compare y [opC o1, opC o2] [z, u] p ∧ chk Γ a y = true ∧ chk Γ b z = true ∧ chk Γ c u = true := by
  cases x <;> first | exact absurd h Bool.false_ne_true | skip
  rename_i y ops zs p
  rcases ops with _ | ⟨op, _ | ⟨op2, _ | ⟨op3, ops⟩⟩⟩ <;> rcases zs with _ | ⟨z, _ | ⟨z2, _ | ⟨z3, zs⟩⟩⟩ <;> first | exact absurd h Bool.false_ne_true | skip
  simp only [chk, Bool.and_eq_true, decide_eq_true_eq] at h
  exact ⟨_, _, _, _, by rw [h.1.1.1.1, h.1.1.1.2], h.1.1.2, h.1.2, h.2⟩
theorem isNone_eq {y : Expr} (h : isNone y = true) : ∃ k p, y = .Constant .none k p := by
  cases y <;> first | exact absurd h Bool.false_ne_true | skip
  rename_i c k p
  cases c <;> first | exact absurd h Bool.false_ne_true | exact ⟨_, _, rfl⟩
theorem chk_isN {a : E} (h : chk Γ (.isN a) x = true) : ∃ y k p q, x = .Compare y [.Is] [.Constant .none k q] p ∧ chk Γ a y = true := by
  cases x <;> first | exact absurd h Bool.false_ne_true | skip
  rename_i y ops zs p
  rcases ops with _ | ⟨op, _ | ⟨op2, ops⟩⟩ <;> rcases zs with _ | ⟨z, _ | ⟨z2, zs⟩⟩ <;> first | exact absurd h Bool.false_ne_true | skip
  simp only [chk, Bool.and_eq_true, decide_eq_true_eq] at h
  obtain ⟨k, q, rfl⟩ := isNone_eq h.1.2
  exact ⟨_, _, _, _, by rw [h.1.1], h.2⟩
theorem chk_notN {a : E} (h : chk Γ (.notN a) x = true) : ∃ y k p q, x = .Compare y [.IsNot] [.Constant .none k q] p ∧ chk Γ a y = true := by
  cases x <;> first | exact absurd h Bool.false_ne_true | skip
  rename_i y ops zs p
  rcases ops with _ | ⟨op, _ | ⟨op2, ops⟩⟩ <;> rcases zs with _ | ⟨z, _ | ⟨z2, zs⟩⟩ <;> first | exact absurd h Bool.false_ne_true | skip
  simp only [chk, Bool.and_eq_true, decide_eq_true_eq] at h
  obtain ⟨k, q, rfl⟩ := isNone_eq h.1.2
  exact ⟨_, _, _, _, by rw [h.1.1], h.2⟩
theorem chk_call {f : Nat} {es : ES} (h : chk Γ (.call f es) x = true) : ∃ n xs p q, x = .Call (.Name n p) xs [] q ∧ Γ.fn.lookup n = some (f, xs.length) ∧ glb Γ n = true ∧ dbg n = true ∧ xs.all notStar = true ∧ chkS Γ es xs = true := by
  cases x <;> first | exact absurd h Bool.false_ne_true | skip
  rename_i fn xs kw q
  cases fn <;> first | exact absurd h Bool.false_ne_true | skip
  rename_i n p
  cases kw <;> first | exact absurd h Bool.false_ne_true | skip
  simp only [chk, Bool.and_eq_true] at h
  obtain ⟨⟨⟨⟨h1, h2⟩, h3⟩, h4⟩, h5⟩ := h
  refine ⟨n, xs, p, q, rfl, ?_, h2, h3, h4, h5⟩
  split at h1
  · rename_i g k e
    simp only [Bool.and_eq_true, decide_eq_true_eq] at h1
    rw [e, h1.1, h1.2]
  · cases h1
theorem chk_blt {b : Blt} {es : ES} (h : chk Γ (.blt b es) x = true) : ∃ xs p q, x = .Call (.Name (bltN b) p) xs [] q ∧ glb Γ (bltN b) = true ∧ plain xs = true ∧ chkS Γ es xs = true := by
  cases x <;> first | exact absurd h Bool.false_ne_true | skip
  rename_i fn xs kw q
  cases fn <;> first | exact absurd h Bool.false_ne_true | skip
  rename_i n p
  cases kw <;> first | exact absurd h Bool.false_ne_true | skip
  simp only [chk, Bool.and_eq_true, decide_eq_true_eq] at h
  obtain ⟨⟨⟨h1, h2⟩, h3⟩, h4⟩ := h
  subst h1
  exact ⟨xs, p, q, rfl, h2, h3, h4⟩
theorem chk_mth {t : Mth} {o : E} {es : ES} (h : chk Γ (.mth t o es) x = true) : ∃ y xs p q, x = .Call (.Attribute y (mthN t) p) xs [] q ∧ notSuper y = true ∧ (p.endLine == q.line) = true ∧ plain xs = true ∧ xs.length < 29 ∧ chk Γ o y = true ∧ chkS Γ es xs = true := by
  cases x <;> first | exact absurd h Bool.false_ne_true | skip
  rename_i fn xs kw q
  cases fn <;> first | exact absurd h Bool.false_ne_true | skip
  rename_i y n p
  cases kw <;> first | exact absurd h Bool.false_ne_true | skip
  simp only [chk, Bool.and_eq_true, decide_eq_true_eq] at h
  obtain ⟨⟨⟨⟨⟨⟨h1, h2⟩, h3⟩, h4⟩, h5⟩, h6⟩, h7⟩ := h
  subst h1
  exact ⟨y, xs, p, q, rfl, h2, h3, h4, h5, h6, h7⟩
end
/-- no displays of sets, no slices, no stars -/
def okX : Expr → Bool
  | .Set .. => false
  | .Slice .. => false
  | .Starred .. => false
  | _ => true
theorem chkL_ok {Γ : Gm} {l : LE} {x : Expr} (h : chkL Γ l x = true) : okX x = true := by
  cases l <;> cases x <;> first | rfl | exact absurd h Bool.false_ne_true
theorem chk_ok {Γ : Gm} {x : Expr} : ∀ {e : E}, chk Γ e x = true → okX x = true
  | .frz a, h => chk_ok (e := a) h
  | .lst _ l, h => chkL_ok (l := l) h
  | .var _, h | .cst _, h | .bin .., h | .neg _, h | .cmp .., h | .chn .., h | .isN _, h | .notN _, h | .not _, h | .and _, h | .or _, h | .ite .., h | .tup _, h | .ix .., h | .sl .., h | .call .., h | .blt .., h | .isi .., h | .mth .., h => by
    cases x <;> first | rfl | exact absurd h Bool.false_ne_true
theorem notStar_of {x : Expr} (h : okX x = true) : notStar x = true := by cases x <;> first | rfl | exact absurd h Bool.false_ne_true
theorem starEach_one {x : Expr} {xs : List Expr} {env : PySem.Env} (h : notStar x = true) : starEach (x :: xs) env = (false, eval x env) :: starEach xs env := by
  cases x <;> first | rfl | exact absurd h Bool.false_ne_true
theorem starEach_plain {pos : Pos} {env : PySem.Env} : ∀ {xs : List Expr}, xs.all notStar = true → (backTo pos (starEach xs env)).any (·.1) = false
  | [], _ => rfl
  | x :: xs, h => by
    rw [List.all_cons, Bool.and_eq_true] at h
    rw [starEach_one h.1]
    show (false || (backTo pos (starEach xs env)).any (·.1)) = false
    rw [starEach_plain h.2]
    rfl
theorem starEach_all {pos : Pos} {env : PySem.Env} : ∀ {xs : List Expr}, xs.all notStar = true → (backTo pos (starEach xs env)).all (fun x => !x.1) = true
  | [], _ => rfl
  | x :: xs, h => by
    rw [List.all_cons, Bool.and_eq_true] at h
    rw [starEach_one h.1]
    show (!false && (backTo pos (starEach xs env)).all (fun x => !x.1)) = true
    rw [starEach_all h.2]
    rfl
theorem plain_cons {xs : List Expr} (h : plain xs = true) : ∃ y ys, xs = y :: ys ∧ notStar y = true ∧ ys.all notStar = true := by
  cases xs with
  | nil => exact absurd h Bool.false_ne_true
  | cons y ys =>
    have h : (!List.isEmpty (y :: ys) && (y :: ys).all notStar) = true := h
    rw [Bool.and_eq_true, List.all_cons, Bool.and_eq_true] at h
    exact ⟨y, ys, rfl, h.2⟩
theorem nomarkZ {x : Expr} {op : CmpOp} (h : okX x = true) : behindInMarks op x = false := by
  cases x <;> first | rfl | exact absurd h Bool.false_ne_true
theorem folded_ok {x : Expr} (h : okX x = true) (env : PySem.Env) (v : Value) : foldedSetIterable x env v = pure v := by
  cases x <;> first | rfl | exact absurd h Bool.false_ne_true

section
variable {X : Cx} {Γ : Gm} {C : Orc} {ω : St → EW}
theorem Cok.gl (k : Cok X Γ C ω) {x : Str} (h : glb Γ x = true) : Gl X x := by
  show X.env.scope.names.lookup x = _
  rw [k.nm]
  simpa [glb] using h
theorem Cok.vis (k : Cok X Γ C ω) {x : Str} (h : vis Γ x = true) : Vis X.env.scope x := by
  unfold Vis
  rw [k.nm]
  unfold Z.vis at h
  split at h
  · rename_i e; exact .inl e
  · rename_i e; exact .inr (.inl e)
  · rename_i e; exact .inr (.inr e)
  · cases h
theorem dbg_1 {x : Str} (h : dbg x = true) : (x == ("__debug__" : Str)) = false ∧ (x == ("__classdict__" : Str)) = false ∧ x ≠ "__name__" := by
  simp only [dbg, Bool.and_eq_true, Bool.not_eq_true'] at h
  exact ⟨h.1.1, h.1.2, by simpa using h.2⟩
structure Snd (X : Cx) (C : Orc) (ω : St → EW) (e : E) (x : Expr) : Prop where
  pe : PE X x (tE X.K C ω e)
  pt : tst e = true → L2.PT X x (tT X.K C ω e)
theorem ptOf {e : E} {x : Expr} (h : PE X x (tE X.K C ω e)) (he : ∀ whole, isTrue x X.env whole = (do let v ← whole; standAt x.pos; holding [v] (truthy v))) : L2.PT X x (tT X.K C ω e) :=
  PTimp (pt_truth h he) fun σ H Q q => by
    obtain ⟨ρ, m, w, re, rl, c⟩ := q
    refine ⟨ρ, m, w, re, rl, (Cont.bind (RW X.K) c).imp ?_⟩
    rintro v H' ⟨a, m1, w1, R⟩
    obtain ⟨k, e, c⟩ := Cont.o0 R.c
    exact ⟨k, truW_ok R.r R.v e, c k w1 H' (Ext.refl _ _) R.r rfl⟩
theorem Snd.of {e : E} {x : Expr} (h : PE X x (tE X.K C ω e)) (he : ∀ whole, isTrue x X.env whole = (do let v ← whole; standAt x.pos; holding [v] (truthy v))) : Snd X C ω e x := ⟨h, fun _ => ptOf h he⟩
/-- a test's truth handed on -/
theorem Cont.mapT {K : PySem.W.Frag} {w : Wd} {H : Hp} {Q : Bool → Hp → Prop} {ω : EW} {r : R Bool} {f : Bool → Mem → R Bool} (g : Bool → Bool) (hf : ∀ k m, f k m = .ok (g k) m) (h : Cont K w H (fun _ _ a b => a = b) Q ω (r.b f)) : Cont K w H (fun _ _ a b => a = b) (fun k H => Q (g k) H) ω r := by
  cases r with
  | ok a m =>
    intro v w' H' e rl rv
    subst rv
    have h : Cont K w H (fun _ _ a b => a = b) Q ω (f a m) := h
    rw [hf] at h
    exact h _ w' H' e rl rfl
  | err x m => exact h
  | bad => exact h
theorem pt_ifZ {c a b : Expr} {tc ta tb : TT} {pos : Pos} (hc : L2.PT X c tc) (ha : L2.PT X a ta) (hb : L2.PT X b tb) : L2.PT X (.IfExp c a b pos) (fun σ H Q => tc σ H fun k H1 => if k = true then ta σ H1 Q else tb σ H1 Q) := by
  refine ⟨fun pins s σ H Q I h => ?_⟩
  refine isTrue_IfExp (thn (hc.run pins s σ H _ I h) fun d s1 ⟨H1, I1, q1⟩ => ?_)
  cases d with
  | true => exact ha.run pins s1 σ H1 Q I1 q1
  | false => exact hb.run pins s1 σ H1 Q I1 q1
end
end Z

set_option maxHeartbeats 4000000
/-! Z10: each node by its parts. -/
namespace Z
open PySem PySem.Spec PyProof.Rows L2 RZ

section
variable {X : Cx} {Γ : Gm} {C : Orc} {ω : St → EW} {a b c : E} {y z u : Expr} {p : Pos}

theorem s_var {i : Nat} {x : Expr} (k : Cok X Γ C ω) (h : chk Γ (.var i) x = true) : Snd X C ω (.var i) x := by
  cases x <;> first | exact absurd h Bool.false_ne_true | skip
  rename_i n p
  simp only [chk, Bool.and_eq_true, decide_eq_true_eq] at h
  obtain ⟨⟨h1, h2⟩, h3⟩ := h
  obtain ⟨d1, d2, d3⟩ := dbg_1 h3
  refine Snd.of (PEimp (pe_var (i := i) (by rw [k.N]; exact h1) (k.vis h2) d1 d2) fun σ H Q q => ?_) (fun _ => rfl)
  obtain ⟨ρ, m, w, re, rl, c⟩ := q
  simp only [ev] at c
  split at c
  · rename_i a e
    obtain ⟨v, e1, e2⟩ := re.get i a e
    exact ⟨v, e1, c v w H (Ext.refl _ _) rl e2⟩
  · exact c.elim
theorem s_cst {d : PyData} {x : Expr} (k : Cok X Γ C ω) (h : chk Γ (.cst d) x = true) : Snd X C ω (.cst d) x := by
  cases x <;> first | exact absurd h Bool.false_ne_true | skip
  · rename_i cc kk p
    have h : constIs cc d = true := h
    unfold constIs at h
    split at h
    · refine Snd.of (PEimp pe_non fun σ H Q q => ?_) (fun _ => rfl)
      obtain ⟨ρ, m, w, re, rl, c⟩ := q
      exact c _ w H (Ext.refl _ _) rl (.v .non)
    · rw [decide_eq_true_eq] at h
      subst h
      refine Snd.of (PEimp pe_bl fun σ H Q q => ?_) (fun _ => rfl)
      obtain ⟨ρ, m, w, re, rl, c⟩ := q
      exact c _ w H (Ext.refl _ _) rl (.v (.bl _))
    · rw [decide_eq_true_eq] at h
      subst h
      refine Snd.of (PEimp pe_int fun σ H Q q => ?_) (fun _ => rfl)
      obtain ⟨ρ, m, w, re, rl, c⟩ := q
      exact c _ w H (Ext.refl _ _) rl (.v (.int _))
    · rw [decide_eq_true_eq] at h
      subst h
      refine Snd.of (PEimp pe_str fun σ H Q q => ?_) (fun _ => rfl)
      obtain ⟨ρ, m, w, re, rl, c⟩ := q
      exact c _ w H (Ext.refl _ _) rl (.v (.str _))
    · cases h
  · rename_i n p
    simp only [chk, Bool.and_eq_true] at h
    obtain ⟨⟨h1, h2⟩, h3⟩ := h
    obtain ⟨d1, d2, d3⟩ := dbg_1 h3
    split at h1
    · rename_i d' e
      obtain rfl := sameD_eq h1
      obtain ⟨u, v, e1, e2, e3⟩ := k.g.gc _ _ e
      refine Snd.of (PEimp (pe_glob (k.gl h2) e1 e2 d1) fun σ H Q q => ?_) (fun _ => rfl)
      obtain ⟨ρ, m, w, re, rl, c⟩ := q
      exact c _ w H (Ext.refl _ _) rl (.v (e3 w H))
    · cases h1
theorem s_bin {o : Bop} (ha : Snd X C ω a y) (hb : Snd X C ω b z) : Snd X C ω (.bin o a b) (.BinOp y (opB o) z p) := by
  refine Snd.of (PEimp (pe_op (bin_ok o) ha.pe hb.pe) fun σ H Q q => ?_) (fun _ => rfl)
  obtain ⟨ρ, m, w, re, rl, c⟩ := q
  simp only [ev] at c
  refine ⟨ρ, m, w, re, rl, (Cont.bind (RW X.K) c).imp ?_⟩
  rintro v H1 ⟨a1, m1, w1, R1⟩
  refine ⟨ρ, m1, w1, re.ext R1.e, R1.r, (Cont.bind (RW X.K) R1.c).imp ?_⟩
  rintro u H2 ⟨a2, m2, w2, R2⟩
  obtain ⟨d, e, c⟩ := Cont.o0 R2.c
  cases e1 : peekT m2 a1 with
  | none => rw [e1] at e; cases e
  | some d1 =>
    rw [e1, Option.bind_some] at e
    cases e2 : peekT m2 a2 with
    | none => rw [e2] at e; cases e
    | some d2 =>
      rw [e2, Option.bind_some] at e
      cases e3 : binD o d1 d2 with
      | none => rw [e3] at e; cases e
      | some d3 =>
        rw [e3] at e
        cases e
        exact ⟨w2, m2, d1, d2, d3, R2.r, peekT_ok R2.r (R1.v.ext R2.e) e1, peekT_ok R2.r R2.v e2, e3, fun v H' ex rl r => c v w2 H' ex rl (.v r)⟩
theorem s_neg (ha : Snd X C ω a y) : Snd X C ω (.neg a) (.UnaryOp .USub y p) := by
  refine Snd.of (PEimp (pe_un un_neg ha.pe) fun σ H Q q => ?_) (fun _ => rfl)
  obtain ⟨ρ, m, w, re, rl, c⟩ := q
  simp only [ev] at c
  refine ⟨ρ, m, w, re, rl, (Cont.bind (RW X.K) c).imp ?_⟩
  rintro v H1 ⟨a1, m1, w1, R1⟩
  have c := R1.c
  have hv := R1.v
  split at c
  · cases hv with
    | v hv =>
      cases (RD.int_ hv)
      exact ⟨_, rfl, c _ w1 H1 (Ext.refl _ _) R1.r (.v (.int _))⟩
  · exact c.elim
theorem cmp_read {o : Cop} {γ δ : Type} {relg : Wd → Hp → γ → δ → Prop} {Q : δ → Hp → Prop} {f : W → Mem → R γ} {σ : St} {H : Hp} {Q' : VK}
    (hq : ∀ (k : Bool) (m : Mem) (w : Wd) (H : Hp), Rl X.K w m H → Cont X.K w H relg Q (ω σ) (f (.v (.bool k)) m) → Q' (.bl k) H)
    (q : ∃ ρ m w, RE X.K w H ρ σ ∧ Rl X.K w m H ∧ Cont X.K w H relg Q (ω σ) ((ev C (.cmp o a b) ρ m).b f)) : tOp (rC X.K o) (tE X.K C ω a) (tE X.K C ω b) σ H Q' := by
  obtain ⟨ρ, m, w, re, rl, c⟩ := q
  simp only [ev, R.b_assoc] at c
  refine ⟨ρ, m, w, re, rl, (Cont.bind (RW X.K) c).imp ?_⟩
  rintro v H1 ⟨a1, m1, w1, R1⟩
  refine ⟨ρ, m1, w1, re.ext R1.e, R1.r, (Cont.bind (RW X.K) R1.c).imp ?_⟩
  rintro u H2 ⟨a2, m2, w2, R2⟩
  obtain ⟨d, e, c⟩ := Cont.o R2.c
  cases e1 : peek m2 a1 with
  | none => rw [e1] at e; cases e
  | some d1 =>
    rw [e1, Option.bind_some] at e
    cases e2 : peek m2 a2 with
    | none => rw [e2] at e; cases e
    | some d2 =>
      rw [e2, Option.bind_some] at e
      cases e3 : cmpD o d1 d2 with
      | none => rw [e3] at e; cases e
      | some k =>
        rw [e3] at e
        cases e
        exact ⟨w2, m2, d1, d2, k, R2.r, peek_ok R2.r (R1.v.ext R2.e) e1, peek_ok R2.r R2.v e2, e3, hq k m2 w2 H2 R2.r c⟩
theorem R.b_pure {α : Type} (r : R α) : r.b R.ok = r := by cases r <;> rfl
theorem s_cmp {o : Cop} (k : Cok X Γ C ω) (ha : Snd X C ω a y) (hb : Snd X C ω b z) (hz : okX z = true) : Snd X C ω (.cmp o a b) (.Compare y [opC o] [z] p) := by
  refine ⟨PEimp (pe_cmpR (cmp_ok k.g.un o) ha.pe hb.pe (nomarkZ hz)) fun σ H Q q => ?_, fun _ => PTimp (pt_cmpR (cmp_ok k.g.un o) ha.pe hb.pe (nomarkZ hz)) fun σ H Q q => ?_⟩
  · obtain ⟨ρ, m, w, re, rl, c⟩ := q
    refine cmp_read (relg := RW X.K) (Q := Q) (f := R.ok) (fun k m w H r c => c _ w H (Ext.refl _ _) r (.v (.bl _))) ⟨ρ, m, w, re, rl, ?_⟩
    rw [R.b_pure]
    exact c
  · exact cmp_read (relg := fun _ _ a b => a = b) (Q := Q) (f := fun x m => ofO (truW m x) m) (fun k m w H r c => ⟨k, rfl, c k w H (Ext.refl _ _) r rfl⟩) q
theorem chn_read {o1 o2 : Cop} {γ δ : Type} {relg : Wd → Hp → γ → δ → Prop} {Q : δ → Hp → Prop} {f : W → Mem → R γ} {σ : St} {H : Hp} {Q' : VK}
    (hq : ∀ (k : Bool) (m : Mem) (w : Wd) (H : Hp), Rl X.K w m H → Cont X.K w H relg Q (ω σ) (f (.v (.bool k)) m) → Q' (.bl k) H)
    (q : ∃ ρ m w, RE X.K w H ρ σ ∧ Rl X.K w m H ∧ Cont X.K w H relg Q (ω σ) ((ev C (.chn o1 o2 a b c) ρ m).b f)) : tChain (rC X.K o1) (rC X.K o2) (tE X.K C ω a) (tE X.K C ω b) (tE X.K C ω c) σ H Q' := by
  obtain ⟨ρ, m, w, re, rl, cc⟩ := q
  simp only [ev, R.b_assoc] at cc
  refine ⟨ρ, m, w, re, rl, (Cont.bind (RW X.K) cc).imp ?_⟩
  rintro v H1 ⟨a1, m1, w1, R1⟩
  refine ⟨ρ, m1, w1, re.ext R1.e, R1.r, (Cont.bind (RW X.K) R1.c).imp ?_⟩
  rintro u H2 ⟨a2, m2, w2, R2⟩
  obtain ⟨k, e, c2⟩ := Cont.o R2.c
  cases e1 : peek m2 a1 with
  | none => rw [e1] at e; cases e
  | some d1 =>
    rw [e1, Option.bind_some] at e
    cases e2 : peek m2 a2 with
    | none => rw [e2] at e; cases e
    | some d2 =>
      rw [e2, Option.bind_some] at e
      refine ⟨w2, m2, d1, d2, k, R2.r, peek_ok R2.r (R1.v.ext R2.e) e1, peek_ok R2.r R2.v e2, e, k, rfl, ?_⟩
      cases k with
      | false =>
        simp only [Bool.false_eq_true, if_false, R.b_ok] at c2 ⊢
        exact hq _ _ _ _ R2.r c2
      | true =>
        simp only [if_true, R.b_assoc] at c2 ⊢
        refine ⟨ρ, m2, w2, (re.ext R1.e).ext R2.e, R2.r, (Cont.bind (RW X.K) c2).imp ?_⟩
        rintro t H3 ⟨a3, m3, w3, R3⟩
        obtain ⟨d, e3, c3⟩ := Cont.o R3.c
        cases e4 : peek m3 a2 with
        | none => rw [e4] at e3; cases e3
        | some d4 =>
          rw [e4, Option.bind_some] at e3
          cases e5 : peek m3 a3 with
          | none => rw [e5] at e3; cases e3
          | some d5 =>
            rw [e5, Option.bind_some] at e3
            cases e6 : cmpD o2 d4 d5 with
            | none => rw [e6] at e3; cases e3
            | some k2 =>
              rw [e6] at e3
              cases e3
              exact ⟨w3, m3, d4, d5, k2, R3.r, peek_ok R3.r (R2.v.ext R3.e) e4, peek_ok R3.r R3.v e5, e6, hq k2 m3 w3 H3 R3.r c3⟩
theorem lastZ {o : CmpOp} {p1 : CmpOp} {z u : Expr} (h : okX u = true) : lastMarks [p1, o] [z, u] = false := nomarkZ h
theorem s_chn {o1 o2 : Cop} (k : Cok X Γ C ω) (ha : Snd X C ω a y) (hb : Snd X C ω b z) (hc : Snd X C ω c u) (hz : okX u = true) : Snd X C ω (.chn o1 o2 a b c) (.Compare y [opC o1, opC o2] [z, u] p) := by
  refine ⟨PEimp (pe_chain (cmp_ok k.g.un o1) (cmp_ok k.g.un o2) ha.pe hb.pe hc.pe (lastZ hz)) fun σ H Q q => ?_, fun _ => PTimp (pt_chain (cmp_ok k.g.un o1) (cmp_ok k.g.un o2) ha.pe hb.pe hc.pe (lastZ hz)) fun σ H Q q => ?_⟩
  · obtain ⟨ρ, m, w, re, rl, c⟩ := q
    refine chn_read (relg := RW X.K) (Q := Q) (f := R.ok) (fun k m w H r c => c _ w H (Ext.refl _ _) r (.v (.bl _))) ⟨ρ, m, w, re, rl, ?_⟩
    rw [R.b_pure]
    exact c
  · exact chn_read (relg := fun _ _ a b => a = b) (Q := Q) (f := fun x m => ofO (truW m x) m) (fun k m w H r c => ⟨k, rfl, c k w H (Ext.refl _ _) r rfl⟩) q
theorem isN_iff {K : PySem.W.Frag} {w : Wd} {H : Hp} {a : W} {v : V} {k : Bool} (h : RW K w H a v) (e : isNW a = some k) : decide (v = V.non) = k := by
  cases h with
  | v h => cases h <;> (cases e; rfl)
  | ref h => cases e; rfl
  | ro h1 h2 => cases e; rfl
  | loc h1 h2 => cases e
theorem isN_read {γ δ : Type} {relg : Wd → Hp → γ → δ → Prop} {Q : δ → Hp → Prop} {f : W → Mem → R γ} {σ : St} {H : Hp} {Q' : VK}
    (hq : ∀ (k : Bool) (m : Mem) (w : Wd) (H : Hp), Rl X.K w m H → Cont X.K w H relg Q (ω σ) (f (.v (.bool k)) m) → Q' (.bl k) H)
    (q : ∃ ρ m w, RE X.K w H ρ σ ∧ Rl X.K w m H ∧ Cont X.K w H relg Q (ω σ) ((ev C (.isN a) ρ m).b f)) : tIsN (tE X.K C ω a) σ H Q' := by
  obtain ⟨ρ, m, w, re, rl, c⟩ := q
  simp only [ev, R.b_assoc] at c
  refine ⟨ρ, m, w, re, rl, (Cont.bind (RW X.K) c).imp ?_⟩
  rintro v H1 ⟨a1, m1, w1, R1⟩
  obtain ⟨d, e, c⟩ := Cont.o R1.c
  cases q : isNW a1 with
  | none => rw [q] at e; cases e
  | some k =>
    rw [q] at e
    cases e
    rw [isN_iff R1.v q]
    exact hq _ _ _ _ R1.r c
theorem notN_read {γ δ : Type} {relg : Wd → Hp → γ → δ → Prop} {Q : δ → Hp → Prop} {f : W → Mem → R γ} {σ : St} {H : Hp} {Q' : VK}
    (hq : ∀ (k : Bool) (m : Mem) (w : Wd) (H : Hp), Rl X.K w m H → Cont X.K w H relg Q (ω σ) (f (.v (.bool k)) m) → Q' (.bl k) H)
    (q : ∃ ρ m w, RE X.K w H ρ σ ∧ Rl X.K w m H ∧ Cont X.K w H relg Q (ω σ) ((ev C (.notN a) ρ m).b f)) : tNotN (tE X.K C ω a) σ H Q' := by
  obtain ⟨ρ, m, w, re, rl, c⟩ := q
  simp only [ev, R.b_assoc] at c
  refine ⟨ρ, m, w, re, rl, (Cont.bind (RW X.K) c).imp ?_⟩
  rintro v H1 ⟨a1, m1, w1, R1⟩
  obtain ⟨d, e, c⟩ := Cont.o R1.c
  cases q : isNW a1 with
  | none => rw [q] at e; cases e
  | some k =>
    rw [q] at e
    cases e
    rw [isN_iff R1.v q]
    exact hq _ _ _ _ R1.r c
theorem s_isN {k : Nat} {q : Pos} (ha : Snd X C ω a y) : Snd X C ω (.isN a) (.Compare y [.Is] [.Constant .none k q] p) := by
  refine ⟨PEimp (pe_cmp (pc_isN ha.pe)) fun σ H Q q => ?_, fun _ => PTimp (pt_cmp (pc_isN ha.pe)) fun σ H Q q => ?_⟩
  · obtain ⟨ρ, m, w, re, rl, c⟩ := q
    refine isN_read (relg := RW X.K) (Q := Q) (f := R.ok) (fun k m w H r c => c _ w H (Ext.refl _ _) r (.v (.bl _))) ⟨ρ, m, w, re, rl, ?_⟩
    rw [R.b_pure]
    exact c
  · exact isN_read (relg := fun _ _ a b => a = b) (Q := Q) (f := fun x m => ofO (truW m x) m) (fun k m w H r c => ⟨k, rfl, c k w H (Ext.refl _ _) r rfl⟩) q
theorem s_notN {k : Nat} {q : Pos} (ha : Snd X C ω a y) : Snd X C ω (.notN a) (.Compare y [.IsNot] [.Constant .none k q] p) := by
  refine ⟨PEimp (pe_cmp (pc_notN ha.pe)) fun σ H Q q => ?_, fun _ => PTimp (pt_cmp (pc_notN ha.pe)) fun σ H Q q => ?_⟩
  · obtain ⟨ρ, m, w, re, rl, c⟩ := q
    refine notN_read (relg := RW X.K) (Q := Q) (f := R.ok) (fun k m w H r c => c _ w H (Ext.refl _ _) r (.v (.bl _))) ⟨ρ, m, w, re, rl, ?_⟩
    rw [R.b_pure]
    exact c
  · exact notN_read (relg := fun _ _ a b => a = b) (Q := Q) (f := fun x m => ofO (truW m x) m) (fun k m w H r c => ⟨k, rfl, c k w H (Ext.refl _ _) r rfl⟩) q
theorem s_not (ha : Snd X C ω a y) (ht : tst a = true) : Snd X C ω (.not a) (.UnaryOp .Not y p) := by
  refine ⟨PEimp (pe_notT ha.pe) fun σ H Q q => ?_, fun _ => PTimp (pt_not (ha.pt ht)) fun σ H Q q => ?_⟩
  · obtain ⟨ρ, m, w, re, rl, c⟩ := q
    simp only [ev] at c
    refine ⟨ρ, m, w, re, rl, (Cont.bind (RW X.K) c).imp ?_⟩
    rintro v H1 ⟨a1, m1, w1, R1⟩
    obtain ⟨k, e, c⟩ := Cont.o R1.c
    exact ⟨k, truW_ok R1.r R1.v e, c _ w1 H1 (Ext.refl _ _) R1.r (.v (.bl _))⟩
  · obtain ⟨ρ, m, w, re, rl, c⟩ := q
    simp only [ev, R.b_assoc, R.b_ok] at c
    refine ⟨ρ, m, w, re, rl, ?_⟩
    have : ∀ (r : R W), (r.b fun a m => (ofO (truW m a) m).b fun k m => ofO (truW m (.v (.bool (!k)))) m) = ((r.b fun a m => ofO (truW m a) m).b fun k m => R.ok (!k) m) := fun r => by
      rw [R.b_assoc]
      rfl
    rw [this] at c
    exact Cont.mapT (fun k => !k) (fun _ _ => rfl) c
theorem s_ite (hc : Snd X C ω c u) (ha : Snd X C ω a y) (hb : Snd X C ω b z) (ht : tst c = true) : Snd X C ω (.ite c a b) (.IfExp u y z p) := by
  refine ⟨PEimp (pe_ifExp (hc.pt ht) ha.pe hb.pe) fun σ H Q q => ?_, fun hh => PTimp (pt_ifZ (hc.pt ht) (ha.pt ?_) (hb.pt ?_)) fun σ H Q q => ?_⟩
  · obtain ⟨ρ, m, w, re, rl, cc⟩ := q
    simp only [ev] at cc
    have : ∀ (r : R W) (f : Bool → Mem → R W), (r.b fun a m => (ofO (truW m a) m).b f) = ((r.b fun a m => ofO (truW m a) m).b f) := fun r f => by rw [R.b_assoc]
    rw [this] at cc
    refine ⟨ρ, m, w, re, rl, (Cont.bind (fun _ _ a b => a = b) cc).imp ?_⟩
    rintro k H1 ⟨k', m1, w1, R1⟩
    obtain rfl := R1.v
    have c1 := R1.c
    cases k' with
    | true => rw [if_pos rfl] at c1 ⊢; exact ⟨ρ, m1, w1, re.ext R1.e, R1.r, c1⟩
    | false => rw [if_neg Bool.false_ne_true] at c1 ⊢; exact ⟨ρ, m1, w1, re.ext R1.e, R1.r, c1⟩
  · exact (Bool.and_eq_true_iff.mp hh).1
  · exact (Bool.and_eq_true_iff.mp hh).2
  · obtain ⟨ρ, m, w, re, rl, cc⟩ := q
    simp only [ev, R.b_assoc] at cc
    have : ∀ (r : R W) (f : Bool → Mem → R W) (g : W → Mem → R Bool), (r.b fun a m => (ofO (truW m a) m).b fun k m => (f k m).b g) = ((r.b fun a m => ofO (truW m a) m).b fun k m => (f k m).b g) := fun r f g => by rw [R.b_assoc]
    rw [this _ (fun k m => if k = true then ev C a ρ m else ev C b ρ m)] at cc
    refine ⟨ρ, m, w, re, rl, (Cont.bind (fun _ _ a b => a = b) cc).imp ?_⟩
    rintro k H1 ⟨k', m1, w1, R1⟩
    obtain rfl := R1.v
    have c1 := R1.c
    cases k' with
    | true => simp only [if_true] at c1 ⊢; exact ⟨ρ, m1, w1, re.ext R1.e, R1.r, c1⟩
    | false => simp only [Bool.false_eq_true, if_false] at c1 ⊢; exact ⟨ρ, m1, w1, re.ext R1.e, R1.r, c1⟩
end
end Z

set_option maxHeartbeats 4000000
/-! Z11: and, or; displays; subscripts; arguments. -/
namespace Z
open PySem PySem.Spec PyProof.Rows L2 RZ

section
variable {X : Cx} {Γ : Gm} {C : Orc} {ω : St → EW} {a b c e e2 : E} {r es : ES} {x y z u : Expr} {xs : List Expr} {p : Pos}
structure SndB (X : Cx) (C : Orc) (ω : St → EW) (es : ES) (xs : List Expr) : Prop where
  pa : ∀ p, PE X (.BoolOp .And xs p) (tE X.K C ω (.and es))
  wa : tstS es = true → ∀ p, PW X (.BoolOp .And xs p) (tT X.K C ω (.and es))
  po : ∀ p, PE X (.BoolOp .Or xs p) (tE X.K C ω (.or es))
  wo : tstS es = true → ∀ p, PW X (.BoolOp .Or xs p) (tT X.K C ω (.or es))
theorem PWimp {X : Cx} {e : Expr} {t t' : TT} (h : PW X e t) (i : ∀ σ H Q, t' σ H Q → t σ H Q) : PW X e t' := ⟨fun wh pins s σ H Q I q => h.run wh pins s σ H Q I (i _ _ _ q)⟩
theorem tst_c (h : tstS (.cons e r) = true) : tst e = true ∧ tstS r = true := Bool.and_eq_true_iff.mp h
theorem sB_one (h : Snd X C ω e x) : SndB X C ω (.cons e .nil) [x] where
  pa := fun p => PEimp (pe_one h.pe) fun σ H Q q => by
    obtain ⟨ρ, m, w, re, rl, c⟩ := q
    exact ⟨ρ, m, w, re, rl, by simpa only [ev, evAnd] using c⟩
  wa := fun ht p => PWimp (pw_and1 (h.pt (tst_c ht).1)) fun σ H Q q => by
    obtain ⟨ρ, m, w, re, rl, c⟩ := q
    exact ⟨ρ, m, w, re, rl, by simpa only [ev, evAnd] using c⟩
  po := fun p => PEimp (pe_one h.pe) fun σ H Q q => by
    obtain ⟨ρ, m, w, re, rl, c⟩ := q
    exact ⟨ρ, m, w, re, rl, by simpa only [ev, evOr] using c⟩
  wo := fun ht p => PWimp (pw_or1 (h.pt (tst_c ht).1)) fun σ H Q q => by
    obtain ⟨ρ, m, w, re, rl, c⟩ := q
    exact ⟨ρ, m, w, re, rl, by simpa only [ev, evOr] using c⟩
theorem sB_cons (h : Snd X C ω e x) (k : SndB X C ω (.cons e2 r) (y :: xs)) : SndB X C ω (.cons e (.cons e2 r)) (x :: y :: xs) where
  pa := fun p => PEimp (pe_andT h.pe (k.pa p)) fun σ H Q q => by
    obtain ⟨ρ, m, w, re, rl, c⟩ := q
    simp only [ev, evAnd] at c
    refine ⟨ρ, m, w, re, rl, (Cont.bind (RW X.K) c).imp ?_⟩
    rintro v H1 ⟨a1, m1, w1, R1⟩
    obtain ⟨k, e, c⟩ := Cont.o R1.c
    refine ⟨k, truW_ok R1.r R1.v e, ?_⟩
    cases k with
    | true => simp only [if_true] at c ⊢; exact ⟨ρ, m1, w1, re.ext R1.e, R1.r, by simpa only [ev] using c⟩
    | false => simp only [Bool.false_eq_true, if_false] at c ⊢; exact c v w1 H1 (Ext.refl _ _) R1.r R1.v
  po := fun p => PEimp (pe_orT h.pe (k.po p)) fun σ H Q q => by
    obtain ⟨ρ, m, w, re, rl, c⟩ := q
    simp only [ev, evOr] at c
    refine ⟨ρ, m, w, re, rl, (Cont.bind (RW X.K) c).imp ?_⟩
    rintro v H1 ⟨a1, m1, w1, R1⟩
    obtain ⟨k, e, c⟩ := Cont.o R1.c
    refine ⟨k, truW_ok R1.r R1.v e, ?_⟩
    cases k with
    | false => simp only [Bool.false_eq_true, if_false] at c ⊢; exact ⟨ρ, m1, w1, re.ext R1.e, R1.r, by simpa only [ev] using c⟩
    | true => simp only [if_true] at c ⊢; exact c v w1 H1 (Ext.refl _ _) R1.r R1.v
  wa := fun ht p => PWimp (pw_and (h.pt (tst_c ht).1) (k.wa (tst_c ht).2 p)) fun σ H Q q => by
    obtain ⟨ρ, m, w, re, rl, c⟩ := q
    simp only [ev, evAnd] at c
    have ex : ∀ q : R W, (q.b fun x m => (ofO (truW m x) m).b fun k m => if k = true then evAnd C (.cons e2 r) ρ m else .ok x m).b (fun x m => ofO (truW m x) m) = (q.b fun x m => ofO (truW m x) m).b (fun k m => if k = true then (evAnd C (.cons e2 r) ρ m).b fun x m => ofO (truW m x) m else .ok false m) := fun q => by
      cases q with
      | ok a m =>
        simp only [R.b]
        cases hh : truW m a with
        | none => rfl
        | some k =>
          cases k
          · simp only [ofO, Bool.false_eq_true, if_false, hh]
          · simp only [ofO, if_true]
      | err x m => rfl
      | bad => rfl
    rw [ex] at c
    refine ⟨ρ, m, w, re, rl, (Cont.bind (fun _ _ a b => a = b) c).imp ?_⟩
    rintro v H1 ⟨a1, m1, w1, R1⟩
    obtain rfl := R1.v
    have c1 := R1.c
    cases a1 with
    | true => simp only [if_true] at c1 ⊢; exact ⟨ρ, m1, w1, re.ext R1.e, R1.r, by simpa only [ev] using c1⟩
    | false => simp only [Bool.false_eq_true, if_false] at c1 ⊢; exact c1 false w1 H1 (Ext.refl _ _) R1.r rfl
  wo := fun ht p => PWimp (pw_or (h.pt (tst_c ht).1) (k.wo (tst_c ht).2 p)) fun σ H Q q => by
    obtain ⟨ρ, m, w, re, rl, c⟩ := q
    simp only [ev, evOr] at c
    have ex : ∀ q : R W, (q.b fun x m => (ofO (truW m x) m).b fun k m => if k = true then .ok x m else evOr C (.cons e2 r) ρ m).b (fun x m => ofO (truW m x) m) = (q.b fun x m => ofO (truW m x) m).b (fun k m => if k = true then .ok true m else (evOr C (.cons e2 r) ρ m).b fun x m => ofO (truW m x) m) := fun q => by
      cases q with
      | ok a m =>
        simp only [R.b]
        cases hh : truW m a with
        | none => rfl
        | some k =>
          cases k
          · simp only [ofO, Bool.false_eq_true, if_false]
          · simp only [ofO, if_true, hh]
      | err x m => rfl
      | bad => rfl
    rw [ex] at c
    refine ⟨ρ, m, w, re, rl, (Cont.bind (fun _ _ a b => a = b) c).imp ?_⟩
    rintro v H1 ⟨a1, m1, w1, R1⟩
    obtain rfl := R1.v
    have c1 := R1.c
    cases a1 with
    | false => simp only [Bool.false_eq_true, if_false] at c1 ⊢; exact ⟨ρ, m1, w1, re.ext R1.e, R1.r, by simpa only [ev] using c1⟩
    | true => simp only [if_true] at c1 ⊢; exact c1 true w1 H1 (Ext.refl _ _) R1.r rfl
theorem s_and (h : SndB X C ω es xs) (ht : tstS es = true) : Snd X C ω (.and es) (.BoolOp .And xs p) := ⟨h.pa p, fun _ => (h.wa ht p).pt⟩
theorem s_or (h : SndB X C ω es xs) (ht : tstS es = true) : Snd X C ω (.or es) (.BoolOp .Or xs p) := ⟨h.po p, fun _ => (h.wo ht p).pt⟩

/-! ### arguments -/
theorem a_nil : PA X [] (tA X.K C ω .nil) := PAimp pa_nil fun σ H Q q => by
  obtain ⟨ρ, m, w, re, rl, c⟩ := q
  simp only [evs] at c
  exact c _ w H (Ext.refl _ _) rl .nil
theorem a_cons (h : PE X x (tE X.K C ω e)) (k : PA X xs (tA X.K C ω r)) (hs : notStar x = true) : PA X (x :: xs) (tA X.K C ω (.cons e r)) := PAimp (pa_cons h k (starEach_one hs)) fun σ H Q q => by
  obtain ⟨ρ, m, w, re, rl, c⟩ := q
  simp only [evs] at c
  refine ⟨ρ, m, w, re, rl, (Cont.bind (RW X.K) c).imp ?_⟩
  rintro v H1 ⟨a1, m1, w1, R1⟩
  refine ⟨ρ, m1, w1, re.ext R1.e, R1.r, (Cont.bind (RWs X.K) R1.c).imp ?_⟩
  rintro vs H2 ⟨a2, m2, w2, R2⟩
  exact R2.c _ w2 H2 (Ext.refl _ _) R2.r (.cons (R1.v.ext R2.e) R2.v)
theorem a_star (h : PE X x (tE X.K C ω e)) (k : PA X xs (tA X.K C ω r)) : PA X (.Starred x p :: xs) (tA X.K C ω (.star e r)) := PAimp (StX.pa_star h k rfl) fun σ H Q q => by
  obtain ⟨ρ, m, w, re, rl, c⟩ := q
  simp only [evs] at c
  refine ⟨ρ, m, w, re, rl, (Cont.bind (RW X.K) c).imp ?_⟩
  rintro v H1 ⟨a1, m1, w1, R1⟩
  obtain ⟨ws, e, c⟩ := Cont.o R1.c
  obtain ⟨a, ys, rfl, h1, h2⟩ := itemsW_ok R1.r R1.v e
  refine ⟨a, ys, rfl, h1.symm, ρ, m1, w1, re.ext R1.e, R1.r, (Cont.bind (RWs X.K) c).imp ?_⟩
  rintro vs H2 ⟨a2, m2, w2, R2⟩
  exact R2.c _ w2 H2 (Ext.refl _ _) R2.r ((h2.ext R2.e).append R2.v)

/-! ### displays, subscripts -/
theorem s_tup {k : Nat} (h : PA X xs (tA X.K C ω es)) : Snd X C ω (.tup es) (.Tuple xs k p) := Snd.of (PEimp (pe_tup h) fun σ H Q q => by
  obtain ⟨ρ, m, w, re, rl, c⟩ := q
  simp only [ev] at c
  refine ⟨ρ, m, w, re, rl, (Cont.bind (RWs X.K) c).imp ?_⟩
  rintro vs H1 ⟨ws, m1, w1, R1⟩
  have c := R1.c
  split at c
  · rename_i hz
    obtain ⟨d, e, c⟩ := Cont.o0 c
    cases q : allV ws with
    | none => rw [q] at e; cases e
    | some ds =>
      rw [q] at e
      cases e
      refine ⟨by rw [← R1.v.length, szL_eq]; exact hz, Same.newT R1.r (fun v H' e r h => c v w1 H' e r (.v h)) (RDs.of_ws R1.v q)⟩
  · exact c.elim) (fun _ => rfl)
theorem s_lst {k : Kd} (h : PA X xs (tA X.K C ω es)) : Snd X C ω (.lst k (.disp es)) (.List xs p) := Snd.of (PEimp (pe_lst h) fun σ H Q q => by
  obtain ⟨ρ, m, w, re, rl, c⟩ := q
  simp only [ev, evL] at c
  refine ⟨ρ, m, w, re, rl, (Cont.bind (RWs X.K) c).imp ?_⟩
  rintro vs H1 ⟨ws, m1, w1, R1⟩
  exact mk_ok R1.r R1.v R1.c) (fun _ => rfl)
theorem s_ix {i : E} (ha : Snd X C ω a y) (hb : Snd X C ω i z) (hz : okX z = true) : Snd X C ω (.ix a i) (.Subscript y z p) := by
  have pl : PlainIx z := by
    cases z <;> first | exact absurd hz Bool.false_ne_true | exact fun _ _ => rfl
  refine Snd.of (PEimp (pe_ix ix_ok ha.pe hb.pe pl) fun σ H Q q => ?_) (fun _ => rfl)
  obtain ⟨ρ, m, w, re, rl, c⟩ := q
  simp only [ev] at c
  refine ⟨ρ, m, w, re, rl, (Cont.bind (RW X.K) c).imp ?_⟩
  rintro v H1 ⟨a1, m1, w1, R1⟩
  refine ⟨ρ, m1, w1, re.ext R1.e, R1.r, (Cont.bind (RW X.K) R1.c).imp ?_⟩
  rintro u H2 ⟨a2, m2, w2, R2⟩
  obtain ⟨d, e, c⟩ := Cont.o0 R2.c
  exact ⟨w2, m2, a1, a2, d, R2.r, R1.v.ext R2.e, R2.v, e, fun v hv => c v w2 H2 (Ext.refl _ _) R2.r hv⟩
def tO (K : PySem.W.Frag) (C : Orc) (ω : St → EW) (o : OE) : TO := fun σ H Q => ∃ ρ m w, RE K w H ρ σ ∧ Rl K w m H ∧ Cont K w H (fun _ _ a b => a = b) Q (ω σ) (evO C o ρ m)
theorem POimp {X : Cx} {e : Option Expr} {t t' : TO} (h : PO X e t) (i : ∀ σ H Q, t' σ H Q → t σ H Q) : PO X e t' := ⟨fun pins s σ H Q I q => h.run pins s σ H Q I (i _ _ _ q)⟩
theorem o_none : PO X none (tO X.K C ω .none) := POimp po_none fun σ H Q q => by
  obtain ⟨ρ, m, w, re, rl, c⟩ := q
  simp only [evO] at c
  exact c _ w H (Ext.refl _ _) rl rfl
theorem o_some (h : PE X x (tE X.K C ω e)) : PO X (some x) (tO X.K C ω (.some e)) := POimp (po_some h) fun σ H Q q => by
  obtain ⟨ρ, m, w, re, rl, c⟩ := q
  simp only [evO] at c
  refine ⟨ρ, m, w, re, rl, (Cont.bind (RW X.K) c).imp ?_⟩
  rintro v H1 ⟨a1, m1, w1, R1⟩
  have c := R1.c
  have hv := R1.v
  split at c
  · cases hv with
    | v hv =>
      cases (RD.int_ hv)
      exact ⟨_, rfl, c _ w1 H1 (Ext.refl _ _) R1.r rfl⟩
  · exact c.elim
theorem s_sl {lo hi : OE} {l h : Option Expr} {q : Pos} (ha : Snd X C ω a y) (hl : PO X l (tO X.K C ω lo)) (hh : PO X h (tO X.K C ω hi)) : Snd X C ω (.sl a lo hi) (.Subscript y (.Slice l h none q) p) := Snd.of (PEimp (pe_slice sl_ok ha.pe hl hh) fun σ H Q q => by
  obtain ⟨ρ, m, w, re, rl, c⟩ := q
  simp only [ev] at c
  refine ⟨ρ, m, w, re, rl, (Cont.bind (RW X.K) c).imp ?_⟩
  rintro v H1 ⟨a1, m1, w1, R1⟩
  refine ⟨ρ, m1, w1, re.ext R1.e, R1.r, (Cont.bind (fun _ _ a b => a = b) R1.c).imp ?_⟩
  rintro lo' H2 ⟨l2, m2, w2, R2⟩
  obtain rfl := R2.v
  refine ⟨ρ, m2, w2, (re.ext R1.e).ext R2.e, R2.r, (Cont.bind (fun _ _ a b => a = b) R2.c).imp ?_⟩
  rintro hi' H3 ⟨h3, m3, w3, R3⟩
  obtain rfl := R3.v
  obtain ⟨d, e, c⟩ := Cont.o0 R3.c
  cases q : slW m3 a1 l2 h3 with
  | none => rw [q] at e; cases e
  | some d' =>
    rw [q] at e
    cases e
    exact ⟨w3, m3, a1, d', R3.r, (R1.v.ext R2.e).ext R3.e, q, fun v H' e r h => c v w3 H' e r (.v h)⟩) (fun _ => rfl)
theorem s_frz (ha : PE X x (tE X.K C ω a)) : PE X x (tE X.K C ω (.frz a)) := PEimp ha fun σ H Q q => by
  obtain ⟨ρ, m, w, re, rl, c⟩ := q
  simp only [ev] at c
  refine ⟨ρ, m, w, re, rl, (Cont.bind (RW X.K) c).imp ?_⟩
  rintro v H1 ⟨a1, m1, w1, R1⟩
  exact freeze_ok R1.r R1.v R1.c
end
end Z

set_option maxHeartbeats 4000000
/-! Z12: calls. -/
namespace Z
open PySem PySem.Spec PyProof.Rows L2 RZ

section
variable {K : PySem.W.Frag} {w w' : Wd} {H H' : Hp}
mutual
theorem RD.mono (i : ∀ a, w'.live a → w.live a) : ∀ {d : PyData} {v : V}, RD K w H d v → RD K w' H d v
  | _, _, .non => .non
  | _, _, .bl b => .bl b
  | _, _, .int i => .int i
  | _, _, .str x => .str x
  | _, _, .lst h n r => .lst h (fun z => n (i _ z)) (RDs.mono i r)
  | _, _, .tup h r => .tup h (RDs.mono i r)
theorem RDs.mono (i : ∀ a, w'.live a → w.live a) : ∀ {ds : List PyData} {vs : List V}, RDs K w H ds vs → RDs K w' H ds vs
  | _, _, .nil => .nil
  | _, _, .cons a b => .cons (RD.mono i a) (RDs.mono i b)
end
theorem RS.mono (i : ∀ a, w'.live a → w.live a) {a : Addr} {o : OS} (h : RS K w H a o) : RS K w' H a o := by
  cases o with
  | lst ds => obtain ⟨xs, e1, q⟩ := h; exact ⟨xs, e1, q.mono i⟩
  | ro ds => obtain ⟨o, xs, e1, q⟩ := h; exact ⟨o, xs, e1, q.mono i⟩
  | ins c fs => exact h.elim
theorem RX.mono (i : ∀ a, w'.live a → w.live a) {x : Ex} {cls : Value} {d : Option Addr} (h : RX K w H x cls d) : RX K w' H x cls d := by
  obtain ⟨C, h1, h2, h3⟩ := h
  refine ⟨C, h1, h2, ?_⟩
  cases q : x.fs with
  | none => rw [q] at h3; exact h3
  | some p =>
    rw [q] at h3
    obtain ⟨dx, vs, e1, e2, e3⟩ := h3
    exact ⟨dx, vs, e1, e2, e3.mono i⟩
/-- what a called def sees -/
def Wd.inn (w : Wd) : Wd := ⟨w.mu, [], fun a => w.p a ∨ some a ∈ w.l⟩
/-- back in the caller -/
def Wd.out (w w' : Wd) : Wd := ⟨w'.mu, w.l, w.p⟩
theorem Wd.inn_live {a : Addr} : w.inn.live a ↔ w.live a := by
  simp only [Wd.live, Wd.inn, List.not_mem_nil, false_or]
  constructor
  · rintro (h | h | h)
    · exact .inl h
    · exact .inr (.inr h)
    · exact .inr (.inl h)
  · rintro (h | h | h)
    · exact .inl h
    · exact .inr (.inr h)
    · exact .inr (.inl h)
theorem RWs.inn : ∀ {ws : List W} {vs : List V}, RWs K w H ws vs → args ws = true → RWs K w.inn H ws vs
  | _, _, .nil, _ => .nil
  | _, _, .cons (a := a) r t, h => by
    cases a with
    | v d =>
      cases r with
      | v r => exact .cons (.v (r.mono fun a h => Wd.inn_live.mp h)) (RWs.inn t h)
    | ref n =>
      cases r with
      | ref r => exact .cons (.ref r) (RWs.inn t h)
    | ro ds =>
      cases r with
      | ro r1 r2 => exact .cons (.ro r1 (r2.mono fun a h => Wd.inn_live.mp h)) (RWs.inn t h)
    | loc n => cases h
theorem Rl.inn {m : Mem} (r : Rl K w m H) : Rl K w.inn ⟨[], m.S⟩ H where
  lenS := r.lenS
  lenL := rfl
  ndS := r.ndS
  ndL := fun i j a h => by simp [Wd.inn] at h
  ap := fun a _ => by simp [Wd.inn]
  apP := fun a h => by
    refine ⟨?_, by simp [Wd.inn], r.live_some (Wd.inn_live.mp (.inr (.inr h)))⟩
    rcases h with h | h
    · exact (r.apP a h).1
    · exact fun z => r.ap a z h
  s := fun n o a h1 h2 => (r.s n o a h1 h2).mono fun a h => Wd.inn_live.mp h
  l := fun n o x h => by simp at h
theorem out_live (e : Ext w.inn H w' H') {a : Addr} (h : (w.out w').live a) : w'.live a := by
  rcases h with h | h | h
  · exact .inl h
  · exact .inr (.inr (by rw [e.p]; exact .inr h))
  · exact .inr (.inr (by rw [e.p]; exact .inl h))
theorem Ext.out (e : Ext w.inn H w' H') : Ext w H (w.out w') H' where
  mu := e.mu
  ln := Nat.le_refl _
  l := fun n _ => .inl rfl
  p := rfl
  keep := fun a o h n => by
    obtain ⟨h1, h2⟩ := e.keep a o h fun z => n (Wd.inn_live.mp z)
    exact ⟨h1, fun z => h2 (out_live e z)⟩
  pk := fun a o hp h => e.pk a o (.inl hp) h
  tup := e.tup
  frz := e.frz
theorem Rl.out {m m' : Mem} (r : Rl K w m H) (e : Ext w.inn H w' H') (r' : Rl K w' m' H') : Rl K (w.out w') { m with S := m'.S } H' where
  lenS := r'.lenS
  lenL := r.lenL
  ndS := r'.ndS
  ndL := r.ndL
  ap := fun a h1 h2 => (r'.apP a (by rw [e.p]; exact .inr h2)).1 h1
  apP := fun a h => by
    refine ⟨(r'.apP a (by rw [e.p]; exact .inl h)).1, (r.apP a h).2.1, ?_⟩
    obtain ⟨o, q⟩ := (r.apP a h).2.2
    exact ⟨o, e.pk a o (.inl h) q⟩
  s := fun n o a h1 h2 => (r'.s n o a h1 h2).mono fun a h => out_live e h
  l := fun n o x h1 h2 => by
    refine (r.l n o x h1 h2).ext e.out fun a q => ?_
    subst q
    have hl : some a ∈ w.l := List.mem_of_getElem? h2
    obtain ⟨o', q⟩ := r.live_some (.inr (.inl hl))
    rw [q, e.pk a o' (.inr hl) q]
theorem RW.out {x : W} {v : V} (e : Ext w.inn H w' H') (h : RW K w' H' x v) (ha : args [x] = true) : RW K (w.out w') H' x v := by
  cases h with
  | v h => exact .v (h.mono fun a h => out_live e h)
  | ro h1 h2 => exact .ro h1 (h2.mono fun a h => out_live e h)
  | ref h => exact .ref h
  | loc h1 h2 => cases ha
theorem call_frame {C : Orc} {f n : Nat} {ws : List W} {vs : List V} {m : Mem} {Q : VK} {ω : EW} (r : Rl K w m H) (hw : RWs K w H ws vs) (hn : ws.length = n)
    (c : Cont K w H (RW K) Q ω (if args ws = true then (match C f ws m.S with
      | .ok w m' => if args [w] then .ok w { m with S := m'.S } else .bad
      | .err x m' => .err x { m with S := m'.S }
      | .bad => .bad) else .bad)) : spZ K C f n vs H Q (fun cls d H' => ∃ x w m, Rl K w m H' ∧ RX K w H' x cls d ∧ ω x w m H') := by
  split at c
  · rename_i ha
    refine ⟨ws, w.inn, m.S, hn, hw.inn ha, ha, r.inn, ?_⟩
    cases q : C f ws m.S with
    | ok a m' =>
      rw [q] at c
      intro v w' H' e r' rv
      dsimp only at c
      split at c
      · rename_i hr
        exact c v (w.out w') H' e.out (r.out e r') (rv.out e hr)
      · exact c.elim
    | err x m' =>
      rw [q] at c
      intro w' H' e r' cls d hx
      exact ⟨x, w.out w', _, r.out e r', hx.mono fun a h => out_live e h, c (w.out w') H' e.out (r.out e r')⟩
    | bad => rw [q] at c; exact c.elim
  · exact c.elim
end
section
variable {X : Cx} {Γ : Gm} {C : Orc} {ω : St → EW} {a b c e e2 : E} {r es : ES} {x y z u : Expr} {xs : List Expr} {p q : Pos}
theorem evs_len {C : Orc} {ρ : Env} : ∀ {es : ES} {xs : List Expr} {m m' : Mem} {ws : List W}, chkS Γ es xs = true → xs.all notStar = true → evs C es ρ m = .ok ws m' → ws.length = xs.length
  | .nil, [], m, m', ws, _, _, h => by
    simp only [evs] at h
    cases h
    rfl
  | .cons e r, x :: xs, m, m', ws, hc, hs, h => by
    simp only [chkS, Bool.and_eq_true] at hc
    rw [List.all_cons, Bool.and_eq_true] at hs
    simp only [evs] at h
    cases q : ev C e ρ m with
    | ok a m1 =>
      rw [q] at h
      simp only [R.b] at h
      cases q2 : evs C r ρ m1 with
      | ok as m2 =>
        rw [q2] at h
        simp only [R.b] at h
        cases h
        rw [List.length_cons, List.length_cons, evs_len hc.2 hs.2 q2]
      | err _ _ => rw [q2] at h; cases h
      | bad => rw [q2] at h; cases h
    | err _ _ => rw [q] at h; cases h
    | bad => rw [q] at h; cases h
  | .star e r, x :: xs, m, m', ws, hc, hs, h => by
    rw [List.all_cons, Bool.and_eq_true] at hs
    cases x <;> first | exact absurd hc Bool.false_ne_true | exact absurd hs.1 Bool.false_ne_true
  | .nil, _ :: _, _, _, _, hc, _, _ => by cases hc
  | .cons _ _, [], _, _, _, hc, _, _ => by cases hc
  | .star _ _, [], _, _, _, hc, _, _ => by cases hc
theorem Cont.bindE {K : PySem.W.Frag} {w : Wd} {H : Hp} {α β γ δ : Type} {r : R α} {E : EW} {f : α → Mem → R γ} {relg : Wd → Hp → γ → δ → Prop} {Q : δ → Hp → Prop} (rel : Wd → Hp → α → β → Prop) (h : Cont K w H relg Q E (r.b f)) : Cont K w H rel (fun v H1 => ∃ a m1 w1, r = .ok a m1 ∧ Rest K w H rel f relg Q E v H1 a m1 w1) E r := by
  cases r with
  | ok a m => exact fun v w' H' e rl rv => ⟨a, m, w', rfl, e, rl, rv, Cont.later e h⟩
  | err x m => exact h
  | bad => exact h
theorem pe_callS0 {CX : CXT} {k : Nat} {f : Addr} {fd : FuncData} {ps : List Str} {sp : Sp} {E : St → XK} {x : Str} (F : FnOk X.prog X.w X.K X.mg X.base CX k f fd ps sp) (hr : Room k X.A) (hg : Gl X x) (hm : X.mg x = some (.ref f)) (hk : PySem.W.keepIn X.K (.ref f) = true) (hb : Binds X.K fd ps [])
    (hx : ∀ σ, PassesAt CX X σ (E σ)) (hdb : (x == ("__debug__" : Str)) = false := by decide) : PE X (.Call (.Name x p) [] [] q) (tCallS sp E tNil) := by
  refine ⟨fun pins s σ H Q I h => ?_⟩
  refine wpAny_Call_Name_kw (ld_glob I hg hm ?_ hdb)
  exact PySem.W.callWith_K0 I.kIn hk (run_fnS (us := []) F hr hb (hx σ) I .nil h)
theorem s_call {f : Nat} {n : Str} (k : Cok X Γ C ω) (h1 : Γ.fn.lookup n = some (f, xs.length)) (h2 : glb Γ n = true) (h3 : dbg n = true) (h4 : xs.all notStar = true) (h5 : chkS Γ es xs = true) (ha : PA X xs (tA X.K C ω es)) : Snd X C ω (.call f es) (.Call (.Name n p) xs [] q) := by
  obtain ⟨fa, fd, ps, kk, e1, e2, e3, e4, e5⟩ := k.g.fn _ _ _ h1
  have rd : ∀ (σ : St) (H : Hp) (Q : VK), tE X.K C ω (.call f es) σ H Q → tCallS (spZ X.K C f xs.length) (fun σ cls d H' => ∃ x w m, Rl X.K w m H' ∧ RX X.K w H' x cls d ∧ ω σ x w m H') (tA X.K C ω es) σ H Q := by
    intro σ H Q q
    obtain ⟨ρ, m, w, re, rl, c⟩ := q
    simp only [ev] at c
    refine ⟨ρ, m, w, re, rl, (Cont.bindE (RWs X.K) c).imp ?_⟩
    rintro vs H1 ⟨ws, m1, w1, e, R1⟩
    exact call_frame R1.r R1.v (evs_len h5 h4 e) R1.c
  cases xs with
  | nil =>
    cases es with
    | nil =>
      refine Snd.of (PEimp (pe_callS0 e3 e4 (k.gl h2) e1 e2 e5 k.hx (dbg_1 h3).1) fun σ H Q q => ?_) (fun _ => rfl)
      obtain ⟨ρ, m, w, re, rl, c⟩ := rd σ H Q q
      simp only [evs] at c
      exact c [] w H (Ext.refl _ _) rl .nil
    | cons _ _ => cases h5
    | star _ _ => cases h5
  | cons y ys =>
    rw [List.all_cons, Bool.and_eq_true] at h4
    exact Snd.of (PEimp (pe_callS e3 e4 (k.gl h2) e1 e2 e5 k.hx ha (dbg_1 h3).1 (starEach_one h4.1) (starEach_plain h4.2)) rd) (fun _ => rfl)
theorem bltN_mem (b : Blt) : bltN b ∈ bltNames := by cases b <;> decide +kernel
theorem bltN_boot (b : Blt) : bootBuiltins (bltN b) = some (bltV b) := by cases b <;> decide +kernel
theorem bltN_ne (b : Blt) : bltN b ≠ "__name__" ∧ (bltN b == ("__debug__" : Str)) = false := by cases b <;> decide +kernel
theorem s_blt {bb : Blt} (k : Cok X Γ C ω) (h2 : glb Γ (bltN bb) = true) (h3 : plain xs = true) (ha : PA X xs (tA X.K C ω es)) : Snd X C ω (.blt bb es) (.Call (.Name (bltN bb) p) xs [] q) := by
  obtain ⟨y, ys, rfl, h4, h5⟩ := plain_cons h3
  have hm := k.g.bl _ (bltN_mem bb)
  have pe : PE X (.Call (.Name (bltN bb) p) (y :: ys) [] q) (tCB (rBlt X.K bb) (tA X.K C ω es)) := by
    have hv := bltN_boot bb
    have hc := blt_ok k.calm bb
    cases bb <;> first
      | exact pe_callB hc (k.gl h2) hm hv ha (bltN_ne _).1 (bltN_ne _).2 (starEach_one h4) (starEach_plain h5)
      | exact pe_callTy hc (k.gl h2) hm hv ha (bltN_ne _).1 (bltN_ne _).2 (starEach_one h4) (starEach_plain h5)
  refine Snd.of (PEimp pe fun σ H Q q => ?_) (fun _ => rfl)
  obtain ⟨ρ, m, w, re, rl, c⟩ := q
  simp only [ev] at c
  refine ⟨ρ, m, w, re, rl, (Cont.bind (RWs X.K) c).imp ?_⟩
  rintro vs H1 ⟨ws, m1, w1, R1⟩
  obtain ⟨d, e, c⟩ := Cont.o0 R1.c
  cases q : peeks m1 ws with
  | none => rw [q] at e; cases e
  | some ds =>
    rw [q, Option.bind_some] at e
    cases q2 : bltD bb ds with
    | none => rw [q2] at e; cases e
    | some d' =>
      rw [q2] at e
      cases e
      exact ⟨w1, m1, ds, d', R1.r, peeks_ok R1.r R1.v q, q2, fun v H' e r h => c v w1 H' e r (.v h)⟩
theorem s_of {k : Kd} (g : Cok X Γ C ω) (h2 : glb Γ ("list" : Str) = true) (h3 : notStar y = true) (ha : PE X y (tE X.K C ω e)) : Snd X C ω (.lst k (.of e)) (.Call (.Name ("list" : Str) p) [y] [] q) := by
  have hm := g.g.bl ("list" : Str) (bltN_mem .list)
  refine Snd.of (PEimp (pe_callTy call_list_of (g.gl h2) hm (bltN_boot .list) (pa_cons (es := []) ha pa_nil (starEach_one h3)) (bltN_ne .list).1 (bltN_ne .list).2 (starEach_one h3) (starEach_plain rfl)) fun σ H Q q => ?_) (fun _ => rfl)
  obtain ⟨ρ, m, w, re, rl, c⟩ := q
  simp only [ev, evL, R.b_assoc] at c
  refine ⟨ρ, m, w, re, rl, (Cont.bind (RW X.K) c).imp ?_⟩
  rintro v H1 ⟨a1, m1, w1, R1⟩
  obtain ⟨ws, e, c⟩ := Cont.o R1.c
  obtain ⟨a, ys, rfl, h1, h2⟩ := itemsW_ok R1.r R1.v e
  exact ⟨a, ys, rfl, h1, (mk_ok R1.r h2 c).2⟩
theorem boot_isi : bootBuiltins ("isinstance" : Str) = some (.builtin "isinstance") := by decide +kernel
theorem isi_mem : ("isinstance" : Str) ∈ bltNames := by decide +kernel
theorem tyS_mem (t : Ty) : (tyS t : Str) ∈ bltNames := by cases t <;> decide +kernel
theorem tyS_boot (t : Ty) : bootBuiltins (tyS t : Str) = some (.type (tyS t)) := by cases t <;> decide +kernel
theorem tyS_ne (t : Ty) : (tyS t : Str) ≠ "__name__" ∧ ((tyS t : Str) == ("__debug__" : Str)) = false := by cases t <;> decide +kernel
theorem chkTy_pe {t : Ty} (k : Cok X Γ C ω) (h : chkTy Γ t x = true) : PE X x (tC (.ty (tyS t))) := by
  cases x <;> first | exact absurd h Bool.false_ne_true | skip
  simp only [chkTy, Bool.and_eq_true, decide_eq_true_eq] at h
  obtain ⟨rfl, h2⟩ := h
  exact pe_bltn (k.gl h2) (k.g.bl _ (tyS_mem t)) (tyS_boot t) rfl (tyS_ne t).1 (tyS_ne t).2
theorem isiD_in {ts : List Ty} {d : PyData} {b : Bool} {K : PySem.W.Frag} {w : Wd} {H : Hp} {v : V} (h : PD K w H d v) (e : isiD ts d = some b) : ∃ t : Value, TyX K H v t ∧ (∀ u, ts = [u] → PySem.W.kitOne K t (.type (tyS u)) = some b) ∧ PySem.W.kitAny K t (ts.map fun u => .type (tyS u)) = some b := by
  have nd : ∀ kvs, d ≠ .dict kvs := fun kvs z => by subst z; cases e
  have e : (match tyOf d with | none => some false | some t => some (ts.any (tyLe t))) = some b := by
    cases d <;> first | exact e | exact absurd rfl (nd _)
  rcases h.tyx nd with ⟨t, q, hx⟩ | ⟨q, hx⟩
  · rw [q] at e
    cases e
    refine ⟨_, hx, fun u hu => ?_, kitAny_map (fun u => ty_kit K t u) ts⟩
    subst hu
    rw [ty_kit]
    simp
  · rw [q] at e
    cases e
    refine ⟨_, hx, fun u hu => ty_kitN K u, ?_⟩
    rw [kitAny_map (f := fun _ => false) (fun u => ty_kitN K u) ts]
    simp
def tTys : List V → TA := fun vs _ H Q => Q vs H
theorem chkTys_pa (k : Cok X Γ C ω) : ∀ {ts : List Ty} {xs : List Expr}, chkTys Γ ts xs = true → PA X xs (tTys (ts.map fun t => .ty (tyS t)))
  | [], [], _ => PAimp pa_nil fun σ H Q q => q
  | t :: ts, x :: xs, h => by
    simp only [chkTys, Bool.and_eq_true] at h
    have ns : notStar x = true := by cases x <;> first | rfl | exact absurd h.1 Bool.false_ne_true
    exact PAimp (pa_cons (chkTy_pe k h.1) (chkTys_pa k h.2) (starEach_one ns)) fun σ H Q q => q
  | [], _ :: _, h => by cases h
  | _ :: _, [], h => by cases h
theorem clsAll : ∀ ts : List Ty, Paired ClsV (ts.map fun t => V.ty (tyS t)) (ts.map fun t => Value.type (tyS t))
  | [] => .nil
  | t :: ts => .cons (.ty _) (clsAll ts)
theorem s_isi1 {t : Ty} (k : Cok X Γ C ω) (h2 : glb Γ ("isinstance" : Str) = true) (h3 : notStar y = true) (h4 : chkTy Γ t z = true) (ha : PE X y (tE X.K C ω e)) : Snd X C ω (.isi [t] e) (.Call (.Name ("isinstance" : Str) p) [y, z] [] q) := by
  have ns : notStar z = true := by cases z <;> first | rfl | exact absurd h4 Bool.false_ne_true
  refine Snd.of (PEimp (pe_callB call_isi (k.gl h2) (k.g.bl _ isi_mem) boot_isi (pa_cons ha (pa_cons (es := []) (chkTy_pe k h4) pa_nil (starEach_one ns)) (starEach_one h3)) (by decide) (by decide) (starEach_one h3) (starEach_plain (by rw [List.all_cons, ns]; rfl))) fun σ H Q q => ?_) (fun _ => rfl)
  obtain ⟨ρ, m, w, re, rl, c⟩ := q
  simp only [ev] at c
  refine ⟨ρ, m, w, re, rl, (Cont.bind (RW X.K) c).imp ?_⟩
  rintro v H1 ⟨a1, m1, w1, R1⟩
  obtain ⟨d, e, c⟩ := Cont.o0 R1.c
  cases q : peek m1 a1 with
  | none => rw [q] at e; cases e
  | some ds =>
    rw [q, Option.bind_some] at e
    cases q2 : isiD [t] ds with
    | none => rw [q2] at e; cases e
    | some b =>
      rw [q2] at e
      cases e
      obtain ⟨tv, t1, t2, _⟩ := isiD_in (peek_ok R1.r R1.v q) q2
      exact ⟨v, _, tv, _, b, rfl, .ty _, t1, t2 t rfl, c _ w1 H1 (Ext.refl _ _) R1.r (.v (.bl _))⟩
theorem s_isiT {ts : List Ty} {kk : Nat} {pt : Pos} {ns : List Expr} (k : Cok X Γ C ω) (h2 : glb Γ ("isinstance" : Str) = true) (h3 : notStar y = true) (h4 : chkTys Γ ts ns = true) (hz : ts.length ≤ szL) (ha : PE X y (tE X.K C ω e)) : Snd X C ω (.isi ts e) (.Call (.Name ("isinstance" : Str) p) [y, .Tuple ns kk pt] [] q) := by
  refine Snd.of (PEimp (pe_callB call_isiT (k.gl h2) (k.g.bl _ isi_mem) boot_isi (pa_cons ha (pa_cons (es := []) (pe_tup (chkTys_pa k h4)) pa_nil (starEach_one rfl)) (starEach_one h3)) (by decide) (by decide) (starEach_one h3) (starEach_plain rfl)) fun σ H Q q => ?_) (fun _ => rfl)
  obtain ⟨ρ, m, w, re, rl, c⟩ := q
  simp only [ev] at c
  refine ⟨ρ, m, w, re, rl, (Cont.bind (RW X.K) c).imp ?_⟩
  rintro v H1 ⟨a1, m1, w1, R1⟩
  obtain ⟨d, e, c⟩ := Cont.o0 R1.c
  cases q : peek m1 a1 with
  | none => rw [q] at e; cases e
  | some ds =>
    rw [q, Option.bind_some] at e
    cases q2 : isiD ts ds with
    | none => rw [q2] at e; cases e
    | some b =>
      rw [q2] at e
      cases e
      refine ⟨by rw [List.length_map, szL_eq]; exact hz, fun l hl => ?_⟩
      have ex := ext_upd (o := .tup (ts.map fun t => V.ty (tyS t))) R1.r hl
      have rl' := R1.r.upd_ (o := .tup (ts.map fun t => V.ty (tyS t))) hl
      obtain ⟨tv, t1, _, t3⟩ := isiD_in (peek_ok rl' (R1.v.ext ex) (by exact q)) q2
      exact ⟨v, l, _, tv, _, b, rfl, upd_same, clsAll ts, t1, t3, c _ w1 _ ex rl' (.v (.bl _))⟩
theorem s_mth {o : E} {qq : Pos} (ho : PE X y (tE X.K C ω o)) (h1 : notSuper y = true) (h2 : (p.endLine == qq.line) = true) (h3 : plain xs = true) (h4 : xs.length < 29) (ha : PA X xs (tA X.K C ω es)) : Snd X C ω (.mth .append o es) (.Call (.Attribute y (mthN .append) p) xs [] qq) := by
  obtain ⟨z, zs, rfl, h5, h6⟩ := plain_cons h3
  have hb : attributeBase y (mthN .append) X.env (eval y X.env) = eval y X.env := by
    cases y <;> first | rfl | exact absurd h1 Bool.false_ne_true
  have hf : ((backTo qq (starEach (z :: zs) X.env)).all (fun x => !x.1) && (backToKw qq (keywordEach [] X.env)).all (fun x => x.1.isSome)
      && decide ((z :: zs).length + ([] : List Keyword).length + (if ([] : List Keyword).isEmpty then 0 else 1) < 30)) = true := by
    rw [starEach_all (by rw [List.all_cons, h5, h6]; rfl), Bool.true_and, Bool.and_eq_true]
    refine ⟨rfl, decide_eq_true ?_⟩
    show (z :: zs).length + 0 + 0 < 30
    omega
  refine Snd.of (PEimp (pe_bm PySem.F.plainAttrs_list PySem.F.slot_list_append PySem.F.type_list_append mt_append ho ha hb hf h2 (starEach_one h5) (starEach_plain h6)) fun σ H Q q => ?_) (fun _ => rfl)
  obtain ⟨ρ, m, w, re, rl, c⟩ := q
  simp only [ev] at c
  refine ⟨ρ, m, w, re, rl, (Cont.bind (RW X.K) c).imp ?_⟩
  rintro v H1 ⟨a1, m1, w1, R1⟩
  have c := R1.c
  split at c
  · rename_i hh
    refine ⟨mty_ok R1.r R1.v hh, ρ, m1, w1, re.ext R1.e, R1.r, (Cont.bind (RWs X.K) c).imp ?_⟩
    rintro vs H2 ⟨ws, m2, w2, R2⟩
    exact mth_ok R2.r (R1.v.ext R2.e) R2.v R2.c
  · exact c.elim
end
end Z

set_option maxHeartbeats 4000000
/-! Z13: what is walked; comprehensions. -/
namespace Z
open PySem PySem.Spec PyProof.Rows L2 RZ

section
variable {X : Cx} {Γ : Gm} {C : Orc} {ω : St → EW} {a b e : E} {x y : Expr} {tg : Expr} {p q : Pos}
theorem PI.or3 {t : TE} (h : PE X x t) : PI X tg x (fun σ H R => t σ H fun v H1 => (∃ a, v = .ref a ∧ (∃ xs, SqL X.K H1 a xs) ∧ R (Itl X.K a) H1) ∨ (∃ a, v = .ref a ∧ (∃ xs, SqT X.K H1 a xs) ∧ R (Itt X.K a) H1) ∨ ∃ z, v = .str z ∧ R (Its z) H1) := by
  refine ⟨fun pins s σ H R I h' => ?_⟩
  refine thn (h.run pins s σ H _ I h') fun v s1 ⟨y, H1, I1, r1, q1⟩ => ?_
  have one : ∀ (R' : It → Hp → Prop) (v' : V) (u : Value) (t' : TE), RelV v' u → ∀ Q', Q' v' H1 → EP X pins σ Q' u s1 := fun _ _ _ _ r Q' q => ⟨_, H1, I1, r, q⟩
  rcases q1 with ⟨a, rfl, ⟨xs, hq⟩, q⟩ | ⟨a, rfl, ⟨xs, hq⟩, q⟩ | ⟨z, rfl, q⟩
  · cases r1
    obtain ⟨its, rv, p, hz⟩ := I1.list hq
    refine wpAny_pyIter_list p.isList ?_
    refine ⟨s1.heap.objs.size, [s1.heap.objs.size], _, _, H1, rfl, I1.kept (t' := s1.toks) fun b o e => Heap.get?_push_of_some _ e, turn_list a _, ⟨_, Heap.get?_push_size _ rfl, rfl, rfl⟩, fun b hb => ?_, q⟩
    have e : b = s1.heap.objs.size := by simpa using hb
    subst e
    exact I1.fpOk (Nat.le_refl _) (I1.hok.fresh (Nat.le_refl _))
  · cases r1
    obtain ⟨its, rv, p, hz⟩ := I1.tuple hq
    refine wpAny_pyIter_tuple (show s1.heap.IsTuple a its.toArray from p) ?_
    refine ⟨s1.heap.objs.size, [s1.heap.objs.size], _, _, H1, rfl, I1.kept (t' := s1.toks) fun b o e => Heap.get?_push_of_some _ e, turn_tuple a _, ⟨_, Heap.get?_push_size _ rfl, rfl, rfl⟩, fun b hb => ?_, q⟩
    have e : b = s1.heap.objs.size := by simpa using hb
    subst e
    exact I1.fpOk (Nat.le_refl _) (I1.hok.fresh (Nat.le_refl _))
  · obtain ⟨t, rfl⟩ := r1
    cases ha : z.cps.all (· < 128)
    · exact wpAny_pyIter_wide ha (pi_one (tk := s1.toks) I1 _ (turn_str _ z t "str_iterator" (.inr rfl)) ⟨_, Heap.get?_push_size _ rfl, rfl, rfl⟩ q)
    · exact wpAny_pyIter_ascii ha (pi_one (tk := s1.toks) I1 _ (turn_str _ z t "str_ascii_iterator" (.inl rfl)) ⟨_, Heap.get?_push_size _ rfl, rfl, rfl⟩ q)
theorem i_seq (ha : PE X x (tE X.K C ω e)) : PI X tg x (tI X.K C ω (.seq e)) := by
  refine PIimp (PI.or3 ha) fun σ H R q => ?_
  obtain ⟨ρ, m, w, re, rl, c⟩ := q
  simp only [evI] at c
  refine ⟨ρ, m, w, re, rl, (Cont.bind (RW X.K) c).imp ?_⟩
  rintro v H1 ⟨a1, m1, w1, R1⟩
  have c := R1.c
  have hv := R1.v
  split at c
  · rename_i z
    cases hv with
    | v hv =>
      cases (RD.str_ hv)
      exact .inr (.inr ⟨z, rfl, c _ w1 H1 (Ext.refl _ _) R1.r ⟨_, wz_str, trivial⟩⟩)
  · rename_i d _
    obtain ⟨ds, e, c⟩ := Cont.o0 c
    cases hv with
    | v hv =>
      cases d <;> first | (cases e; done) | skip
      · cases e
        cases hv with
        | lst h1 h2 h3 => exact .inl ⟨_, rfl, ⟨_, SqL.of h1⟩, c _ w1 H1 (Ext.refl _ _) R1.r ⟨_, wz_listG, h1, h2, h3⟩⟩
      · cases e
        cases hv with
        | tup h1 h2 => exact .inr (.inl ⟨_, rfl, ⟨_, h1⟩, c _ w1 H1 (Ext.refl _ _) R1.r ⟨_, wz_tup, h1, h2⟩⟩)
  · rename_i n
    split at c
    · rename_i ds hq
      cases hv with
      | ref hv =>
        obtain ⟨o, xs, h1, h2⟩ := R1.r.mu_ hv hq
        exact .inl ⟨_, rfl, ⟨_, .inl (.inr ⟨o, h1⟩)⟩, c _ w1 H1 (Ext.refl _ _) R1.r ⟨_, wz_ro, ⟨o, h1⟩, h2⟩⟩
    · exact c.elim
  · rename_i ds
    cases hv with
    | ro h1 h2 => exact .inl ⟨_, rfl, ⟨_, h1.l⟩, c _ w1 H1 (Ext.refl _ _) R1.r ⟨_, wz_roR, h1, h2⟩⟩
  · exact c.elim
theorem range_mem : ("range" : Str) ∈ bltNames := by decide +kernel
theorem enum_mem : ("enumerate" : Str) ∈ bltNames := by decide +kernel
theorem zip_mem : ("zip" : Str) ∈ bltNames := by decide +kernel
theorem small_1 {i : Int} (h : small i = true) : -(2 ^ 62) ≤ i ∧ i < 2 ^ 62 := by
  unfold small at h
  rw [Bool.and_eq_true, decide_eq_true_eq, decide_eq_true_eq] at h
  exact h
theorem i_rng1 (k : Cok X Γ C ω) (h2 : glb Γ ("range" : Str) = true) (h3 : notStar x = true) (ha : PE X x (tE X.K C ω e)) : PI X tg (.Call (.Name ("range" : Str) p) [x] [] q) (tI X.K C ω (.rng1 e)) := by
  refine PIimp (pi_range1 (k.gl h2) (k.g.bl _ range_mem) (pa_cons (es := []) ha pa_nil (starEach_one h3)) (starEach_one h3)) fun σ H R q => ?_
  obtain ⟨ρ, m, w, re, rl, c⟩ := q
  simp only [evI] at c
  refine ⟨ρ, m, w, re, rl, (Cont.bind (RW X.K) c).imp ?_⟩
  rintro v H1 ⟨a1, m1, w1, R1⟩
  have c := R1.c
  have hv := R1.v
  split at c
  · cases hv with
    | v hv =>
      cases (RD.int_ hv)
      split at c
      · rename_i hs
        exact ⟨_, rfl, (small_1 hs).1, (small_1 hs).2, c _ w1 H1 (Ext.refl _ _) R1.r ⟨_, wz_range, trivial⟩⟩
      · exact c.elim
  · exact c.elim
theorem i_rng2 (k : Cok X Γ C ω) (h2 : glb Γ ("range" : Str) = true) (h3 : notStar x = true) (h4 : notStar y = true) (ha : PE X x (tE X.K C ω a)) (hb : PE X y (tE X.K C ω b)) : PI X tg (.Call (.Name ("range" : Str) p) [x, y] [] q) (tI X.K C ω (.rng2 a b)) := by
  refine PIimp (pi_range2 (k.gl h2) (k.g.bl _ range_mem) (pa_cons ha (pa_cons (es := []) hb pa_nil (starEach_one h4)) (starEach_one h3)) (by rw [starEach_one h3, starEach_one h4]; rfl) (by rw [starEach_one h4]; rfl)) fun σ H R q => ?_
  obtain ⟨ρ, m, w, re, rl, c⟩ := q
  simp only [evI] at c
  refine ⟨ρ, m, w, re, rl, (Cont.bind (RW X.K) c).imp ?_⟩
  rintro v H1 ⟨a1, m1, w1, R1⟩
  refine ⟨ρ, m1, w1, re.ext R1.e, R1.r, (Cont.bind (RW X.K) R1.c).imp ?_⟩
  rintro u H2 ⟨a2, m2, w2, R2⟩
  have c := R2.c
  have hv := R1.v
  have hu := R2.v
  split at c
  · cases hv with
    | v hv =>
      cases hu with
      | v hu =>
        cases (RD.int_ hv)
        cases (RD.int_ hu)
        split at c
        · rename_i hs
          rw [Bool.and_eq_true] at hs
          exact ⟨_, _, rfl, ⟨(small_1 hs.1).1, (small_1 hs.1).2, (small_1 hs.2).1, (small_1 hs.2).2⟩, c _ w2 H2 (Ext.refl _ _) R2.r ⟨_, wz_range, trivial⟩⟩
        · exact c.elim
  · exact c.elim
theorem i_enum {es : List Expr} {kk : Nat} {pt : Pos} (k : Cok X Γ C ω) (h2 : glb Γ ("enumerate" : Str) = true) (h3 : notStar x = true) (ha : PE X x (tE X.K C ω e)) : PI X (.Tuple es kk pt) (.Call (.Name ("enumerate" : Str) p) [x] [] q) (tI X.K C ω (.enm e)) := by
  refine PIimp (pi_enum (k.gl h2) (k.g.bl _ enum_mem) (pa_cons (es := []) ha pa_nil (starEach_one h3)) (starEach_one h3)) fun σ H R q => ?_
  obtain ⟨ρ, m, w, re, rl, c⟩ := q
  simp only [evI] at c
  refine ⟨ρ, m, w, re, rl, (Cont.bind (RW X.K) c).imp ?_⟩
  rintro v H1 ⟨a1, m1, w1, R1⟩
  have c := R1.c
  have hv := R1.v
  split at c
  · cases hv with
    | v hv =>
      cases hv with
      | lst h1 h2 h3 => exact ⟨_, _, rfl, SqL.of h1, c _ w1 H1 (Ext.refl _ _) R1.r ⟨_, wz_enum, h1, h2, h3⟩⟩
  · exact c.elim
theorem i_zip {es : List Expr} {kk : Nat} {pt : Pos} (k : Cok X Γ C ω) (h2 : glb Γ ("zip" : Str) = true) (h3 : notStar x = true) (h4 : notStar y = true) (ha : PE X x (tE X.K C ω a)) (hb : PE X y (tE X.K C ω b)) : PI X (.Tuple es kk pt) (.Call (.Name ("zip" : Str) p) [x, y] [] q) (tI X.K C ω (.zip a b)) := by
  refine PIimp (RZ.pi_zipA (k.gl h2) (k.g.bl _ zip_mem) (pa_cons ha (pa_cons (es := []) hb pa_nil (starEach_one h4)) (starEach_one h3)) (starEach_one h3) (starEach_plain (by rw [List.all_cons, h4]; rfl))) fun σ H R q => ?_
  obtain ⟨ρ, m, w, re, rl, c⟩ := q
  simp only [evI] at c
  refine ⟨ρ, m, w, re, rl, (Cont.bind (RW X.K) c).imp ?_⟩
  rintro v H1 ⟨a1, m1, w1, R1⟩
  refine ⟨ρ, m1, w1, re.ext R1.e, R1.r, (Cont.bind (RW X.K) R1.c).imp ?_⟩
  rintro u H2 ⟨a2, m2, w2, R2⟩
  have c := R2.c
  have hv := R1.v.ext R2.e
  have hu := R2.v
  split at c
  · rename_i d1 d2
    obtain ⟨ds, e, c⟩ := Cont.o0 c
    cases hv with
    | v hv =>
      cases hu with
      | v hu =>
        unfold zipP at e
        split at e
        · cases e
          cases hv with
          | lst g1 g2 g3 =>
            cases hu with
            | lst f1 f2 f3 => exact ⟨_, _, _, _, rfl, .inl ⟨SqL.of g1, SqL.of f1, c _ w2 H2 (Ext.refl _ _) R2.r ⟨_, wz_zip, ⟨g1, g2, g3⟩, f1, f2, f3⟩⟩⟩
        · cases e
          cases hv with
          | tup g1 g2 =>
            cases hu with
            | tup f1 f2 => exact ⟨_, _, _, _, rfl, .inr ⟨g1, f1, c _ w2 H2 (Ext.refl _ _) R2.r ⟨_, wz_zipT, ⟨g1, g2⟩, f1, f2⟩⟩⟩
        · cases e
  · exact c.elim
end

end Z

set_option maxHeartbeats 4000000
/-! Z14: comprehensions. -/
namespace Z
open PySem PySem.Spec PyProof.Rows L2 RZ

def nope : St → EW := fun _ _ _ _ _ => False
def tIf (K : PySem.W.Frag) (C : Orc) (ω : St → EW) (ifs : ES) : TT := fun σ H Q => ∃ ρ m w, RE K w H ρ σ ∧ Rl K w m H ∧ Cont K w H (fun _ _ a b => a = b) Q (ω σ) (evIf C ifs ρ m)
section
variable {K : PySem.W.Frag} {w w' : Wd} {H H' : Hp} {α β γ δ : Type}
theorem R.ne_b {α β : Type} (r : R α) (f : α → Mem → R β) : r.ne.b f = match r with | .ok a m => f a m | _ => .bad := by cases r <;> rfl
theorem Cont.bindN {E E' : EW} {r : R α} {f : α → Mem → R γ} {relg : Wd → Hp → γ → δ → Prop} {Q : δ → Hp → Prop} (rel : Wd → Hp → α → β → Prop) (h : Cont K w H relg Q E (r.ne.b f)) : Cont K w H rel (fun v H1 => ∃ a m1 w1, Rest K w H rel f relg Q E v H1 a m1 w1) E' r := by
  cases r with
  | ok a m => exact fun v w' H' e rl rv => ⟨a, m, w', e, rl, rv, Cont.later e h⟩
  | err x m => exact h.elim
  | bad => exact h.elim
theorem turns_ne {f : PyData → Mem → R (Option W)} : ∀ {ds : List PyData} {acc : List W} {m : Mem} {x : Ex} {m' : Mem}, turns f ds acc m ≠ .err x m'
  | [], acc, m, x, m' => by unfold turns; exact fun h => nomatch h
  | d :: r, acc, m, x, m' => by
    unfold turns
    rw [R.ne_b]
    cases f d m with
    | ok o m1 =>
      cases o with
      | some w =>
        dsimp only
        split
        · exact turns_ne
        · exact fun h => nomatch h
      | none => exact turns_ne
    | err _ _ => exact fun h => nomatch h
    | bad => exact fun h => nomatch h
theorem wipe_get {σ : St} {j : Nat} : ∀ {vs : List Nat}, j ∉ vs → (L2.wipe σ vs)[j]? = σ[j]?
  | [], _ => rfl
  | v :: vs, h => by
    unfold L2.wipe
    rw [List.mem_cons, not_or] at h
    rw [List.getElem?_set_ne (Ne.symm h.1)]
    exact wipe_get h.2
theorem wipe_in {σ : St} {j : Nat} : ∀ {vs : List Nat}, j ∈ vs → j < σ.length → (L2.wipe σ vs)[j]? = some none
  | v :: vs, h, hl => by
    unfold L2.wipe
    by_cases e : v = j
    · subst e
      rw [List.getElem?_set_self (by rw [wipe_length]; exact hl)]
    · rw [List.getElem?_set_ne e]
      exact wipe_in ((List.mem_cons.mp h).resolve_left (Ne.symm e)) hl
theorem wipe_like {σ σ2 : St} {g vs : List Nat} (h : Like g (L2.wipe σ vs) σ2) (hg : ∀ i ∈ g, i ∈ vs) : L2.wipe σ2 vs = L2.wipe σ vs := by
  have hl : σ2.length = σ.length := by rw [h.1, wipe_length]
  refine List.ext_getElem? fun j => ?_
  by_cases hj : j ∈ vs
  · by_cases hz : j < σ.length
    · rw [wipe_in hj (by omega), wipe_in hj hz]
    · rw [List.getElem?_eq_none (by rw [wipe_length]; omega), List.getElem?_eq_none (by rw [wipe_length]; omega)]
  · rw [wipe_get hj, h.2 j fun z => hj (hg j z)]
/-- what stands when the turns end -/
def Fin (K : PySem.W.Frag) (w : Wd) (H : Hp) (D : Addr) (q : Hp → Prop) : R (List W) → Prop
  | .ok ws m => ∀ w' H' vs, w'.p = (w.add D).p → Ext w H (w'.sub w.p) (cutH H' D) → Rl K w' m H' → H' D = some (.lst vs) → RWs K w' H' ws vs → q H'
  | _ => False
theorem fin_of {f : PyData → Mem → R (Option W)} {ds : List PyData} {k : Kd} {m : Mem} {Q : VK} {E : EW} {D : Addr} (hD : H D = none) (hw : ¬ w.live D) (c : Cont K w H (RW K) Q E ((turns f ds [] m).b fun ws m => mk k ws m)) : Fin K w H D (fun H' => Q (.ref D) H') (turns f ds [] m) := by
  cases h : turns f ds [] m with
  | ok ws m1 =>
    rw [h] at c
    intro w' H' vs hp e r hl hv
    have lD : w'.p D := by rw [hp]; exact .inr rfl
    have r2 := r.cut (P := w.p) hl lD fun a ha => ⟨by rw [hp]; exact .inl ha, fun z => ?_⟩
    · have c2 : Cont K (w'.sub w.p) (cutH H' D) (RW K) Q E (mk k ws m1) := Cont.later e c
      have := (mk_ok r2 (paired_imp (fun _ _ r => r.cut hl (.inr (.inr lD)) fun a ha => by rw [hp]; exact .inl ha) hv) c2).2 D cutH_self
      rw [upd_cut hl] at this
      exact this
    · exact hw (by subst z; exact .inr (.inr ha))
  | err x m1 => exact absurd h turns_ne
  | bad => rw [h] at c; exact c.elim
end
section
variable {X : Cx} {Γ : Gm} {C : Orc} {ω : St → EW} {own : List Nat} {g : G} {src : IT} {ifs : ES} {elt : E} {k : Kd}
theorem rd_comp {σ : St} {H : Hp} {Q : VK} (hs : ∀ i ∈ slots g, i ∈ own) (q : tE X.K C ω (.lst k (.comp own g src ifs elt)) σ H Q) :
    tLc (tI X.K C ω src) (tG X.K g) (tIf X.K C nope ifs) (tE X.K C nope elt) own σ H Q := by
  obtain ⟨ρ, m, w, re, rl, c⟩ := q
  simp only [ev, evL, R.b_assoc] at c
  refine ⟨ρ, m, w, re, rl, (Cont.bind (relI X.K) c).imp ?_⟩
  rintro J H1 ⟨ds, m1, w1, R1⟩
  obtain ⟨G, wz, g0⟩ := R1.v
  intro D hD
  have nl : ¬ w1.live D := R1.r.fresh hD
  have fin := fin_of hD nl R1.c
  have re1 := re.ext R1.e
  generalize hf : (fun d m => match asg g (.v d) (wipe ρ own) with
    | none => R.bad
    | some ρ1 => (evIf C ifs ρ1 m).b fun k m => if k = true then (ev C elt ρ1 m).b fun w m => .ok (some w) m else .ok none m) = f at fin
  refine ⟨fun i n H' => n = ds.length - i ∧ i ≤ ds.length ∧ ∃ w' m' aw av, w'.p = (w1.add D).p ∧ Ext w1 H1 (w'.sub w1.p) (cutH H' D) ∧ Rl X.K w' m' H' ∧ H' D = some (.lst av) ∧ RWs X.K w' H' aw av ∧ RE X.K w' H' ρ σ ∧ G w' H' ∧ Fin X.K w1 H1 D (fun H' => Q (.ref D) H') (turns f (ds.drop i) aw m'),
    ⟨ds.length, by simp, Nat.zero_le _, w1.add D, m1, [], [], rfl, ?_, R1.r.add hD, upd_same, .nil, ?_, wz.add w1 H1 D _ hD g0, fin⟩, ?_⟩
  · rw [cut_upd, cut_none hD]
    exact Ext.refl _ _
  · exact ⟨re1.len, fun i a h => by obtain ⟨v, e1, e2⟩ := re1.get i a h; exact ⟨v, e1, e2.add hD⟩⟩
  · rintro i n H2 ⟨rfl, hi, w2, m2, aw, av, hp, e2, r2, hl, hv, re2, g2, fin⟩
    by_cases hlt : i < ds.length
    · refine .inr ⟨wz.go i w2 H2 hlt g2, fun H' => ∃ w' m' aw av, w'.p = (w1.add D).p ∧ Ext w1 H1 (w'.sub w1.p) (cutH H' D) ∧ Rl X.K w' m' H' ∧ H' D = some (.lst av) ∧ RWs X.K w' H' aw av ∧ RE X.K w' H' ρ σ ∧ G w' H' ∧ Fin X.K w1 H1 D (fun H' => Q (.ref D) H') (turns f (ds.drop (i + 1)) aw m'),
        fun H' h => ⟨ds.length - (i + 1), by omega, rfl, hlt, h⟩, fun x H3 y => ?_⟩
      obtain ⟨e3, r3, v3⟩ := wz.yld i w2 m2 H2 x H3 ds[i] (List.getElem?_eq_getElem hlt) g2 r2 y
      have pD : w2.p D := by rw [hp]; exact .inr rfl
      rw [List.drop_eq_getElem_cons hlt] at fin
      unfold turns at fin
      rw [R.ne_b, ← hf] at fin
      dsimp only at fin
      cases ha : asg g (.v ds[i]) (wipe ρ own) with
      | none => rw [ha] at fin; exact fin.elim
      | some ρ1 =>
        rw [ha] at fin
        dsimp only at fin
        refine ⟨_, w2, _, ρ1, (re2.ext e3).wipe own, .v v3, ha, fun σ3 re3 lk => ⟨wipe_like lk hs, ρ1, m2, w2, re3, r3, ?_⟩⟩
        cases hk : evIf C ifs ρ1 m2 with
        | err _ _ => rw [hk] at fin; exact fin.elim
        | bad => rw [hk] at fin; exact fin.elim
        | ok kk m3 =>
          rw [hk] at fin
          intro v w3 H4 e4 r4 rv
          obtain rfl := rv
          have hD4 : H4 D = some (.lst av) := (e3.trans e4).pk D _ pD hl
          have e24 := e3.trans e4
          have hp3 : w3.p = (w1.add D).p := e24.p.trans hp
          cases kk with
          | false =>
            simp only [Bool.false_eq_true, if_false, R.b_ok] at fin ⊢
            refine ⟨w3, m3, aw, av, hp3, e2.trans (Ext.cut2 e24 hp hl), r4, hD4, hv.ext e24, re2.ext e24, wz.ext _ _ _ _ g2 e24, ?_⟩
            rw [hf] at fin
            exact fin
          | true =>
            simp only [if_true, R.b_ok] at fin ⊢
            refine ⟨ρ1, m3, w3, re3.ext e4, r4, ?_⟩
            cases he : ev C elt ρ1 m3 with
            | err _ _ => rw [he] at fin; exact fin.elim
            | bad => rw [he] at fin; exact fin.elim
            | ok a m4 =>
              rw [he] at fin
              intro v w5 H5 e5 r5 rv
              have hD5 : H5 D = some (.lst av) := e5.pk D _ (by rw [hp3]; exact .inr rfl) hD4
              have e25 := e24.trans e5
              have hp5 : w5.p = (w1.add D).p := e25.p.trans hp
              have pD5 : w5.p D := by rw [hp5]; exact .inr rfl
              have lD5 : w5.live D := .inr (.inr pD5)
              simp only [R.b_ok] at fin
              split at fin
              · rename_i hz
                refine ⟨av, hD5, by rw [← hv.length, szL_eq]; exact hz, w5, m4, aw ++ [a], av ++ [v], hp5, ?_, r5.wr hD5 pD5, upd_same, ?_, ?_, wz.wr _ _ _ _ _ lD5 hD5 (wz.ext _ _ _ _ g2 e25), ?_⟩
                · rw [cut_upd]
                  exact e2.trans (Ext.cut2 e25 hp hl)
                · exact ((hv.ext e25).append (.cons rv .nil)) |> paired_imp (fun _ _ r => r.wr hD5 lD5)
                · exact ⟨(re2.ext e25).len, fun j b h => by obtain ⟨u, q1, q2⟩ := (re2.ext e25).get j b h; exact ⟨u, q1, q2.wr hD5 lD5⟩⟩
                · rw [hf] at fin
                  exact fin
              · exact fin.elim
    · have e : i = ds.length := by omega
      subst e
      rw [List.drop_length] at fin
      exact .inl ⟨wz.stop w2 H2 g2, fin w2 H2 av hp e2 r2 hl hv⟩
end
end Z

set_option maxHeartbeats 4000000
/-! Z15: expressions: all together. -/
namespace Z
open PySem PySem.Spec PyProof.Rows L2 RZ

section
variable {X : Cx} {Γ : Gm} {C : Orc} {ω : St → EW}
theorem rel_lookup (f : Str → NameKind → Bool) : ∀ {names : List (Str × NameKind)} {x : Str} {k : NameKind}, names.lookup x = some k → k ≠ .free → (names.map fun (n, k) => if (k == .free && f n k) then (n, NameKind.cell) else (n, k)).lookup x = some k
  | [], _, _, h, _ => by cases h
  | (n, k0) :: r, x, k, h, hk => by
    show List.lookup x ((if (k0 == .free && f n k0) = true then (n, NameKind.cell) else (n, k0)) :: _) = _
    by_cases e : x = n
    · subst e
      rw [List.lookup_cons_self] at h
      cases h
      have : (k0 == NameKind.free) = false := by cases k0 <;> first | rfl | exact absurd rfl hk
      rw [this, Bool.false_and, if_neg Bool.false_ne_true, List.lookup_cons_self]
    · have e1 : (x == n) = false := by simpa using e
      rw [List.lookup_cons, e1] at h
      have ih := rel_lookup f h hk
      split
      · rw [List.lookup_cons, e1]; exact ih
      · rw [List.lookup_cons, e1]; exact ih
theorem relN_eq (k : Cok X Γ C ω) (sc : Scope) : (relabel sc X.env).names = relN Γ.nm sc := by
  unfold relabel relN
  have h : (X.env.scope.kind == .function) = true := by rw [k.kd]; rfl
  show List.map _ _ = List.map _ _
  congr 1
  funext ⟨n, kk⟩
  show (if (kk == NameKind.free && X.env.scope.kind == .function && X.env.scope.names.lookup n == some .cell) = true then _ else _) = _
  rw [h, k.nm, Bool.and_true]
theorem blk_ok {sc : Scope} {own : List Nat} (k : Cok X Γ C ω) (h : blkC Γ.N (scOf Γ) sc (ownOf Γ own) = true) : BlkOk X.N X.env.scope sc (ownOf Γ own) := by
  have b := blkOk_by h
  rw [k.N]
  exact ⟨b.kind, b.uniq, b.ix, fun y hy e => by have := b.free y hy e; rw [k.nm]; exact this, b.own⟩
theorem ownOf_2 (own : List Nat) : (ownOf Γ own).map (·.2) = own := by
  unfold ownOf
  rw [List.map_map]
  exact List.map_id' own
theorem Cok.blk {sc : Scope} {own : List (Str × Nat)} (k : Cok X Γ C ω) (ok : BlkOk X.N X.env.scope sc own) (s : Shared) (H : Hp) (Cc : Addr) (cl : List (Str × Addr)) (fp : List Addr) : Cok (X.blk s H sc (compEnvC sc cl Cc X.env) fp) (Γ.blk sc) C nope where
  N := k.N
  nd := k.nd
  nm := relN_eq k sc
  kd := ok.kind
  calm := k.calm
  g := k.g
  hx := fun σ pins H s e s' _ c => by
    obtain ⟨_, _, _, _, _, _, _, _, _, _, _, _, hE⟩ := c
    obtain ⟨_, _, _, _, _, z⟩ := hE
    exact z
theorem Sto.blk {sc : Scope} {own : List (Str × Nat)} (k : Cok X Γ C ω) (s : Shared) (H : Hp) (Cc : Addr) (cl : List (Str × Addr)) (fp : List Addr) : Sto (X.blk s H sc (compEnvC sc cl Cc X.env) fp) (Γ.blk sc) where
  N := k.N
  nd := k.nd
  calm := k.calm
  s := fun x h => by
    have e : (X.blk s H sc (compEnvC sc cl Cc X.env) fp).env.scope.names = relN Γ.nm sc := relN_eq k sc
    unfold locN at h
    rw [Bool.or_eq_true, decide_eq_true_eq, decide_eq_true_eq] at h
    unfold L2.Loc
    rw [e]
    rcases h with h | h
    · have := rel_lookup (fun n _ => Γ.nm.lookup n == some .cell) h (by decide)
      exact ⟨.inl this, .inr this⟩
    · have := rel_lookup (fun n _ => Γ.nm.lookup n == some .cell) h (by decide)
      refine ⟨.inr this, .inl ?_⟩
      show (sc.names.lookup x == some .cell) = true
      have h : sc.names.lookup x = some .cell := h
      rw [h]
      rfl
theorem PTsimp {X : Cx} {e : List Expr} {t t' : TT} (h : PTs X e t) (i : ∀ σ H Q, t' σ H Q → t σ H Q) : PTs X e t' := ⟨fun pins s σ H Q I q => h.run pins s σ H Q I (i _ _ _ q)⟩
theorem f_nil : PTs X [] (tIf X.K C ω .nil) := PTsimp pts_nil fun σ H Q q => by
  obtain ⟨ρ, m, w, re, rl, c⟩ := q
  simp only [evIf] at c
  exact c true w H (Ext.refl _ _) rl rfl
theorem f_one {e : E} {x : Expr} (h : Snd X C ω e x) (ht : tst e = true) : PTs X [x] (tIf X.K C ω (.cons e .nil)) := PTsimp (pts_one (h.pt ht)) fun σ H Q q => by
  obtain ⟨ρ, m, w, re, rl, c⟩ := q
  simp only [evIf] at c
  exact ⟨ρ, m, w, re, rl, c⟩

/-! ### the inversions that were left -/
theorem chk_isi {Γ : Gm} {ts : List Ty} {a : E} {x : Expr} (h : chk Γ (.isi ts a) x = true) : ∃ y t p q, x = .Call (.Name ("isinstance" : Str) p) [y, t] [] q ∧ glb Γ ("isinstance" : Str) = true ∧ notStar y = true ∧ chk Γ a y = true ∧ ((∃ u, ts = [u] ∧ chkTy Γ u t = true) ∨ ∃ ns kk pt, t = .Tuple ns kk pt ∧ ts.length ≤ 100 ∧ chkTys Γ ts ns = true) := by
  cases x <;> first | exact absurd h Bool.false_ne_true | skip
  rename_i fn xs kw q
  cases fn <;> first | exact absurd h Bool.false_ne_true | skip
  rename_i n p
  rcases xs with _ | ⟨y, _ | ⟨t, _ | ⟨t2, xs⟩⟩⟩ <;> cases kw <;> first | exact absurd h Bool.false_ne_true | skip
  simp only [chk, Bool.and_eq_true, decide_eq_true_eq] at h
  obtain ⟨⟨⟨⟨h1, h2⟩, h3⟩, h4⟩, h5⟩ := h
  subst h1
  refine ⟨y, t, p, q, rfl, h2, h3, h4, ?_⟩
  split at h5
  · split at h5
    · exact .inl ⟨_, rfl, h5⟩
    · cases h5
  · simp only [Bool.and_eq_true, decide_eq_true_eq] at h5
    exact .inr ⟨_, _, _, rfl, h5⟩
  · cases h5
theorem chkL_of {Γ : Gm} {e : E} {x : Expr} (h : chkL Γ (.of e) x = true) : ∃ y p q, x = .Call (.Name ("list" : Str) p) [y] [] q ∧ glb Γ ("list" : Str) = true ∧ notStar y = true ∧ chk Γ e y = true := by
  cases x <;> first | exact absurd h Bool.false_ne_true | skip
  rename_i fn xs kw q
  cases fn <;> first | exact absurd h Bool.false_ne_true | skip
  rename_i n p
  rcases xs with _ | ⟨y, _ | ⟨t, xs⟩⟩ <;> cases kw <;> first | exact absurd h Bool.false_ne_true | skip
  simp only [chkL, Bool.and_eq_true, decide_eq_true_eq] at h
  obtain ⟨⟨⟨h1, h2⟩, h3⟩, h4⟩ := h
  subst h1
  exact ⟨y, p, q, rfl, h2, h3, h4⟩
theorem chkL_cat {Γ : Gm} {a b : E} {x : Expr} (h : chkL Γ (.cat a b) x = true) : ∃ y z p, x = .BinOp y .Add z p ∧ chk Γ a y = true ∧ chk Γ b z = true := by
  cases x <;> first | exact absurd h Bool.false_ne_true | skip
  simp only [chkL, Bool.and_eq_true, decide_eq_true_eq] at h
  exact ⟨_, _, _, by rw [h.1.1], h.1.2, h.2⟩
theorem chkL_disp {Γ : Gm} {es : ES} {x : Expr} (h : chkL Γ (.disp es) x = true) : ∃ xs p, x = .List xs p ∧ chkS Γ es xs = true := by
  cases x <;> first | exact absurd h Bool.false_ne_true | exact ⟨_, _, rfl, h⟩
theorem chkL_comp {Γ : Gm} {own : List Nat} {g : G} {src : IT} {ifs : ES} {elt : E} {x : Expr} (h : chkL Γ (.comp own g src ifs elt) x = true) : ∃ el tg it fs sc p, x = .ListComp el [⟨tg, it, fs, 0⟩] sc p ∧ blkC Γ.N (scOf Γ) sc (ownOf Γ own) = true ∧ (∀ i ∈ slots g, i ∈ own) ∧ chkI Γ src tg it = true ∧ chkG (Γ.blk sc) g tg = true ∧ chkF (Γ.blk sc) ifs fs = true ∧ chk (Γ.blk sc) elt el = true := by
  cases x <;> first | exact absurd h Bool.false_ne_true | skip
  rename_i el gs sc p
  rcases gs with _ | ⟨⟨tg, it, fs, as⟩, _ | ⟨g2, gs⟩⟩ <;> first | exact absurd h Bool.false_ne_true | skip
  simp only [chkL, Bool.and_eq_true, List.all_eq_true, List.contains_iff_mem] at h
  obtain ⟨⟨⟨⟨⟨⟨h1, h2⟩, h3⟩, h4⟩, h5⟩, h6⟩, h7⟩ := h
  have e : as = 0 := by
    unfold isZero at h1
    split at h1
    · rfl
    · cases h1
  subst e
  exact ⟨el, tg, it, fs, sc, p, rfl, h2, h3, h4, h5, h6, h7⟩
theorem itemsL_ok {K : PySem.W.Frag} {w : Wd} {H : Hp} {m : Mem} {x : W} {v : V} {ws : List W} (r : Rl K w m H) (h : RW K w H x v) (e : itemsL m x = some ws) : ∃ a xs, v = .ref a ∧ H a = some (.lst xs) ∧ RWs K w H ws xs := by
  unfold itemsL at e
  split at e
  · cases e
    cases h with
    | v h =>
      cases h with
      | lst a b c => exact ⟨_, _, rfl, a, c.ws⟩
  · cases e
  · cases e
  · split at e
    · rename_i q
      cases e
      cases h with
      | ref h =>
        obtain ⟨xs, h1, h2⟩ := r.mu_ h q
        exact ⟨_, _, rfl, h1, h2.ws⟩
    · cases e
  · split at e
    · rename_i q
      cases e
      obtain ⟨a, xs, rfl, _, h2, h3⟩ := r.l_ (o := .dead) h q
      exact ⟨a, xs, rfl, h2, h3⟩
    · cases e
theorem s_cat {a b : E} {y z : Expr} {p : Pos} {k : Kd} (ha : Snd X C ω a y) (hb : Snd X C ω b z) : Snd X C ω (.lst k (.cat a b)) (.BinOp y .Add z p) := by
  refine Snd.of (PEimp (pe_op op_cat ha.pe hb.pe) fun σ H Q q => ?_) (fun _ => rfl)
  obtain ⟨ρ, m, w, re, rl, c⟩ := q
  simp only [ev, evL, R.b_assoc] at c
  refine ⟨ρ, m, w, re, rl, (Cont.bind (RW X.K) c).imp ?_⟩
  rintro v H1 ⟨a1, m1, w1, R1⟩
  refine ⟨ρ, m1, w1, re.ext R1.e, R1.r, (Cont.bind (RW X.K) R1.c).imp ?_⟩
  rintro u H2 ⟨a2, m2, w2, R2⟩
  obtain ⟨d, e, c⟩ := Cont.o R2.c
  cases e1 : itemsL m2 a1 with
  | none => rw [e1] at e; cases e
  | some d1 =>
    rw [e1, Option.bind_some] at e
    cases e2 : itemsL m2 a2 with
    | none => rw [e2] at e; cases e
    | some d2 =>
      rw [e2, Option.bind_some] at e
      split at e
      · rename_i hz
        cases e
        obtain ⟨l, xs, rfl, h1, h2⟩ := itemsL_ok R2.r (R1.v.ext R2.e) e1
        obtain ⟨l2, xs2, rfl, h3, h4⟩ := itemsL_ok R2.r R2.v e2
        exact ⟨l, l2, xs, xs2, rfl, rfl, h1, h3, by rw [← h2.length, ← h4.length, szL_eq]; exact hz, (mk_ok R2.r (h2.append h4) c).2⟩
      · cases e

mutual
theorem sndE : ∀ (e : E) (X : Cx) (Γ : Gm) (ω : St → EW) (k : Cok X Γ C ω) (x : Expr), chk Γ e x = true → Snd X C ω e x
  | .var _, X, Γ, ω, k, _, h => s_var k h
  | .cst _, X, Γ, ω, k, _, h => s_cst k h
  | .bin o a b, X, Γ, ω, k, _, h => by obtain ⟨y, z, p, rfl, h1, h2⟩ := chk_bin h; exact s_bin (sndE a _ _ _ k y h1) (sndE b _ _ _ k z h2)
  | .neg a, X, Γ, ω, k, _, h => by obtain ⟨y, p, rfl, h1⟩ := chk_neg h; exact s_neg (sndE a _ _ _ k y h1)
  | .cmp o a b, X, Γ, ω, k, _, h => by obtain ⟨y, z, p, rfl, h1, h2⟩ := chk_cmp h; exact s_cmp k (sndE a _ _ _ k y h1) (sndE b _ _ _ k z h2) (chk_ok h2)
  | .chn o1 o2 a b c, X, Γ, ω, k, _, h => by obtain ⟨y, z, u, p, rfl, h1, h2, h3⟩ := chk_chn h; exact s_chn k (sndE a _ _ _ k y h1) (sndE b _ _ _ k z h2) (sndE c _ _ _ k u h3) (chk_ok h3)
  | .isN a, X, Γ, ω, k, _, h => by obtain ⟨y, kk, p, q, rfl, h1⟩ := chk_isN h; exact s_isN (sndE a _ _ _ k y h1)
  | .notN a, X, Γ, ω, k, _, h => by obtain ⟨y, kk, p, q, rfl, h1⟩ := chk_notN h; exact s_notN (sndE a _ _ _ k y h1)
  | .not a, X, Γ, ω, k, _, h => by obtain ⟨y, p, rfl, h1, h2⟩ := chk_not h; exact s_not (sndE a _ _ _ k y h2) h1
  | .and es, X, Γ, ω, k, _, h => by obtain ⟨xs, p, rfl, h1, h2⟩ := chk_and h; exact s_and (sndB es _ _ _ k xs h2) h1
  | .or es, X, Γ, ω, k, _, h => by obtain ⟨xs, p, rfl, h1, h2⟩ := chk_or h; exact s_or (sndB es _ _ _ k xs h2) h1
  | .ite c a b, X, Γ, ω, k, _, h => by obtain ⟨u, v, y, p, rfl, h0, h1, h2, h3⟩ := chk_ite h; exact s_ite (sndE c _ _ _ k u h1) (sndE a _ _ _ k v h2) (sndE b _ _ _ k y h3) h0
  | .tup es, X, Γ, ω, k, _, h => by obtain ⟨xs, kk, p, rfl, h1⟩ := chk_tup h; exact s_tup (sndA es _ _ _ k xs h1)
  | .lst kd l, X, Γ, ω, k, _, h => sndL l _ _ _ k kd _ h
  | .ix a i, X, Γ, ω, k, _, h => by obtain ⟨y, z, p, rfl, h1, h2⟩ := chk_ix h; exact s_ix (sndE a _ _ _ k y h1) (sndE i _ _ _ k z h2) (chk_ok h2)
  | .sl a lo hi, X, Γ, ω, k, _, h => by obtain ⟨y, l, u, p, q, rfl, h1, h2, h3⟩ := chk_sl h; exact s_sl (sndE a _ _ _ k y h1) (sndO lo _ _ _ k l h2) (sndO hi _ _ _ k u h3)
  | .call f es, X, Γ, ω, k, _, h => by obtain ⟨n, xs, p, q, rfl, h1, h2, h3, h4, h5⟩ := chk_call h; exact s_call k h1 h2 h3 h4 h5 (sndA es _ _ _ k xs h5)
  | .blt b es, X, Γ, ω, k, _, h => by obtain ⟨xs, p, q, rfl, h1, h2, h3⟩ := chk_blt h; exact s_blt k h1 h2 (sndA es _ _ _ k xs h3)
  | .isi ts a, X, Γ, ω, k, _, h => by
    obtain ⟨y, t, p, q, rfl, h1, h2, h3, h4⟩ := chk_isi h
    rcases h4 with ⟨u, rfl, h4⟩ | ⟨ns, kk, pt, rfl, h4, h5⟩
    · exact s_isi1 k h1 h2 h4 (sndE a _ _ _ k y h3).pe
    · exact s_isiT k h1 h2 h5 (Nat.le_trans h4 (by decide)) (sndE a _ _ _ k y h3).pe
  | .frz a, X, Γ, ω, k, x, h => ⟨s_frz (sndE a _ _ _ k x h).pe, fun z => absurd z Bool.false_ne_true⟩
  | .mth .append o es, X, Γ, ω, k, _, h => by obtain ⟨y, xs, p, q, rfl, h1, h2, h3, h4, h5, h6⟩ := chk_mth h; exact s_mth (sndE o _ _ _ k y h5).pe h1 h2 h3 h4 (sndA es _ _ _ k xs h6)
theorem sndA : ∀ (es : ES) (X : Cx) (Γ : Gm) (ω : St → EW) (k : Cok X Γ C ω) (xs : List Expr), chkS Γ es xs = true → PA X xs (tA X.K C ω es)
  | .nil, X, Γ, ω, k, [], _ => a_nil
  | .cons e r, X, Γ, ω, k, x :: xs, h => by
    simp only [chkS, Bool.and_eq_true] at h
    exact a_cons (sndE e _ _ _ k x h.1.2).pe (sndA r _ _ _ k xs h.2) h.1.1
  | .star e r, X, Γ, ω, k, x :: xs, h => by
    cases x <;> first | exact absurd h Bool.false_ne_true | skip
    simp only [chkS, Bool.and_eq_true] at h
    exact a_star (sndE e _ _ _ k _ h.1).pe (sndA r _ _ _ k xs h.2)
  | .nil, X, Γ, ω, k, _ :: _, h => absurd h Bool.false_ne_true
  | .cons _ _, X, Γ, ω, k, [], h => absurd h Bool.false_ne_true
  | .star _ _, X, Γ, ω, k, [], h => absurd h Bool.false_ne_true
theorem sndB : ∀ (es : ES) (X : Cx) (Γ : Gm) (ω : St → EW) (k : Cok X Γ C ω) (xs : List Expr), chkB Γ es xs = true → SndB X C ω es xs
  | .cons e .nil, X, Γ, ω, k, [x], h => sB_one (sndE e _ _ _ k x h)
  | .cons e (.cons e2 r), X, Γ, ω, k, x :: y :: xs, h => by
    simp only [chkB, Bool.and_eq_true] at h
    exact sB_cons (sndE e _ _ _ k x h.1) (sndB (.cons e2 r) _ _ _ k (y :: xs) h.2)
  | .nil, X, Γ, ω, k, _, h => absurd h Bool.false_ne_true
  | .cons _ .nil, X, Γ, ω, k, [], h => absurd h Bool.false_ne_true
  | .cons _ .nil, X, Γ, ω, k, _ :: _ :: _, h => absurd h Bool.false_ne_true
  | .cons _ (.cons _ _), X, Γ, ω, k, [], h => absurd h Bool.false_ne_true
  | .cons _ (.cons _ _), X, Γ, ω, k, [_], h => absurd h Bool.false_ne_true
  | .cons _ (.star _ _), X, Γ, ω, k, _, h => absurd h Bool.false_ne_true
  | .star _ _, X, Γ, ω, k, _, h => absurd h Bool.false_ne_true
theorem sndO : ∀ (o : OE) (X : Cx) (Γ : Gm) (ω : St → EW) (k : Cok X Γ C ω) (x : Option Expr), chkO Γ o x = true → PO X x (tO X.K C ω o)
  | .none, X, Γ, ω, k, none, _ => o_none
  | .some e, X, Γ, ω, k, some x, h => o_some (sndE e _ _ _ k x h).pe
  | .none, X, Γ, ω, k, some _, h => absurd h Bool.false_ne_true
  | .some _, X, Γ, ω, k, none, h => absurd h Bool.false_ne_true
theorem sndL : ∀ (l : LE) (X : Cx) (Γ : Gm) (ω : St → EW) (k : Cok X Γ C ω) (kd : Kd) (x : Expr), chkL Γ l x = true → Snd X C ω (.lst kd l) x
  | .disp es, X, Γ, ω, k, kd, x, h => by obtain ⟨xs, p, rfl, h1⟩ := chkL_disp h; exact s_lst (sndA es _ _ _ k xs h1)
  | .cat a b, X, Γ, ω, k, kd, x, h => by obtain ⟨y, z, p, rfl, h1, h2⟩ := chkL_cat h; exact s_cat (sndE a _ _ _ k y h1) (sndE b _ _ _ k z h2)
  | .of e, X, Γ, ω, k, kd, x, h => by obtain ⟨y, p, q, rfl, h1, h2, h3⟩ := chkL_of h; exact s_of k h1 h2 (sndE e _ _ _ k y h3).pe
  | .comp own g src ifs elt, X, Γ, ω, k, kd, x, h => by
    obtain ⟨el, tg, it, fs, sc, p, rfl, h1, h2, h3, h4, h5, h6⟩ := chkL_comp h
    have ok := blk_ok k h1
    have hi := sndI src _ _ _ k tg it h3
    refine Snd.of (PEimp (pe_lc (g := tG X.K g) (tt := tIf X.K C nope ifs) (te := tE X.K C nope elt) k.calm k.nd hi.1 ok (fun s H Cc cl fp => pgZ (Sto.blk (own := ownOf Γ own) k s H Cc cl fp) g tg h4) (fun s H Cc cl fp => sndF ifs _ _ _ (k.blk ok s H Cc cl fp) fs h5) (fun s H Cc cl fp => (sndE elt _ _ _ (k.blk ok s H Cc cl fp) el h6).pe) (folded_ok hi.2 _)) fun σ H Q q => ?_) (fun _ => rfl)
    rw [ownOf_2]
    exact rd_comp h2 q
theorem sndF : ∀ (es : ES) (X : Cx) (Γ : Gm) (ω : St → EW) (k : Cok X Γ C ω) (xs : List Expr), chkF Γ es xs = true → PTs X xs (tIf X.K C ω es)
  | .nil, X, Γ, ω, k, [], _ => f_nil
  | .cons e .nil, X, Γ, ω, k, [x], h => by
    simp only [chkF, Bool.and_eq_true] at h
    exact f_one (sndE e _ _ _ k x h.2) h.1
  | .nil, X, Γ, ω, k, _ :: _, h => absurd h Bool.false_ne_true
  | .cons _ .nil, X, Γ, ω, k, [], h => absurd h Bool.false_ne_true
  | .cons _ .nil, X, Γ, ω, k, _ :: _ :: _, h => absurd h Bool.false_ne_true
  | .cons _ (.cons _ _), X, Γ, ω, k, _, h => absurd h Bool.false_ne_true
  | .cons _ (.star _ _), X, Γ, ω, k, _, h => absurd h Bool.false_ne_true
  | .star _ _, X, Γ, ω, k, _, h => absurd h Bool.false_ne_true
theorem sndI : ∀ (it : IT) (X : Cx) (Γ : Gm) (ω : St → EW) (k : Cok X Γ C ω) (tg x : Expr), chkI Γ it tg x = true → PI X tg x (tI X.K C ω it) ∧ okX x = true
  | .seq e, X, Γ, ω, k, tg, x, h => ⟨i_seq (sndE e _ _ _ k x h).pe, chk_ok h⟩
  | .rng1 e, X, Γ, ω, k, tg, x, h => by
    cases x <;> first | exact absurd h Bool.false_ne_true | skip
    rename_i fn xs kw q
    cases fn <;> first | exact absurd h Bool.false_ne_true | skip
    rename_i n p
    rcases xs with _ | ⟨y, _ | ⟨t, xs⟩⟩ <;> cases kw <;> first | exact absurd h Bool.false_ne_true | skip
    simp only [chkI, Bool.and_eq_true, decide_eq_true_eq] at h
    obtain ⟨⟨⟨h1, h2⟩, h3⟩, h4⟩ := h
    subst h1
    exact ⟨i_rng1 k h2 h3 (sndE e _ _ _ k y h4).pe, rfl⟩
  | .rng2 a b, X, Γ, ω, k, tg, x, h => by
    cases x <;> first | exact absurd h Bool.false_ne_true | skip
    rename_i fn xs kw q
    cases fn <;> first | exact absurd h Bool.false_ne_true | skip
    rename_i n p
    rcases xs with _ | ⟨y, _ | ⟨t, _ | ⟨t2, xs⟩⟩⟩ <;> cases kw <;> first | exact absurd h Bool.false_ne_true | skip
    simp only [chkI, Bool.and_eq_true, decide_eq_true_eq] at h
    obtain ⟨⟨⟨⟨⟨h1, h2⟩, h3⟩, h4⟩, h5⟩, h6⟩ := h
    subst h1
    exact ⟨i_rng2 k h2 h3 h4 (sndE a _ _ _ k y h5).pe (sndE b _ _ _ k t h6).pe, rfl⟩
  | .enm e, X, Γ, ω, k, tg, x, h => by
    cases x <;> first | exact absurd h Bool.false_ne_true | skip
    rename_i fn xs kw q
    cases fn <;> first | exact absurd h Bool.false_ne_true | skip
    rename_i n p
    rcases xs with _ | ⟨y, _ | ⟨t, xs⟩⟩ <;> cases kw <;> first | exact absurd h Bool.false_ne_true | skip
    simp only [chkI, Bool.and_eq_true, decide_eq_true_eq] at h
    obtain ⟨⟨⟨⟨h1, h2⟩, h0⟩, h3⟩, h4⟩ := h
    subst h1
    cases tg <;> first | exact absurd h0 Bool.false_ne_true | skip
    exact ⟨i_enum k h2 h3 (sndE e _ _ _ k y h4).pe, rfl⟩
  | .zip a b, X, Γ, ω, k, tg, x, h => by
    cases x <;> first | exact absurd h Bool.false_ne_true | skip
    rename_i fn xs kw q
    cases fn <;> first | exact absurd h Bool.false_ne_true | skip
    rename_i n p
    rcases xs with _ | ⟨y, _ | ⟨t, _ | ⟨t2, xs⟩⟩⟩ <;> cases kw <;> first | exact absurd h Bool.false_ne_true | skip
    simp only [chkI, Bool.and_eq_true, decide_eq_true_eq] at h
    obtain ⟨⟨⟨⟨⟨⟨h1, h2⟩, h0⟩, h3⟩, h4⟩, h5⟩, h6⟩ := h
    subst h1
    cases tg <;> first | exact absurd h0 Bool.false_ne_true | skip
    exact ⟨i_zip k h2 h3 h4 (sndE a _ _ _ k y h5).pe (sndE b _ _ _ k t h6).pe, rfl⟩
end
end
end Z

set_option maxHeartbeats 4000000
/-! Z16: statements. -/
namespace Z
open PySem PySem.Spec PyProof.Rows L2 RZ

def ContS (K : PySem.W.Frag) (w : Wd) (H : Hp) (D : Ends) (ω : St → EW) : RT → Prop
  | .nx ρ m => ∀ σ w' H', Ext w H w' H' → Rl K w' m H' → RE K w' H' ρ σ → D.nx σ H'
  | .bk ρ m => ∀ σ w' H', Ext w H w' H' → Rl K w' m H' → RE K w' H' ρ σ → D.bk σ H'
  | .ct ρ m => ∀ σ w' H', Ext w H w' H' → Rl K w' m H' → RE K w' H' ρ σ → D.ct σ H'
  | .rt a m => ∀ v w' H', Ext w H w' H' → Rl K w' m H' → RW K w' H' a v → D.rt v H'
  | .err x ρ m => ∀ σ w' H', Ext w H w' H' → Rl K w' m H' → RE K w' H' ρ σ → ω σ x w' m H'
  | .bad => False
section
variable {K : PySem.W.Frag} {w w1 : Wd} {H H1 : Hp} {D : Ends} {ω : St → EW} {ρ : Env} {σ : St} {m : Mem} {α β : Type}
theorem ContS.later {r : RT} (e : Ext w H w1 H1) (h : ContS K w H D ω r) : ContS K w1 H1 D ω r := by
  cases r with
  | nx ρ m => exact fun σ w' H' e' => h σ w' H' (e.trans e')
  | bk ρ m => exact fun σ w' H' e' => h σ w' H' (e.trans e')
  | ct ρ m => exact fun σ w' H' e' => h σ w' H' (e.trans e')
  | rt a m => exact fun v w' H' e' => h v w' H' (e.trans e')
  | err x ρ m => exact fun σ w' H' e' => h σ w' H' (e.trans e')
  | bad => exact h
structure RestS (K : PySem.W.Frag) (w : Wd) (H : Hp) (rel : Wd → Hp → α → β → Prop) (f : α → Mem → RT) (D : Ends) (ω : St → EW) (v : β) (H1 : Hp) (a : α) (m1 : Mem) (w1 : Wd) : Prop where
  e : Ext w H w1 H1
  r : Rl K w1 m1 H1
  v : rel w1 H1 a v
  c : ContS K w1 H1 D ω (f a m1)
theorem ContS.bind {r : R α} {f : α → Mem → RT} (rel : Wd → Hp → α → β → Prop) (re : RE K w H ρ σ) (h : ContS K w H D ω (r.t ρ f)) : Cont K w H rel (fun v H1 => ∃ a m1 w1, RestS K w H rel f D ω v H1 a m1 w1) (ω σ) r := by
  cases r with
  | ok a m => exact fun v w' H' e rl rv => ⟨a, m, w', e, rl, rv, ContS.later e h⟩
  | err x m => exact fun w' H' e rl => h σ w' H' e rl (re.ext e)
  | bad => exact h
theorem ContS.seq {r : RT} {f : Env → Mem → RT} (h : ContS K w H D ω (r.s f)) : ContS K w H { D with nx := fun σ' H' => ∃ ρ m w', RE K w' H' ρ σ' ∧ Rl K w' m H' ∧ ContS K w' H' D ω (f ρ m) } ω r := by
  cases r with
  | nx ρ m => exact fun σ w' H' e rl re => ⟨ρ, m, w', re, rl, ContS.later e h⟩
  | bk ρ m => exact h
  | ct ρ m => exact h
  | rt a m => exact h
  | err x ρ m => exact h
  | bad => exact h
theorem ContS.o {o : Option α} {f : α → Mem → RT} (h : ContS K w H D ω ((ofO o m).t ρ f)) : ∃ a, o = some a ∧ ContS K w H D ω (f a m) := by
  cases o with
  | none => exact h.elim
  | some a => exact ⟨a, rfl, h⟩
theorem R.t_b {γ : Type} (r : R α) (f : α → Mem → R γ) (g : γ → Mem → RT) : (r.b f).t ρ g = r.t ρ fun a m => (f a m).t ρ g := by cases r <;> rfl
end

def tS (K : PySem.W.Frag) (C : Orc) (ω : St → EW) (t : T) : L2.TS := fun D σ H => ∃ ρ m w, RE K w H ρ σ ∧ Rl K w m H ∧ ContS K w H D ω (ex C t ρ m)
def tSs (K : PySem.W.Frag) (C : Orc) (ω : St → EW) (t : TS) : L2.TS := fun D σ H => ∃ ρ m w, RE K w H ρ σ ∧ Rl K w m H ∧ ContS K w H D ω (exs C t ρ m)
theorem PSimp {X : Cx} {st : Stmt} {t t' : L2.TS} (h : PS X st t) (i : ∀ D σ H, t' D σ H → t D σ H) : PS X st t' := ⟨fun pins s σ H D I q => h.run pins s σ H D I (i _ _ _ q)⟩
theorem PSsimp {X : Cx} {st : List Stmt} {t t' : L2.TS} (h : PSs X st t) (i : ∀ D σ H, t' D σ H → t D σ H) : PSs X st t' := ⟨fun pins s σ H D I q => h.run pins s σ H D I (i _ _ _ q)⟩
structure CokS (X : Cx) (Γ : Gm) (C : Orc) (ω : St → EW) : Prop where
  k : Cok X Γ C ω
  s : Sto X Γ
  hp : PassesOwn (model X.prog X.w) X.A X.env X.xe

/-! ### the checker -/
def isComp : Expr → Bool
  | .ListComp .. => true
  | .SetComp .. => true
  | .DictComp .. => true
  | _ => false
def isTupX : Expr → Bool
  | .Tuple .. => true
  | _ => false
def isLst : E → Bool
  | .lst _ (.comp ..) => true
  | _ => false
/-- a plain store -/
def asgOk (Γ : Gm) (tg v : Expr) : Bool := match tg with
  | .Name x _ => !isComp v || decide (Γ.nm.lookup x = some .cell)
  | .Tuple ts _ _ => match v with
    | .Tuple vs _ _ => vs.all (foldedForSure 8)
    | _ => true
  | _ => false
/-- .. a comprehension, stored by the compiler's own road -/
def asgLc (Γ : Gm) (tg v : Expr) : Bool := match tg, v with
  | .Name x px, .ListComp _ _ sc p => decide (Γ.nm.lookup x = some .local) && (px.line == p.line) && !(sc.names.any fun (n, k) => n == x && (k == .local || k == .cell))
  | _, _ => false
def locs (Γ : Gm) : List Nat → List Expr → Nat → Bool
  | [], [], _ => true
  | i :: is, .Name x p :: xs, l => decide (Γ.N[i]? = some x) && decide (Γ.nm.lookup x = some .local) && (p.line == l) && !(is.contains i) && locs Γ is xs l
  | _, _, _ => false
def line0 : List Expr → Nat
  | x :: _ => x.pos.line
  | [] => 0
mutual
def chkT (Γ : Gm) : T → Stmt → Bool
  | .asg g e, .Assign [tg] v _ => chk Γ e v && chkG Γ g tg && (asgOk Γ tg v || (asgLc Γ tg v && isLst e))
  | .par is es, .Assign [.Tuple ts _ _] (.Tuple vs _ _) _ => decide (is.length = 2 ∨ is.length = 3) && locs Γ is ts (line0 ts) && vs.all notStar && !(vs.all (foldedForSure 8)) && !(vs.all (constantsAlone 8)) && decide (vs.length = ts.length) && chkS Γ es vs
  | .setIx o i e, .Assign [.Subscript x y _] v _ => okX y && !isComp v && chk Γ o x && chk Γ i y && chk Γ e v
  | .ex e, .Expr x _ => !isComp x && chk Γ e x
  | .ret e, .Return (some x) _ => chk Γ e x
  | .retN, .Return none _ => true
  | .ife c a b, .If x y z _ => tst c && chk Γ c x && chkTs Γ a y && chkTs Γ b z
  | .forT g it b, .For tg x y [] _ => chkG Γ g tg && chkI Γ it tg x && chkTs Γ b y
  | .while _ c b, .While x y [] _ => tst c && chk Γ c x && chkTs Γ b y
  | .brk, .Break _ => true
  | .cont, .Continue _ => true
  | .pass, .Pass _ => true
  | .never, _ => true
  | _, _ => false
def chkTs (Γ : Gm) : TS → List Stmt → Bool
  | .nil, [] => true
  | .cons t r, x :: xs => chkT Γ t x && chkTs Γ r xs
  | _, _ => false
end

section
variable {X : Cx} {Γ : Gm} {C : Orc} {ω : St → EW}
theorem sw_plain {v : Expr} {t : Option Expr} {l : Nat} {env : PySem.Env} (h : isComp v = false) : swapsWith v t l env = pure false := by
  cases v <;> first | rfl | cases h
theorem kind_blk (k : Cok X Γ C ω) : X.env.blockKind = .function := by
  unfold PySem.Env.blockKind
  rw [k.kd]
  rfl
theorem asg_sw {tg v : Expr} {l : Nat} (k : Cok X Γ C ω) (h : asgOk Γ tg v = true) : swapsWithSole [tg] v l X.env = pure false := by
  show swapsWith v (some tg) l X.env = pure false
  cases hc : isComp v with
  | false => exact sw_plain hc
  | true =>
    cases tg <;> first | exact absurd h Bool.false_ne_true | skip
    · rename_i x px
      simp only [asgOk, hc, Bool.not_true, Bool.false_or, decide_eq_true_eq] at h
      have : X.env.kindOf x = some .cell := by show X.env.scope.names.lookup x = _; rw [k.nm]; exact h
      unfold swapsWith
      cases v <;> first | rfl | skip
      all_goals (simp only [this]; rw [show ((some NameKind.cell : Option NameKind) == some .local) = false from rfl, Bool.and_false, Bool.false_and, Bool.false_and])
    · cases v <;> first | rfl | cases hc
theorem asg_st {tg v : Expr} {g : G} (k : Cok X Γ C ω) (hg : chkG Γ g tg = true) (h : asgOk Γ tg v = true) : swappedStores [tg] v X.env = pure none := by
  cases tg <;> first | exact absurd h Bool.false_ne_true | skip
  · cases v <;> rfl
  · rename_i ts kk p
    cases v <;> first | rfl | skip
    rename_i vs kk2 p2
    have h : vs.all (foldedForSure 8) = true := h
    unfold swappedStores
    simp only [h, if_true]
    split
    · rfl
    · split
      · rfl
      · split
        · rfl
        · rfl
theorem any_star {vs : List Expr} {f : Expr → Bool} (hf : ∀ x, notStar x = true → f x = false) (h : vs.all notStar = true) : ¬ vs.any f = true := by
  rw [Bool.not_eq_true, List.any_eq_false]
  intro x hx
  rw [hf x (List.all_eq_true.mp h x hx)]
  exact Bool.false_ne_true
theorem par_st2 {x y : Str} {px py pt p2 : Pos} {kt k2 : Nat} {vs : List Expr} (k : Cok X Γ C ω) (hx : Γ.nm.lookup x = some .local) (hy : Γ.nm.lookup y = some .local) (hl : (py.line == px.line) = true) (hne : x ≠ y)
    (h1 : vs.all notStar = true) (h2 : vs.all (foldedForSure 8) = false) (h3 : vs.all (constantsAlone 8) = false) (h4 : vs.length = 2) :
    swappedStores [.Tuple [.Name x px, .Name y py] kt pt] (.Tuple vs k2 p2) X.env = pure (some [x, y]) := by
  have e1 : X.env.kindOf x = some .local := by show X.env.scope.names.lookup x = _; rw [k.nm]; exact hx
  have e2 : X.env.kindOf y = some .local := by show X.env.scope.names.lookup y = _; rw [k.nm]; exact hy
  unfold swappedStores
  have hne' : (y == x) = false := by simpa using Ne.symm hne
  have hd : [x, y].eraseDups = [x, y] := by
    rw [List.eraseDups_cons]
    simp [hne', List.eraseDups_cons]
  simp only [kind_blk k, h2, h3, h4, List.length_cons, List.length_nil, List.filterMap_cons, List.filterMap_nil, e1, e2, Expr.pos, List.head?_cons, Option.map_some, Option.getD_some, hl, beq_self_eq_true, Bool.true_and, if_true, hd]
  rw [if_neg (by decide), if_neg (any_star (fun x hx => by cases x <;> first | rfl | exact absurd hx Bool.false_ne_true) h1)]
  rfl
theorem par_st3 {x y z : Str} {px py pz pt p2 : Pos} {kt k2 : Nat} {vs : List Expr} (k : Cok X Γ C ω) (hx : Γ.nm.lookup x = some .local) (hy : Γ.nm.lookup y = some .local) (hz : Γ.nm.lookup z = some .local) (hl : (py.line == px.line) = true) (hl2 : (pz.line == px.line) = true) (hne : x ≠ y) (hne2 : x ≠ z) (hne3 : y ≠ z)
    (h1 : vs.all notStar = true) (h2 : vs.all (foldedForSure 8) = false) (h3 : vs.all (constantsAlone 8) = false) (h4 : vs.length = 3) :
    swappedStores [.Tuple [.Name x px, .Name y py, .Name z pz] kt pt] (.Tuple vs k2 p2) X.env = pure (some [x, y, z]) := by
  have e1 : X.env.kindOf x = some .local := by show X.env.scope.names.lookup x = _; rw [k.nm]; exact hx
  have e2 : X.env.kindOf y = some .local := by show X.env.scope.names.lookup y = _; rw [k.nm]; exact hy
  have e3 : X.env.kindOf z = some .local := by show X.env.scope.names.lookup z = _; rw [k.nm]; exact hz
  unfold swappedStores
  have n1 : (y == x) = false := by simpa using Ne.symm hne
  have n2 : (z == x) = false := by simpa using Ne.symm hne2
  have n3 : (z == y) = false := by simpa using Ne.symm hne3
  have hd : [x, y, z].eraseDups = [x, y, z] := by
    rw [List.eraseDups_cons]
    simp [n1, n2, n3, List.eraseDups_cons]
  simp only [kind_blk k, h2, h3, h4, List.length_cons, List.length_nil, List.filterMap_cons, List.filterMap_nil, e1, e2, e3, Expr.pos, List.head?_cons, Option.map_some, Option.getD_some, hl, hl2, beq_self_eq_true, Bool.true_and, if_true, hd]
  rw [if_neg (by decide), if_neg (any_star (fun x hx => by cases x <;> first | rfl | exact absurd hx Bool.false_ne_true) h1)]
  rfl

/-! ### each statement -/
theorem t_asg {g : G} {e : E} {tg v : Expr} {p : Pos} (k : CokS X Γ C ω) (he : PE X v (tE X.K C ω e)) (hg : chkG Γ g tg = true) (ho : asgOk Γ tg v = true) : PS X (.Assign [tg] v p) (tS X.K C ω (.asg g e)) := by
  refine PSimp (ps_asg he (pgZ k.s g tg hg) (asg_sw k.k ho) (asg_st k.k hg ho) ?_) fun D σ H q => ?_
  · rw [assignEach_cons (chkG_star hg)]
    rfl
  · obtain ⟨ρ, m, w, re, rl, c⟩ := q
    simp only [ex] at c
    refine ⟨ρ, m, w, re, rl, (ContS.bind (RW X.K) re c).imp ?_⟩
    rintro v H1 ⟨a1, m1, w1, R1⟩
    have c := R1.c
    split at c
    · rename_i ρ' e
      exact ⟨ρ, w1, a1, ρ', re.ext R1.e, R1.v, e, fun σ' re' _ => c σ' w1 H1 (Ext.refl _ _) R1.r re'⟩
    · exact c.elim
theorem t_lc {g : G} {kd : Kd} {own : List Nat} {g' : G} {src : IT} {ifs : ES} {elt : E} {tg v : Expr} {p : Pos} (k : CokS X Γ C ω) (he : chkL Γ (.comp own g' src ifs elt) v = true) (hg : chkG Γ g tg = true) (ho : asgLc Γ tg v = true) : PS X (.Assign [tg] v p) (tS X.K C ω (.asg g (.lst kd (.comp own g' src ifs elt)))) := by
  obtain ⟨el, tg', it, fs, sc, p', rfl, h1, h2, h3, h4, h5, h6⟩ := chkL_comp he
  have ok := blk_ok k.k h1
  have hi := sndI src _ _ _ k.k tg' it h3
  cases tg <;> first | exact absurd ho Bool.false_ne_true | skip
  rename_i x px
  cases g <;> first | exact absurd hg Bool.false_ne_true | skip
  rename_i i
  simp only [asgLc, Bool.and_eq_true, decide_eq_true_eq, Bool.not_eq_true'] at ho
  obtain ⟨⟨o1, o2⟩, o3⟩ := ho
  have hN : X.N[i]? = some x := by
    rw [k.k.N]
    have hg : (decide (Γ.N[i]? = some x) && locN Γ x) = true := hg
    rw [Bool.and_eq_true, decide_eq_true_eq] at hg
    exact hg.1
  have hx : X.env.scope.names.lookup x = some .local := by rw [k.k.nm]; exact o1
  refine PSimp (ps_setLc (g := tG X.K g') (tt := tIf X.K C nope ifs) (te := tE X.K C nope elt) k.k.calm k.k.nd hN hx (sw_true k.k.kd hx o2 o3) hi.1 ok (fun s H Cc cl fp => pgZ (Sto.blk (own := ownOf Γ own) k.k s H Cc cl fp) g' tg' h4) (fun s H Cc cl fp => sndF ifs _ _ _ (k.k.blk ok s H Cc cl fp) fs h5) (fun s H Cc cl fp => (sndE elt _ _ _ (k.k.blk ok s H Cc cl fp) el h6).pe) (folded_ok hi.2 _)) fun D σ H q => ?_
  show tLc _ _ _ _ _ σ H fun x H1 => D.nx (σ.set i (some x)) H1
  rw [ownOf_2]
  refine rd_comp (k := kd) h2 ?_
  obtain ⟨ρ, m, w, re, rl, c⟩ := q
  simp only [ex] at c
  refine ⟨ρ, m, w, re, rl, (ContS.bind (RW X.K) re c).imp ?_⟩
  rintro v H1 ⟨a1, m1, w1, R1⟩
  have c := R1.c
  split at c
  · rename_i ρ' e
    obtain ⟨_, rfl⟩ := asg_nm e
    exact c _ w1 H1 (Ext.refl _ _) R1.r ((re.ext R1.e).set R1.v)
  · exact c.elim
theorem nodup_at {α : Type} : ∀ {l : List α} {i j : Nat} {x : α}, l.Nodup → l[i]? = some x → l[j]? = some x → i = j
  | y :: l, 0, 0, x, _, _, _ => rfl
  | y :: l, 0, j + 1, x, nd, h1, h2 => by
    rw [List.getElem?_cons_zero] at h1
    rw [List.getElem?_cons_succ] at h2
    cases h1
    exact absurd (List.mem_of_getElem? h2) (List.nodup_cons.mp nd).1
  | y :: l, i + 1, 0, x, nd, h1, h2 => by
    rw [List.getElem?_cons_zero] at h2
    rw [List.getElem?_cons_succ] at h1
    cases h2
    exact absurd (List.mem_of_getElem? h1) (List.nodup_cons.mp nd).1
  | y :: l, i + 1, j + 1, x, nd, h1, h2 => by
    rw [List.getElem?_cons_succ] at h1 h2
    exact congrArg (· + 1) (nodup_at (List.nodup_cons.mp nd).2 h1 h2)
  | [], _, _, _, _, h, _ => by simp at h
theorem locs_ok {is : List Nat} {ts : List Expr} {l : Nat} (h : locs Γ is ts l = true) : ∃ xs : List (Str × Pos), ts = xs.map (fun y => .Name y.1 y.2) ∧ is.length = xs.length ∧ is.Nodup ∧ ∀ (n i : Nat) (x : Str) (p : Pos), is[n]? = some i → xs[n]? = some (x, p) → Γ.N[i]? = some x ∧ Γ.nm.lookup x = some .local ∧ (p.line == l) = true := by
  induction is generalizing ts with
  | nil =>
    cases ts with
    | nil => exact ⟨[], rfl, rfl, .nil, fun n i x p h => by simp at h⟩
    | cons _ _ => cases h
  | cons i is ih =>
    cases ts with
    | nil => cases h
    | cons t ts =>
      cases t <;> first | exact absurd h Bool.false_ne_true | skip
      rename_i x p
      simp only [locs, Bool.and_eq_true, decide_eq_true_eq, Bool.not_eq_true'] at h
      obtain ⟨⟨⟨⟨h1, h2⟩, h3⟩, h4⟩, h5⟩ := h
      obtain ⟨xs, e1, e2, e3, e4⟩ := ih h5
      refine ⟨(x, p) :: xs, by rw [e1]; rfl, by rw [List.length_cons, List.length_cons, e2], List.nodup_cons.mpr ⟨by simpa using h4, e3⟩, fun n i x p g1 g2 => ?_⟩
      cases n with
      | zero =>
        rw [List.getElem?_cons_zero] at g1 g2
        cases g1
        cases g2
        exact ⟨h1, h2, h3⟩
      | succ n => exact e4 n i x p (by simpa using g1) (by simpa using g2)
theorem t_par {is : List Nat} {es : ES} {ts vs : List Expr} {kt k2 : Nat} {p p2 pos : Pos} (k : CokS X Γ C ω) (h : chkT Γ (.par is es) (.Assign [.Tuple ts kt p] (.Tuple vs k2 p2) pos) = true) : PS X (.Assign [.Tuple ts kt p] (.Tuple vs k2 p2) pos) (tS X.K C ω (.par is es)) := by
  simp only [chkT, Bool.and_eq_true, decide_eq_true_eq, Bool.not_eq_true'] at h
  obtain ⟨⟨⟨⟨⟨⟨h1, h2⟩, h3⟩, h4⟩, h5⟩, h6⟩, h7⟩ := h
  obtain ⟨xs, rfl, e2, nd, e4⟩ := locs_ok h2
  have ha := sndA es _ _ _ k.k vs h7
  have inj : ∀ {i j : Nat} {x y : Str}, Γ.N[i]? = some x → Γ.N[j]? = some y → i ≠ j → x ≠ y := fun {i j x y} g1 g2 hij e => by
    subst e
    have nd := k.k.nd
    rw [k.k.N] at nd
    exact hij (nodup_at nd g1 g2)
  rcases is with _ | ⟨i, _ | ⟨j, _ | ⟨l, _ | ⟨_, _⟩⟩⟩⟩ <;> simp only [List.length_cons, List.length_nil] at h1 <;> first | (exfalso; omega) | skip
  · rcases xs with _ | ⟨⟨x, px⟩, _ | ⟨⟨y, py⟩, _ | ⟨_, _⟩⟩⟩ <;> simp only [List.length_cons, List.length_nil] at e2 <;> first | (exfalso; omega) | skip
    obtain ⟨a1, a2, a3⟩ := e4 0 i x px rfl rfl
    obtain ⟨b1, b2, b3⟩ := e4 1 j y py rfl rfl
    have hij : i ≠ j := fun e => by subst e; simp at nd
    rcases vs with _ | ⟨v1, _ | ⟨v2, _ | ⟨_, _⟩⟩⟩ <;> simp only [List.length_cons, List.length_nil, List.map_cons, List.map_nil] at h6 <;> first | (exfalso; omega) | skip
    refine PSimp (ps_par k.k.calm k.k.nd (by rw [k.k.N]; exact a1) (by rw [k.k.N]; exact b1) hij (by rw [k.k.nm]; exact a2) (by rw [k.k.nm]; exact b2) ha (par_st2 k.k a2 b2 b3 (inj a1 b1 hij) h3 h4 h5 rfl) rfl) fun D σ H q => ?_
    obtain ⟨ρ, m, w, re, rl, c⟩ := q
    simp only [ex] at c
    refine ⟨ρ, m, w, re, rl, (ContS.bind (RWs X.K) re c).imp ?_⟩
    rintro us H1 ⟨ws, m1, w1, R1⟩
    have c := R1.c
    have hv := R1.v
    split at c
    · rename_i ρ' e
      cases hv with
      | nil => cases e
      | cons v1 t1 =>
        cases t1 with
        | nil => simp only [setL] at e; split at e <;> cases e
        | cons v2 t2 =>
          cases t2 with
          | cons _ _ => simp only [setL] at e; split at e <;> first | cases e | (split at e <;> cases e)
          | nil =>
            simp only [setL] at e
            split at e
            · split at e
              · cases e
                exact ⟨_, _, rfl, c _ w1 H1 (Ext.refl _ _) R1.r (((re.ext R1.e).set v1).set v2)⟩
              · cases e
            · cases e
    · exact c.elim
  · rcases xs with _ | ⟨⟨x, px⟩, _ | ⟨⟨y, py⟩, _ | ⟨⟨z, pz⟩, _ | ⟨_, _⟩⟩⟩⟩ <;> simp only [List.length_cons, List.length_nil] at e2 <;> first | (exfalso; omega) | skip
    obtain ⟨a1, a2, a3⟩ := e4 0 i x px rfl rfl
    obtain ⟨b1, b2, b3⟩ := e4 1 j y py rfl rfl
    obtain ⟨c1, c2, c3⟩ := e4 2 l z pz rfl rfl
    have hij : i ≠ j := fun e => by subst e; simp at nd
    have hil : i ≠ l := fun e => by subst e; simp at nd
    have hjl : j ≠ l := fun e => by subst e; simp at nd
    rcases vs with _ | ⟨v1, _ | ⟨v2, _ | ⟨v3, _ | ⟨_, _⟩⟩⟩⟩ <;> simp only [List.length_cons, List.length_nil, List.map_cons, List.map_nil] at h6 <;> first | (exfalso; omega) | skip
    refine PSimp (ps_par3 k.k.calm k.k.nd (by rw [k.k.N]; exact a1) (by rw [k.k.N]; exact b1) (by rw [k.k.N]; exact c1) hij hil hjl (by rw [k.k.nm]; exact a2) (by rw [k.k.nm]; exact b2) (by rw [k.k.nm]; exact c2) ha (par_st3 k.k a2 b2 c2 b3 c3 (inj a1 b1 hij) (inj a1 c1 hil) (inj b1 c1 hjl) h3 h4 h5 rfl) rfl) fun D σ H q => ?_
    obtain ⟨ρ, m, w, re, rl, c⟩ := q
    simp only [ex] at c
    refine ⟨ρ, m, w, re, rl, (ContS.bind (RWs X.K) re c).imp ?_⟩
    rintro us H1 ⟨ws, m1, w1, R1⟩
    have c := R1.c
    have hv := R1.v
    split at c
    · rename_i ρ' e
      have hl : us.length = 3 := by
        rw [← hv.length]
        clear c hv R1
        rcases ws with _ | ⟨_, _ | ⟨_, _ | ⟨_, _ | ⟨_, _⟩⟩⟩⟩ <;> simp only [setL] at e <;> first | rfl | cases e | (split at e <;> first | cases e | (split at e <;> first | cases e | (split at e <;> cases e)))
      cases hv with
      | nil => cases hl
      | cons v1 t1 =>
        cases t1 with
        | nil => cases hl
        | cons v2 t2 =>
          cases t2 with
          | nil => cases hl
          | cons v3 t3 =>
            cases t3 with
            | cons _ _ => simp at hl
            | nil =>
              simp only [setL] at e
              split at e
              · split at e
                · split at e
                  · cases e
                    exact ⟨_, _, _, rfl, c _ w1 H1 (Ext.refl _ _) R1.r ((((re.ext R1.e).set v1).set v2).set v3)⟩
                  · cases e
                · cases e
              · cases e
    · exact c.elim
theorem t_setIx {o i e : E} {x y v : Expr} {p q : Pos} (k : CokS X Γ C ω) (ho : PE X x (tE X.K C ω o)) (hi : PE X y (tE X.K C ω i)) (he : PE X v (tE X.K C ω e)) (hy : okX y = true) (hc : isComp v = false) : PS X (.Assign [.Subscript x y p] v q) (tS X.K C ω (.setIx o i e)) := by
  have ha : ∀ u, assign (.Subscript x y p) X.env u = (do
      let ov ← holding [u] (eval x X.env)
      let iv ← holding [u, ov] (eval y X.env)
      standAt p
      holding [u, ov, iv] (setItem ov iv u)
      release [u, ov, iv] []) := by
    intro u
    cases y <;> first | exact absurd hy Bool.false_ne_true | rfl
  refine PSimp (ps_asg he (pg_sub ho hi set_list ha) (by show swapsWith v (some (.Subscript x y p)) q.line X.env = pure false; exact sw_plain hc) rfl rfl) fun D σ H q => ?_
  obtain ⟨ρ, m, w, re, rl, c⟩ := q
  simp only [ex] at c
  refine ⟨ρ, m, w, re, rl, (ContS.bind (RW X.K) re c).imp ?_⟩
  rintro u H1 ⟨a1, m1, w1, R1⟩
  refine ⟨ρ, m1, w1, re.ext R1.e, R1.r, (ContS.bind (RW X.K) (re.ext R1.e) R1.c).imp ?_⟩
  rintro u2 H2 ⟨a2, m2, w2, R2⟩
  have re2 := (re.ext R1.e).ext R2.e
  refine ⟨ρ, m2, w2, re2, R2.r, (ContS.bind (RW X.K) re2 R2.c).imp ?_⟩
  rintro u3 H3 ⟨a3, m3, w3, R3⟩
  have c := R3.c
  split at c
  · rename_i m' e
    exact setIxW_ok R3.r (R2.v.ext R3.e) R3.v ((R1.v.ext R2.e).ext R3.e) e fun w' H' ex r => c σ w' H' ex r ((re2.ext R3.e).ext ex)
  · exact c.elim
theorem t_ex {e : E} {x : Expr} {p : Pos} (he : PE X x (tE X.K C ω e)) (hc : isComp x = false) : PS X (.Expr x p) (tS X.K C ω (.ex e)) := PSimp (ps_expr he (sw_plain hc)) fun D σ H q => by
  obtain ⟨ρ, m, w, re, rl, c⟩ := q
  simp only [ex] at c
  refine ⟨ρ, m, w, re, rl, (ContS.bind (RW X.K) re c).imp ?_⟩
  rintro u H1 ⟨a1, m1, w1, R1⟩
  exact R1.c σ w1 H1 (Ext.refl _ _) R1.r (re.ext R1.e)
theorem t_ret {e : E} {x : Expr} {p : Pos} (he : PE X x (tE X.K C ω e)) : PS X (.Return (some x) p) (tS X.K C ω (.ret e)) := PSimp (ps_ret he) fun D σ H q => by
  obtain ⟨ρ, m, w, re, rl, c⟩ := q
  simp only [ex] at c
  refine ⟨ρ, m, w, re, rl, (ContS.bind (RW X.K) re c).imp ?_⟩
  rintro u H1 ⟨a1, m1, w1, R1⟩
  have c := R1.c
  cases a1 with
  | loc n => exact c.elim
  | v d => exact c _ w1 H1 (Ext.refl _ _) R1.r R1.v
  | ref n => exact c _ w1 H1 (Ext.refl _ _) R1.r R1.v
  | ro ds => exact c _ w1 H1 (Ext.refl _ _) R1.r R1.v
theorem t_retN {p : Pos} : PS X (.Return none p) (tS X.K C ω .retN) := PSimp ps_retN fun D σ H q => by
  obtain ⟨ρ, m, w, re, rl, c⟩ := q
  simp only [ex] at c
  exact c _ w H (Ext.refl _ _) rl (.v .non)
theorem t_ife {c : E} {a b : TS} {x : Expr} {y z : List Stmt} {p : Pos} (hc : L2.PT X x (tT X.K C ω c)) (ha : PSs X y (tSs X.K C ω a)) (hb : PSs X z (tSs X.K C ω b)) : PS X (.If x y z p) (tS X.K C ω (.ife c a b)) := PSimp (ps_if hc ha hb) fun D σ H q => by
  obtain ⟨ρ, m, w, re, rl, cc⟩ := q
  simp only [ex] at cc
  rw [← R.t_b] at cc
  refine ⟨ρ, m, w, re, rl, (ContS.bind (fun _ _ a b => a = b) re cc).imp ?_⟩
  rintro u H1 ⟨a1, m1, w1, R1⟩
  obtain rfl := R1.v
  have c1 := R1.c
  cases a1 with
  | true => simp only [if_true] at c1 ⊢; exact ⟨ρ, m1, w1, re.ext R1.e, R1.r, c1⟩
  | false => simp only [Bool.false_eq_true, if_false] at c1 ⊢; exact ⟨ρ, m1, w1, re.ext R1.e, R1.r, c1⟩
theorem t_for {g : G} {it : IT} {b : TS} {tg x : Expr} {y : List Stmt} {p : Pos} (k : CokS X Γ C ω) (hi : PI X tg x (tI X.K C ω it)) (hx : okX x = true) (hg : PG X tg (tG X.K g)) (hb : PSs X y (tSs X.K C ω b)) : PS X (.For tg x y [] p) (tS X.K C ω (.forT g it b)) := PSimp (ps_for k.hp k.k.calm hi hg hb (folded_ok hx _)) fun D σ H q => by
  obtain ⟨ρ, m, w, re, rl, cc⟩ := q
  simp only [ex] at cc
  refine ⟨ρ, m, w, re, rl, (ContS.bind (relI X.K) re cc).imp ?_⟩
  rintro J H1 ⟨ds, m1, w1, R1⟩
  obtain ⟨Gz, wz, g0⟩ := R1.v
  have c1 := R1.c
  generalize hf : (fun (d : PyData) (ρ : Env) (m : Mem) => match asg g (.v d) ρ with
    | some ρ => exs C b ρ m
    | none => RT.bad) = f at c1
  refine ⟨fun i n σ H => n = ds.length - i ∧ i ≤ ds.length ∧ ∃ ρ m w', RE X.K w' H ρ σ ∧ Rl X.K w' m H ∧ Gz w' H ∧ ContS X.K w' H D ω (forR f (ds.drop i) ρ m),
    ⟨ds.length, by simp, Nat.zero_le _, ρ, m1, w1, re.ext R1.e, R1.r, g0, c1⟩, ?_⟩
  rintro i n σ2 H2 ⟨rfl, hi, ρ2, m2, w2, re2, r2, g2, c2⟩
  by_cases hlt : i < ds.length
  · refine .inr ⟨wz.go i w2 H2 hlt g2, fun σ H => ∃ ρ m w', RE X.K w' H ρ σ ∧ Rl X.K w' m H ∧ Gz w' H ∧ ContS X.K w' H D ω (forR f (ds.drop (i + 1)) ρ m), fun σ' H' h => ⟨ds.length - (i + 1), by omega, rfl, hlt, h⟩, fun x H3 yy => ?_⟩
    obtain ⟨e3, r3, v3⟩ := wz.yld i w2 m2 H2 x H3 ds[i] (List.getElem?_eq_getElem hlt) g2 r2 yy
    have c3 := ContS.later e3 c2
    rw [List.drop_eq_getElem_cons hlt] at c3
    unfold forR at c3
    rw [← hf] at c3
    dsimp only at c3
    cases ha : asg g (.v ds[i]) ρ2 with
    | none => rw [ha] at c3; exact c3.elim
    | some ρ3 =>
      rw [ha] at c3
      rw [hf] at c3
      dsimp only at c3
      refine ⟨ρ2, w2, _, ρ3, re2.ext e3, .v v3, ha, fun σ4 re4 _ => ⟨ρ3, m2, w2, re4, r3, ?_⟩⟩
      have gn : ∀ {w' H'}, Ext w2 H3 w' H' → Gz w' H' := fun e => wz.ext _ _ _ _ g2 (e3.trans e)
      cases hz : exs C b ρ3 m2 with
      | nx ρ5 m5 => rw [hz] at c3; exact fun σ w' H' e r re => ⟨ρ5, m5, w', re, r, gn e, ContS.later e c3⟩
      | ct ρ5 m5 => rw [hz] at c3; exact fun σ w' H' e r re => ⟨ρ5, m5, w', re, r, gn e, ContS.later e c3⟩
      | bk ρ5 m5 => rw [hz] at c3; exact c3
      | rt a m5 => rw [hz] at c3; exact c3
      | err x ρ5 m5 => rw [hz] at c3; exact c3
      | bad => rw [hz] at c3; exact c3
  · have e : i = ds.length := by omega
    subst e
    rw [List.drop_length] at c2
    exact .inl ⟨wz.stop w2 H2 g2, c2 σ2 w2 H2 (Ext.refl _ _) r2 re2⟩
theorem t_while {n : Nat} {c : E} {b : TS} {x : Expr} {y : List Stmt} {p : Pos} (k : CokS X Γ C ω) (hc : L2.PT X x (tT X.K C ω c)) (hb : PSs X y (tSs X.K C ω b)) : PS X (.While x y [] p) (tS X.K C ω (.while n c b)) := PSimp (ps_while k.hp hc hb) fun D σ H q => by
  obtain ⟨ρ, m, w, re, rl, cc⟩ := q
  simp only [ex] at cc
  generalize hcf : (fun (ρ : Env) (m : Mem) => (ev C c ρ m).b fun x m => ofO (truW m x) m) = cf at cc
  refine ⟨fun n σ H => ∃ ρ m w, RE X.K w H ρ σ ∧ Rl X.K w m H ∧ ContS X.K w H D ω (whileR cf (exs C b) n ρ m), ⟨n, ρ, m, w, re, rl, cc⟩, ?_⟩
  rintro n σ H ⟨ρ, m, w, re, rl, cc⟩
  cases n with
  | zero => exact cc.elim
  | succ n =>
    unfold whileR at cc
    rw [← hcf] at cc
    refine ⟨ρ, m, w, re, rl, (ContS.bind (fun _ _ a b => a = b) re cc).imp ?_⟩
    rw [hcf]
    rintro u H1 ⟨a1, m1, w1, R1⟩
    obtain rfl := R1.v
    have c1 := R1.c
    cases a1 with
    | false => simp only [Bool.false_eq_true, if_false] at c1 ⊢; exact c1 σ w1 H1 (Ext.refl _ _) R1.r (re.ext R1.e)
    | true =>
      simp only [if_true] at c1 ⊢
      refine ⟨fun σ H => ∃ ρ m w, RE X.K w H ρ σ ∧ Rl X.K w m H ∧ ContS X.K w H D ω (whileR cf (exs C b) n ρ m), fun σ' H' h => ⟨n, Nat.lt_succ_self _, h⟩, ρ, m1, w1, re.ext R1.e, R1.r, ?_⟩
      cases hz : exs C b ρ m1 with
      | nx ρ5 m5 => rw [hz] at c1; exact fun σ w' H' e r re => ⟨ρ5, m5, w', re, r, ContS.later e c1⟩
      | ct ρ5 m5 => rw [hz] at c1; exact fun σ w' H' e r re => ⟨ρ5, m5, w', re, r, ContS.later e c1⟩
      | bk ρ5 m5 => rw [hz] at c1; exact c1
      | rt a m5 => rw [hz] at c1; exact c1
      | err x ρ5 m5 => rw [hz] at c1; exact c1
      | bad => rw [hz] at c1; exact c1
theorem ts_nil : PSs X [] (tSs X.K C ω .nil) := PSsimp pss_nil fun D σ H q => by
  obtain ⟨ρ, m, w, re, rl, c⟩ := q
  simp only [exs] at c
  exact c σ w H (Ext.refl _ _) rl re
theorem ts_cons {t : T} {r : TS} {s : Stmt} {ss : List Stmt} (h : PS X s (tS X.K C ω t)) (k : PSs X ss (tSs X.K C ω r)) : PSs X (s :: ss) (tSs X.K C ω (.cons t r)) := PSsimp (pss_cons h k) fun D σ H q => by
  obtain ⟨ρ, m, w, re, rl, c⟩ := q
  simp only [exs] at c
  exact ⟨ρ, m, w, re, rl, ContS.seq c⟩
theorem t_simple {st : Stmt} {t : T} {u : L2.TS} (h : PS X st u) (i : ∀ D σ H ρ m w, RE X.K w H ρ σ → Rl X.K w m H → ContS X.K w H D ω (ex C t ρ m) → u D σ H) : PS X st (tS X.K C ω t) := PSimp h fun D σ H q => by
  obtain ⟨ρ, m, w, re, rl, c⟩ := q
  exact i D σ H ρ m w re rl c
mutual
theorem sndT : ∀ (t : T) (k : CokS X Γ C ω) (s : Stmt), chkT Γ t s = true → PS X s (tS X.K C ω t)
  | .asg g e, k, s, h => by
    cases s <;> first | exact absurd h Bool.false_ne_true | skip
    rename_i tgs v p
    rcases tgs with _ | ⟨tg, _ | ⟨_, _⟩⟩ <;> first | exact absurd h Bool.false_ne_true | skip
    simp only [chkT, Bool.and_eq_true, Bool.or_eq_true] at h
    obtain ⟨⟨h1, h2⟩, h3⟩ := h
    rcases h3 with h3 | ⟨h3, h4⟩
    · exact t_asg k (sndE e _ _ _ k.k v h1).pe h2 h3
    · cases e <;> first | exact absurd h4 Bool.false_ne_true | skip
      rename_i kd l
      cases l <;> first | exact absurd h4 Bool.false_ne_true | skip
      exact t_lc k h1 h2 h3
  | .par is es, k, s, h => by
    cases s <;> first | exact absurd h Bool.false_ne_true | skip
    rename_i tgs v p
    rcases tgs with _ | ⟨tg, tl⟩ <;> first | exact absurd h Bool.false_ne_true | skip
    cases tg <;> first | exact absurd h Bool.false_ne_true | skip
    cases tl <;> first | exact absurd h Bool.false_ne_true | skip
    cases v <;> first | exact absurd h Bool.false_ne_true | skip
    exact t_par k h
  | .setIx o i e, k, s, h => by
    cases s <;> first | exact absurd h Bool.false_ne_true | skip
    rename_i tgs v p
    rcases tgs with _ | ⟨tg, tl⟩ <;> first | exact absurd h Bool.false_ne_true | skip
    cases tg <;> first | exact absurd h Bool.false_ne_true | skip
    cases tl <;> first | exact absurd h Bool.false_ne_true | skip
    simp only [chkT, Bool.and_eq_true, Bool.not_eq_true'] at h
    obtain ⟨⟨⟨⟨h1, h2⟩, h3⟩, h4⟩, h5⟩ := h
    exact t_setIx k (sndE o _ _ _ k.k _ h3).pe (sndE i _ _ _ k.k _ h4).pe (sndE e _ _ _ k.k _ h5).pe h1 h2
  | .ex e, k, s, h => by
    cases s <;> first | exact absurd h Bool.false_ne_true | skip
    simp only [chkT, Bool.and_eq_true, Bool.not_eq_true'] at h
    exact t_ex (sndE e _ _ _ k.k _ h.2).pe h.1
  | .ret e, k, s, h => by
    cases s <;> first | exact absurd h Bool.false_ne_true | skip
    rename_i x p
    cases x <;> first | exact absurd h Bool.false_ne_true | skip
    exact t_ret (sndE e _ _ _ k.k _ h).pe
  | .retN, k, s, h => by
    cases s <;> first | exact absurd h Bool.false_ne_true | skip
    rename_i x p
    cases x <;> first | exact absurd h Bool.false_ne_true | skip
    exact t_retN
  | .ife c a b, k, s, h => by
    cases s <;> first | exact absurd h Bool.false_ne_true | skip
    simp only [chkT, Bool.and_eq_true] at h
    obtain ⟨⟨⟨h1, h2⟩, h3⟩, h4⟩ := h
    exact t_ife ((sndE c _ _ _ k.k _ h2).pt h1) (sndTs a k _ h3) (sndTs b k _ h4)
  | .forT g it b, k, s, h => by
    cases s <;> first | exact absurd h Bool.false_ne_true | skip
    rename_i tg x y els p
    cases els <;> first | exact absurd h Bool.false_ne_true | skip
    simp only [chkT, Bool.and_eq_true] at h
    obtain ⟨⟨h1, h2⟩, h3⟩ := h
    have hi := sndI it _ _ _ k.k tg x h2
    exact t_for k hi.1 hi.2 (pgZ k.s g tg h1) (sndTs b k _ h3)
  | .while n c b, k, s, h => by
    cases s <;> first | exact absurd h Bool.false_ne_true | skip
    rename_i x y els p
    cases els <;> first | exact absurd h Bool.false_ne_true | skip
    simp only [chkT, Bool.and_eq_true] at h
    obtain ⟨⟨h1, h2⟩, h3⟩ := h
    exact t_while k ((sndE c _ _ _ k.k _ h2).pt h1) (sndTs b k _ h3)
  | .brk, k, s, h => by
    cases s <;> first | exact absurd h Bool.false_ne_true | skip
    exact t_simple ps_break fun D σ H ρ m w re rl c => by simp only [ex] at c; exact c σ w H (Ext.refl _ _) rl re
  | .cont, k, s, h => by
    cases s <;> first | exact absurd h Bool.false_ne_true | skip
    exact t_simple ps_continue fun D σ H ρ m w re rl c => by simp only [ex] at c; exact c σ w H (Ext.refl _ _) rl re
  | .pass, k, s, h => by
    cases s <;> first | exact absurd h Bool.false_ne_true | skip
    exact t_simple ps_pass fun D σ H ρ m w re rl c => by simp only [ex] at c; exact c σ w H (Ext.refl _ _) rl re
  | .never, k, s, h => t_simple ps_never fun D σ H ρ m w re rl c => by simp only [ex] at c; exact c
theorem sndTs : ∀ (t : TS) (k : CokS X Γ C ω) (s : List Stmt), chkTs Γ t s = true → PSs X s (tSs X.K C ω t)
  | .nil, k, s, h => by
    cases s <;> first | exact absurd h Bool.false_ne_true | exact ts_nil
  | .cons t r, k, s, h => by
    cases s <;> first | exact absurd h Bool.false_ne_true | skip
    simp only [chkTs, Bool.and_eq_true] at h
    exact ts_cons (sndT t k _ h.1) (sndTs r k _ h.2)
end
end
end Z

set_option maxHeartbeats 4000000
/-! Z17: defs, all together; the end of a law. -/
namespace Z
open PySem PySem.Spec PyProof.Rows L2 RZ

/-- a def: the name that it is called by, its own name, its text, its parameters, its slots, its form in the small language -/
structure Df where
  x : Str
  q : Str
  st : Stmt
  ps : List Str
  N : List Str
  fn : Fn
def fnsOf : List Df → Nat → List (Str × Nat × Nat)
  | [], _ => []
  | d :: r, i => (d.x, i, d.ps.length) :: fnsOf r (i + 1)
def Df.gm (F : List (Str × Nat × Nat)) (gc : List (Str × PyData)) (d : Df) : Gm := ⟨d.N, (defScope d.st).names, (defScope d.st).names, F, gc⟩
def scOk (N ps : List Str) (sc : Scope) : Bool :=
  (match sc.kind with | .function => true | _ => false) && !sc.isCoroutine && !sc.isGenerator && decide N.Nodup && decide (N.take ps.length = ps) &&
  ps.all (fun x => decide (sc.names.lookup x = some .local) || decide (sc.names.lookup x = some .cell)) && sc.names.all (fun y => !(y.2 == .free))
def Df.ok (F : List (Str × Nat × Nat)) (gc : List (Str × PyData)) (d : Df) : Bool := scOk d.N d.ps (defScope d.st) && decide (d.fn.np = d.ps.length) && decide (d.fn.ns = d.N.length) && chkTs (d.gm F gc) d.fn.body (defBody d.st)
theorem scOk_ok {N ps : List Str} {sc : Scope} (h : scOk N ps sc = true) : FnScope N ps sc := by
  simp only [scOk, Bool.and_eq_true, Bool.not_eq_true', decide_eq_true_eq, List.all_eq_true, Bool.or_eq_true] at h
  obtain ⟨⟨⟨⟨⟨⟨h1, h2⟩, h3⟩, h4⟩, h5⟩, h6⟩, h7⟩ := h
  refine ⟨?_, h2, h3, h4, h5, h6, fun y hy e => ?_⟩
  · split at h1
    · assumption
    · cases h1
  · have := h7 y hy
    rw [e] at this
    cases this
theorem lookup_fns {x : Str} {f n : Nat} : ∀ {ds : List Df} {i : Nat}, (fnsOf ds i).lookup x = some (f, n) → ∃ j d, f = i + j ∧ ds[j]? = some d ∧ d.x = x ∧ n = d.ps.length
  | [], _, h => by cases h
  | d :: r, i, h => by
    unfold fnsOf at h
    by_cases e : x = d.x
    · subst e
      rw [List.lookup_cons_self] at h
      cases h
      exact ⟨0, d, rfl, rfl, rfl, rfl⟩
    · rw [List.lookup_cons, show (x == d.x) = false by simpa using e] at h
      obtain ⟨j, d', h1, h2, h3, h4⟩ := lookup_fns (i := i + 1) h
      exact ⟨j + 1, d', by omega, by simpa using h2, h3, h4⟩

section
variable {P : Program} {W0 : World} {K : PySem.W.Frag} {mg : Str → Option Value} {base : Heap}
def DfIn (K : PySem.W.Frag) (mg : Str → Option Value) (d : Df) : Prop := ∃ f fd, L2.Fun K d.q d.q d.st f fd ∧ mg d.x = some (.ref f) ∧ ∀ us : List Value, us.length = d.ps.length → bindArgs fd ⟨us, []⟩ = pure (d.ps.zip us)
structure TabIn (K : PySem.W.Frag) (mg : Str → Option Value) (ds : List Df) (gc : List (Str × PyData)) : Prop where
  df : ∀ d ∈ ds, DfIn K mg d
  ok : ∀ d ∈ ds, d.ok (fnsOf ds 0) gc = true
  bl : ∀ x ∈ bltNames, mg x = none
  gc : ∀ x d, gc.lookup x = some d → ∃ u v, mg x = some u ∧ RelV v u ∧ ∀ w H, RD K w H d v
def fnsT (ds : List Df) : List Fn := ds.map (·.fn)

theorem Wd.dropL_live {w w' : Wd} {a : Addr} (h : (Wd.mk w.mu [] w.p).live a) : w.live a := by
  rcases h with h | h | h
  · exact .inl h
  · cases h
  · exact .inr (.inr h)
theorem Rl.dropL {w : Wd} {m : Mem} {H : Hp} (r : Rl K w m H) : Rl K ⟨w.mu, [], w.p⟩ ⟨[], m.S⟩ H where
  lenS := r.lenS
  lenL := rfl
  ndS := r.ndS
  ndL := fun i j a h => by simp at h
  ap := fun a _ => by simp
  apP := fun a h => ⟨(r.apP a h).1, by simp, (r.apP a h).2.2⟩
  s := fun n o a h1 h2 => (r.s n o a h1 h2).mono fun a h => Wd.dropL_live (w' := w) h
  l := fun n o x h => by simp at h
theorem Ext.dropL {w w' : Wd} {H H' : Hp} (e : Ext w H w' H') (hw : w.l = []) : Ext w H ⟨w'.mu, [], w'.p⟩ H' where
  mu := e.mu
  ln := by rw [hw]; exact Nat.le_refl _
  l := fun n h => by rw [hw] at h; cases h
  p := e.p
  keep := fun a o h n => ⟨(e.keep a o h n).1, fun z => (e.keep a o h n).2 (Wd.dropL_live (w' := w') z)⟩
  pk := e.pk
  tup := e.tup
  frz := e.frz
theorem RW.dropL {w : Wd} {H : Hp} {a : W} {v : V} (h : RW K w H a v) (ha : args [a] = true) : RW K ⟨w.mu, [], w.p⟩ H a v := by
  cases h with
  | v h => exact .v (h.mono fun a h => Wd.dropL_live (w' := w) h)
  | ro h1 h2 => exact .ro h1 (h2.mono fun a h => Wd.dropL_live (w' := w) h)
  | ref h => exact .ref h
  | loc h1 h2 => cases ha
theorem start_re {w : Wd} {H : Hp} {N : List Str} {ws : List W} {vs : List V} {n : Nat} (h : RWs K w H ws vs) (hn : n = N.length) : RE K w H (ws.map some ++ List.replicate (n - ws.length) none) (L2.start N vs) := by
  subst hn
  unfold L2.start
  have hl := h.length
  refine ⟨by simp [hl], fun i a e => ?_⟩
  by_cases hi : i < ws.length
  · rw [List.getElem?_append_left (by simpa using hi), List.getElem?_map] at e
    cases q : ws[i]? with
    | none => rw [q] at e; cases e
    | some b =>
      rw [q] at e
      cases e
      obtain ⟨v, e1, e2⟩ := h.get q
      refine ⟨v, ?_, e2⟩
      rw [List.getElem?_append_left (by simpa [← hl] using hi), List.getElem?_map, e1]
      rfl
  · rw [List.getElem?_append_right (by simpa using hi), List.getElem?_replicate] at e
    split at e <;> cases e
theorem outW_rt {a b : W} {m m' : Mem} (h : outW a m = .rt b m') : args [b] = true ∧ b = a ∧ m' = m := by
  cases a with
  | v d => cases h; exact ⟨rfl, rfl, rfl⟩
  | ref n => cases h; exact ⟨rfl, rfl, rfl⟩
  | ro n => cases h; exact ⟨rfl, rfl, rfl⟩
  | loc n => cases h
mutual
theorem ex_rt {C : Orc} : ∀ (t : T) {ρ : Env} {m : Mem} {a : W} {m' : Mem}, ex C t ρ m = .rt a m' → args [a] = true
  | .asg g e, ρ, m, a, m', h => by
    simp only [ex] at h
    cases q : ev C e ρ m with
    | ok w m1 => rw [q] at h; simp only [R.t] at h; split at h <;> cases h
    | err _ _ => rw [q] at h; cases h
    | bad => rw [q] at h; cases h
  | .par is es, ρ, m, a, m', h => by
    simp only [ex] at h
    cases q : evs C es ρ m with
    | ok w m1 => rw [q] at h; simp only [R.t] at h; split at h <;> cases h
    | err _ _ => rw [q] at h; cases h
    | bad => rw [q] at h; cases h
  | .setIx o i e, ρ, m, a, m', h => by
    simp only [ex] at h
    cases q : ev C e ρ m with
    | ok w m1 =>
      rw [q] at h; simp only [R.t] at h
      cases q : ev C o ρ m1 with
      | ok w m1 =>
        rw [q] at h; simp only at h
        cases q : ev C i ρ m1 with
        | ok w m1 => rw [q] at h; simp only at h; split at h <;> cases h
        | err _ _ => rw [q] at h; cases h
        | bad => rw [q] at h; cases h
      | err _ _ => rw [q] at h; cases h
      | bad => rw [q] at h; cases h
    | err _ _ => rw [q] at h; cases h
    | bad => rw [q] at h; cases h
  | .ex e, ρ, m, a, m', h => by
    simp only [ex] at h
    cases q : ev C e ρ m with
    | ok w m1 => rw [q] at h; cases h
    | err _ _ => rw [q] at h; cases h
    | bad => rw [q] at h; cases h
  | .ret e, ρ, m, a, m', h => by
    simp only [ex] at h
    cases q : ev C e ρ m with
    | ok w m1 => rw [q] at h; exact (outW_rt h).1
    | err _ _ => rw [q] at h; cases h
    | bad => rw [q] at h; cases h
  | .retN, ρ, m, a, m', h => by
    simp only [ex] at h
    cases h
    rfl
  | .ife c x y, ρ, m, a, m', h => by
    simp only [ex] at h
    cases q : ev C c ρ m with
    | ok w m1 =>
      rw [q] at h; simp only [R.t] at h
      cases q : ofO (truW m1 w) m1 with
      | ok k m2 =>
        rw [q] at h; simp only at h
        split at h
        · exact exs_rt x h
        · exact exs_rt y h
      | err _ _ => rw [q] at h; cases h
      | bad => rw [q] at h; cases h
    | err _ _ => rw [q] at h; cases h
    | bad => rw [q] at h; cases h
  | .forT g it b, ρ, m, a, m', h => by
    simp only [ex] at h
    cases q : evI C it ρ m with
    | ok ds m1 =>
      rw [q] at h; simp only [R.t] at h
      refine for_rt ?_ h
      intro d ρ m a m' h
      split at h
      · exact exs_rt b h
      · cases h
    | err _ _ => rw [q] at h; cases h
    | bad => rw [q] at h; cases h
  | .while n c b, ρ, m, a, m', h => by
    simp only [ex] at h
    exact while_rt (fun ρ m a m' h => exs_rt b h) h
  | .brk, ρ, m, a, m', h => by simp only [ex] at h; cases h
  | .cont, ρ, m, a, m', h => by simp only [ex] at h; cases h
  | .pass, ρ, m, a, m', h => by simp only [ex] at h; cases h
  | .never, ρ, m, a, m', h => by simp only [ex] at h; cases h
theorem exs_rt {C : Orc} : ∀ (t : TS) {ρ : Env} {m : Mem} {a : W} {m' : Mem}, exs C t ρ m = .rt a m' → args [a] = true
  | .nil, ρ, m, a, m', h => by simp only [exs] at h; cases h
  | .cons t r, ρ, m, a, m', h => by
    simp only [exs] at h
    cases q : ex C t ρ m with
    | nx ρ1 m1 => rw [q] at h; exact exs_rt r h
    | rt b m1 => rw [q] at h; cases h; exact ex_rt t q
    | bk _ _ => rw [q] at h; cases h
    | ct _ _ => rw [q] at h; cases h
    | err _ _ _ => rw [q] at h; cases h
    | bad => rw [q] at h; cases h
theorem for_rt {f : PyData → Env → Mem → RT} (hf : ∀ d ρ m a m', f d ρ m = .rt a m' → args [a] = true) : ∀ {ds : List PyData} {ρ : Env} {m : Mem} {a : W} {m' : Mem}, forR f ds ρ m = .rt a m' → args [a] = true
  | [], ρ, m, a, m', h => by unfold forR at h; cases h
  | d :: r, ρ, m, a, m', h => by
    unfold forR at h
    cases q : f d ρ m with
    | nx ρ1 m1 => rw [q] at h; exact for_rt hf h
    | ct ρ1 m1 => rw [q] at h; exact for_rt hf h
    | rt b m1 => rw [q] at h; cases h; exact hf _ _ _ _ _ q
    | bk _ _ => rw [q] at h; cases h
    | err _ _ _ => rw [q] at h; cases h
    | bad => rw [q] at h; cases h
theorem while_rt {c : Env → Mem → R Bool} {f : Env → Mem → RT} (hf : ∀ ρ m a m', f ρ m = .rt a m' → args [a] = true) : ∀ {n : Nat} {ρ : Env} {m : Mem} {a : W} {m' : Mem}, whileR c f n ρ m = .rt a m' → args [a] = true
  | 0, ρ, m, a, m', h => by unfold whileR at h; cases h
  | n + 1, ρ, m, a, m', h => by
    unfold whileR at h
    cases q : c ρ m with
    | ok k m1 =>
      rw [q] at h; simp only [R.t] at h
      split at h
      · cases q : f ρ m1 with
        | nx ρ1 m1 => rw [q] at h; exact while_rt hf h
        | ct ρ1 m1 => rw [q] at h; exact while_rt hf h
        | rt b m1 => rw [q] at h; cases h; exact hf _ _ _ _ q
        | bk _ _ => rw [q] at h; cases h
        | err _ _ _ => rw [q] at h; cases h
        | bad => rw [q] at h; cases h
      · cases h
    | err _ _ => rw [q] at h; cases h
    | bad => rw [q] at h; cases h
end
theorem tab_ok {ds : List Df} {gc : List (Str × PyData)} (T : TabIn K mg ds gc) : ∀ (k i : Nat) (d : Df), ds[i]? = some d →
    ∃ f fd, L2.Fun K d.q d.q d.st f fd ∧ mg d.x = some (.ref f) ∧ (∀ us : List Value, us.length = d.ps.length → bindArgs fd ⟨us, []⟩ = pure (d.ps.zip us)) ∧ FnOk P W0 K mg base (L2.CX P W0) k f fd d.ps (spZ K (callP (fnsT ds) k) i d.ps.length) := by
  intro k
  induction k with
  | zero =>
    intro i d hd
    obtain ⟨f, fd, h1, h2, h3⟩ := T.df d (List.mem_of_getElem? hd)
    have no : ∀ vs H Q E, ¬ spZ K (callP (fnsT ds) 0) i d.ps.length vs H Q E := by
      rintro vs H Q E ⟨ws, w, S, _, _, _, _, c⟩
      exact c
    exact ⟨f, fd, h1, h2, h3, fun vs H Q E h => absurd h (no _ _ _ _), fun A outer s H args us vs Q E _ _ _ _ h => absurd h (no _ _ _ _)⟩
  | succ k ih =>
    intro i d hd
    have hm := List.mem_of_getElem? hd
    obtain ⟨f, fd, h1, h2, h3⟩ := T.df d hm
    have ok := T.ok d hm
    simp only [Df.ok, Bool.and_eq_true, decide_eq_true_eq] at ok
    obtain ⟨⟨⟨o1, o2⟩, o3⟩, o4⟩ := ok
    have S := scOk_ok o1
    refine ⟨f, fd, h1, h2, h3, h1.okX S (fun vs H Q E h => ?_) fun cdv A outer s H vs Q E hr h => ?_⟩
    · obtain ⟨ws, w, S, hn, hv, _⟩ := h
      rw [← hv.length]
      exact hn
    · obtain ⟨ws, w, Sm, hn, hv, ha, rl, c⟩ := h
      have hfn : (fnsT ds)[i]? = some d.fn := by unfold fnsT; rw [List.getElem?_map, hd]; rfl
      simp only [callP, hfn, runFn] at c
      rw [if_pos (hn.trans o2.symm)] at c
      generalize hX : cxOf (L2.CX P W0) P W0 K mg base d.N d.q (defScope d.st) f cdv A outer s H E = X
      have eP : X.prog = P := by subst hX; rfl
      have eW : X.w = W0 := by subst hX; rfl
      have eK : X.K = K := by subst hX; rfl
      have eM : X.mg = mg := by subst hX; rfl
      have eB : X.base = base := by subst hX; rfl
      have tk : L2.Takes X (fun cls d _ H => E cls d H) := by subst hX; exact takes_of rfl rfl rfl rfl
      have ck : CokS X (d.gm (fnsOf ds 0) gc) (callP (fnsT ds) k) (fun _ x w' _ H' => ∀ cls dd, RX K w' H' x cls dd → E cls dd H') := by
        refine ⟨⟨by subst hX; rfl, by subst hX; exact S.nd, by subst hX; rfl, by subst hX; exact S.kind, by subst hX; rfl, ?_, fun σ => ?_⟩, ⟨by subst hX; rfl, by subst hX; exact S.nd, by subst hX; rfl, fun x hx => ?_⟩, by subst hX; exact passes_of rfl⟩
        · have hr' : Room k X.A := by subst hX; exact hr
          refine ⟨hr'.units, by rw [eM]; exact T.bl, fun x g n hx => ?_, by rw [eM, eK]; exact T.gc⟩
          obtain ⟨j, d', e1, e2, e3, e4⟩ := lookup_fns hx
          obtain ⟨f', fd', g1, g2, g3, g4⟩ := ih j d' e2
          rw [Nat.zero_add] at e1
          subst e1 e4
          rw [eP, eW, eK, eM, eB]
          exact ⟨f', fd', d'.ps, k, by rw [← e3]; exact g2, g1.kp, g4, hr', .all g3⟩
        · intro pins H1 s1 e s2 I cx
          refine passAt tk σ pins H1 s1 e s2 I ?_
          obtain ⟨a, B, H', cls, dd, r1, r2, r3, r4, r5, r6, r7, r8⟩ := cx
          refine ⟨a, B, H', cls, dd, r1, r2, r3, r4, r5, r6, r7, ?_⟩
          obtain ⟨x, w', m', _, hx, hw⟩ := r8
          rw [eK] at hx
          exact hw cls dd hx
        · have hx : (decide ((defScope d.st).names.lookup x = some .local) || decide ((defScope d.st).names.lookup x = some .cell)) = true := hx
          rw [Bool.or_eq_true, decide_eq_true_eq, decide_eq_true_eq] at hx
          refine ⟨by subst hX; exact hx, .inl (by subst hX; rfl)⟩
      have hb := sndTs d.fn.body ck (defBody d.st) o4
      refine ⟨_, hb, ws.map some ++ List.replicate (d.fn.ns - d.fn.np) none, ⟨[], Sm⟩, w, ?_, by rw [eK]; exact rl, ?_⟩
      · rw [eK, o2, ← hn]
        exact start_re hv o3
      · rw [eK]
        have hl : w.l = [] := by
          have := rl.lenL
          exact List.eq_nil_of_length_eq_zero this.symm
        cases hz : exs (callP (fnsT ds) k) d.fn.body (ws.map some ++ List.replicate (d.fn.ns - d.fn.np) none) ⟨[], Sm⟩ with
        | nx ρ m =>
          rw [hz] at c
          exact fun σ w' H' e r re => c .non ⟨w'.mu, [], w'.p⟩ H' (e.dropL hl) r.dropL (.v .non)
        | rt a m =>
          rw [hz] at c
          exact fun v w' H' e r rv => c v ⟨w'.mu, [], w'.p⟩ H' (e.dropL hl) r.dropL (rv.dropL (exs_rt _ hz))
        | err x ρ m =>
          rw [hz] at c
          exact fun σ w' H' e r re cls dd hx => c ⟨w'.mu, [], w'.p⟩ H' (e.dropL hl) r.dropL cls dd (hx.mono fun a h => Wd.dropL_live (w' := w') h)
        | bk _ _ => rw [hz] at c; exact c.elim
        | ct _ _ => rw [hz] at c; exact c.elim
        | bad => rw [hz] at c; exact c.elim
end
end Z

set_option maxHeartbeats 4000000
/-! Z18: the end of a law. -/
namespace Z
open PySem PySem.Spec PyProof.Rows L2 RZ

def DfK (K : PySem.W.Frag) (d : Df) : Prop := ∃ f fd, L2.Fun K d.q d.q d.st f fd ∧ PySem.W.nsIn K mainGlobals d.x = some (some (.ref f)) ∧ ∀ us : List Value, us.length = d.ps.length → bindArgs fd ⟨us, []⟩ = pure (d.ps.zip us)
structure TabK (K : PySem.W.Frag) (ds : List Df) (gc : List (Str × PyData)) : Prop where
  df : ∀ d ∈ ds, DfK K d
  ok : ∀ d ∈ ds, d.ok (fnsOf ds 0) gc = true
  bl : ∀ x ∈ bltNames, PySem.W.nsIn K mainGlobals x = some none
  gc : ∀ x d, gc.lookup x = some d → ∃ u v, PySem.W.nsIn K mainGlobals x = some (some u) ∧ RelV v u ∧ ∀ w H, RD K w H d v
theorem TabK.tab {K : PySem.W.Frag} {h : Heap} {mg : Str → Option Value} {ds : List Df} {gc : List (Str × PyData)} (T : TabK K ds gc) (X : K.In h) (G : h.Ns mainGlobals mg) : TabIn K mg ds gc where
  df := fun d hd => by
    obtain ⟨f, fd, h1, h2, h3⟩ := T.df d hd
    exact ⟨f, fd, h1, PySem.W.mg_of X G h2, h3⟩
  ok := T.ok
  bl := fun x hx => PySem.W.mg_none_of X G (T.bl x hx)
  gc := fun x d hd => by
    obtain ⟨u, v, h1, h2, h3⟩ := T.gc x d hd
    exact ⟨u, v, PySem.W.mg_of X G h1, h2, h3⟩
theorem dfK {K : PySem.W.Frag} {d : Df} {f : Addr} {oc : Value} {od an : Option Addr} {osl : Array (Option Value)} {kV doc pm cdv ct : Value}
    (n : PySem.W.nsIn K mainGlobals d.x = some (some (.ref f))) (l : K.lookup f = some ⟨oc, od, .func (PySem.W.fnOf d.q d.q (L2.defArgs d.st) (L2.defBody d.st) (L2.defScope d.st) .none kV doc pm an cdv ct), osl⟩)
    (c : PySem.W.codeIn K cdv d.q = true) (k : PySem.W.keepIn K (.ref f) = true) (b : ∀ (kV doc pm : Value) (an : Option Addr) (cdv ct : Value) (us : List Value), us.length = d.ps.length → bindArgs (PySem.W.fnOf d.q d.q (L2.defArgs d.st) (L2.defBody d.st) (L2.defScope d.st) .none kV doc pm an cdv ct) ⟨us, []⟩ = pure (d.ps.zip us)) : DfK K d :=
  ⟨f, _, L2.fun_mk l c k, n, b _ _ _ _ _ _⟩
theorem df_nil {K : PySem.W.Frag} : ∀ d ∈ ([] : List Df), DfK K d := fun d h => by cases h
theorem df_cons {K : PySem.W.Frag} {d : Df} {r : List Df} (h : DfK K d) (t : ∀ d ∈ r, DfK K d) : ∀ e ∈ d :: r, DfK K e := fun e he => by
  rcases List.mem_cons.mp he with rfl | he
  · exact h
  · exact t e he
theorem dfS {K : PySem.W.Frag} {d : Df} {x q : Str} {st : Stmt} {ps N : List Str} {fn : Fn} {f : Addr} {oc : Value} {od an : Option Addr} {osl : Array (Option Value)} {kV doc pm cdv ct : Value} (hd : d = ⟨x, q, st, ps, N, fn⟩)
    (n : PySem.W.nsIn K mainGlobals x = some (some (.ref f))) (l : K.lookup f = some ⟨oc, od, .func (PySem.W.fnOf q q (L2.defArgs st) (L2.defBody st) (L2.defScope st) .none kV doc pm an cdv ct), osl⟩)
    (c : PySem.W.codeIn K cdv q = true) (k : PySem.W.keepIn K (.ref f) = true) (b : ∀ (kV doc pm : Value) (an : Option Addr) (cdv ct : Value) (us : List Value), us.length = ps.length → bindArgs (PySem.W.fnOf q q (L2.defArgs st) (L2.defBody st) (L2.defScope st) .none kV doc pm an cdv ct) ⟨us, []⟩ = pure (ps.zip us)) : DfK K d := by
  subst hd
  exact dfK n l c k b
theorem bl_mk {K : PySem.W.Frag} (b0 : PySem.W.nsIn K mainGlobals "len" = some none) (b1 : PySem.W.nsIn K mainGlobals "sum" = some none) (b2 : PySem.W.nsIn K mainGlobals "min" = some none) (b3 : PySem.W.nsIn K mainGlobals "max" = some none) (b4 : PySem.W.nsIn K mainGlobals "all" = some none) (b5 : PySem.W.nsIn K mainGlobals "any" = some none) (b6 : PySem.W.nsIn K mainGlobals "int" = some none) (b7 : PySem.W.nsIn K mainGlobals "abs" = some none) (b8 : PySem.W.nsIn K mainGlobals "list" = some none) (b9 : PySem.W.nsIn K mainGlobals "tuple" = some none) (b10 : PySem.W.nsIn K mainGlobals "isinstance" = some none) (b11 : PySem.W.nsIn K mainGlobals "str" = some none) (b12 : PySem.W.nsIn K mainGlobals "bool" = some none) (b13 : PySem.W.nsIn K mainGlobals "range" = some none) (b14 : PySem.W.nsIn K mainGlobals "enumerate" = some none) (b15 : PySem.W.nsIn K mainGlobals "zip" = some none) : ∀ x ∈ bltNames, PySem.W.nsIn K mainGlobals x = some none := by
  intro x hx
  simp only [bltNames, List.mem_cons, List.not_mem_nil, or_false] at hx
  rcases hx with rfl | rfl | rfl | rfl | rfl | rfl | rfl | rfl | rfl | rfl | rfl | rfl | rfl | rfl | rfl | rfl
  · exact b0
  · exact b1
  · exact b2
  · exact b3
  · exact b4
  · exact b5
  · exact b6
  · exact b7
  · exact b8
  · exact b9
  · exact b10
  · exact b11
  · exact b12
  · exact b13
  · exact b14
  · exact b15
theorem gc_nil {K : PySem.W.Frag} : ∀ x d, ([] : List (Str × PyData)).lookup x = some d → ∃ u v, PySem.W.nsIn K mainGlobals x = some (some u) ∧ RelV v u ∧ ∀ w H, RD K w H d v := fun x d h => by cases h
theorem sp_law {K : PySem.W.Frag} {C : Orc} {i : Nat} {H : Hp} {a : Addr} {ns : List Int} (hO : Only H) (hS : SqL K H a (ns.map V.int)) (h : ∃ m, C i [.ro (ns.map .int)] [] = .ok (.v (.bool true)) m) :
    spZ K C i 1 [.ref a] H (fun v _ => v = .bl true) fun _ _ _ => False := by
  obtain ⟨m, h⟩ := h
  have hR : SqR K H a (ns.map V.int) := by
    rcases hS with (hS | hS) | hS
    · rcases hO a with z | ⟨o, xs, z⟩
      · rw [z] at hS; cases hS
      · rw [z] at hS; cases hS
    · exact .inl hS
    · exact .inr hS
  have hd : ∀ ns : List Int, RDs K ⟨[], [], fun _ => False⟩ H (ns.map .int) (ns.map V.int) := by
    intro ns
    induction ns with
    | nil => exact .nil
    | cons n ns ih => exact .cons (.int n) ih
  refine ⟨[.ro (ns.map .int)], ⟨[], [], fun _ => False⟩, [], rfl, .cons (.ro hR (hd ns)) .nil, rfl, ⟨rfl, rfl, .nil, (fun i j a h => by simp at h), (fun a h => nomatch h), (fun a h => h.elim), (fun n o a h => by simp at h), (fun n o x h => by simp at h)⟩, ?_⟩
  rw [h]
  intro v w' H' e r rv
  cases rv with
  | v rv => cases rv; rfl
theorem law_fn {l : PySem.W.OpenLaw} {w : World} {K : PySem.W.Frag} {h : Heap} {mg : Str → Option Value} {fa : Addr} {ds : List Df} {gc : List (Str × PyData)} {d : Df} {i k : Nat} {x : Str} (X : K.In h) (G : h.Ns mainGlobals mg) (hfa : mg d.x = some (.ref fa)) (T : TabK K ds gc) (hd : ds[i]? = some d) (hp : d.ps = [x]) :
    ∃ fd : FuncData, (∀ (s : Shared) (u : Value), BindsTo s fd ⟨[u], []⟩ [(x, u)]) ∧ ∀ base : Heap, K.In base → base.Ns mainGlobals mg → FnOk l.prog w K mg base (L2.CX l.prog w) k fa fd [x] (spZ K (callP (fnsT ds) k) i 1) := by
  have T' := T.tab X G
  obtain ⟨f, fd, h1, h2, h3⟩ := T'.df d (List.mem_of_getElem? hd)
  have e := hfa.symm.trans h2
  cases e
  refine ⟨fd, fun s u => .of_eq (by have := h3 [u] (by rw [hp]; rfl); rw [hp] at this; exact this), fun base hb hn => ?_⟩
  obtain ⟨f', fd', g1, g2, g3, g4⟩ := tab_ok (P := l.prog) (W0 := w) (base := base) T' k i d hd
  have e := h2.symm.trans g2
  cases e
  obtain ⟨oc, od, kV, doc, pm, an, cdv, ct, osl, rfl, lk, hcd⟩ := h1.ex
  obtain ⟨oc', od', kV', doc', pm', an', cdv', ct', osl', rfl, lk', hcd'⟩ := g1.ex
  rw [lk] at lk'
  cases lk'
  rw [hp] at g4
  exact g4
theorem CX_no {P : Program} {w : World} {H : Hp} {s : Shared} {e : Value} {s' : Shared} (h : L2.CX P w [] H s (fun _ _ _ => False) e s') : False := by
  obtain ⟨_, _, _, _, _, _, _, _, _, _, _, _, z⟩ := h
  exact z
end Z

set_option maxHeartbeats 4000000
namespace L
open PySem Z
/-- law: 0 _law_script, 1 _law_cells_here, 2 _law_k -/
def Flaw : Fn := ⟨1, 3, (.cons (.asg (.nm 1) (.call 3 (.cons (.var 0) (.cons (.cst (.int 3)) .nil)))) (.cons (.ret (.blt .all (.cons (.lst .fz (.comp [2] (.nm 2) (.rng1 (.blt .len (.cons (.var 1) .nil))) .nil (.call 1 (.cons (.call 2 (.cons (.var 1) (.cons (.var 2) .nil))) .nil)))) .nil))) .nil))⟩
/-- _law_right: 0 _law_urn, 1 _law_turn, 2 _law_size_so, 3 _law_mine, 4 _law_its, 5 _law_many, 6 _law_cut, 7 _law_word_so, 8 _law_whole_so, 9 _law_cut_so, 10 _law_lap, 11 _law_spot, 12 _law_got, 13 _law_more, 14 _law_own -/
def F_law_right : Fn := ⟨1, 15, (.cons (.ife (.not (.call 15 .nil)) (.cons (.ret (.cst (.bool false))) .nil) .nil) (.cons (.forT (.nm 1) (.rng1 (.cst (.int 6))) (.cons (.asg (.nm 2) (.call 12 (.cons (.var 0) (.cons (.lst .fz (.disp (.cons (.cst (.int 3)) (.cons (.bin .pow (.cst (.int 10)) (.cst (.int 20))) .nil)))) .nil)))) (.cons (.asg (.tp (.cons (.nm 3) (.cons (.nm 4) .nil))) (.lst .fz (.comp [14] (.nm 14) (.rng1 (.cst (.int 2))) .nil (.call 14 (.cons (.var 0) (.cons (.var 2) (.cons (.cst (.int 2)) .nil))))))) (.cons (.ife (.not (.call 13 (.cons (.var 0) (.cons (.var 3) (.cons (.var 4) .nil))))) (.cons (.ret (.cst (.bool false))) .nil) .nil) (.cons (.par [5, 6, 7] (.cons (.bin .add (.cst (.int 2)) (.call 10 (.cons (.var 0) (.cons (.var 2) .nil)))) (.cons (.call 10 (.cons (.var 0) (.cons (.var 2) .nil))) (.cons (.call 12 (.cons (.var 0) (.cons (.lst .fz (.disp (.cons (.cst (.str "and")) (.cons (.cst (.str "then")) (.cons (.cst (.str "or")) .nil))))) .nil))) .nil)))) (.cons (.asg (.nm 6) (.bin .add (.cst (.int 1)) (.bin .mod (.var 6) (.bin .sub (.var 5) (.cst (.int 1)))))) (.cons (.par [8, 9] (.cons (.tup (.cons (.var 7) (.cons (.var 5) (.cons (.var 3) .nil)))) (.cons (.tup (.cons (.var 7) (.cons (.tup (.cons (.var 7) (.cons (.var 6) (.cons (.var 3) .nil)))) (.cons (.tup (.cons (.var 7) (.cons (.bin .sub (.var 5) (.var 6)) (.cons (.var 3) .nil)))) .nil)))) .nil))) (.cons (.ife (.not (.call 4 (.cons (.call 5 (.cons (.var 8) .nil)) (.cons (.call 5 (.cons (.var 9) .nil)) .nil)))) (.cons (.ret (.cst (.bool false))) .nil) .nil) (.cons (.forT (.nm 10) (.rng1 (.cst (.int 3))) (.cons (.asg (.nm 11) (.call 10 (.cons (.var 0) (.cons (.call 11 (.cons (.var 8) .nil)) .nil)))) (.cons (.asg (.nm 12) (.lst .fz (.comp [14] (.nm 14) (.seq (.tup (.cons (.var 8) (.cons (.var 9) .nil)))) .nil (.lst .fz (.disp (.cons (.call 9 (.cons (.var 14) (.cons (.var 11) .nil))) (.cons (.call 8 (.cons (.var 14) (.cons (.var 11) .nil))) .nil))))))) (.cons (.asg (.nm 13) (.lst .fz (.comp [14] (.nm 14) (.seq (.tup (.cons (.var 8) (.cons (.var 9) .nil)))) .nil (.lst .fz (.disp (.cons (.call 7 (.cons (.var 14) (.cons (.var 11) .nil))) (.cons (.call 6 (.cons (.var 14) (.cons (.var 11) .nil))) .nil))))))) (.cons (.ife (.not (.call 4 (.cons (.bin .add (.ix (.var 12) (.cst (.int 0))) (.ix (.var 13) (.cst (.int 0)))) (.cons (.bin .add (.ix (.var 12) (.cst (.int 1))) (.ix (.var 13) (.cst (.int 1)))) .nil)))) (.cons (.ret (.cst (.bool false))) .nil) .nil) .nil))))) (.cons (.ife (.not (.call 4 (.cons (.call 5 (.cons (.tup (.cons (.var 7) (.cons (.cst (.int 1)) (.cons (.var 3) .nil)))) .nil)) (.cons (.call 5 (.cons (.var 3) .nil)) .nil)))) (.cons (.ret (.cst (.bool false))) .nil) .nil) .nil)))))))))) (.cons (.ret (.cst (.bool true))) .nil)))⟩
/-- _law_box: 0 _law_script, 1 _law_k, 2 _law_cell -/
def F_law_box : Fn := ⟨2, 3, (.cons (.asg (.nm 2) (.ite (.cmp .lt (.var 1) (.blt .len (.cons (.var 0) .nil))) (.ix (.var 0) (.var 1)) (.cst (.int 0)))) (.cons (.ret (.lst .shr (.disp (.cons (.bin .mul (.blt .abs (.cons (.var 2) .nil)) (.blt .int (.cons (.cmp .ge (.blt .abs (.cons (.var 2) .nil)) (.bin .pow (.cst (.int 10)) (.cst (.int 18)))) .nil))) (.cons (.bin .add (.bin .add (.bin .mod (.blt .int (.cons (.var 2) .nil)) (.cst (.int 2305843009213693951))) (.bin .mul (.cst (.int 39373)) (.var 1))) (.cst (.int 10516083))) (.cons (.cst (.int 0)) .nil)))))) .nil))⟩
/-- _law_cells: 0 _law_script, 1 _law_top, 2 _law_cells_here, 3 _law_k, 4 _law_cell, 5 _law_at_so -/
def F_law_cells : Fn := ⟨2, 6, (.cons (.asg (.nm 2) (.or (.cons (.lst .loc (.of (.sl (.var 0) .none (.some (.var 1))))) (.cons (.lst .loc (.disp (.cons (.cst (.int 0)) .nil))) .nil)))) (.cons (.forT (.tp (.cons (.nm 3) (.cons (.nm 4) .nil))) (.enm (.sl (.var 0) (.some (.var 1)) (.some (.cst (.int 63))))) (.cons (.asg (.nm 5) (.bin .mod (.blt .int (.cons (.var 3) .nil)) (.var 1))) (.cons (.setIx (.var 2) (.var 5) (.bin .add (.ix (.var 2) (.var 5)) (.bin .mul (.var 4) (.bin .add (.var 3) (.cst (.int 2)))))) .nil))) (.cons (.ret (.frz (.var 2))) .nil)))⟩
/-- _law_same: 0 _law_got, 1 _law_goal, 2 _law_mine_so, 3 _law_own -/
def F_law_same : Fn := ⟨2, 4, (.cons (.ife (.isi [.list, .tuple] (.var 1)) (.cons (.ife (.or (.cons (.cmp .ne (.isi [.list] (.var 0)) (.isi [.list] (.var 1))) (.cons (.cmp .ne (.isi [.tuple] (.var 0)) (.isi [.tuple] (.var 1))) .nil))) (.cons (.ret (.cst (.bool false))) .nil) .nil) (.cons (.ret (.and (.cons (.cmp .eq (.blt .len (.cons (.var 0) .nil)) (.blt .len (.cons (.var 1) .nil))) (.cons (.blt .all (.cons (.lst .fz (.comp [2, 3] (.tp (.cons (.nm 2) (.cons (.nm 3) .nil))) (.zip (.var 0) (.var 1)) .nil (.call 4 (.cons (.var 2) (.cons (.var 3) .nil))))) .nil)) .nil)))) .nil)) .nil) (.cons (.ife (.or (.cons (.isN (.var 1)) (.cons (.isi [.bool, .str] (.var 1)) .nil))) (.cons (.ret (.and (.cons (.cmp .eq (.var 0) (.var 1)) (.cons (.cmp .eq (.isi [.bool] (.var 0)) (.isi [.bool] (.var 1))) (.cons (.cmp .eq (.isN (.var 0)) (.isN (.var 1))) .nil))))) .nil) .nil) (.cons (.ret (.and (.cons (.isi [.int] (.var 0)) (.cons (.not (.isi [.bool] (.var 0))) (.cons (.cmp .eq (.var 0) (.var 1)) .nil))))) .nil)))⟩
/-- _law_told: 0 _law_big_so -/
def F_law_told : Fn := ⟨1, 1, (.cons (.ret (.lst .fz (.disp (.cons (.call 11 (.cons (.var 0) .nil)) (.cons (.call 18 (.cons (.var 0) .nil)) (.cons (.call 17 (.cons (.var 0) .nil)) (.cons (.call 16 (.cons (.var 0) .nil)) .nil))))))) .nil)⟩
/-- can_be_end: 0 big, 1 place, 2 word, 3 left, 4 right -/
def Fcan_be_end : Fn := ⟨2, 5, (.cons (.ex (.call 20 (.cons (.var 0) (.cons (.var 1) .nil)))) (.cons (.ret (.blt .all (.cons (.lst .fz (.comp [2, 3, 4] (.tp (.cons (.nm 2) (.cons (.nm 3) (.cons (.nm 4) .nil)))) (.seq (.call 19 (.cons (.var 0) (.cons (.var 1) .nil)))) .nil (.or (.cons (.cmp .ne (.var 2) (.cst (.str "or"))) (.cons (.cmp .eq (.var 4) (.cst (.int 0))) .nil))))) .nil))) .nil))⟩
/-- is_always_done: 0 big, 1 place, 2 word, 3 left, 4 right, 5 many, 6 part -/
def Fis_always_done : Fn := ⟨2, 7, (.cons (.ex (.call 20 (.cons (.var 0) (.cons (.var 1) .nil)))) (.cons (.ret (.blt .all (.cons (.lst .fz (.comp [2, 3, 4] (.tp (.cons (.nm 2) (.cons (.nm 3) (.cons (.nm 4) .nil)))) (.seq (.call 19 (.cons (.var 0) (.cons (.var 1) .nil)))) .nil (.or (.cons (.cmp .eq (.var 2) (.cst (.str "then"))) (.cons (.cmp .eq (.blt .sum (.cons (.lst .fz (.comp [5, 6] (.tp (.cons (.nm 5) (.cons (.nm 6) .nil))) (.seq (.var 3)) .nil (.var 5))) .nil)) (.cst (.int 0))) .nil))))) .nil))) .nil))⟩
/-- fewest_to_do: 0 big, 1 place, 2 found, 3 word, 4 left, 5 right, 6 many, 7 part -/
def Ffewest_to_do : Fn := ⟨2, 8, (.cons (.ex (.call 20 (.cons (.var 0) (.cons (.var 1) .nil)))) (.cons (.asg (.nm 2) (.cst (.int 0))) (.cons (.forT (.tp (.cons (.nm 3) (.cons (.nm 4) (.cons (.nm 5) .nil)))) (.seq (.call 19 (.cons (.var 0) (.cons (.var 1) .nil)))) (.cons (.ife (.cmp .eq (.var 3) (.cst (.str "or"))) (.cons (.asg (.nm 2) (.bin .add (.var 2) (.blt .sum (.cons (.lst .fz (.comp [6, 7] (.tp (.cons (.nm 6) (.cons (.nm 7) .nil))) (.seq (.var 4)) .nil (.bin .mul (.var 6) (.call 18 (.cons (.var 7) .nil))))) .nil)))) .nil) .nil) .nil)) (.cons (.ret (.var 2)) .nil))))⟩
/-- act_at: 0 big, 1 place, 2 rest, 3 many, 4 part, 5 size -/
def Fact_at : Fn := ⟨2, 6, (.cons (.ex (.call 20 (.cons (.var 0) (.cons (.var 1) .nil)))) (.cons (.asg (.nm 2) (.var 1)) (.cons (.while 1000 (.not (.isi [.str] (.var 0))) (.cons (.forT (.tp (.cons (.nm 3) (.cons (.nm 4) .nil))) (.seq (.call 21 (.cons (.var 0) .nil))) (.cons (.asg (.nm 5) (.call 11 (.cons (.var 4) .nil))) (.cons (.ife (.cmp .lt (.var 2) (.bin .mul (.var 3) (.var 5))) (.cons (.par [0, 2] (.cons (.var 4) (.cons (.bin .mod (.var 2) (.var 5)) .nil))) (.cons (.brk) .nil)) .nil) (.cons (.asg (.nm 2) (.bin .sub (.var 2) (.bin .mul (.var 3) (.var 5)))) .nil)))) .nil)) (.cons (.ret (.var 0)) .nil))))⟩
/-- _law_take: 0 _law_urn, 1 _law_low_so, 2 _law_drawn, 3 _law_once, 4 _law_far, 5 _law_twice -/
def F_law_take : Fn := ⟨2, 6, (.cons (.ife (.cmp .gt (.ix (.var 0) (.cst (.int 0))) (.cst (.int 0))) (.cons (.asg (.nm 2) (.bin .mod (.blt .int (.cons (.ix (.var 0) (.cst (.int 0))) .nil)) (.var 1))) (.cons (.setIx (.var 0) (.cst (.int 0)) (.bin .fdiv (.ix (.var 0) (.cst (.int 0))) (.var 1))) (.cons (.ret (.var 2)) .nil))) .nil) (.cons (.setIx (.var 0) (.cst (.int 2)) (.bin .add (.ix (.var 0) (.cst (.int 2))) (.cst (.int 1)))) (.cons (.asg (.nm 3) (.bin .mod (.blt .int (.cons (.bin .mul (.bin .add (.ix (.var 0) (.cst (.int 1))) (.bin .mul (.cst (.int 48271)) (.ix (.var 0) (.cst (.int 2))))) (.bin .add (.cst (.int 39373)) (.ix (.var 0) (.cst (.int 2))))) .nil)) (.cst (.int 2147483647)))) (.cons (.asg (.nm 4) (.bin .add (.bin .mod (.blt .int (.cons (.var 3) .nil)) (.cst (.int 40009))) (.cst (.int 7)))) (.cons (.asg (.nm 5) (.bin .mod (.blt .int (.cons (.bin .mul (.bin .add (.bin .add (.var 3) (.ix (.var 0) (.cst (.int 2)))) (.bin .fdiv (.ix (.var 0) (.cst (.int 1))) (.cst (.int 1000003)))) (.var 4)) .nil)) (.cst (.int 2147483629)))) (.cons (.ret (.bin .mod (.blt .int (.cons (.bin .fdiv (.bin .mod (.blt .int (.cons (.bin .add (.bin .mul (.var 5) (.cst (.int 48271))) (.var 3)) .nil)) (.cst (.int 2147483587))) (.cst (.int 64))) .nil)) (.var 1))) .nil))))))⟩
/-- how_many_acts: 0 big, 1 many, 2 part -/
def Fhow_many_acts : Fn := ⟨1, 3, (.cons (.ife (.isi [.str] (.var 0)) (.cons (.ret (.cst (.int 1))) .nil) .nil) (.cons (.ret (.blt .sum (.cons (.lst .fz (.comp [1, 2] (.tp (.cons (.nm 1) (.cons (.nm 2) .nil))) (.seq (.call 21 (.cons (.var 0) .nil))) .nil (.bin .mul (.var 1) (.call 11 (.cons (.var 2) .nil))))) .nil))) .nil))⟩
/-- _law_of: 0 _law_urn, 1 _law_some_so -/
def F_law_of : Fn := ⟨2, 2, (.cons (.ret (.ix (.var 1) (.call 10 (.cons (.var 0) (.cons (.blt .len (.cons (.var 1) .nil)) .nil))))) .nil)⟩
/-- _law_two_right: 0 _law_urn, 1 _law_mine, 2 _law_its, 3 _law_near, 4 _law_far, 5 _law_one_so, 6 _law_two_so, 7 _law_word_so, 8 _law_both, 9 _law_least, 10 _law_got, 11 _law_goal -/
def F_law_two_right : Fn := ⟨3, 12, (.cons (.par [3, 4] (.cons (.call 11 (.cons (.var 1) .nil)) (.cons (.call 11 (.cons (.var 2) .nil)) .nil))) (.cons (.par [5, 6] (.cons (.call 10 (.cons (.var 0) (.cons (.var 3) .nil))) (.cons (.call 10 (.cons (.var 0) (.cons (.var 4) .nil))) .nil))) (.cons (.forT (.nm 7) (.seq (.tup (.cons (.cst (.str "and")) (.cons (.cst (.str "then")) (.cons (.cst (.str "or")) .nil))))) (.cons (.asg (.nm 8) (.tup (.cons (.var 7) (.cons (.var 1) (.cons (.var 2) .nil))))) (.cons (.asg (.nm 9) (.lst .fz (.disp (.cons (.call 18 (.cons (.var 1) .nil)) (.cons (.call 18 (.cons (.var 2) .nil)) .nil))))) (.cons (.asg (.nm 10) (.lst .fz (.disp (.cons (.call 11 (.cons (.var 8) .nil)) (.cons (.call 9 (.cons (.var 8) (.cons (.var 5) .nil))) (.cons (.call 9 (.cons (.var 8) (.cons (.bin .add (.var 3) (.var 6)) .nil))) .nil)))))) (.cons (.asg (.nm 10) (.bin .add (.var 10) (.lst .fz (.disp (.cons (.call 18 (.cons (.var 8) .nil)) .nil))))) (.cons (.asg (.nm 11) (.lst .fz (.disp (.cons (.bin .add (.var 3) (.var 4)) (.cons (.call 9 (.cons (.var 1) (.cons (.var 5) .nil))) (.cons (.call 9 (.cons (.var 2) (.cons (.var 6) .nil))) .nil)))))) (.cons (.asg (.nm 11) (.bin .add (.var 11) (.lst .fz (.disp (.cons (.ite (.cmp .eq (.var 7) (.cst (.str "or"))) (.blt .sum (.cons (.var 9) .nil)) (.blt .min (.cons (.var 9) .nil))) .nil))))) (.cons (.asg (.nm 10) (.bin .add (.var 10) (.lst .fz (.disp (.cons (.call 8 (.cons (.var 8) (.cons (.var 5) .nil))) (.cons (.call 8 (.cons (.var 8) (.cons (.bin .add (.var 3) (.var 6)) .nil))) .nil)))))) (.cons (.asg (.nm 11) (.bin .add (.var 11) (.lst .fz (.disp (.cons (.call 8 (.cons (.var 1) (.cons (.var 5) .nil))) .nil))))) (.cons (.asg (.nm 11) (.bin .add (.var 11) (.lst .fz (.disp (.cons (.bin .add (.call 8 (.cons (.var 2) (.cons (.var 6) .nil))) (.bin .mul (.ix (.var 9) (.cst (.int 0))) (.blt .int (.cons (.cmp .eq (.var 7) (.cst (.str "or"))) .nil)))) .nil))))) (.cons (.asg (.nm 10) (.bin .add (.var 10) (.lst .fz (.disp (.cons (.call 7 (.cons (.var 8) (.cons (.var 5) .nil))) (.cons (.call 7 (.cons (.var 8) (.cons (.bin .add (.var 3) (.var 6)) .nil))) .nil)))))) (.cons (.asg (.nm 11) (.bin .add (.var 11) (.lst .fz (.disp (.cons (.call 7 (.cons (.var 1) (.cons (.var 5) .nil))) (.cons (.and (.cons (.call 7 (.cons (.var 2) (.cons (.var 6) .nil))) (.cons (.cmp .eq (.var 7) (.cst (.str "then"))) .nil))) .nil)))))) (.cons (.asg (.nm 10) (.bin .add (.var 10) (.lst .fz (.disp (.cons (.call 6 (.cons (.var 8) (.cons (.var 5) .nil))) (.cons (.call 6 (.cons (.var 8) (.cons (.bin .add (.var 3) (.var 6)) .nil))) .nil)))))) (.cons (.asg (.nm 11) (.bin .add (.var 11) (.lst .fz (.disp (.cons (.and (.cons (.call 6 (.cons (.var 1) (.cons (.var 5) .nil))) (.cons (.cmp .ne (.var 7) (.cst (.str "or"))) .nil))) (.cons (.call 6 (.cons (.var 2) (.cons (.var 6) .nil))) .nil)))))) (.cons (.ife (.not (.call 4 (.cons (.var 10) (.cons (.var 11) .nil)))) (.cons (.ret (.cst (.bool false))) .nil) .nil) (.cons (.ife (.and (.cons (.cmp .eq (.var 7) (.cst (.str "then"))) (.cons (.cmp .ne (.call 17 (.cons (.var 8) .nil)) (.bin .add (.call 17 (.cons (.var 1) .nil)) (.call 17 (.cons (.var 2) .nil)))) .nil))) (.cons (.ret (.cst (.bool false))) .nil) .nil) (.cons (.ife (.and (.cons (.cmp .eq (.var 7) (.cst (.str "then"))) (.cons (.cmp .ne (.call 16 (.cons (.var 8) .nil)) (.bin .add (.call 16 (.cons (.var 1) .nil)) (.call 16 (.cons (.var 2) .nil)))) .nil))) (.cons (.ret (.cst (.bool false))) .nil) .nil) (.cons (.ife (.or (.cons (.cmp .gt (.call 17 (.cons (.var 8) .nil)) (.call 17 (.cons (.tup (.cons (.cst (.str "then")) (.cons (.var 1) (.cons (.var 2) .nil)))) .nil))) (.cons (.cmp .lt (.call 16 (.cons (.var 8) .nil)) (.call 16 (.cons (.var 1) .nil))) .nil))) (.cons (.ret (.cst (.bool false))) .nil) .nil) .nil)))))))))))))))))) (.cons (.ret (.cst (.bool true))) .nil))))⟩
/-- _law_big: 0 _law_urn, 1 _law_many, 2 _law_most_so, 3 _law_word_so, 4 _law_own -/
def F_law_big : Fn := ⟨3, 5, (.cons (.ife (.or (.cons (.cmp .eq (.var 2) (.cst (.int 0))) (.cons (.cmp .eq (.call 10 (.cons (.var 0) (.cons (.cst (.int 3)) .nil))) (.cst (.int 0))) .nil))) (.cons (.ret (.call 12 (.cons (.var 0) (.cons (.lst .fz (.disp (.cons (.cst (.str "a")) (.cons (.cst (.str "b")) (.cons (.cst (.str "ask")) .nil))))) .nil)))) .nil) .nil) (.cons (.asg (.nm 3) (.call 12 (.cons (.var 0) (.cons (.lst .fz (.disp (.cons (.cst (.str "and")) (.cons (.cst (.str "then")) (.cons (.cst (.str "or")) .nil))))) .nil)))) (.cons (.ife (.cmp .eq (.call 10 (.cons (.var 0) (.cons (.cst (.int 2)) .nil))) (.cst (.int 0))) (.cons (.ret (.tup (.cons (.var 3) (.cons (.bin .add (.cst (.int 1)) (.call 10 (.cons (.var 0) (.cons (.var 1) .nil)))) (.cons (.call 14 (.cons (.var 0) (.cons (.var 1) (.cons (.bin .sub (.var 2) (.cst (.int 1))) .nil)))) .nil))))) .nil) .nil) (.cons (.ret (.bin .add (.tup (.cons (.var 3) .nil)) (.blt .tuple (.cons (.lst .fz (.comp [4] (.nm 4) (.rng1 (.bin .add (.cst (.int 2)) (.call 10 (.cons (.var 0) (.cons (.cst (.int 2)) .nil))))) .nil (.call 14 (.cons (.var 0) (.cons (.var 1) (.cons (.bin .sub (.var 2) (.cst (.int 1))) .nil)))))) .nil)))) .nil))))⟩
/-- _law_by_hand_right: 0 _law_far, 1 _law_mine, 2 _law_got -/
def F_law_by_hand_right : Fn := ⟨0, 3, (.cons (.asg (.nm 0) (.bin .pow (.cst (.int 10)) (.cst (.int 30)))) (.cons (.asg (.nm 1) (.tup (.cons (.cst (.str "and")) (.cons (.var 0) (.cons (.tup (.cons (.cst (.str "or")) (.cons (.cst (.str "a")) (.cons (.cst (.str "b")) .nil)))) .nil))))) (.cons (.asg (.nm 2) (.lst .loc (.disp (.cons (.call 11 (.cons (.var 1) .nil)) (.cons (.call 18 (.cons (.var 1) .nil)) (.cons (.call 17 (.cons (.var 1) .nil)) (.cons (.call 16 (.cons (.var 1) .nil)) .nil))))))) (.cons (.asg (.nm 2) (.lst .loc (.cat (.var 2) (.lst .fz (.disp (.cons (.call 8 (.cons (.var 1) (.cons (.bin .add (.var 0) (.cst (.int 1))) .nil))) .nil)))))) (.cons (.asg (.nm 2) (.lst .loc (.cat (.var 2) (.lst .fz (.disp (.cons (.call 7 (.cons (.var 1) (.cons (.cst (.int 0)) .nil))) (.cons (.call 7 (.cons (.var 1) (.cons (.cst (.int 1)) .nil))) (.cons (.call 6 (.cons (.var 1) (.cons (.bin .sub (.bin .mul (.cst (.int 2)) (.var 0)) (.cst (.int 1))) .nil))) .nil)))))))) (.cons (.asg (.nm 2) (.lst .loc (.cat (.var 2) (.lst .fz (.disp (.cons (.call 6 (.cons (.var 1) (.cons (.cst (.int 2)) .nil))) .nil)))))) (.cons (.ex (.mth .append (.var 2) (.cons (.call 17 (.cons (.tup (.cons (.cst (.str "and")) (.cons (.tup (.cons (.cst (.str "or")) (.cons (.cst (.int 3)) (.cons (.cst (.str "a")) .nil)))) (.cons (.cst (.str "b")) .nil)))) .nil)) .nil))) (.cons (.ret (.call 4 (.cons (.frz (.var 2)) (.cons (.lst .fz (.disp (.cons (.bin .mul (.cst (.int 2)) (.var 0)) (.cons (.cst (.int 2)) (.cons (.bin .mul (.cst (.int 2)) (.var 0)) (.cons (.cst (.int 2)) (.cons (.cst (.int 1)) (.cons (.cst (.bool true)) (.cons (.cst (.bool false)) (.cons (.cst (.bool true)) (.cons (.cst (.bool false)) (.cons (.cst (.int 4)) .nil)))))))))))) .nil)))) .nil))))))))⟩
/-- shortest_run: 0 big -/
def Fshortest_run : Fn := ⟨1, 1, (.cons (.ret (.blt .min (.cons (.call 22 (.cons (.var 0) (.cons (.cst (.bool false)) .nil))) .nil))) .nil)⟩
/-- longest_run: 0 big -/
def Flongest_run : Fn := ⟨1, 1, (.cons (.ret (.blt .max (.cons (.call 22 (.cons (.var 0) (.cons (.cst (.bool true)) .nil))) .nil))) .nil)⟩
/-- fewest_failing: 0 big, 1 many, 2 part -/
def Ffewest_failing : Fn := ⟨1, 3, (.cons (.ife (.isi [.str] (.var 0)) (.cons (.ret (.cst (.int 1))) .nil) .nil) (.cons (.ife (.cmp .eq (.ix (.var 0) (.cst (.int 0))) (.cst (.str "or"))) (.cons (.ret (.blt .sum (.cons (.lst .fz (.comp [1, 2] (.tp (.cons (.nm 1) (.cons (.nm 2) .nil))) (.seq (.call 21 (.cons (.var 0) .nil))) .nil (.bin .mul (.var 1) (.call 18 (.cons (.var 2) .nil))))) .nil))) .nil) .nil) (.cons (.ret (.blt .min (.cons (.lst .fz (.comp [1, 2] (.tp (.cons (.nm 1) (.cons (.nm 2) .nil))) (.seq (.call 21 (.cons (.var 0) .nil))) .nil (.call 18 (.cons (.var 2) .nil)))) .nil))) .nil)))⟩
/-- way_to: 0 big, 1 place, 2 found, 3 rest, 4 left, 5 parts, 6 number, 7 many, 8 part, 9 size -/
def Fway_to : Fn := ⟨2, 10, (.cons (.par [2, 3] (.cons (.lst .loc (.disp .nil)) (.cons (.var 1) .nil))) (.cons (.while 1000 (.not (.isi [.str] (.var 0))) (.cons (.par [4, 5] (.cons (.lst .fz (.disp .nil)) (.cons (.call 21 (.cons (.var 0) .nil)) .nil))) (.cons (.forT (.tp (.cons (.nm 6) (.cons (.tp (.cons (.nm 7) (.cons (.nm 8) .nil))) .nil))) (.enm (.var 5)) (.cons (.asg (.nm 9) (.call 11 (.cons (.var 8) .nil))) (.cons (.ife (.cmp .lt (.var 3) (.bin .mul (.var 7) (.var 9))) (.cons (.ex (.mth .append (.var 2) (.cons (.tup (.cons (.ix (.var 0) (.cst (.int 0))) (.cons (.lst .fz (.disp (.star (.var 4) (.cons (.tup (.cons (.bin .fdiv (.var 3) (.var 9)) (.cons (.var 8) .nil))) .nil)))) (.cons (.bin .sub (.bin .sub (.bin .add (.bin .sub (.bin .sub (.var 7) (.cst (.int 1))) (.bin .fdiv (.var 3) (.var 9))) (.blt .len (.cons (.var 5) .nil))) (.cst (.int 1))) (.var 6)) .nil)))) .nil))) (.cons (.par [0, 3] (.cons (.var 8) (.cons (.bin .mod (.var 3) (.var 9)) .nil))) (.cons (.brk) .nil))) .nil) (.cons (.par [4, 3] (.cons (.lst .fz (.disp (.star (.var 4) (.cons (.tup (.cons (.var 7) (.cons (.var 8) .nil))) .nil)))) (.cons (.bin .sub (.var 3) (.bin .mul (.var 7) (.var 9))) .nil))) .nil)))) .nil))) (.cons (.ret (.frz (.var 2))) .nil)))⟩
/-- check: 0 big, 1 place -/
def Fcheck : Fn := ⟨2, 2, (.cons (.ife (.not (.chn .le .lt (.cst (.int 0)) (.var 1) (.call 11 (.cons (.var 0) .nil)))) (.cons (.never) .nil) .nil) .nil)⟩
/-- parts_of: 0 big, 1 part -/
def Fparts_of : Fn := ⟨1, 2, (.cons (.ife (.and (.cons (.cmp .eq (.blt .len (.cons (.var 0) .nil)) (.cst (.int 3))) (.cons (.not (.isi [.str, .tuple, .list] (.ix (.var 0) (.cst (.int 1))))) .nil))) (.cons (.ret (.lst .fz (.disp (.cons (.tup (.cons (.ix (.var 0) (.cst (.int 1))) (.cons (.ix (.var 0) (.cst (.int 2))) .nil))) .nil)))) .nil) .nil) (.cons (.ret (.lst .fz (.comp [1] (.nm 1) (.seq (.sl (.var 0) (.some (.cst (.int 1))) .none)) .nil (.tup (.cons (.cst (.int 1)) (.cons (.var 1) .nil)))))) .nil))⟩
/-- lengths_of: 0 big, 1 is_most, 2 found, 3 many, 4 part -/
def Flengths_of : Fn := ⟨2, 5, (.cons (.ife (.isi [.str] (.var 0)) (.cons (.ret (.tup (.cons (.cst (.int 1)) (.cons (.cst (.int 1)) .nil)))) .nil) .nil) (.cons (.asg (.nm 2) (.lst .loc (.disp .nil))) (.cons (.forT (.tp (.cons (.nm 3) (.cons (.nm 4) .nil))) (.seq (.call 21 (.cons (.var 0) .nil))) (.cons (.ex (.mth .append (.var 2) (.cons (.call 24 (.cons (.ix (.var 0) (.cst (.int 0))) (.cons (.var 3) (.cons (.call 22 (.cons (.var 4) (.cons (.var 1) .nil))) (.cons (.var 1) .nil))))) .nil))) .nil)) (.cons (.ret (.call 23 (.cons (.ix (.var 0) (.cst (.int 0))) (.cons (.frz (.var 2)) (.cons (.var 1) .nil))))) .nil))))⟩
/-- joined_lengths: 0 word, 1 lengths, 2 is_most, 3 well, 4 fail, 5 here_well, 6 here_fail, 7 late -/
def Fjoined_lengths : Fn := ⟨3, 8, (.cons (.asg (.tp (.cons (.nm 3) (.cons (.nm 4) .nil))) (.ix (.var 1) (.cst (.int 0)))) (.cons (.forT (.tp (.cons (.nm 5) (.cons (.nm 6) .nil))) (.seq (.sl (.var 1) (.some (.cst (.int 1))) .none)) (.cons (.ife (.cmp .eq (.var 0) (.cst (.str "and"))) (.cons (.par [3, 4] (.cons (.bin .add (.var 3) (.var 5)) (.cons (.call 25 (.cons (.var 4) (.cons (.bin .add (.var 3) (.var 6)) (.cons (.var 2) .nil)))) .nil))) .nil) (.cons (.ife (.cmp .eq (.var 0) (.cst (.str "or"))) (.cons (.par [3, 4] (.cons (.call 25 (.cons (.var 3) (.cons (.bin .add (.var 4) (.var 5)) (.cons (.var 2) .nil)))) (.cons (.bin .add (.var 4) (.var 6)) .nil))) .nil) (.cons (.asg (.nm 7) (.call 25 (.cons (.var 5) (.cons (.var 6) (.cons (.var 2) .nil))))) (.cons (.par [3, 4] (.cons (.bin .add (.var 3) (.var 5)) (.cons (.call 25 (.cons (.bin .add (.var 4) (.var 7)) (.cons (.bin .add (.var 3) (.var 6)) (.cons (.var 2) .nil)))) .nil))) .nil))) .nil)) .nil)) (.cons (.ret (.tup (.cons (.var 3) (.cons (.var 4) .nil)))) .nil)))⟩
/-- many_lengths: 0 word, 1 many, 2 own, 3 is_most, 4 well, 5 fail -/
def Fmany_lengths : Fn := ⟨4, 6, (.cons (.asg (.tp (.cons (.nm 4) (.cons (.nm 5) .nil))) (.var 2)) (.cons (.ife (.cmp .eq (.var 0) (.cst (.str "and"))) (.cons (.ret (.tup (.cons (.bin .mul (.var 1) (.var 4)) (.cons (.call 25 (.cons (.var 5) (.cons (.bin .add (.bin .mul (.bin .sub (.var 1) (.cst (.int 1))) (.var 4)) (.var 5)) (.cons (.var 3) .nil)))) .nil)))) .nil) .nil) (.cons (.ife (.cmp .eq (.var 0) (.cst (.str "or"))) (.cons (.ret (.tup (.cons (.call 25 (.cons (.var 4) (.cons (.bin .add (.bin .mul (.bin .sub (.var 1) (.cst (.int 1))) (.var 5)) (.var 4)) (.cons (.var 3) .nil)))) (.cons (.bin .mul (.var 1) (.var 5)) .nil)))) .nil) .nil) (.cons (.ret (.tup (.cons (.bin .mul (.var 1) (.var 4)) (.cons (.bin .add (.var 5) (.bin .mul (.bin .sub (.var 1) (.cst (.int 1))) (.call 25 (.cons (.var 4) (.cons (.var 5) (.cons (.var 3) .nil)))))) .nil)))) .nil))))⟩
/-- picked: 0 one, 1 other, 2 is_most -/
def Fpicked : Fn := ⟨3, 3, (.cons (.ret (.ite (.var 2) (.blt .max (.cons (.var 0) (.cons (.var 1) .nil))) (.blt .min (.cons (.var 0) (.cons (.var 1) .nil))))) .nil)⟩
def fs : List Fn := [Flaw, F_law_right, F_law_box, F_law_cells, F_law_same, F_law_told, Fcan_be_end, Fis_always_done, Ffewest_to_do, Fact_at, F_law_take, Fhow_many_acts, F_law_of, F_law_two_right, F_law_big, F_law_by_hand_right, Fshortest_run, Flongest_run, Ffewest_failing, Fway_to, Fcheck, Fparts_of, Flengths_of, Fjoined_lengths, Fmany_lengths, Fpicked]
end L

set_option maxHeartbeats 4000000
namespace L
open PySem PySem.Spec PyProof.Rows Z
def topS (i : Nat) : Stmt := PySem.Challenge.pw_wayoutdeeds_k83_whole_great_bodies_one_b.main.body.getD i (.Pass ⟨0, 0, 0, 0⟩)
def Dlaw : Df := ⟨"law", "law", topS 29, ["_law_script"], ["_law_script", "_law_cells_here", "_law_k"], Flaw⟩
def D_law_right : Df := ⟨"_law_right", "_law_right", topS 28, ["_law_urn"], ["_law_urn", "_law_turn", "_law_size_so", "_law_mine", "_law_its", "_law_many", "_law_cut", "_law_word_so", "_law_whole_so", "_law_cut_so", "_law_lap", "_law_spot", "_law_got", "_law_more", "_law_own"], F_law_right⟩
def D_law_box : Df := ⟨"_law_box", "_law_box", topS 19, ["_law_script", "_law_k"], ["_law_script", "_law_k", "_law_cell"], F_law_box⟩
def D_law_cells : Df := ⟨"_law_cells", "_law_cells", topS 21, ["_law_script", "_law_top"], ["_law_script", "_law_top", "_law_cells_here", "_law_k", "_law_cell", "_law_at_so"], F_law_cells⟩
def D_law_same : Df := ⟨"_law_same", "_law_same", topS 23, ["_law_got", "_law_goal"], ["_law_got", "_law_goal", "_law_mine_so", "_law_own"], F_law_same⟩
def D_law_told : Df := ⟨"_law_told", "_law_told", topS 26, ["_law_big_so"], ["_law_big_so"], F_law_told⟩
def Dcan_be_end : Df := ⟨"can_be_end", "can_be_end", topS 11, ["big", "place"], ["big", "place", "word", "left", "right"], Fcan_be_end⟩
def Dis_always_done : Df := ⟨"is_always_done", "is_always_done", topS 10, ["big", "place"], ["big", "place", "word", "left", "right", "many", "part"], Fis_always_done⟩
def Dfewest_to_do : Df := ⟨"fewest_to_do", "fewest_to_do", topS 9, ["big", "place"], ["big", "place", "found", "word", "left", "right", "many", "part"], Ffewest_to_do⟩
def Dact_at : Df := ⟨"act_at", "act_at", topS 6, ["big", "place"], ["big", "place", "rest", "many", "part", "size"], Fact_at⟩
def D_law_take : Df := ⟨"_law_take", "_law_take", topS 20, ["_law_urn", "_law_low_so"], ["_law_urn", "_law_low_so", "_law_drawn", "_law_once", "_law_far", "_law_twice"], F_law_take⟩
def Dhow_many_acts : Df := ⟨"how_many_acts", "how_many_acts", topS 4, ["big"], ["big", "many", "part"], Fhow_many_acts⟩
def D_law_of : Df := ⟨"_law_of", "_law_of", topS 22, ["_law_urn", "_law_some_so"], ["_law_urn", "_law_some_so"], F_law_of⟩
def D_law_two_right : Df := ⟨"_law_two_right", "_law_two_right", topS 27, ["_law_urn", "_law_mine", "_law_its"], ["_law_urn", "_law_mine", "_law_its", "_law_near", "_law_far", "_law_one_so", "_law_two_so", "_law_word_so", "_law_both", "_law_least", "_law_got", "_law_goal"], F_law_two_right⟩
def D_law_big : Df := ⟨"_law_big", "_law_big", topS 24, ["_law_urn", "_law_many", "_law_most_so"], ["_law_urn", "_law_many", "_law_most_so", "_law_word_so", "_law_own"], F_law_big⟩
def D_law_by_hand_right : Df := ⟨"_law_by_hand_right", "_law_by_hand_right", topS 25, [], ["_law_far", "_law_mine", "_law_got"], F_law_by_hand_right⟩
def Dshortest_run : Df := ⟨"shortest_run", "shortest_run", topS 17, ["big"], ["big"], Fshortest_run⟩
def Dlongest_run : Df := ⟨"longest_run", "longest_run", topS 16, ["big"], ["big"], Flongest_run⟩
def Dfewest_failing : Df := ⟨"fewest_failing", "fewest_failing", topS 8, ["big"], ["big", "many", "part"], Ffewest_failing⟩
def Dway_to : Df := ⟨"way_to", "way_to", topS 7, ["big", "place"], ["big", "place", "found", "rest", "left", "parts", "number", "many", "part", "size"], Fway_to⟩
def Dcheck : Df := ⟨"check", "check", topS 5, ["big", "place"], ["big", "place"], Fcheck⟩
def Dparts_of : Df := ⟨"parts_of", "parts_of", topS 3, ["big"], ["big", "part"], Fparts_of⟩
def Dlengths_of : Df := ⟨"lengths_of", "lengths_of", topS 15, ["big", "is_most"], ["big", "is_most", "found", "many", "part"], Flengths_of⟩
def Djoined_lengths : Df := ⟨"joined_lengths", "joined_lengths", topS 13, ["word", "lengths", "is_most"], ["word", "lengths", "is_most", "well", "fail", "here_well", "here_fail", "late"], Fjoined_lengths⟩
def Dmany_lengths : Df := ⟨"many_lengths", "many_lengths", topS 14, ["word", "many", "own", "is_most"], ["word", "many", "own", "is_most", "well", "fail"], Fmany_lengths⟩
def Dpicked : Df := ⟨"picked", "picked", topS 12, ["one", "other", "is_most"], ["one", "other", "is_most"], Fpicked⟩
def ds : List Df := [Dlaw, D_law_right, D_law_box, D_law_cells, D_law_same, D_law_told, Dcan_be_end, Dis_always_done, Dfewest_to_do, Dact_at, D_law_take, Dhow_many_acts, D_law_of, D_law_two_right, D_law_big, D_law_by_hand_right, Dshortest_run, Dlongest_run, Dfewest_failing, Dway_to, Dcheck, Dparts_of, Dlengths_of, Djoined_lengths, Dmany_lengths, Dpicked]
def gc : List (Str × PyData) := []
theorem fs_ds : fnsT ds = fs := rfl
theorem ds_ok : ∀ d ∈ ds, d.ok (fnsOf ds 0) gc = true := by
  have : ds.all (fun d => d.ok (fnsOf ds 0) gc) = true := by decide +kernel
  exact fun d hd => List.all_eq_true.mp this d hd
end L

set_option maxHeartbeats 4000000
namespace L
open PySem Z
inductive Wo where | a | t | o
def Wo.s : Wo → Str | .a => "and" | .t => "then" | .o => "or"
inductive Big where
  | act (s : Str) | rep (w : Wo) (n : Int) (b : Big) | two (w : Wo) (b c : Big) | three (w : Wo) (b c d : Big)
def Big.D : Big → PyData
  | .act s => .str s
  | .rep w n b => .tuple [.str w.s, .int n, b.D]
  | .two w b c => .tuple [.str w.s, b.D, c.D]
  | .three w b c d => .tuple [.str w.s, b.D, c.D, d.D]
def Big.dep : Big → Nat
  | .act _ => 0
  | .rep _ _ b => b.dep + 1
  | .two _ b c => max b.dep c.dep + 1
  | .three _ b c d => max (max b.dep c.dep) d.dep + 1
def Big.ok : Big → Prop
  | .act _ => True
  | .rep _ n b => 1 ≤ n ∧ n ≤ 2 ^ 70 ∧ b.ok
  | .two _ b c => b.ok ∧ c.ok
  | .three _ b c d => b.ok ∧ c.ok ∧ d.ok
def cap (d : Nat) : Int := 2 ^ (72 * d)
theorem cap_pos (d : Nat) : 1 ≤ cap d := by
  unfold cap
  have : 1 ≤ 2 ^ (72 * d) := Nat.one_le_two_pow
  exact_mod_cast this
theorem cap_succ (d : Nat) : cap (d + 1) = 4 * 2 ^ 70 * cap d := by
  unfold cap
  rw [show 72 * (d + 1) = 72 + 72 * d by omega, Int.pow_add]
  rfl
theorem cap_mono {a b : Nat} (h : a ≤ b) : cap a ≤ cap b := by
  unfold cap
  exact_mod_cast Nat.pow_le_pow_right (by decide) (Nat.mul_le_mul_left 72 h)
theorem log_of {x : Int} {d : Nat} (h0 : 0 ≤ x) (h : x ≤ cap d) : x.natAbs.log2 ≤ 72 * d := by
  have h2 : x.natAbs ≤ 2 ^ (72 * d) := by
    have : (x.natAbs : Int) ≤ ((2 ^ (72 * d) : Nat) : Int) := by
      rw [Int.natAbs_of_nonneg h0]
      push_cast
      exact h
    exact_mod_cast this
  by_cases hx : x.natAbs = 0
  · rw [hx]; simp
  · have := (Nat.log2_lt hx).mpr (Nat.lt_of_le_of_lt h2 (Nat.pow_lt_pow_right (by decide) (Nat.lt_succ_self _)))
    omega
/-- parts -/
def parts : Big → List (Int × Big)
  | .act _ => []
  | .rep _ n b => [(n, b)]
  | .two _ b c => [(1, b), (1, c)]
  | .three _ b c d => [(1, b), (1, c), (1, d)]
def pD (p : Int × Big) : PyData := .tuple [.int p.1, p.2.D]
theorem c21r (k : Nat) (w : Wo) (n : Int) (b : Big) (S : List OS) : callP fs (k+1) 21 [.v (Big.rep w n b).D] S = .ok (.v (.list [.tuple [.int n, b.D]])) ⟨[], S⟩ := by kernel_rfl
theorem c21t (k : Nat) (w : Wo) (b c : Big) (S : List OS) : callP fs (k+1) 21 [.v (Big.two w b c).D] S = .ok (.v (.list [.tuple [.int 1, b.D], .tuple [.int 1, c.D]])) ⟨[], S⟩ := by cases b <;> kernel_rfl
theorem c21h (k : Nat) (w : Wo) (b c d : Big) (S : List OS) : callP fs (k+1) 21 [.v (Big.three w b c d).D] S = .ok (.v (.list [.tuple [.int 1, b.D], .tuple [.int 1, c.D], .tuple [.int 1, d.D]])) ⟨[], S⟩ := by kernel_rfl
end L

set_option maxHeartbeats 8000000
namespace L
open PySem Z
theorem ne1 : (("and" : Str) = "or") = False := by simp; decide +kernel
theorem ne2 : (("then" : Str) = "or") = False := by simp; decide +kernel
theorem ne3 : (("and" : Str) = "then") = False := by simp; decide +kernel
theorem ne4 : (("or" : Str) = "then") = False := by simp; decide +kernel
theorem ne5 : (("or" : Str) = "and") = False := by simp; decide +kernel
theorem ne6 : (("then" : Str) = "and") = False := by simp; decide +kernel

/-! acts -/
def acts : Big → Int
  | .act _ => 1
  | .rep _ n b => n * acts b
  | .two _ b c => acts b + acts c
  | .three _ b c d => acts b + acts c + acts d
theorem mul_cap {n x : Int} {d : Nat} (h1 : 1 ≤ n) (h2 : n ≤ 2 ^ 70) (h3 : 1 ≤ x) (h4 : x ≤ cap d) : 1 ≤ n * x ∧ n * x ≤ 2 ^ 70 * cap d :=
  ⟨by have := Int.mul_le_mul h1 h3 (by decide) (by omega); omega, Int.mul_le_mul h2 h4 (by omega) (by decide)⟩
theorem acts_cap : ∀ b : Big, b.ok → 1 ≤ acts b ∧ acts b ≤ cap b.dep
  | .act _, _ => ⟨Int.le_refl 1, cap_pos 0⟩
  | .rep w n b, h => by
    obtain ⟨h1, h2, h3⟩ := h
    obtain ⟨i1, i2⟩ := acts_cap b h3
    obtain ⟨m1, m2⟩ := mul_cap h1 h2 i1 i2
    refine ⟨m1, Int.le_trans m2 ?_⟩
    show _ ≤ cap (b.dep + 1)
    rw [cap_succ]
    have := cap_pos b.dep
    omega
  | .two w b c, h => by
    obtain ⟨i1, i2⟩ := acts_cap b h.1
    obtain ⟨j1, j2⟩ := acts_cap c h.2
    have := cap_mono (Nat.le_max_left b.dep c.dep)
    have := cap_mono (Nat.le_max_right b.dep c.dep)
    show 1 ≤ acts b + acts c ∧ acts b + acts c ≤ cap (max b.dep c.dep + 1)
    rw [cap_succ]
    omega
  | .three w b c d, h => by
    obtain ⟨i1, i2⟩ := acts_cap b h.1
    obtain ⟨j1, j2⟩ := acts_cap c h.2.1
    obtain ⟨k1, k2⟩ := acts_cap d h.2.2
    have := cap_mono (Nat.le_max_left (max b.dep c.dep) d.dep)
    have := cap_mono (Nat.le_max_right (max b.dep c.dep) d.dep)
    have := cap_mono (Nat.le_max_left b.dep c.dep)
    have := cap_mono (Nat.le_max_right b.dep c.dep)
    show 1 ≤ acts b + acts c + acts d ∧ acts b + acts c + acts d ≤ cap (max (max b.dep c.dep) d.dep + 1)
    rw [cap_succ]
    omega
/-- factors that are not too wide -/
theorem mul_ok {x y : Int} {d e : Nat} (h1 : 0 ≤ x) (h2 : x ≤ cap d) (h3 : 0 ≤ y) (h4 : y ≤ cap e) (hd : d + e ≤ 1000) : mulFit x y = true := by
  refine decide_eq_true ?_
  have := log_of h1 h2
  have := log_of h3 h4
  omega
theorem n_cap {n : Int} (h : n ≤ 2 ^ 70) : n ≤ cap 1 := Int.le_trans h (by decide)
theorem c11 : ∀ (b : Big) (k : Nat) (S : List OS), b.ok → b.dep + 2 ≤ k → b.dep ≤ 20 → callP fs k 11 [.v b.D] S = .ok (.v (.int (acts b))) ⟨[], S⟩
  | .act s, k + 1, S, _, _, _ => by kernel_rfl
  | .rep w n b, k + 1, S, h, hk, hd => by
    have hk : b.dep + 1 + 2 ≤ k + 1 := hk
    have hd : b.dep + 1 ≤ 20 := hd
    obtain ⟨h1, h2, h3⟩ := h
    obtain ⟨i1, i2⟩ := acts_cap b h3
    have hm := mul_ok (by omega) (n_cap h2) (by omega) i2 (by omega)
    obtain ⟨k, rfl⟩ : ∃ j, k = j + 1 := ⟨k - 1, by omega⟩
    have e1 := c21r k w n b S
    have e2 := c11 b (k + 1) S h3 (by omega) (by omega)
    show runFn (callP fs (k + 1)) Fhow_many_acts [.v (Big.rep w n b).D] S = _
    generalize callP fs (k + 1) = C at e1 e2
    simp only [Big.D] at e1 e2 ⊢
    simp [runFn, exs, ex, ev, evAnd, evOr, evs, evO, evL, evIf, evI, asg, asgs, setL, R.b, R.t, R.ne, RT.s, ofO, peek, peekT, peeks, isiD, tyOf, tyLe, truW, truD, turns, wipe, args, binD, cmpD, eqD, bltD, intsOf, boolsOf, asInt, asBool, mk, allV, outW, itemsD, itemsW, itemsL, ixW, atI, ixN, slW, cut, sIx, freeze, mthW, mtyW, setIxW, forR, enmD, zipD, zipP, rgI, small, szL, isNW, maxI, minI, ne1, ne2, ne3, ne4, ne5, ne6, Fhow_many_acts, acts, e1, e2, hm]
  | .two w b c, k + 1, S, h, hk, hd => by
    have hk : max b.dep c.dep + 1 + 2 ≤ k + 1 := hk
    have hd : max b.dep c.dep + 1 ≤ 20 := hd
    obtain ⟨h1, h2⟩ := h
    obtain ⟨i1, i2⟩ := acts_cap b h1
    obtain ⟨j1, j2⟩ := acts_cap c h2
    have hm := mul_ok (x := 1) (by omega) (n_cap (by decide)) (by omega) i2 (by omega)
    have hm2 := mul_ok (x := 1) (by omega) (n_cap (by decide)) (by omega) j2 (by omega)
    obtain ⟨k, rfl⟩ : ∃ j, k = j + 1 := ⟨k - 1, by omega⟩
    have e1 := c21t k w b c S
    have e2 := c11 b (k + 1) S h1 (by omega) (by omega)
    have e3 := c11 c (k + 1) S h2 (by omega) (by omega)
    show runFn (callP fs (k + 1)) Fhow_many_acts [.v (Big.two w b c).D] S = _
    generalize callP fs (k + 1) = C at e1 e2 e3
    simp only [Big.D] at e1 e2 e3 ⊢
    simp [runFn, exs, ex, ev, evAnd, evOr, evs, evO, evL, evIf, evI, asg, asgs, setL, R.b, R.t, R.ne, RT.s, ofO, peek, peekT, peeks, isiD, tyOf, tyLe, truW, truD, turns, wipe, args, binD, cmpD, eqD, bltD, intsOf, boolsOf, asInt, asBool, mk, allV, outW, itemsD, itemsW, itemsL, ixW, atI, ixN, slW, cut, sIx, freeze, mthW, mtyW, setIxW, forR, enmD, zipD, zipP, rgI, small, szL, isNW, maxI, minI, ne1, ne2, ne3, ne4, ne5, ne6, Fhow_many_acts, acts, e1, e2, e3, hm, hm2]
  | .three w b c d, k + 1, S, h, hk, hd => by
    have hk : max (max b.dep c.dep) d.dep + 1 + 2 ≤ k + 1 := hk
    have hd : max (max b.dep c.dep) d.dep + 1 ≤ 20 := hd
    obtain ⟨h1, h2, h3⟩ := h
    obtain ⟨i1, i2⟩ := acts_cap b h1
    obtain ⟨j1, j2⟩ := acts_cap c h2
    obtain ⟨l1, l2⟩ := acts_cap d h3
    have hm := mul_ok (x := 1) (by omega) (n_cap (by decide)) (by omega) i2 (by omega)
    have hm2 := mul_ok (x := 1) (by omega) (n_cap (by decide)) (by omega) j2 (by omega)
    have hm3 := mul_ok (x := 1) (by omega) (n_cap (by decide)) (by omega) l2 (by omega)
    obtain ⟨k, rfl⟩ : ∃ j, k = j + 1 := ⟨k - 1, by omega⟩
    have e1 := c21h k w b c d S
    have e2 := c11 b (k + 1) S h1 (by omega) (by omega)
    have e3 := c11 c (k + 1) S h2 (by omega) (by omega)
    have e4 := c11 d (k + 1) S h3 (by omega) (by omega)
    show runFn (callP fs (k + 1)) Fhow_many_acts [.v (Big.three w b c d).D] S = _
    generalize callP fs (k + 1) = C at e1 e2 e3 e4
    simp only [Big.D] at e1 e2 e3 e4 ⊢
    simp [runFn, exs, ex, ev, evAnd, evOr, evs, evO, evL, evIf, evI, asg, asgs, setL, R.b, R.t, R.ne, RT.s, ofO, peek, peekT, peeks, isiD, tyOf, tyLe, truW, truD, turns, wipe, args, binD, cmpD, eqD, bltD, intsOf, boolsOf, asInt, asBool, mk, allV, outW, itemsD, itemsW, itemsL, ixW, atI, ixN, slW, cut, sIx, freeze, mthW, mtyW, setIxW, forR, enmD, zipD, zipP, rgI, small, szL, isNW, maxI, minI, ne1, ne2, ne3, ne4, ne5, ne6, Fhow_many_acts, acts, e1, e2, e3, e4, hm, hm2, hm3, Int.add_assoc]
end L

set_option maxHeartbeats 8000000
namespace L
open PySem Z
/-! fewest_failing -/
def ff : Big → Int
  | .act _ => 1
  | .rep .o n b => n * ff b
  | .rep _ _ b => ff b
  | .two .o b c => ff b + ff c
  | .two _ b c => min (ff b) (ff c)
  | .three .o b c d => ff b + ff c + ff d
  | .three _ b c d => min (min (ff b) (ff c)) (ff d)
theorem ff_cap : ∀ b : Big, b.ok → 1 ≤ ff b ∧ ff b ≤ cap b.dep
  | .act _, _ => ⟨Int.le_refl 1, cap_pos 0⟩
  | .rep w n b, h => by
    obtain ⟨h1, h2, h3⟩ := h
    obtain ⟨i1, i2⟩ := ff_cap b h3
    obtain ⟨m1, m2⟩ := mul_cap h1 h2 i1 i2
    have := cap_pos b.dep
    have e := cap_succ b.dep
    show 1 ≤ ff (.rep w n b) ∧ ff (.rep w n b) ≤ cap (b.dep + 1)
    rw [e]
    cases w <;> simp only [ff] <;> omega
  | .two w b c, h => by
    obtain ⟨i1, i2⟩ := ff_cap b h.1
    obtain ⟨j1, j2⟩ := ff_cap c h.2
    have := cap_mono (Nat.le_max_left b.dep c.dep)
    have := cap_mono (Nat.le_max_right b.dep c.dep)
    show 1 ≤ ff (.two w b c) ∧ ff (.two w b c) ≤ cap (max b.dep c.dep + 1)
    rw [cap_succ]
    cases w <;> simp only [ff] <;> omega
  | .three w b c d, h => by
    obtain ⟨i1, i2⟩ := ff_cap b h.1
    obtain ⟨j1, j2⟩ := ff_cap c h.2.1
    obtain ⟨k1, k2⟩ := ff_cap d h.2.2
    have := cap_mono (Nat.le_max_left (max b.dep c.dep) d.dep)
    have := cap_mono (Nat.le_max_right (max b.dep c.dep) d.dep)
    have := cap_mono (Nat.le_max_left b.dep c.dep)
    have := cap_mono (Nat.le_max_right b.dep c.dep)
    show 1 ≤ ff (.three w b c d) ∧ ff (.three w b c d) ≤ cap (max (max b.dep c.dep) d.dep + 1)
    rw [cap_succ]
    cases w <;> simp only [ff] <;> omega
theorem c18 : ∀ (b : Big) (k : Nat) (S : List OS), b.ok → b.dep + 2 ≤ k → b.dep ≤ 20 → callP fs k 18 [.v b.D] S = .ok (.v (.int (ff b))) ⟨[], S⟩
  | .act s, k + 1, S, _, _, _ => by kernel_rfl
  | .rep w n b, k + 1, S, h, hk, hd => by
    have hk : b.dep + 1 + 2 ≤ k + 1 := hk
    have hd : b.dep + 1 ≤ 20 := hd
    obtain ⟨h1, h2, h3⟩ := h
    obtain ⟨i1, i2⟩ := ff_cap b h3
    have hm := mul_ok (by omega) (n_cap h2) (by omega) i2 (by omega)
    obtain ⟨k, rfl⟩ : ∃ j, k = j + 1 := ⟨k - 1, by omega⟩
    have e1 := c21r k w n b S
    have e2 := c18 b (k + 1) S h3 (by omega) (by omega)
    show runFn (callP fs (k + 1)) Ffewest_failing [.v (Big.rep w n b).D] S = _
    generalize callP fs (k + 1) = C at e1 e2
    cases w <;> simp only [Big.D, Wo.s] at e1 e2 ⊢ <;> simp [runFn, exs, ex, ev, evAnd, evOr, evs, evO, evL, evIf, evI, asg, asgs, setL, R.b, R.t, R.ne, RT.s, ofO, peek, peekT, peeks, isiD, tyOf, tyLe, truW, truD, turns, wipe, args, binD, cmpD, eqD, bltD, intsOf, boolsOf, asInt, asBool, mk, allV, outW, itemsD, itemsW, itemsL, ixW, atI, ixN, slW, cut, sIx, freeze, mthW, mtyW, setIxW, forR, enmD, zipD, zipP, rgI, small, szL, isNW, maxI, minI, ne1, ne2, ne3, ne4, ne5, ne6, Ffewest_failing, ff, e1, e2, hm]
  | .two w b c, k + 1, S, h, hk, hd => by
    have hk : max b.dep c.dep + 1 + 2 ≤ k + 1 := hk
    have hd : max b.dep c.dep + 1 ≤ 20 := hd
    obtain ⟨h1, h2⟩ := h
    obtain ⟨i1, i2⟩ := ff_cap b h1
    obtain ⟨j1, j2⟩ := ff_cap c h2
    have hm := mul_ok (x := 1) (by omega) (n_cap (by decide)) (by omega) i2 (by omega)
    have hm2 := mul_ok (x := 1) (by omega) (n_cap (by decide)) (by omega) j2 (by omega)
    obtain ⟨k, rfl⟩ : ∃ j, k = j + 1 := ⟨k - 1, by omega⟩
    have e1 := c21t k w b c S
    have e2 := c18 b (k + 1) S h1 (by omega) (by omega)
    have e3 := c18 c (k + 1) S h2 (by omega) (by omega)
    show runFn (callP fs (k + 1)) Ffewest_failing [.v (Big.two w b c).D] S = _
    generalize callP fs (k + 1) = C at e1 e2 e3
    cases w <;> simp only [Big.D, Wo.s] at e1 e2 e3 ⊢ <;> simp [runFn, exs, ex, ev, evAnd, evOr, evs, evO, evL, evIf, evI, asg, asgs, setL, R.b, R.t, R.ne, RT.s, ofO, peek, peekT, peeks, isiD, tyOf, tyLe, truW, truD, turns, wipe, args, binD, cmpD, eqD, bltD, intsOf, boolsOf, asInt, asBool, mk, allV, outW, itemsD, itemsW, itemsL, ixW, atI, ixN, slW, cut, sIx, freeze, mthW, mtyW, setIxW, forR, enmD, zipD, zipP, rgI, small, szL, isNW, maxI, minI, ne1, ne2, ne3, ne4, ne5, ne6, Ffewest_failing, ff, e1, e2, e3, hm, hm2]
  | .three w b c d, k + 1, S, h, hk, hd => by
    have hk : max (max b.dep c.dep) d.dep + 1 + 2 ≤ k + 1 := hk
    have hd : max (max b.dep c.dep) d.dep + 1 ≤ 20 := hd
    obtain ⟨h1, h2, h3⟩ := h
    obtain ⟨i1, i2⟩ := ff_cap b h1
    obtain ⟨j1, j2⟩ := ff_cap c h2
    obtain ⟨l1, l2⟩ := ff_cap d h3
    have hm := mul_ok (x := 1) (by omega) (n_cap (by decide)) (by omega) i2 (by omega)
    have hm2 := mul_ok (x := 1) (by omega) (n_cap (by decide)) (by omega) j2 (by omega)
    have hm3 := mul_ok (x := 1) (by omega) (n_cap (by decide)) (by omega) l2 (by omega)
    obtain ⟨k, rfl⟩ : ∃ j, k = j + 1 := ⟨k - 1, by omega⟩
    have e1 := c21h k w b c d S
    have e2 := c18 b (k + 1) S h1 (by omega) (by omega)
    have e3 := c18 c (k + 1) S h2 (by omega) (by omega)
    have e4 := c18 d (k + 1) S h3 (by omega) (by omega)
    show runFn (callP fs (k + 1)) Ffewest_failing [.v (Big.three w b c d).D] S = _
    generalize callP fs (k + 1) = C at e1 e2 e3 e4
    cases w <;> simp only [Big.D, Wo.s] at e1 e2 e3 e4 ⊢ <;> simp [runFn, exs, ex, ev, evAnd, evOr, evs, evO, evL, evIf, evI, asg, asgs, setL, R.b, R.t, R.ne, RT.s, ofO, peek, peekT, peeks, isiD, tyOf, tyLe, truW, truD, turns, wipe, args, binD, cmpD, eqD, bltD, intsOf, boolsOf, asInt, asBool, mk, allV, outW, itemsD, itemsW, itemsL, ixW, atI, ixN, slW, cut, sIx, freeze, mthW, mtyW, setIxW, forR, enmD, zipD, zipP, rgI, small, szL, isNW, maxI, minI, ne1, ne2, ne3, ne4, ne5, ne6, Ffewest_failing, ff, e1, e2, e3, e4, hm, hm2, hm3, Int.add_assoc]

/-! lengths_of -/
def pk (m : Bool) (x y : Int) : Int := if m = true then (if x < y then y else x) else (if y < x then y else x)
def manyL (w : Wo) (n : Int) (p : Int × Int) (m : Bool) : Int × Int := match w with
  | .a => (n * p.1, pk m p.2 ((n - 1) * p.1 + p.2))
  | .o => (pk m p.1 ((n - 1) * p.2 + p.1), n * p.2)
  | .t => (n * p.1, p.2 + (n - 1) * pk m p.1 p.2)
def joinL (w : Wo) (p q : Int × Int) (m : Bool) : Int × Int := match w with
  | .a => (p.1 + q.1, pk m p.2 (p.1 + q.2))
  | .o => (pk m p.1 (p.2 + q.1), p.2 + q.2)
  | .t => (p.1 + q.1, pk m (p.2 + pk m q.1 q.2) (p.1 + q.2))
def lens (m : Bool) : Big → Int × Int
  | .act _ => (1, 1)
  | .rep w n b => manyL w n (lens m b) m
  | .two w b c => joinL w (manyL w 1 (lens m b) m) (manyL w 1 (lens m c) m) m
  | .three w b c d => joinL w (joinL w (manyL w 1 (lens m b) m) (manyL w 1 (lens m c) m) m) (manyL w 1 (lens m d) m) m
def In (p : Int × Int) (A : Int) : Prop := 1 ≤ p.1 ∧ p.1 ≤ A ∧ 1 ≤ p.2 ∧ p.2 ≤ A
theorem pk_or (m : Bool) (x y : Int) : pk m x y = x ∨ pk m x y = y := by
  unfold pk
  cases m <;> simp only [Bool.false_eq_true, if_false, if_true] <;> split <;> first | exact .inl rfl | exact .inr rfl
theorem n1_cap {n x A : Int} (h1 : 1 ≤ n) (h2 : n ≤ 2 ^ 70) (h3 : 1 ≤ x) (h4 : x ≤ A) : 0 ≤ (n - 1) * x ∧ (n - 1) * x + A ≤ 2 ^ 70 * A := by
  refine ⟨Int.mul_nonneg (by omega) (by omega), ?_⟩
  have : (n - 1) * x ≤ (2 ^ 70 - 1) * A := Int.mul_le_mul (by omega) h4 (by omega) (by decide)
  omega
theorem many_in {w : Wo} {n A : Int} {p : Int × Int} {m : Bool} (h1 : 1 ≤ n) (h2 : n ≤ 2 ^ 70) (h : In p A) : In (manyL w n p m) (2 ^ 70 * A) := by
  obtain ⟨a1, a2, b1, b2⟩ := h
  have q1 : 1 ≤ n * p.1 ∧ n * p.1 ≤ 2 ^ 70 * A := ⟨by have := Int.mul_le_mul h1 a1 (by decide) (by omega); omega, Int.mul_le_mul h2 a2 (by omega) (by decide)⟩
  have q2 : 1 ≤ n * p.2 ∧ n * p.2 ≤ 2 ^ 70 * A := ⟨by have := Int.mul_le_mul h1 b1 (by decide) (by omega); omega, Int.mul_le_mul h2 b2 (by omega) (by decide)⟩
  have q3 := n1_cap h1 h2 a1 a2
  have q4 := n1_cap h1 h2 b1 b2
  have kp := pk_or m p.1 p.2
  have q5 : 0 ≤ (n - 1) * pk m p.1 p.2 ∧ (n - 1) * pk m p.1 p.2 + A ≤ 2 ^ 70 * A := by rcases kp with e | e <;> rw [e] <;> assumption
  cases w
  · have := pk_or m p.2 ((n - 1) * p.1 + p.2)
    refine ⟨q1.1, q1.2, ?_, ?_⟩ <;> show _ ≤ _ <;> simp only [manyL] <;> rcases this with e | e <;> rw [e] <;> omega
  · refine ⟨q1.1, q1.2, ?_, ?_⟩ <;> simp only [manyL] <;> omega
  · have := pk_or m p.1 ((n - 1) * p.2 + p.1)
    refine ⟨?_, ?_, q2.1, q2.2⟩ <;> simp only [manyL] <;> rcases this with e | e <;> rw [e] <;> omega
theorem join_in {w : Wo} {A B : Int} {p q : Int × Int} {m : Bool} (h : In p A) (k : In q B) : In (joinL w p q m) (A + B) := by
  obtain ⟨a1, a2, b1, b2⟩ := h
  obtain ⟨c1, c2, d1, d2⟩ := k
  cases w
  · have := pk_or m p.2 (p.1 + q.2)
    refine ⟨?_, ?_, ?_, ?_⟩ <;> simp only [joinL] <;> first | omega | (rcases this with e | e <;> rw [e] <;> omega)
  · have kp := pk_or m q.1 q.2
    have := pk_or m (p.2 + pk m q.1 q.2) (p.1 + q.2)
    refine ⟨?_, ?_, ?_, ?_⟩ <;> simp only [joinL] <;> first | omega | (rcases this with e | e <;> rw [e] <;> rcases kp with e2 | e2 <;> omega)
  · have := pk_or m p.1 (p.2 + q.1)
    refine ⟨?_, ?_, ?_, ?_⟩ <;> simp only [joinL] <;> first | omega | (rcases this with e | e <;> rw [e] <;> omega)
theorem In.le {p : Int × Int} {A B : Int} (h : In p A) (k : A ≤ B) : In p B := ⟨h.1, Int.le_trans h.2.1 k, h.2.2.1, Int.le_trans h.2.2.2 k⟩
theorem lens_cap (m : Bool) : ∀ b : Big, b.ok → In (lens m b) (cap b.dep)
  | .act _, _ => ⟨Int.le_refl 1, cap_pos 0, Int.le_refl 1, cap_pos 0⟩
  | .rep w n b, h => by
    have := cap_pos b.dep
    refine (many_in h.1 h.2.1 (lens_cap m b h.2.2)).le ?_
    show _ ≤ cap (b.dep + 1)
    rw [cap_succ]
    omega
  | .two w b c, h => by
    have i := (lens_cap m b h.1).le (cap_mono (Nat.le_max_left b.dep c.dep))
    have j := (lens_cap m c h.2).le (cap_mono (Nat.le_max_right b.dep c.dep))
    refine (join_in (many_in (by decide) (by decide) i) (many_in (by decide) (by decide) j)).le ?_
    have := cap_pos (max b.dep c.dep)
    show _ ≤ cap (max b.dep c.dep + 1)
    rw [cap_succ]
    omega
  | .three w b c d, h => by
    have i := ((lens_cap m b h.1).le (cap_mono (Nat.le_max_left b.dep c.dep))).le (cap_mono (Nat.le_max_left (max b.dep c.dep) d.dep))
    have j := ((lens_cap m c h.2.1).le (cap_mono (Nat.le_max_right b.dep c.dep))).le (cap_mono (Nat.le_max_left (max b.dep c.dep) d.dep))
    have l := (lens_cap m d h.2.2).le (cap_mono (Nat.le_max_right (max b.dep c.dep) d.dep))
    refine (join_in (join_in (many_in (by decide) (by decide) i) (many_in (by decide) (by decide) j)) (many_in (by decide) (by decide) l)).le ?_
    have := cap_pos (max (max b.dep c.dep) d.dep)
    show _ ≤ cap (max (max b.dep c.dep) d.dep + 1)
    rw [cap_succ]
    omega
theorem c25 (k : Nat) (x y : Int) (m : Bool) (S : List OS) : callP fs (k + 1) 25 [.v (.int x), .v (.int y), .v (.bool m)] S = .ok (.v (.int (pk m x y))) ⟨[], S⟩ := by cases m <;> kernel_rfl
def pairD (p : Int × Int) : PyData := .tuple [.int p.1, .int p.2]
theorem c24 (k : Nat) (w : Wo) (n : Int) (p : Int × Int) (m : Bool) (S : List OS) {d : Nat} (h1 : 1 ≤ n) (h2 : n ≤ 2 ^ 70) (h : In p (cap d)) (hd : d ≤ 20) : callP fs (k + 2) 24 [.v (.str w.s), .v (.int n), .v (pairD p), .v (.bool m)] S = .ok (.v (pairD (manyL w n p m))) ⟨[], S⟩ := by
  obtain ⟨a1, a2, b1, b2⟩ := h
  have kp := pk_or m p.1 p.2
  have pc : 0 ≤ pk m p.1 p.2 ∧ pk m p.1 p.2 ≤ cap d := by rcases kp with e | e <;> rw [e] <;> omega
  have hn := n_cap h2
  have hn1 : n - 1 ≤ cap 1 := by omega
  have f1 := mul_ok (x := n) (y := p.1) (by omega) hn (by omega) a2 (by omega)
  have f2 := mul_ok (x := n) (y := p.2) (by omega) hn (by omega) b2 (by omega)
  have f3 := mul_ok (x := n - 1) (y := p.1) (by omega) hn1 (by omega) a2 (by omega)
  have f4 := mul_ok (x := n - 1) (y := p.2) (by omega) hn1 (by omega) b2 (by omega)
  have f5 := mul_ok (x := n - 1) (y := pk m p.1 p.2) (by omega) hn1 pc.1 pc.2 (by omega)
  have e1 := fun x y => c25 k x y m S
  show runFn (callP fs (k + 1)) Fmany_lengths [.v (.str w.s), .v (.int n), .v (pairD p), .v (.bool m)] S = _
  generalize callP fs (k + 1) = C at e1
  cases w <;> simp [runFn, exs, ex, ev, evAnd, evOr, evs, evO, evL, evIf, evI, asg, asgs, setL, R.b, R.t, R.ne, RT.s, ofO, peek, peekT, peeks, isiD, tyOf, tyLe, truW, truD, turns, wipe, args, binD, cmpD, eqD, bltD, intsOf, boolsOf, asInt, asBool, mk, allV, outW, itemsD, itemsW, itemsL, ixW, atI, ixN, slW, cut, sIx, freeze, mthW, mtyW, setIxW, forR, enmD, zipD, zipP, rgI, small, szL, isNW, maxI, minI, ne1, ne2, ne3, ne4, ne5, ne6, Fmany_lengths, Wo.s, pairD, manyL, e1, f1, f2, f3, f4, f5]
theorem c23a (k : Nat) (w : Wo) (p : Int × Int) (m : Bool) (S : List OS) : callP fs (k + 2) 23 [.v (.str w.s), .v (.list [pairD p]), .v (.bool m)] S = .ok (.v (pairD p)) ⟨[], S⟩ := by kernel_rfl
theorem c23b (k : Nat) (w : Wo) (p q : Int × Int) (m : Bool) (S : List OS) : callP fs (k + 2) 23 [.v (.str w.s), .v (.list [pairD p, pairD q]), .v (.bool m)] S = .ok (.v (pairD (joinL w p q m))) ⟨[], S⟩ := by
  cases w <;> cases m <;> kernel_rfl
theorem c23c (k : Nat) (w : Wo) (p q r : Int × Int) (m : Bool) (S : List OS) : callP fs (k + 2) 23 [.v (.str w.s), .v (.list [pairD p, pairD q, pairD r]), .v (.bool m)] S = .ok (.v (pairD (joinL w (joinL w p q m) r m))) ⟨[], S⟩ := by
  cases w <;> cases m <;> kernel_rfl
end L

set_option maxHeartbeats 8000000
namespace L
open PySem Z
theorem c22 : ∀ (b : Big) (m : Bool) (k : Nat) (S : List OS), b.ok → b.dep + 3 ≤ k → b.dep ≤ 20 → callP fs k 22 [.v b.D, .v (.bool m)] S = .ok (.v (pairD (lens m b))) ⟨[], S⟩
  | .act s, m, k + 1, S, _, _, _ => by kernel_rfl
  | .rep w n b, m, k + 1, S, h, hk, hd => by
    have hk : b.dep + 1 + 3 ≤ k + 1 := hk
    have hd : b.dep + 1 ≤ 20 := hd
    obtain ⟨h1, h2, h3⟩ := h
    obtain ⟨k, rfl⟩ : ∃ j, k = j + 2 := ⟨k - 2, by omega⟩
    have e1 := c21r (k + 1) w n b S
    have e2 := c22 b m (k + 2) S h3 (by omega) (by omega)
    have e3 := c24 k w n (lens m b) m S h1 h2 (lens_cap m b h3) (by omega)
    have e4 := c23a k w (manyL w n (lens m b) m) m S
    show runFn (callP fs (k + 2)) Flengths_of [.v (Big.rep w n b).D, .v (.bool m)] S = _
    generalize callP fs (k + 2) = C at e1 e2 e3 e4
    simp only [Big.D] at e1 e2 e3 e4 ⊢
    simp [runFn, exs, ex, ev, evAnd, evOr, evs, evO, evL, evIf, evI, asg, asgs, setL, R.b, R.t, R.ne, RT.s, ofO, peek, peekT, peeks, isiD, tyOf, tyLe, truW, truD, turns, wipe, args, binD, cmpD, eqD, bltD, intsOf, boolsOf, asInt, asBool, mk, allV, outW, itemsD, itemsW, itemsL, ixW, atI, ixN, slW, cut, sIx, freeze, mthW, mtyW, setIxW, forR, enmD, zipD, zipP, rgI, small, szL, isNW, maxI, minI, ne1, ne2, ne3, ne4, ne5, ne6, Flengths_of, lens, e1, e2, e3, e4]
  | .two w b c, m, k + 1, S, h, hk, hd => by
    have hk : max b.dep c.dep + 1 + 3 ≤ k + 1 := hk
    have hd : max b.dep c.dep + 1 ≤ 20 := hd
    obtain ⟨h1, h2⟩ := h
    obtain ⟨k, rfl⟩ : ∃ j, k = j + 2 := ⟨k - 2, by omega⟩
    have e1 := c21t (k + 1) w b c S
    have e2 := c22 b m (k + 2) S h1 (by omega) (by omega)
    have e2' := c22 c m (k + 2) S h2 (by omega) (by omega)
    have e3 := c24 k w 1 (lens m b) m S (by decide) (by decide) (lens_cap m b h1) (by omega)
    have e3' := c24 k w 1 (lens m c) m S (by decide) (by decide) (lens_cap m c h2) (by omega)
    have e4 := c23b k w (manyL w 1 (lens m b) m) (manyL w 1 (lens m c) m) m S
    show runFn (callP fs (k + 2)) Flengths_of [.v (Big.two w b c).D, .v (.bool m)] S = _
    generalize callP fs (k + 2) = C at e1 e2 e2' e3 e3' e4
    simp only [Big.D] at e1 e2 e2' e3 e3' e4 ⊢
    simp [runFn, exs, ex, ev, evAnd, evOr, evs, evO, evL, evIf, evI, asg, asgs, setL, R.b, R.t, R.ne, RT.s, ofO, peek, peekT, peeks, isiD, tyOf, tyLe, truW, truD, turns, wipe, args, binD, cmpD, eqD, bltD, intsOf, boolsOf, asInt, asBool, mk, allV, outW, itemsD, itemsW, itemsL, ixW, atI, ixN, slW, cut, sIx, freeze, mthW, mtyW, setIxW, forR, enmD, zipD, zipP, rgI, small, szL, isNW, maxI, minI, ne1, ne2, ne3, ne4, ne5, ne6, Flengths_of, lens, e1, e2, e2', e3, e3', e4]
  | .three w b c d, m, k + 1, S, h, hk, hd => by
    have hk : max (max b.dep c.dep) d.dep + 1 + 3 ≤ k + 1 := hk
    have hd : max (max b.dep c.dep) d.dep + 1 ≤ 20 := hd
    obtain ⟨h1, h2, h3⟩ := h
    obtain ⟨k, rfl⟩ : ∃ j, k = j + 2 := ⟨k - 2, by omega⟩
    have e1 := c21h (k + 1) w b c d S
    have e2 := c22 b m (k + 2) S h1 (by omega) (by omega)
    have e2' := c22 c m (k + 2) S h2 (by omega) (by omega)
    have e2'' := c22 d m (k + 2) S h3 (by omega) (by omega)
    have e3 := c24 k w 1 (lens m b) m S (by decide) (by decide) (lens_cap m b h1) (by omega)
    have e3' := c24 k w 1 (lens m c) m S (by decide) (by decide) (lens_cap m c h2) (by omega)
    have e3'' := c24 k w 1 (lens m d) m S (by decide) (by decide) (lens_cap m d h3) (by omega)
    have e4 := c23c k w (manyL w 1 (lens m b) m) (manyL w 1 (lens m c) m) (manyL w 1 (lens m d) m) m S
    show runFn (callP fs (k + 2)) Flengths_of [.v (Big.three w b c d).D, .v (.bool m)] S = _
    generalize callP fs (k + 2) = C at e1 e2 e2' e2'' e3 e3' e3'' e4
    simp only [Big.D] at e1 e2 e2' e2'' e3 e3' e3'' e4 ⊢
    simp [runFn, exs, ex, ev, evAnd, evOr, evs, evO, evL, evIf, evI, asg, asgs, setL, R.b, R.t, R.ne, RT.s, ofO, peek, peekT, peeks, isiD, tyOf, tyLe, truW, truD, turns, wipe, args, binD, cmpD, eqD, bltD, intsOf, boolsOf, asInt, asBool, mk, allV, outW, itemsD, itemsW, itemsL, ixW, atI, ixN, slW, cut, sIx, freeze, mthW, mtyW, setIxW, forR, enmD, zipD, zipP, rgI, small, szL, isNW, maxI, minI, ne1, ne2, ne3, ne4, ne5, ne6, Flengths_of, lens, e1, e2, e2', e2'', e3, e3', e3'', e4]
def longest (b : Big) : Int := pk true (lens true b).1 (lens true b).2
def shortest (b : Big) : Int := pk false (lens false b).1 (lens false b).2
theorem c17 (b : Big) (k : Nat) (S : List OS) (h : b.ok) (hk : b.dep + 4 ≤ k) (hd : b.dep ≤ 20) : callP fs k 17 [.v b.D] S = .ok (.v (.int (longest b))) ⟨[], S⟩ := by
  obtain ⟨k, rfl⟩ : ∃ j, k = j + 1 := ⟨k - 1, by omega⟩
  have e := c22 b true k S h (by omega) hd
  show runFn (callP fs k) Flongest_run [.v b.D] S = _
  generalize callP fs k = C at e
  simp [runFn, exs, ex, ev, evAnd, evOr, evs, evO, evL, evIf, evI, asg, asgs, setL, R.b, R.t, R.ne, RT.s, ofO, peek, peekT, peeks, isiD, tyOf, tyLe, truW, truD, turns, wipe, args, binD, cmpD, eqD, bltD, intsOf, boolsOf, asInt, asBool, mk, allV, outW, itemsD, itemsW, itemsL, ixW, atI, ixN, slW, cut, sIx, freeze, mthW, mtyW, setIxW, forR, enmD, zipD, zipP, rgI, small, szL, isNW, maxI, minI, ne1, ne2, ne3, ne4, ne5, ne6, Flongest_run, e, pairD, longest, pk, Int.max_def]
  split <;> split <;> omega
theorem c16 (b : Big) (k : Nat) (S : List OS) (h : b.ok) (hk : b.dep + 4 ≤ k) (hd : b.dep ≤ 20) : callP fs k 16 [.v b.D] S = .ok (.v (.int (shortest b))) ⟨[], S⟩ := by
  obtain ⟨k, rfl⟩ : ∃ j, k = j + 1 := ⟨k - 1, by omega⟩
  have e := c22 b false k S h (by omega) hd
  show runFn (callP fs k) Fshortest_run [.v b.D] S = _
  generalize callP fs k = C at e
  simp [runFn, exs, ex, ev, evAnd, evOr, evs, evO, evL, evIf, evI, asg, asgs, setL, R.b, R.t, R.ne, RT.s, ofO, peek, peekT, peeks, isiD, tyOf, tyLe, truW, truD, turns, wipe, args, binD, cmpD, eqD, bltD, intsOf, boolsOf, asInt, asBool, mk, allV, outW, itemsD, itemsW, itemsL, ixW, atI, ixN, slW, cut, sIx, freeze, mthW, mtyW, setIxW, forR, enmD, zipD, zipP, rgI, small, szL, isNW, maxI, minI, ne1, ne2, ne3, ne4, ne5, ne6, Fshortest_run, e, pairD, shortest, pk, Int.min_def]
  split <;> split <;> omega

/-! what the calls answer -/
structure CE (C : Orc) (S : List OS) (D : Nat) : Prop where
  r : ∀ w n b, C 21 [.v (Big.rep w n b).D] S = .ok (.v (.list [.tuple [.int n, b.D]])) ⟨[], S⟩
  t : ∀ w b c, C 21 [.v (Big.two w b c).D] S = .ok (.v (.list [.tuple [.int 1, b.D], .tuple [.int 1, c.D]])) ⟨[], S⟩
  h : ∀ w b c d, C 21 [.v (Big.three w b c d).D] S = .ok (.v (.list [.tuple [.int 1, b.D], .tuple [.int 1, c.D], .tuple [.int 1, d.D]])) ⟨[], S⟩
  a : ∀ b : Big, b.ok → b.dep ≤ D → C 11 [.v b.D] S = .ok (.v (.int (acts b))) ⟨[], S⟩
  f : ∀ b : Big, b.ok → b.dep ≤ D → C 18 [.v b.D] S = .ok (.v (.int (ff b))) ⟨[], S⟩
theorem ce_of (k D : Nat) (S : List OS) (h : D + 2 ≤ k) (hd : D ≤ 20) : CE (callP fs k) S D := by
  obtain ⟨k, rfl⟩ : ∃ j, k = j + 1 := ⟨k - 1, by omega⟩
  exact ⟨fun w n b => c21r k w n b S, fun w b c => c21t k w b c S, fun w b c d => c21h k w b c d S, fun b h1 h2 => c11 b (k + 1) S h1 (by omega) (by omega), fun b h1 h2 => c18 b (k + 1) S h1 (by omega) (by omega)⟩
theorem c20 (b : Big) (p : Int) (k : Nat) (S : List OS) (h : b.ok) (hk : b.dep + 3 ≤ k) (hd : b.dep ≤ 20) (h0 : 0 ≤ p) (h1 : p < acts b) : callP fs k 20 [.v b.D, .v (.int p)] S = .ok (.v .none) ⟨[], S⟩ := by
  obtain ⟨k, rfl⟩ : ∃ j, k = j + 1 := ⟨k - 1, by omega⟩
  have e := c11 b k S h (by omega) hd
  show runFn (callP fs k) Fcheck [.v b.D, .v (.int p)] S = _
  generalize callP fs k = C at e
  simp [runFn, exs, ex, ev, evAnd, evOr, evs, evO, evL, evIf, evI, asg, asgs, setL, R.b, R.t, R.ne, RT.s, ofO, peek, peekT, peeks, isiD, tyOf, tyLe, truW, truD, turns, wipe, args, binD, cmpD, eqD, bltD, intsOf, boolsOf, asInt, asBool, mk, allV, outW, itemsD, itemsW, itemsL, ixW, atI, ixN, slW, cut, sIx, freeze, mthW, mtyW, setIxW, forR, enmD, zipD, zipP, rgI, small, szL, isNW, maxI, minI, ne1, ne2, ne3, ne4, ne5, ne6, Fcheck, e, h0, h1]

/-! act_at -/
def atB : Big → Int → Str
  | .act s, _ => s
  | .rep _ _ b, p => atB b (p % acts b)
  | .two _ b c, p => if p < acts b then atB b (p % acts b) else atB c ((p - acts b) % acts c)
  | .three _ b c d, p => if p < acts b then atB b (p % acts b) else if p - acts b < acts c then atB c ((p - acts b) % acts c) else atB d ((p - acts b - acts c) % acts d)
def actC : E := match Fact_at.body with | .cons _ (.cons _ (.cons (.while _ c _) _)) => c | _ => .cst .none
def actB : TS := match Fact_at.body with | .cons _ (.cons _ (.cons (.while _ _ b) _)) => b | _ => .nil
theorem mod_in {p a : Int} (h : 1 ≤ a) : 0 ≤ p % a ∧ p % a < a := ⟨Int.emod_nonneg _ (by omega), Int.emod_lt_of_pos _ (by omega)⟩
theorem act_loop {C : Orc} {S : List OS} {D : Nat} (ce : CE C S D) (hD : D ≤ 20) : ∀ (b : Big) (p : Int) (n : Nat) (x1 y3 y4 y5 : Option W), b.ok → b.dep ≤ D → b.dep < n → 0 ≤ p → p < acts b →
    ∃ r x3 x4 x5, whileR (fun ρ m => (ev C actC ρ m).b fun x m => ofO (truW m x) m) (exs C actB) n [some (.v b.D), x1, some (.v (.int p)), y3, y4, y5] ⟨[], S⟩ = .nx [some (.v (.str (atB b p))), x1, some (.v (.int r)), x3, x4, x5] ⟨[], S⟩
  | .act s, p, n + 1, x1, y3, y4, y5, _, _, _, _, _ => ⟨p, y3, y4, y5, by simp [whileR, actC, Fact_at, runFn, exs, ex, ev, evAnd, evOr, evs, evO, evL, evIf, evI, asg, asgs, setL, R.b, R.t, R.ne, RT.s, ofO, peek, peekT, peeks, isiD, tyOf, tyLe, truW, truD, turns, wipe, args, binD, cmpD, eqD, bltD, intsOf, boolsOf, asInt, asBool, mk, allV, outW, itemsD, itemsW, itemsL, ixW, atI, ixN, slW, cut, sIx, freeze, mthW, mtyW, setIxW, forR, enmD, zipD, zipP, rgI, small, szL, isNW, maxI, minI, ne1, ne2, ne3, ne4, ne5, ne6, Big.D, atB]⟩
  | .rep w n b, p, j + 1, x1, y3, y4, y5, h, hd, hn, h0, h1 => by
    have hd : b.dep + 1 ≤ D := hd
    have hn : b.dep + 1 < j + 1 := hn
    obtain ⟨g1, g2, g3⟩ := h
    obtain ⟨i1, i2⟩ := acts_cap b g3
    have hm := mul_ok (by omega) (n_cap g2) (by omega) i2 (by omega)
    have e1 := ce.r w n b
    have e2 := ce.a b g3 (by omega)
    have h1 : p < n * acts b := h1
    have hp : 0 < acts b := by omega
    obtain ⟨m1, m2⟩ := mod_in (p := p) i1
    obtain ⟨r, x3, x4, x5, ih⟩ := act_loop ce hD b (p % acts b) j x1 (some (.v (.int n))) (some (.v b.D)) (some (.v (.int (acts b)))) g3 (by omega) (by omega) m1 m2
    refine ⟨r, x3, x4, x5, ?_⟩
    simp only [Big.D] at e1 e2 ⊢
    rw [whileR]
    have hc : (ev C actC [some (.v (.tuple [.str w.s, .int n, b.D])), x1, some (.v (.int p)), y3, y4, y5] ⟨[], S⟩).b (fun x m => ofO (truW m x) m) = .ok true ⟨[], S⟩ := by simp [actC, Fact_at, runFn, exs, ex, ev, evAnd, evOr, evs, evO, evL, evIf, evI, asg, asgs, setL, R.b, R.t, R.ne, RT.s, ofO, peek, peekT, peeks, isiD, tyOf, tyLe, truW, truD, turns, wipe, args, binD, cmpD, eqD, bltD, intsOf, boolsOf, asInt, asBool, mk, allV, outW, itemsD, itemsW, itemsL, ixW, atI, ixN, slW, cut, sIx, freeze, mthW, mtyW, setIxW, forR, enmD, zipD, zipP, rgI, small, szL, isNW, maxI, minI, ne1, ne2, ne3, ne4, ne5, ne6]
    have hb : exs C actB [some (.v (.tuple [.str w.s, .int n, b.D])), x1, some (.v (.int p)), y3, y4, y5] ⟨[], S⟩ = .nx [some (.v b.D), x1, some (.v (.int (p % acts b))), some (.v (.int n)), some (.v b.D), some (.v (.int (acts b)))] ⟨[], S⟩ := by
      simp [actB, Fact_at, runFn, exs, ex, ev, evAnd, evOr, evs, evO, evL, evIf, evI, asg, asgs, setL, R.b, R.t, R.ne, RT.s, ofO, peek, peekT, peeks, isiD, tyOf, tyLe, truW, truD, turns, wipe, args, binD, cmpD, eqD, bltD, intsOf, boolsOf, asInt, asBool, mk, allV, outW, itemsD, itemsW, itemsL, ixW, atI, ixN, slW, cut, sIx, freeze, mthW, mtyW, setIxW, forR, enmD, zipD, zipP, rgI, small, szL, isNW, maxI, minI, ne1, ne2, ne3, ne4, ne5, ne6, e1, e2, hm, h1, hp]
    rw [hc]
    simp only [R.t, if_true, hb, atB]
    exact ih
  | .two w b c, p, j + 1, x1, y3, y4, y5, h, hd, hn, h0, h1 => by
    have hd : max b.dep c.dep + 1 ≤ D := hd
    have hn : max b.dep c.dep + 1 < j + 1 := hn
    obtain ⟨g1, g2⟩ := h
    obtain ⟨i1, i2⟩ := acts_cap b g1
    obtain ⟨j1, j2⟩ := acts_cap c g2
    have hm := mul_ok (x := 1) (by omega) (n_cap (by decide)) (by omega) i2 (by omega)
    have hm2 := mul_ok (x := 1) (by omega) (n_cap (by decide)) (by omega) j2 (by omega)
    have e1 := ce.t w b c
    have e2 := ce.a b g1 (by omega)
    have e3 := ce.a c g2 (by omega)
    have h1 : p < acts b + acts c := h1
    have hp : 0 < acts b := by omega
    have hp2 : 0 < acts c := by omega
    obtain ⟨m1, m2⟩ := mod_in (p := p) i1
    obtain ⟨m3, m4⟩ := mod_in (p := p - acts b) j1
    simp only [Big.D] at e1 e2 e3 ⊢
    have hc : (ev C actC [some (.v (.tuple [.str w.s, b.D, c.D])), x1, some (.v (.int p)), y3, y4, y5] ⟨[], S⟩).b (fun x m => ofO (truW m x) m) = .ok true ⟨[], S⟩ := by simp [actC, Fact_at, runFn, exs, ex, ev, evAnd, evOr, evs, evO, evL, evIf, evI, asg, asgs, setL, R.b, R.t, R.ne, RT.s, ofO, peek, peekT, peeks, isiD, tyOf, tyLe, truW, truD, turns, wipe, args, binD, cmpD, eqD, bltD, intsOf, boolsOf, asInt, asBool, mk, allV, outW, itemsD, itemsW, itemsL, ixW, atI, ixN, slW, cut, sIx, freeze, mthW, mtyW, setIxW, forR, enmD, zipD, zipP, rgI, small, szL, isNW, maxI, minI, ne1, ne2, ne3, ne4, ne5, ne6]
    by_cases hlt : p < acts b
    · obtain ⟨r, x3, x4, x5, ih⟩ := act_loop ce hD b (p % acts b) j x1 (some (.v (.int 1))) (some (.v b.D)) (some (.v (.int (acts b)))) g1 (by omega) (by omega) m1 m2
      refine ⟨r, x3, x4, x5, ?_⟩
      rw [whileR]
      have hb : exs C actB [some (.v (.tuple [.str w.s, b.D, c.D])), x1, some (.v (.int p)), y3, y4, y5] ⟨[], S⟩ = .nx [some (.v b.D), x1, some (.v (.int (p % acts b))), some (.v (.int 1)), some (.v b.D), some (.v (.int (acts b)))] ⟨[], S⟩ := by
        simp [actB, Fact_at, runFn, exs, ex, ev, evAnd, evOr, evs, evO, evL, evIf, evI, asg, asgs, setL, R.b, R.t, R.ne, RT.s, ofO, peek, peekT, peeks, isiD, tyOf, tyLe, truW, truD, turns, wipe, args, binD, cmpD, eqD, bltD, intsOf, boolsOf, asInt, asBool, mk, allV, outW, itemsD, itemsW, itemsL, ixW, atI, ixN, slW, cut, sIx, freeze, mthW, mtyW, setIxW, forR, enmD, zipD, zipP, rgI, small, szL, isNW, maxI, minI, ne1, ne2, ne3, ne4, ne5, ne6, e1, e2, e3, hm, hm2, hlt, hp]
      rw [hc]
      simp only [R.t, if_true, hb, atB, hlt]
      exact ih
    · obtain ⟨r, x3, x4, x5, ih⟩ := act_loop ce hD c ((p - acts b) % acts c) j x1 (some (.v (.int 1))) (some (.v c.D)) (some (.v (.int (acts c)))) g2 (by omega) (by omega) m3 m4
      refine ⟨r, x3, x4, x5, ?_⟩
      rw [whileR]
      have h2 : p - acts b < acts c := by omega
      have hb : exs C actB [some (.v (.tuple [.str w.s, b.D, c.D])), x1, some (.v (.int p)), y3, y4, y5] ⟨[], S⟩ = .nx [some (.v c.D), x1, some (.v (.int ((p - acts b) % acts c))), some (.v (.int 1)), some (.v c.D), some (.v (.int (acts c)))] ⟨[], S⟩ := by
        simp [actB, Fact_at, runFn, exs, ex, ev, evAnd, evOr, evs, evO, evL, evIf, evI, asg, asgs, setL, R.b, R.t, R.ne, RT.s, ofO, peek, peekT, peeks, isiD, tyOf, tyLe, truW, truD, turns, wipe, args, binD, cmpD, eqD, bltD, intsOf, boolsOf, asInt, asBool, mk, allV, outW, itemsD, itemsW, itemsL, ixW, atI, ixN, slW, cut, sIx, freeze, mthW, mtyW, setIxW, forR, enmD, zipD, zipP, rgI, small, szL, isNW, maxI, minI, ne1, ne2, ne3, ne4, ne5, ne6, e1, e2, e3, hm, hm2, hlt, hp2, h2]
      rw [hc]
      simp only [R.t, if_true, hb, atB, hlt, if_false]
      exact ih
  | .three w b c d, p, j + 1, x1, y3, y4, y5, h, hd, hn, h0, h1 => by
    have hd : max (max b.dep c.dep) d.dep + 1 ≤ D := hd
    have hn : max (max b.dep c.dep) d.dep + 1 < j + 1 := hn
    obtain ⟨g1, g2, g3⟩ := h
    obtain ⟨i1, i2⟩ := acts_cap b g1
    obtain ⟨j1, j2⟩ := acts_cap c g2
    obtain ⟨l1, l2⟩ := acts_cap d g3
    have hm := mul_ok (x := 1) (by omega) (n_cap (by decide)) (by omega) i2 (by omega)
    have hm2 := mul_ok (x := 1) (by omega) (n_cap (by decide)) (by omega) j2 (by omega)
    have hm3 := mul_ok (x := 1) (by omega) (n_cap (by decide)) (by omega) l2 (by omega)
    have e1 := ce.h w b c d
    have e2 := ce.a b g1 (by omega)
    have e3 := ce.a c g2 (by omega)
    have e4 := ce.a d g3 (by omega)
    have h1 : p < acts b + acts c + acts d := h1
    have hp : 0 < acts b := by omega
    have hp2 : 0 < acts c := by omega
    have hp3 : 0 < acts d := by omega
    obtain ⟨m1, m2⟩ := mod_in (p := p) i1
    obtain ⟨m3, m4⟩ := mod_in (p := p - acts b) j1
    obtain ⟨m5, m6⟩ := mod_in (p := p - acts b - acts c) l1
    simp only [Big.D] at e1 e2 e3 e4 ⊢
    have hc : (ev C actC [some (.v (.tuple [.str w.s, b.D, c.D, d.D])), x1, some (.v (.int p)), y3, y4, y5] ⟨[], S⟩).b (fun x m => ofO (truW m x) m) = .ok true ⟨[], S⟩ := by simp [actC, Fact_at, runFn, exs, ex, ev, evAnd, evOr, evs, evO, evL, evIf, evI, asg, asgs, setL, R.b, R.t, R.ne, RT.s, ofO, peek, peekT, peeks, isiD, tyOf, tyLe, truW, truD, turns, wipe, args, binD, cmpD, eqD, bltD, intsOf, boolsOf, asInt, asBool, mk, allV, outW, itemsD, itemsW, itemsL, ixW, atI, ixN, slW, cut, sIx, freeze, mthW, mtyW, setIxW, forR, enmD, zipD, zipP, rgI, small, szL, isNW, maxI, minI, ne1, ne2, ne3, ne4, ne5, ne6]
    by_cases hlt : p < acts b
    · obtain ⟨r, x3, x4, x5, ih⟩ := act_loop ce hD b (p % acts b) j x1 (some (.v (.int 1))) (some (.v b.D)) (some (.v (.int (acts b)))) g1 (by omega) (by omega) m1 m2
      refine ⟨r, x3, x4, x5, ?_⟩
      rw [whileR]
      have hb : exs C actB [some (.v (.tuple [.str w.s, b.D, c.D, d.D])), x1, some (.v (.int p)), y3, y4, y5] ⟨[], S⟩ = .nx [some (.v b.D), x1, some (.v (.int (p % acts b))), some (.v (.int 1)), some (.v b.D), some (.v (.int (acts b)))] ⟨[], S⟩ := by
        simp [actB, Fact_at, runFn, exs, ex, ev, evAnd, evOr, evs, evO, evL, evIf, evI, asg, asgs, setL, R.b, R.t, R.ne, RT.s, ofO, peek, peekT, peeks, isiD, tyOf, tyLe, truW, truD, turns, wipe, args, binD, cmpD, eqD, bltD, intsOf, boolsOf, asInt, asBool, mk, allV, outW, itemsD, itemsW, itemsL, ixW, atI, ixN, slW, cut, sIx, freeze, mthW, mtyW, setIxW, forR, enmD, zipD, zipP, rgI, small, szL, isNW, maxI, minI, ne1, ne2, ne3, ne4, ne5, ne6, e1, e2, e3, e4, hm, hm2, hm3, hlt, hp]
      rw [hc]
      simp only [R.t, if_true, hb, atB, hlt]
      exact ih
    · by_cases hlt2 : p - acts b < acts c
      · obtain ⟨r, x3, x4, x5, ih⟩ := act_loop ce hD c ((p - acts b) % acts c) j x1 (some (.v (.int 1))) (some (.v c.D)) (some (.v (.int (acts c)))) g2 (by omega) (by omega) m3 m4
        refine ⟨r, x3, x4, x5, ?_⟩
        rw [whileR]
        have hb : exs C actB [some (.v (.tuple [.str w.s, b.D, c.D, d.D])), x1, some (.v (.int p)), y3, y4, y5] ⟨[], S⟩ = .nx [some (.v c.D), x1, some (.v (.int ((p - acts b) % acts c))), some (.v (.int 1)), some (.v c.D), some (.v (.int (acts c)))] ⟨[], S⟩ := by
          simp [actB, Fact_at, runFn, exs, ex, ev, evAnd, evOr, evs, evO, evL, evIf, evI, asg, asgs, setL, R.b, R.t, R.ne, RT.s, ofO, peek, peekT, peeks, isiD, tyOf, tyLe, truW, truD, turns, wipe, args, binD, cmpD, eqD, bltD, intsOf, boolsOf, asInt, asBool, mk, allV, outW, itemsD, itemsW, itemsL, ixW, atI, ixN, slW, cut, sIx, freeze, mthW, mtyW, setIxW, forR, enmD, zipD, zipP, rgI, small, szL, isNW, maxI, minI, ne1, ne2, ne3, ne4, ne5, ne6, e1, e2, e3, e4, hm, hm2, hm3, hlt, hlt2, hp2]
        rw [hc]
        simp only [R.t, if_true, hb, atB, hlt, if_false, hlt2]
        exact ih
      · obtain ⟨r, x3, x4, x5, ih⟩ := act_loop ce hD d ((p - acts b - acts c) % acts d) j x1 (some (.v (.int 1))) (some (.v d.D)) (some (.v (.int (acts d)))) g3 (by omega) (by omega) m5 m6
        refine ⟨r, x3, x4, x5, ?_⟩
        rw [whileR]
        have h3 : p - acts b - acts c < acts d := by omega
        have hb : exs C actB [some (.v (.tuple [.str w.s, b.D, c.D, d.D])), x1, some (.v (.int p)), y3, y4, y5] ⟨[], S⟩ = .nx [some (.v d.D), x1, some (.v (.int ((p - acts b - acts c) % acts d))), some (.v (.int 1)), some (.v d.D), some (.v (.int (acts d)))] ⟨[], S⟩ := by
          simp [actB, Fact_at, runFn, exs, ex, ev, evAnd, evOr, evs, evO, evL, evIf, evI, asg, asgs, setL, R.b, R.t, R.ne, RT.s, ofO, peek, peekT, peeks, isiD, tyOf, tyLe, truW, truD, turns, wipe, args, binD, cmpD, eqD, bltD, intsOf, boolsOf, asInt, asBool, mk, allV, outW, itemsD, itemsW, itemsL, ixW, atI, ixN, slW, cut, sIx, freeze, mthW, mtyW, setIxW, forR, enmD, zipD, zipP, rgI, small, szL, isNW, maxI, minI, ne1, ne2, ne3, ne4, ne5, ne6, e1, e2, e3, e4, hm, hm2, hm3, hlt, hlt2, h3, hp3]
        rw [hc]
        simp only [R.t, if_true, hb, atB, hlt, if_false, hlt2]
        exact ih
theorem c9 (b : Big) (p : Int) (k : Nat) (S : List OS) (h : b.ok) (hk : b.dep + 4 ≤ k) (hd : b.dep ≤ 20) (h0 : 0 ≤ p) (h1 : p < acts b) : callP fs k 9 [.v b.D, .v (.int p)] S = .ok (.v (.str (atB b p))) ⟨[], S⟩ := by
  obtain ⟨k, rfl⟩ : ∃ j, k = j + 1 := ⟨k - 1, by omega⟩
  have e := c20 b p k S h (by omega) hd h0 h1
  obtain ⟨r, x3, x4, x5, w⟩ := act_loop (ce_of k b.dep S (by omega) hd) hd b p 1000 (some (.v (.int p))) none none none h (Nat.le_refl _) (by omega) h0 h1
  show runFn (callP fs k) Fact_at [.v b.D, .v (.int p)] S = _
  generalize callP fs k = C at e w
  have hw : ∀ ρ m, ex C (.while 1000 actC actB) ρ m = whileR (fun ρ m => (ev C actC ρ m).b fun x m => ofO (truW m x) m) (exs C actB) 1000 ρ m := fun ρ m => by simp only [ex]
  have hf : Fact_at = ⟨2, 6, .cons (.ex (.call 20 (.cons (.var 0) (.cons (.var 1) .nil)))) (.cons (.asg (.nm 2) (.var 1)) (.cons (.while 1000 actC actB) (.cons (.ret (.var 0)) .nil)))⟩ := rfl
  rw [hf]
  generalize (fun (ρ : Z.Env) (m : Mem) => (ev C actC ρ m).b fun x m => ofO (truW m x) m) = cf at w hw
  simp only [runFn, exs, hw]
  simp [runFn, exs, ex, ev, evAnd, evOr, evs, evO, evL, evIf, evI, asg, asgs, setL, R.b, R.t, R.ne, RT.s, ofO, peek, peekT, peeks, isiD, tyOf, tyLe, truW, truD, turns, wipe, args, binD, cmpD, eqD, bltD, intsOf, boolsOf, asInt, asBool, mk, allV, outW, itemsD, itemsW, itemsL, ixW, atI, ixN, slW, cut, sIx, freeze, mthW, mtyW, setIxW, forR, enmD, zipD, zipP, rgI, small, szL, isNW, maxI, minI, ne1, ne2, ne3, ne4, ne5, ne6, e, w]
end L

set_option maxHeartbeats 8000000
namespace L
open PySem Z
/-! way_to -/
abbrev St3 := Wo × List (Int × Big) × Int
def wD (x : St3) : PyData := .tuple [.str x.1.s, .list (x.2.1.map pD), .int x.2.2]
def way : Big → Int → List St3
  | .act _, _ => []
  | .rep w n b, p => (w, [(p / acts b, b)], n - 1 - p / acts b) :: way b (p % acts b)
  | .two w b c, p => if p < acts b then (w, [(p / acts b, b)], 1 - p / acts b) :: way b (p % acts b)
    else (w, [(1, b), ((p - acts b) / acts c, c)], - ((p - acts b) / acts c)) :: way c ((p - acts b) % acts c)
  | .three w b c d, p => if p < acts b then (w, [(p / acts b, b)], 2 - p / acts b) :: way b (p % acts b)
    else if p - acts b < acts c then (w, [(1, b), ((p - acts b) / acts c, c)], 1 - (p - acts b) / acts c) :: way c ((p - acts b) % acts c)
    else (w, [(1, b), (1, c), ((p - acts b - acts c) / acts d, d)], - ((p - acts b - acts c) / acts d)) :: way d ((p - acts b - acts c) % acts d)
def wayC : E := match Fway_to.body with | .cons _ (.cons (.while _ c _) _) => c | _ => .cst .none
def wayB : TS := match Fway_to.body with | .cons _ (.cons (.while _ _ b) _) => b | _ => .nil
theorem div_ok {x : Int} {d : Nat} (h1 : 1 ≤ x) (h2 : x ≤ cap d) (hd : d ≤ 20) : divFit x = true := by
  refine decide_eq_true ⟨by omega, ?_⟩
  have := log_of (by omega) h2
  omega
theorem wayC_t {C : Orc} {ds : List PyData} {m : Mem} {r : List (Option W)} : (ev C wayC (some (.v (.tuple ds)) :: r) m).b (fun x m => ofO (truW m x) m) = .ok true m := by simp [wayC, Fway_to, runFn, exs, ex, ev, evAnd, evOr, evs, evO, evL, evIf, evI, asg, asgs, setL, R.b, R.t, R.ne, RT.s, ofO, peek, peekT, peeks, isiD, tyOf, tyLe, truW, truD, turns, wipe, args, binD, cmpD, eqD, bltD, intsOf, boolsOf, asInt, asBool, mk, allV, outW, itemsD, itemsW, itemsL, ixW, atI, ixN, slW, cut, sIx, freeze, mthW, mtyW, setIxW, forR, enmD, zipD, zipP, rgI, small, szL, isNW, maxI, minI, ne1, ne2, ne3, ne4, ne5, ne6]
theorem wayC_s {C : Orc} {s : Str} {m : Mem} {r : List (Option W)} : (ev C wayC (some (.v (.str s)) :: r) m).b (fun x m => ofO (truW m x) m) = .ok false m := by simp [wayC, Fway_to, runFn, exs, ex, ev, evAnd, evOr, evs, evO, evL, evIf, evI, asg, asgs, setL, R.b, R.t, R.ne, RT.s, ofO, peek, peekT, peeks, isiD, tyOf, tyLe, truW, truD, turns, wipe, args, binD, cmpD, eqD, bltD, intsOf, boolsOf, asInt, asBool, mk, allV, outW, itemsD, itemsW, itemsL, ixW, atI, ixN, slW, cut, sIx, freeze, mthW, mtyW, setIxW, forR, enmD, zipD, zipP, rgI, small, szL, isNW, maxI, minI, ne1, ne2, ne3, ne4, ne5, ne6]
theorem wst_rep0 {C : Orc} {S : List OS} {acc : List W} {w : Wo} {n p : Int} {b c d : Big} {x1 y4 y5 y6 y7 y8 y9 : Option W} (e1 : C 21 [.v (.tuple [.str w.s, .int n, b.D])] S = .ok (.v (.list [.tuple [.int n, b.D]])) ⟨[], S⟩) (eb : C 11 [.v b.D] S = .ok (.v (.int (acts b))) ⟨[], S⟩) (mb : mulFit n (acts b) = true) (h1 : p < n * acts b) (hp : 0 < acts b) (hv : divFit (acts b) = true) (hl : acc.length < 16777216) :
    exs C wayB [some (.v (.tuple [.str w.s, .int n, b.D])), x1, some (.loc 0), some (.v (.int p)), y4, y5, y6, y7, y8, y9] ⟨[.lst acc], S⟩ = .nx [some (.v b.D), x1, some (.loc 0), some (.v (.int ((p) % acts b))), some (.v (.list [])), some (.v (.list [.tuple [.int n, b.D]])), some (.v (.int 0)), some (.v (.int n)), some (.v b.D), some (.v (.int (acts b)))] ⟨[.lst (acc ++ [.v (wD (w, [((p) / acts b, b)], n - 1 - p / acts b))])], S⟩ := by
  simp [wayB, Fway_to, runFn, exs, ex, ev, evAnd, evOr, evs, evO, evL, evIf, evI, asg, asgs, setL, R.b, R.t, R.ne, RT.s, ofO, peek, peekT, peeks, isiD, tyOf, tyLe, truW, truD, turns, wipe, args, binD, cmpD, eqD, bltD, intsOf, boolsOf, asInt, asBool, mk, allV, outW, itemsD, itemsW, itemsL, ixW, atI, ixN, slW, cut, sIx, freeze, mthW, mtyW, setIxW, forR, enmD, zipD, zipP, rgI, small, szL, isNW, maxI, minI, ne1, ne2, ne3, ne4, ne5, ne6, e1, eb, mb, h1, hp, hv, hl, wD, pD]
  try omega
theorem wst_two0 {C : Orc} {S : List OS} {acc : List W} {w : Wo} {n p : Int} {b c d : Big} {x1 y4 y5 y6 y7 y8 y9 : Option W} (e1 : C 21 [.v (.tuple [.str w.s, b.D, c.D])] S = .ok (.v (.list [.tuple [.int 1, b.D], .tuple [.int 1, c.D]])) ⟨[], S⟩) (eb : C 11 [.v b.D] S = .ok (.v (.int (acts b))) ⟨[], S⟩) (mb : mulFit 1 (acts b) = true) (h1 : p < acts b) (hp : 0 < acts b) (hv : divFit (acts b) = true) (hl : acc.length < 16777216) :
    exs C wayB [some (.v (.tuple [.str w.s, b.D, c.D])), x1, some (.loc 0), some (.v (.int p)), y4, y5, y6, y7, y8, y9] ⟨[.lst acc], S⟩ = .nx [some (.v b.D), x1, some (.loc 0), some (.v (.int ((p) % acts b))), some (.v (.list [])), some (.v (.list [.tuple [.int 1, b.D], .tuple [.int 1, c.D]])), some (.v (.int 0)), some (.v (.int 1)), some (.v b.D), some (.v (.int (acts b)))] ⟨[.lst (acc ++ [.v (wD (w, [((p) / acts b, b)], 1 - p / acts b))])], S⟩ := by
  simp [wayB, Fway_to, runFn, exs, ex, ev, evAnd, evOr, evs, evO, evL, evIf, evI, asg, asgs, setL, R.b, R.t, R.ne, RT.s, ofO, peek, peekT, peeks, isiD, tyOf, tyLe, truW, truD, turns, wipe, args, binD, cmpD, eqD, bltD, intsOf, boolsOf, asInt, asBool, mk, allV, outW, itemsD, itemsW, itemsL, ixW, atI, ixN, slW, cut, sIx, freeze, mthW, mtyW, setIxW, forR, enmD, zipD, zipP, rgI, small, szL, isNW, maxI, minI, ne1, ne2, ne3, ne4, ne5, ne6, e1, eb, mb, h1, hp, hv, hl, wD, pD]
  try omega
theorem wst_two1 {C : Orc} {S : List OS} {acc : List W} {w : Wo} {n p : Int} {b c d : Big} {x1 y4 y5 y6 y7 y8 y9 : Option W} (e1 : C 21 [.v (.tuple [.str w.s, b.D, c.D])] S = .ok (.v (.list [.tuple [.int 1, b.D], .tuple [.int 1, c.D]])) ⟨[], S⟩) (eb : C 11 [.v b.D] S = .ok (.v (.int (acts b))) ⟨[], S⟩) (mb : mulFit 1 (acts b) = true) (ec : C 11 [.v c.D] S = .ok (.v (.int (acts c))) ⟨[], S⟩) (mc : mulFit 1 (acts c) = true) (n0 : ¬ p < acts b) (h1 : p - acts b < acts c) (hp : 0 < acts c) (hv : divFit (acts c) = true) (hl : acc.length < 16777216) :
    exs C wayB [some (.v (.tuple [.str w.s, b.D, c.D])), x1, some (.loc 0), some (.v (.int p)), y4, y5, y6, y7, y8, y9] ⟨[.lst acc], S⟩ = .nx [some (.v c.D), x1, some (.loc 0), some (.v (.int ((p - acts b) % acts c))), some (.v (.list [.tuple [.int 1, b.D]])), some (.v (.list [.tuple [.int 1, b.D], .tuple [.int 1, c.D]])), some (.v (.int 1)), some (.v (.int 1)), some (.v c.D), some (.v (.int (acts c)))] ⟨[.lst (acc ++ [.v (wD (w, [(1, b), ((p - acts b) / acts c, c)], - ((p - acts b) / acts c)))])], S⟩ := by
  simp [wayB, Fway_to, runFn, exs, ex, ev, evAnd, evOr, evs, evO, evL, evIf, evI, asg, asgs, setL, R.b, R.t, R.ne, RT.s, ofO, peek, peekT, peeks, isiD, tyOf, tyLe, truW, truD, turns, wipe, args, binD, cmpD, eqD, bltD, intsOf, boolsOf, asInt, asBool, mk, allV, outW, itemsD, itemsW, itemsL, ixW, atI, ixN, slW, cut, sIx, freeze, mthW, mtyW, setIxW, forR, enmD, zipD, zipP, rgI, small, szL, isNW, maxI, minI, ne1, ne2, ne3, ne4, ne5, ne6, e1, eb, mb, ec, mc, n0, h1, hp, hv, hl, wD, pD]
  try omega
theorem wst_three0 {C : Orc} {S : List OS} {acc : List W} {w : Wo} {n p : Int} {b c d : Big} {x1 y4 y5 y6 y7 y8 y9 : Option W} (e1 : C 21 [.v (.tuple [.str w.s, b.D, c.D, d.D])] S = .ok (.v (.list [.tuple [.int 1, b.D], .tuple [.int 1, c.D], .tuple [.int 1, d.D]])) ⟨[], S⟩) (eb : C 11 [.v b.D] S = .ok (.v (.int (acts b))) ⟨[], S⟩) (mb : mulFit 1 (acts b) = true) (h1 : p < acts b) (hp : 0 < acts b) (hv : divFit (acts b) = true) (hl : acc.length < 16777216) :
    exs C wayB [some (.v (.tuple [.str w.s, b.D, c.D, d.D])), x1, some (.loc 0), some (.v (.int p)), y4, y5, y6, y7, y8, y9] ⟨[.lst acc], S⟩ = .nx [some (.v b.D), x1, some (.loc 0), some (.v (.int ((p) % acts b))), some (.v (.list [])), some (.v (.list [.tuple [.int 1, b.D], .tuple [.int 1, c.D], .tuple [.int 1, d.D]])), some (.v (.int 0)), some (.v (.int 1)), some (.v b.D), some (.v (.int (acts b)))] ⟨[.lst (acc ++ [.v (wD (w, [((p) / acts b, b)], 2 - p / acts b))])], S⟩ := by
  simp [wayB, Fway_to, runFn, exs, ex, ev, evAnd, evOr, evs, evO, evL, evIf, evI, asg, asgs, setL, R.b, R.t, R.ne, RT.s, ofO, peek, peekT, peeks, isiD, tyOf, tyLe, truW, truD, turns, wipe, args, binD, cmpD, eqD, bltD, intsOf, boolsOf, asInt, asBool, mk, allV, outW, itemsD, itemsW, itemsL, ixW, atI, ixN, slW, cut, sIx, freeze, mthW, mtyW, setIxW, forR, enmD, zipD, zipP, rgI, small, szL, isNW, maxI, minI, ne1, ne2, ne3, ne4, ne5, ne6, e1, eb, mb, h1, hp, hv, hl, wD, pD]
  try omega
theorem wst_three1 {C : Orc} {S : List OS} {acc : List W} {w : Wo} {n p : Int} {b c d : Big} {x1 y4 y5 y6 y7 y8 y9 : Option W} (e1 : C 21 [.v (.tuple [.str w.s, b.D, c.D, d.D])] S = .ok (.v (.list [.tuple [.int 1, b.D], .tuple [.int 1, c.D], .tuple [.int 1, d.D]])) ⟨[], S⟩) (eb : C 11 [.v b.D] S = .ok (.v (.int (acts b))) ⟨[], S⟩) (mb : mulFit 1 (acts b) = true) (ec : C 11 [.v c.D] S = .ok (.v (.int (acts c))) ⟨[], S⟩) (mc : mulFit 1 (acts c) = true) (n0 : ¬ p < acts b) (h1 : p - acts b < acts c) (hp : 0 < acts c) (hv : divFit (acts c) = true) (hl : acc.length < 16777216) :
    exs C wayB [some (.v (.tuple [.str w.s, b.D, c.D, d.D])), x1, some (.loc 0), some (.v (.int p)), y4, y5, y6, y7, y8, y9] ⟨[.lst acc], S⟩ = .nx [some (.v c.D), x1, some (.loc 0), some (.v (.int ((p - acts b) % acts c))), some (.v (.list [.tuple [.int 1, b.D]])), some (.v (.list [.tuple [.int 1, b.D], .tuple [.int 1, c.D], .tuple [.int 1, d.D]])), some (.v (.int 1)), some (.v (.int 1)), some (.v c.D), some (.v (.int (acts c)))] ⟨[.lst (acc ++ [.v (wD (w, [(1, b), ((p - acts b) / acts c, c)], 1 - (p - acts b) / acts c))])], S⟩ := by
  simp [wayB, Fway_to, runFn, exs, ex, ev, evAnd, evOr, evs, evO, evL, evIf, evI, asg, asgs, setL, R.b, R.t, R.ne, RT.s, ofO, peek, peekT, peeks, isiD, tyOf, tyLe, truW, truD, turns, wipe, args, binD, cmpD, eqD, bltD, intsOf, boolsOf, asInt, asBool, mk, allV, outW, itemsD, itemsW, itemsL, ixW, atI, ixN, slW, cut, sIx, freeze, mthW, mtyW, setIxW, forR, enmD, zipD, zipP, rgI, small, szL, isNW, maxI, minI, ne1, ne2, ne3, ne4, ne5, ne6, e1, eb, mb, ec, mc, n0, h1, hp, hv, hl, wD, pD]
  try omega
theorem wst_three2 {C : Orc} {S : List OS} {acc : List W} {w : Wo} {n p : Int} {b c d : Big} {x1 y4 y5 y6 y7 y8 y9 : Option W} (e1 : C 21 [.v (.tuple [.str w.s, b.D, c.D, d.D])] S = .ok (.v (.list [.tuple [.int 1, b.D], .tuple [.int 1, c.D], .tuple [.int 1, d.D]])) ⟨[], S⟩) (eb : C 11 [.v b.D] S = .ok (.v (.int (acts b))) ⟨[], S⟩) (mb : mulFit 1 (acts b) = true) (ec : C 11 [.v c.D] S = .ok (.v (.int (acts c))) ⟨[], S⟩) (mc : mulFit 1 (acts c) = true) (ed : C 11 [.v d.D] S = .ok (.v (.int (acts d))) ⟨[], S⟩) (md : mulFit 1 (acts d) = true) (n0 : ¬ p < acts b) (n1 : ¬ p - acts b < acts c) (h1 : p - acts b - acts c < acts d) (hp : 0 < acts d) (hv : divFit (acts d) = true) (hl : acc.length < 16777216) :
    exs C wayB [some (.v (.tuple [.str w.s, b.D, c.D, d.D])), x1, some (.loc 0), some (.v (.int p)), y4, y5, y6, y7, y8, y9] ⟨[.lst acc], S⟩ = .nx [some (.v d.D), x1, some (.loc 0), some (.v (.int ((p - acts b - acts c) % acts d))), some (.v (.list [.tuple [.int 1, b.D], .tuple [.int 1, c.D]])), some (.v (.list [.tuple [.int 1, b.D], .tuple [.int 1, c.D], .tuple [.int 1, d.D]])), some (.v (.int 2)), some (.v (.int 1)), some (.v d.D), some (.v (.int (acts d)))] ⟨[.lst (acc ++ [.v (wD (w, [(1, b), (1, c), ((p - acts b - acts c) / acts d, d)], - ((p - acts b - acts c) / acts d)))])], S⟩ := by
  simp [wayB, Fway_to, runFn, exs, ex, ev, evAnd, evOr, evs, evO, evL, evIf, evI, asg, asgs, setL, R.b, R.t, R.ne, RT.s, ofO, peek, peekT, peeks, isiD, tyOf, tyLe, truW, truD, turns, wipe, args, binD, cmpD, eqD, bltD, intsOf, boolsOf, asInt, asBool, mk, allV, outW, itemsD, itemsW, itemsL, ixW, atI, ixN, slW, cut, sIx, freeze, mthW, mtyW, setIxW, forR, enmD, zipD, zipP, rgI, small, szL, isNW, maxI, minI, ne1, ne2, ne3, ne4, ne5, ne6, e1, eb, mb, ec, mc, ed, md, n0, n1, h1, hp, hv, hl, wD, pD]
  try omega
theorem way_loop {C : Orc} {S : List OS} {D : Nat} (ce : CE C S D) (hD : D ≤ 20) (b : Big) : ∀ (p : Int) (n : Nat) (acc : List W) (x1 y4 y5 y6 y7 y8 y9 : Option W), b.ok → b.dep ≤ D → b.dep < n → 0 ≤ p → p < acts b → acc.length + b.dep ≤ 100 →
    ∃ x0 x3 x4 x5 x6 x7 x8 x9, whileR (fun ρ m => (ev C wayC ρ m).b fun x m => ofO (truW m x) m) (exs C wayB) n [some (.v b.D), x1, some (.loc 0), some (.v (.int p)), y4, y5, y6, y7, y8, y9] ⟨[.lst acc], S⟩
      = .nx [x0, x1, some (.loc 0), x3, x4, x5, x6, x7, x8, x9] ⟨[.lst (acc ++ (way b p).map fun x => .v (wD x))], S⟩ := by
  induction b with
  | act s =>
    intro p n acc x1 y4 y5 y6 y7 y8 y9 _ _ hn _ _ _
    obtain ⟨n, rfl⟩ : ∃ j, n = j + 1 := ⟨n - 1, by omega⟩
    refine ⟨some (.v (.str s)), some (.v (.int p)), y4, y5, y6, y7, y8, y9, ?_⟩
    rw [whileR]
    simp only [Big.D]
    rw [wayC_s]
    simp [R.t, way]
  | rep w n b ihb =>
    intro p j0 acc x1 y4 y5 y6 y7 y8 y9 h hd hn h0 h1 ha
    have hd : b.dep + 1 ≤ D := hd
    have hn : b.dep + 1 < j0 := hn
    have ha : acc.length + (b.dep + 1) ≤ 100 := ha
    obtain ⟨j, rfl⟩ : ∃ j, j0 = j + 1 := ⟨j0 - 1, by omega⟩
    obtain ⟨n1, n2, gb⟩ := h
    have h1 : p < n * acts b := h1
    have e1 := ce.r w n b
    simp only [Big.D] at e1
    have hl : acc.length < 16777216 := by omega
    have ib := acts_cap b gb
    have eb := ce.a b gb (by omega)
    have mb := mul_ok (by omega) (n_cap n2) (by omega) ib.2 (by omega)
    have hpb : 0 < acts b := by omega
    have hvb := div_ok ib.1 ib.2 (by omega)
    have st := wst_rep0 (c := b) (d := b) (C := C) (S := S) (acc := acc) (w := w) (n := n) (p := p) (x1 := x1) (y4 := y4) (y5 := y5) (y6 := y6) (y7 := y7) (y8 := y8) (y9 := y9) e1 eb mb h1 hpb hvb hl
    obtain ⟨q1, q2⟩ := mod_in (p := p) ib.1
    obtain ⟨x0, x3, x4, x5, x6, x7, x8, x9, ih⟩ := ihb ((p) % acts b) j (acc ++ [.v (wD (w, [((p) / acts b, b)], n - 1 - p / acts b))]) x1 (some (.v (.list []))) (some (.v (.list [.tuple [.int n, b.D]]))) (some (.v (.int 0))) (some (.v (.int n))) (some (.v b.D)) (some (.v (.int (acts b)))) gb (by omega) (by omega) q1 q2 (by rw [List.length_append]; show acc.length + 1 + _ ≤ 100; omega)
    refine ⟨x0, x3, x4, x5, x6, x7, x8, x9, ?_⟩
    rw [whileR]
    simp only [Big.D]
    rw [wayC_t]
    simp only [R.t, if_true]
    rw [st]
    dsimp only
    rw [ih]
    simp [way]
  | two w b c ihb ihc =>
    intro p j0 acc x1 y4 y5 y6 y7 y8 y9 h hd hn h0 h1 ha
    have hd : max b.dep c.dep + 1 ≤ D := hd
    have hn : max b.dep c.dep + 1 < j0 := hn
    have ha : acc.length + (max b.dep c.dep + 1) ≤ 100 := ha
    obtain ⟨j, rfl⟩ : ∃ j, j0 = j + 1 := ⟨j0 - 1, by omega⟩
    obtain ⟨gb, gc⟩ := h
    have h1 : p < acts b + acts c := h1
    have e1 := ce.t w b c
    simp only [Big.D] at e1
    have hl : acc.length < 16777216 := by omega
    have ib := acts_cap b gb
    have eb := ce.a b gb (by omega)
    have mb := mul_ok (x := 1) (by omega) (n_cap (by decide)) (by omega) ib.2 (by omega)
    have hpb : 0 < acts b := by omega
    have hvb := div_ok ib.1 ib.2 (by omega)
    have ic := acts_cap c gc
    have ec := ce.a c gc (by omega)
    have mc := mul_ok (x := 1) (by omega) (n_cap (by decide)) (by omega) ic.2 (by omega)
    have hpc : 0 < acts c := by omega
    have hvc := div_ok ic.1 ic.2 (by omega)
    by_cases hlt0 : p < acts b
    · skip
      have st := wst_two0 (n := 1) (d := b) (b := b) (c := c) (C := C) (S := S) (acc := acc) (w := w) (p := p) (x1 := x1) (y4 := y4) (y5 := y5) (y6 := y6) (y7 := y7) (y8 := y8) (y9 := y9) e1 eb mb hlt0 hpb hvb hl
      obtain ⟨q1, q2⟩ := mod_in (p := p) ib.1
      obtain ⟨x0, x3, x4, x5, x6, x7, x8, x9, ih⟩ := ihb ((p) % acts b) j (acc ++ [.v (wD (w, [((p) / acts b, b)], 1 - p / acts b))]) x1 (some (.v (.list []))) (some (.v (.list [.tuple [.int 1, b.D], .tuple [.int 1, c.D]]))) (some (.v (.int 0))) (some (.v (.int 1))) (some (.v b.D)) (some (.v (.int (acts b)))) gb (by omega) (by omega) q1 q2 (by rw [List.length_append]; show acc.length + 1 + _ ≤ 100; omega)
      refine ⟨x0, x3, x4, x5, x6, x7, x8, x9, ?_⟩
      rw [whileR]
      simp only [Big.D]
      rw [wayC_t]
      simp only [R.t, if_true]
      rw [st]
      dsimp only
      rw [ih]
      simp [way, hlt0]
    · have hn0 := hlt0
      have st := wst_two1 (n := 1) (d := b) (b := b) (c := c) (C := C) (S := S) (acc := acc) (w := w) (p := p) (x1 := x1) (y4 := y4) (y5 := y5) (y6 := y6) (y7 := y7) (y8 := y8) (y9 := y9) e1 eb mb ec mc hn0 (by omega) hpc hvc hl
      obtain ⟨q1, q2⟩ := mod_in (p := p - acts b) ic.1
      obtain ⟨x0, x3, x4, x5, x6, x7, x8, x9, ih⟩ := ihc ((p - acts b) % acts c) j (acc ++ [.v (wD (w, [(1, b), ((p - acts b) / acts c, c)], - ((p - acts b) / acts c)))]) x1 (some (.v (.list [.tuple [.int 1, b.D]]))) (some (.v (.list [.tuple [.int 1, b.D], .tuple [.int 1, c.D]]))) (some (.v (.int 1))) (some (.v (.int 1))) (some (.v c.D)) (some (.v (.int (acts c)))) gc (by omega) (by omega) q1 q2 (by rw [List.length_append]; show acc.length + 1 + _ ≤ 100; omega)
      refine ⟨x0, x3, x4, x5, x6, x7, x8, x9, ?_⟩
      rw [whileR]
      simp only [Big.D]
      rw [wayC_t]
      simp only [R.t, if_true]
      rw [st]
      dsimp only
      rw [ih]
      simp [way, hn0]
  | three w b c d ihb ihc ihd =>
    intro p j0 acc x1 y4 y5 y6 y7 y8 y9 h hd hn h0 h1 ha
    have hd : max (max b.dep c.dep) d.dep + 1 ≤ D := hd
    have hn : max (max b.dep c.dep) d.dep + 1 < j0 := hn
    have ha : acc.length + (max (max b.dep c.dep) d.dep + 1) ≤ 100 := ha
    obtain ⟨j, rfl⟩ : ∃ j, j0 = j + 1 := ⟨j0 - 1, by omega⟩
    obtain ⟨gb, gc, gd⟩ := h
    have h1 : p < acts b + acts c + acts d := h1
    have e1 := ce.h w b c d
    simp only [Big.D] at e1
    have hl : acc.length < 16777216 := by omega
    have ib := acts_cap b gb
    have eb := ce.a b gb (by omega)
    have mb := mul_ok (x := 1) (by omega) (n_cap (by decide)) (by omega) ib.2 (by omega)
    have hpb : 0 < acts b := by omega
    have hvb := div_ok ib.1 ib.2 (by omega)
    have ic := acts_cap c gc
    have ec := ce.a c gc (by omega)
    have mc := mul_ok (x := 1) (by omega) (n_cap (by decide)) (by omega) ic.2 (by omega)
    have hpc : 0 < acts c := by omega
    have hvc := div_ok ic.1 ic.2 (by omega)
    have id := acts_cap d gd
    have ed := ce.a d gd (by omega)
    have md := mul_ok (x := 1) (by omega) (n_cap (by decide)) (by omega) id.2 (by omega)
    have hpd : 0 < acts d := by omega
    have hvd := div_ok id.1 id.2 (by omega)
    by_cases hlt0 : p < acts b
    · skip
      have st := wst_three0 (n := 1) (b := b) (c := c) (d := d) (C := C) (S := S) (acc := acc) (w := w) (p := p) (x1 := x1) (y4 := y4) (y5 := y5) (y6 := y6) (y7 := y7) (y8 := y8) (y9 := y9) e1 eb mb hlt0 hpb hvb hl
      obtain ⟨q1, q2⟩ := mod_in (p := p) ib.1
      obtain ⟨x0, x3, x4, x5, x6, x7, x8, x9, ih⟩ := ihb ((p) % acts b) j (acc ++ [.v (wD (w, [((p) / acts b, b)], 2 - p / acts b))]) x1 (some (.v (.list []))) (some (.v (.list [.tuple [.int 1, b.D], .tuple [.int 1, c.D], .tuple [.int 1, d.D]]))) (some (.v (.int 0))) (some (.v (.int 1))) (some (.v b.D)) (some (.v (.int (acts b)))) gb (by omega) (by omega) q1 q2 (by rw [List.length_append]; show acc.length + 1 + _ ≤ 100; omega)
      refine ⟨x0, x3, x4, x5, x6, x7, x8, x9, ?_⟩
      rw [whileR]
      simp only [Big.D]
      rw [wayC_t]
      simp only [R.t, if_true]
      rw [st]
      dsimp only
      rw [ih]
      simp [way, hlt0]
    · have hn0 := hlt0
      by_cases hlt1 : p - acts b < acts c
      · skip
        have st := wst_three1 (n := 1) (b := b) (c := c) (d := d) (C := C) (S := S) (acc := acc) (w := w) (p := p) (x1 := x1) (y4 := y4) (y5 := y5) (y6 := y6) (y7 := y7) (y8 := y8) (y9 := y9) e1 eb mb ec mc hn0 hlt1 hpc hvc hl
        obtain ⟨q1, q2⟩ := mod_in (p := p - acts b) ic.1
        obtain ⟨x0, x3, x4, x5, x6, x7, x8, x9, ih⟩ := ihc ((p - acts b) % acts c) j (acc ++ [.v (wD (w, [(1, b), ((p - acts b) / acts c, c)], 1 - (p - acts b) / acts c))]) x1 (some (.v (.list [.tuple [.int 1, b.D]]))) (some (.v (.list [.tuple [.int 1, b.D], .tuple [.int 1, c.D], .tuple [.int 1, d.D]]))) (some (.v (.int 1))) (some (.v (.int 1))) (some (.v c.D)) (some (.v (.int (acts c)))) gc (by omega) (by omega) q1 q2 (by rw [List.length_append]; show acc.length + 1 + _ ≤ 100; omega)
        refine ⟨x0, x3, x4, x5, x6, x7, x8, x9, ?_⟩
        rw [whileR]
        simp only [Big.D]
        rw [wayC_t]
        simp only [R.t, if_true]
        rw [st]
        dsimp only
        rw [ih]
        simp [way, hn0, hlt1]
      · have hn1 := hlt1
        have st := wst_three2 (n := 1) (b := b) (c := c) (d := d) (C := C) (S := S) (acc := acc) (w := w) (p := p) (x1 := x1) (y4 := y4) (y5 := y5) (y6 := y6) (y7 := y7) (y8 := y8) (y9 := y9) e1 eb mb ec mc ed md hn0 hn1 (by omega) hpd hvd hl
        obtain ⟨q1, q2⟩ := mod_in (p := p - acts b - acts c) id.1
        obtain ⟨x0, x3, x4, x5, x6, x7, x8, x9, ih⟩ := ihd ((p - acts b - acts c) % acts d) j (acc ++ [.v (wD (w, [(1, b), (1, c), ((p - acts b - acts c) / acts d, d)], - ((p - acts b - acts c) / acts d)))]) x1 (some (.v (.list [.tuple [.int 1, b.D], .tuple [.int 1, c.D]]))) (some (.v (.list [.tuple [.int 1, b.D], .tuple [.int 1, c.D], .tuple [.int 1, d.D]]))) (some (.v (.int 2))) (some (.v (.int 1))) (some (.v d.D)) (some (.v (.int (acts d)))) gd (by omega) (by omega) q1 q2 (by rw [List.length_append]; show acc.length + 1 + _ ≤ 100; omega)
        refine ⟨x0, x3, x4, x5, x6, x7, x8, x9, ?_⟩
        rw [whileR]
        simp only [Big.D]
        rw [wayC_t]
        simp only [R.t, if_true]
        rw [st]
        dsimp only
        rw [ih]
        simp [way, hn0, hn1]
theorem way_len : ∀ (b : Big) (p : Int), (way b p).length ≤ b.dep
  | .act _, _ => Nat.le_refl _
  | .rep w n b, p => Nat.succ_le_succ (way_len b _)
  | .two w b c, p => by
    have i := way_len b (p % acts b)
    have j := way_len c ((p - acts b) % acts c)
    show _ ≤ max b.dep c.dep + 1
    unfold way
    split <;> simp only [List.length_cons] <;> omega
  | .three w b c d, p => by
    have i := way_len b (p % acts b)
    have j := way_len c ((p - acts b) % acts c)
    have l := way_len d ((p - acts b - acts c) % acts d)
    show _ ≤ max (max b.dep c.dep) d.dep + 1
    unfold way
    split
    · simp only [List.length_cons]; omega
    · split <;> simp only [List.length_cons] <;> omega
theorem allV_map (l : List PyData) : allV (l.map .v) = some l := by
  induction l with
  | nil => rfl
  | cons x r ih => simp [allV, ih]
theorem c19 (b : Big) (p : Int) (k : Nat) (S : List OS) (h : b.ok) (hk : b.dep + 4 ≤ k) (hd : b.dep ≤ 20) (h0 : 0 ≤ p) (h1 : p < acts b) : callP fs k 19 [.v b.D, .v (.int p)] S = .ok (.v (.list ((way b p).map wD))) ⟨[], S⟩ := by
  obtain ⟨k, rfl⟩ : ∃ j, k = j + 1 := ⟨k - 1, by omega⟩
  obtain ⟨x0, x3, x4, x5, x6, x7, x8, x9, w⟩ := way_loop (ce_of k b.dep S (by omega) hd) hd b p 1000 [] (some (.v (.int p))) none none none none none none h (Nat.le_refl _) (by omega) h0 h1 (by simp; omega)
  show runFn (callP fs k) Fway_to [.v b.D, .v (.int p)] S = _
  generalize callP fs k = C at w
  have hw : ∀ ρ m, ex C (.while 1000 wayC wayB) ρ m = whileR (fun ρ m => (ev C wayC ρ m).b fun x m => ofO (truW m x) m) (exs C wayB) 1000 ρ m := fun ρ m => by simp only [ex]
  have hf : Fway_to = ⟨2, 10, .cons (.par [2, 3] (.cons (.lst .loc (.disp .nil)) (.cons (.var 1) .nil))) (.cons (.while 1000 wayC wayB) (.cons (.ret (.frz (.var 2))) .nil))⟩ := rfl
  rw [hf]
  generalize (fun (ρ : Z.Env) (m : Mem) => (ev C wayC ρ m).b fun x m => ofO (truW m x) m) = cf at w hw
  simp only [runFn, exs, hw]
  have hv : allV ((way b p).map fun x => W.v (wD x)) = some ((way b p).map wD) := by
    rw [← allV_map, List.map_map]
    rfl
  simp [runFn, exs, ex, ev, evAnd, evOr, evs, evO, evL, evIf, evI, asg, asgs, setL, R.b, R.t, R.ne, RT.s, ofO, peek, peekT, peeks, isiD, tyOf, tyLe, truW, truD, wipe, args, binD, cmpD, eqD, bltD, intsOf, boolsOf, asInt, asBool, mk, allV, outW, itemsD, itemsW, itemsL, ixW, atI, ixN, slW, cut, sIx, freeze, mthW, mtyW, setIxW, enmD, zipD, zipP, rgI, small, szL, isNW, maxI, minI, ne1, ne2, ne3, ne4, ne5, ne6, w, hv]
end L

set_option maxHeartbeats 8000000
namespace L
open PySem Z
theorem turns_map {α : Type} {f : PyData → Mem → R (Option W)} {m : Mem} (enc : α → PyData) (g : α → W) : ∀ (xs : List α) (acc : List W), (∀ x ∈ xs, f (enc x) m = .ok (some (g x)) m) → acc.length + xs.length ≤ szL → turns f (xs.map enc) acc m = .ok (acc ++ xs.map g) m
  | [], acc, _, _ => by simp [turns]
  | x :: xs, acc, h, hl => by
    have h1 := h x (by simp)
    rw [List.length_cons] at hl
    have hz : acc.length < szL := by omega
    rw [List.map_cons]
    unfold turns
    rw [h1]
    simp only [R.ne, R.b, hz, if_true]
    rw [turns_map enc g xs (acc ++ [g x]) (fun y hy => h y (List.mem_cons_of_mem _ hy)) (by simp; omega)]
    simp
theorem ev_comp {α : Type} {C : Orc} {own : List Nat} {g : G} {src : IT} {elt : E} {ρ : Z.Env} {m : Mem} (enc gW : α → PyData) (xs : List α) (hs : evI C src ρ m = .ok (xs.map enc) m)
    (he : ∀ x ∈ xs, ∃ ρ1, asg g (.v (enc x)) (wipe ρ own) = some ρ1 ∧ ev C elt ρ1 m = .ok (.v (gW x)) m) (hl : xs.length ≤ szL) : ev C (.lst .fz (.comp own g src .nil elt)) ρ m = .ok (.v (.list (xs.map gW))) m := by
  have av : ∀ l : List α, allV (l.map fun x => W.v (gW x)) = some (l.map gW) := fun l => by
    induction l with
    | nil => rfl
    | cons x r ih => simp [allV, ih]
  simp only [ev, evL, hs, R.b]
  rw [turns_map enc (fun x => .v (gW x)) xs [] ?_ (by simpa using hl)]
  · simp only [List.nil_append, mk, List.length_map, hl, if_true, av, Option.map_some, ofO]
  · intro x hx
    obtain ⟨ρ1, h1, h2⟩ := he x hx
    simp only [h1, evIf, if_true, h2]
theorem allV_mapf {α : Type} (h : α → PyData) (l : List α) : allV (l.map fun x => W.v (h x)) = some (l.map h) := by
  induction l with
  | nil => rfl
  | cons x r ih => simp [allV, ih]
theorem intsOf_mapf {α : Type} (h : α → Int) (l : List α) : intsOf (l.map fun x => PyData.int (h x)) = some (l.map h) := by
  induction l with
  | nil => rfl
  | cons x r ih => simp [intsOf, asInt, ih]
theorem boolsOf_mapf {α : Type} (h : α → Bool) (l : List α) : boolsOf (l.map fun x => PyData.bool (h x)) = some (l.map h) := by
  induction l with
  | nil => rfl
  | cons x r ih => simp [boolsOf, asBool, ih]
/-! fewest_to_do, is_always_done, can_be_end -/
def ftdE (x : St3) : Int := match x.1 with
  | .o => (x.2.1.map fun y => y.1 * ff y.2).sum
  | _ => 0
def ftd (b : Big) (p : Int) : Int := ((way b p).map ftdE).sum
def alwE (x : St3) : Bool := match x.1 with
  | .t => true
  | _ => decide ((x.2.1.map fun y => y.1).sum = 0)
def alw (b : Big) (p : Int) : Bool := ((way b p).map alwE).all id
def cbeE (x : St3) : Bool := match x.1 with
  | .o => decide (x.2.2 = 0)
  | _ => true
def cbe (b : Big) (p : Int) : Bool := ((way b p).map cbeE).all id
def lok (D : Nat) (x : St3) : Prop := x.2.1.length ≤ 3 ∧ ∀ y ∈ x.2.1, 0 ≤ y.1 ∧ y.1 ≤ cap D ∧ y.2.ok ∧ y.2.dep ≤ D
theorem div_in {p a : Int} {D : Nat} (h0 : 0 ≤ p) (h1 : p ≤ cap D) (ha : 1 ≤ a) : 0 ≤ p / a ∧ p / a ≤ cap D :=
  ⟨Int.ediv_nonneg h0 (by omega), Int.le_trans (Int.ediv_le_self _ h0) h1⟩
theorem way_lok {D : Nat} : ∀ (b : Big) (p : Int), b.ok → b.dep ≤ D → 0 ≤ p → p < acts b → ∀ x ∈ way b p, lok D x
  | .act _, _, _, _, _, _ => fun x hx => by cases hx
  | .rep w n b, p, h, hd, h0, h1 => by
    obtain ⟨a1, a2⟩ := acts_cap _ h
    have hc := cap_mono hd
    obtain ⟨g1, g2, g3⟩ := h
    have hd : b.dep + 1 ≤ D := hd
    obtain ⟨i1, i2⟩ := acts_cap b g3
    obtain ⟨m1, m2⟩ := mod_in (p := p) i1
    obtain ⟨d1, d2⟩ := div_in (D := D) h0 (by omega) i1
    intro x hx
    simp only [way, List.mem_cons] at hx
    rcases hx with rfl | hx
    · refine ⟨by simp, fun y hy => ?_⟩
      simp only [List.mem_singleton] at hy
      subst hy
      exact ⟨d1, d2, g3, by show b.dep ≤ D; omega⟩
    · exact way_lok b _ g3 (by omega) m1 m2 x hx
  | .two w b c, p, h, hd, h0, h1 => by
    obtain ⟨a1, a2⟩ := acts_cap _ h
    have hc := cap_mono hd
    obtain ⟨g1, g2⟩ := h
    have hd : max b.dep c.dep + 1 ≤ D := hd
    obtain ⟨i1, i2⟩ := acts_cap b g1
    obtain ⟨j1, j2⟩ := acts_cap c g2
    have pc := cap_pos D
    intro x hx
    unfold way at hx
    split at hx
    · rename_i hlt
      obtain ⟨m1, m2⟩ := mod_in (p := p) i1
      obtain ⟨d1, d2⟩ := div_in (D := D) h0 (by omega) i1
      rcases List.mem_cons.mp hx with rfl | hx
      · refine ⟨by simp, fun y hy => ?_⟩
        simp only [List.mem_singleton] at hy
        subst hy
        exact ⟨d1, d2, g1, by show b.dep ≤ D; omega⟩
      · exact way_lok b _ g1 (by omega) m1 m2 x hx
    · rename_i hlt
      obtain ⟨m1, m2⟩ := mod_in (p := p - acts b) j1
      obtain ⟨d1, d2⟩ := div_in (D := D) (p := p - acts b) (by omega) (by omega) j1
      rcases List.mem_cons.mp hx with rfl | hx
      · refine ⟨by simp, fun y hy => ?_⟩
        simp only [List.mem_cons, List.not_mem_nil, or_false] at hy
        rcases hy with rfl | rfl
        · exact ⟨by show (0 : Int) ≤ 1; decide, pc, g1, by show b.dep ≤ D; omega⟩
        · exact ⟨d1, d2, g2, by show c.dep ≤ D; omega⟩
      · exact way_lok c _ g2 (by omega) m1 m2 x hx
  | .three w b c d, p, h, hd, h0, h1 => by
    obtain ⟨a1, a2⟩ := acts_cap _ h
    have hc := cap_mono hd
    obtain ⟨g1, g2, g3⟩ := h
    have hd : max (max b.dep c.dep) d.dep + 1 ≤ D := hd
    obtain ⟨i1, i2⟩ := acts_cap b g1
    obtain ⟨j1, j2⟩ := acts_cap c g2
    obtain ⟨l1, l2⟩ := acts_cap d g3
    have pc := cap_pos D
    intro x hx
    unfold way at hx
    split at hx
    · rename_i hlt
      obtain ⟨m1, m2⟩ := mod_in (p := p) i1
      obtain ⟨d1, d2⟩ := div_in (D := D) h0 (by omega) i1
      rcases List.mem_cons.mp hx with rfl | hx
      · refine ⟨by simp, fun y hy => ?_⟩
        simp only [List.mem_singleton] at hy
        subst hy
        exact ⟨d1, d2, g1, by show b.dep ≤ D; omega⟩
      · exact way_lok b _ g1 (by omega) m1 m2 x hx
    · split at hx
      · obtain ⟨m1, m2⟩ := mod_in (p := p - acts b) j1
        obtain ⟨d1, d2⟩ := div_in (D := D) (p := p - acts b) (by omega) (by omega) j1
        rcases List.mem_cons.mp hx with rfl | hx
        · refine ⟨by simp, fun y hy => ?_⟩
          simp only [List.mem_cons, List.not_mem_nil, or_false] at hy
          rcases hy with rfl | rfl
          · exact ⟨by show (0 : Int) ≤ 1; decide, pc, g1, by show b.dep ≤ D; omega⟩
          · exact ⟨d1, d2, g2, by show c.dep ≤ D; omega⟩
        · exact way_lok c _ g2 (by omega) m1 m2 x hx
      · obtain ⟨m1, m2⟩ := mod_in (p := p - acts b - acts c) l1
        have h1 : p < acts b + acts c + acts d := h1
        have a2 : acts b + acts c + acts d ≤ _ := a2
        obtain ⟨d1, d2⟩ := div_in (D := D) (p := p - acts b - acts c) (by omega) (by omega) l1
        rcases List.mem_cons.mp hx with rfl | hx
        · refine ⟨by simp, fun y hy => ?_⟩
          simp only [List.mem_cons, List.not_mem_nil, or_false] at hy
          rcases hy with rfl | rfl | rfl
          · exact ⟨by show (0 : Int) ≤ 1; decide, pc, g1, by show b.dep ≤ D; omega⟩
          · exact ⟨by show (0 : Int) ≤ 1; decide, pc, g2, by show c.dep ≤ D; omega⟩
          · exact ⟨d1, d2, g3, by show d.dep ≤ D; omega⟩
        · exact way_lok d _ g3 (by omega) m1 m2 x hx
def ftdB : TS := match Ffewest_to_do.body with | .cons _ (.cons _ (.cons (.forT _ _ b) _)) => b | _ => .nil
def ftdX : E := .lst .fz (.comp [6, 7] (.tp (.cons (.nm 6) (.cons (.nm 7) .nil))) (.seq (.var 4)) .nil (.bin .mul (.var 6) (.call 18 (.cons (.var 7) .nil))))
theorem ftdB_eq : ftdB = .cons (.ife (.cmp .eq (.var 3) (.cst (.str "or"))) (.cons (.asg (.nm 2) (.bin .add (.var 2) (.blt .sum (.cons ftdX .nil)))) .nil) .nil) .nil := rfl
theorem ftd_step {C : Orc} {S : List OS} {D : Nat} (ce : CE C S D) (hD : D ≤ 20) (x : St3) (hx : lok D x) (y0 y1 y6 y7 : Option W) (a : Int) :
    exs C ftdB [y0, y1, some (.v (.int a)), some (.v (.str x.1.s)), some (.v (.list (x.2.1.map pD))), some (.v (.int x.2.2)), y6, y7] ⟨[], S⟩ = .nx [y0, y1, some (.v (.int (a + ftdE x))), some (.v (.str x.1.s)), some (.v (.list (x.2.1.map pD))), some (.v (.int x.2.2)), y6, y7] ⟨[], S⟩ := by
  obtain ⟨w, l, r⟩ := x
  obtain ⟨h1, h2⟩ := hx
  have hz : l.length ≤ szL := Nat.le_trans h1 (by decide)
  rw [ftdB_eq]
  have ht : ev C ftdX [y0, y1, some (.v (.int a)), some (.v (.str w.s)), some (.v (.list (l.map pD))), some (.v (.int r)), y6, y7] ⟨[], S⟩ = .ok (.v (.list (l.map fun y => .int (y.1 * ff y.2)))) ⟨[], S⟩ := by
    refine ev_comp pD (fun y => .int (y.1 * ff y.2)) l (by simp [runFn, exs, ex, ev, evAnd, evOr, evs, evO, evL, evIf, evI, asg, asgs, setL, R.b, R.t, R.ne, RT.s, ofO, peek, peekT, peeks, isiD, tyOf, tyLe, truW, truD, wipe, args, binD, cmpD, eqD, bltD, intsOf, boolsOf, asInt, asBool, mk, allV, outW, itemsD, itemsW, itemsL, ixW, atI, ixN, slW, cut, sIx, freeze, mthW, mtyW, setIxW, enmD, zipD, zipP, rgI, small, szL, isNW, maxI, minI, ne1, ne2, ne3, ne4, ne5, ne6]) (fun y hy => ⟨_, rfl, ?_⟩) hz
    obtain ⟨g1, g2, g3, g4⟩ := h2 y hy
    obtain ⟨i1, i2⟩ := ff_cap y.2 g3
    have hm := mul_ok g1 g2 (by omega) i2 (by omega)
    have e := ce.f y.2 g3 g4
    simp [runFn, exs, ex, ev, evAnd, evOr, evs, evO, evL, evIf, evI, asg, asgs, setL, R.b, R.t, R.ne, RT.s, ofO, peek, peekT, peeks, isiD, tyOf, tyLe, truW, truD, wipe, args, binD, cmpD, eqD, bltD, intsOf, boolsOf, asInt, asBool, mk, allV, outW, itemsD, itemsW, itemsL, ixW, atI, ixN, slW, cut, sIx, freeze, mthW, mtyW, setIxW, enmD, zipD, zipP, rgI, small, szL, isNW, maxI, minI, ne1, ne2, ne3, ne4, ne5, ne6, e, hm]
  cases w <;> simp only [Wo.s, ftdE] at ht ⊢ <;> simp [runFn, exs, ex, ev, evAnd, evOr, evs, evO, evL, evIf, evI, asg, asgs, setL, R.b, R.t, R.ne, RT.s, ofO, peek, peekT, peeks, isiD, tyOf, tyLe, truW, truD, wipe, args, binD, cmpD, eqD, bltD, intsOf, boolsOf, asInt, asBool, mk, allV, outW, itemsD, itemsW, itemsL, ixW, atI, ixN, slW, cut, sIx, freeze, mthW, mtyW, setIxW, enmD, zipD, zipP, rgI, small, szL, isNW, maxI, minI, ne1, ne2, ne3, ne4, ne5, ne6, ht, intsOf_mapf]
theorem ftd_for {C : Orc} {S : List OS} {D : Nat} (ce : CE C S D) (hD : D ≤ 20) (y0 y1 : Option W) : ∀ (ws : List St3), (∀ x ∈ ws, lok D x) → ∀ (a : Int) (y3 y4 y5 y6 y7 : Option W), ∃ z3 z4 z5,
    forR (fun d ρ m => match asg (.tp (.cons (.nm 3) (.cons (.nm 4) (.cons (.nm 5) .nil)))) (.v d) ρ with | some ρ => exs C ftdB ρ m | none => .bad) (ws.map wD) [y0, y1, some (.v (.int a)), y3, y4, y5, y6, y7] ⟨[], S⟩ = .nx [y0, y1, some (.v (.int (a + (ws.map ftdE).sum))), z3, z4, z5, y6, y7] ⟨[], S⟩
  | [], _, a, y3, y4, y5, y6, y7 => ⟨y3, y4, y5, by simp [forR]⟩
  | x :: ws, h, a, y3, y4, y5, y6, y7 => by
    obtain ⟨z3, z4, z5, ih⟩ := ftd_for ce hD y0 y1 ws (fun y hy => h y (List.mem_cons_of_mem _ hy)) (a + ftdE x) (some (.v (.str x.1.s))) (some (.v (.list (x.2.1.map pD)))) (some (.v (.int x.2.2))) y6 y7
    have hs := ftd_step ce hD x (h x (by simp)) y0 y1 y6 y7 a
    refine ⟨z3, z4, z5, ?_⟩
    rw [List.map_cons, List.map_cons, List.sum_cons, ← Int.add_assoc, ← ih]
    unfold forR
    have ha : asg (.tp (.cons (.nm 3) (.cons (.nm 4) (.cons (.nm 5) .nil)))) (.v (wD x)) [y0, y1, some (.v (.int a)), y3, y4, y5, y6, y7] = some [y0, y1, some (.v (.int a)), some (.v (.str x.1.s)), some (.v (.list (x.2.1.map pD))), some (.v (.int x.2.2)), y6, y7] := by simp [wD, asg, asgs]
    rw [ha]
    dsimp only
    rw [hs]
    cases ws.map wD <;> rfl
theorem c8 (b : Big) (p : Int) (k : Nat) (S : List OS) (h : b.ok) (hk : b.dep + 5 ≤ k) (hd : b.dep ≤ 20) (h0 : 0 ≤ p) (h1 : p < acts b) : callP fs k 8 [.v b.D, .v (.int p)] S = .ok (.v (.int (ftd b p))) ⟨[], S⟩ := by
  obtain ⟨k, rfl⟩ : ∃ j, k = j + 1 := ⟨k - 1, by omega⟩
  have e := c20 b p k S h (by omega) hd h0 h1
  have e2 := c19 b p k S h (by omega) hd h0 h1
  obtain ⟨z3, z4, z5, w⟩ := ftd_for (ce_of k b.dep S (by omega) hd) hd (some (.v b.D)) (some (.v (.int p))) (way b p) (way_lok b p h (Nat.le_refl _) h0 h1) 0 none none none none none
  show runFn (callP fs k) Ffewest_to_do [.v b.D, .v (.int p)] S = _
  generalize callP fs k = C at e e2 w
  have hf : Ffewest_to_do = ⟨2, 8, .cons (.ex (.call 20 (.cons (.var 0) (.cons (.var 1) .nil)))) (.cons (.asg (.nm 2) (.cst (.int 0))) (.cons (.forT (.tp (.cons (.nm 3) (.cons (.nm 4) (.cons (.nm 5) .nil)))) (.seq (.call 19 (.cons (.var 0) (.cons (.var 1) .nil)))) ftdB) (.cons (.ret (.var 2)) .nil)))⟩ := rfl
  have hw : ∀ ρ m, ex C (.forT (.tp (.cons (.nm 3) (.cons (.nm 4) (.cons (.nm 5) .nil)))) (.seq (.call 19 (.cons (.var 0) (.cons (.var 1) .nil)))) ftdB) ρ m = (evI C (.seq (.call 19 (.cons (.var 0) (.cons (.var 1) .nil)))) ρ m).t ρ fun ds m => forR (fun d ρ m => match asg (.tp (.cons (.nm 3) (.cons (.nm 4) (.cons (.nm 5) .nil)))) (.v d) ρ with | some ρ => exs C ftdB ρ m | none => .bad) ds ρ m := fun ρ m => by simp only [ex] <;> rfl
  rw [hf]
  generalize (fun (d : PyData) (ρ : Z.Env) (m : Mem) => match asg (.tp (.cons (.nm 3) (.cons (.nm 4) (.cons (.nm 5) .nil)))) (.v d) ρ with | some ρ => exs C ftdB ρ m | none => RT.bad) = cf at w hw
  simp only [runFn, exs, hw]
  simp [runFn, exs, ex, ev, evAnd, evOr, evs, evO, evL, evIf, evI, asg, asgs, setL, R.b, R.t, R.ne, RT.s, ofO, peek, peekT, peeks, isiD, tyOf, tyLe, truW, truD, wipe, args, binD, cmpD, eqD, bltD, intsOf, boolsOf, asInt, asBool, mk, allV, outW, itemsD, itemsW, itemsL, ixW, atI, ixN, slW, cut, sIx, freeze, mthW, mtyW, setIxW, enmD, zipD, zipP, rgI, small, szL, isNW, maxI, minI, ne1, ne2, ne3, ne4, ne5, ne6, e, e2, w, ftd]
def alwX : E := .lst .fz (.comp [5, 6] (.tp (.cons (.nm 5) (.cons (.nm 6) .nil))) (.seq (.var 3)) .nil (.var 5))
def alwQ : E := .or (.cons (.cmp .eq (.var 2) (.cst (.str "then"))) (.cons (.cmp .eq (.blt .sum (.cons alwX .nil)) (.cst (.int 0))) .nil))
def alwY : E := .lst .fz (.comp [2, 3, 4] (.tp (.cons (.nm 2) (.cons (.nm 3) (.cons (.nm 4) .nil)))) (.seq (.call 19 (.cons (.var 0) (.cons (.var 1) .nil)))) .nil alwQ)
theorem c7 (b : Big) (p : Int) (k : Nat) (S : List OS) (h : b.ok) (hk : b.dep + 5 ≤ k) (hd : b.dep ≤ 20) (h0 : 0 ≤ p) (h1 : p < acts b) : callP fs k 7 [.v b.D, .v (.int p)] S = .ok (.v (.bool (alw b p))) ⟨[], S⟩ := by
  obtain ⟨k, rfl⟩ : ∃ j, k = j + 1 := ⟨k - 1, by omega⟩
  have e := c20 b p k S h (by omega) hd h0 h1
  have e2 := c19 b p k S h (by omega) hd h0 h1
  have hl := way_len b p
  have hlk := way_lok b p h (Nat.le_refl _) h0 h1
  show runFn (callP fs k) Fis_always_done [.v b.D, .v (.int p)] S = _
  generalize callP fs k = C at e e2
  have hf : Fis_always_done = ⟨2, 7, .cons (.ex (.call 20 (.cons (.var 0) (.cons (.var 1) .nil)))) (.cons (.ret (.blt .all (.cons alwY .nil))) .nil)⟩ := rfl
  have ht : ev C alwY [some (.v b.D), some (.v (.int p)), none, none, none, none, none] ⟨[], S⟩ = .ok (.v (.list ((way b p).map fun x => .bool (alwE x)))) ⟨[], S⟩ := by
    refine ev_comp wD (fun x => .bool (alwE x)) (way b p) (by simp [runFn, exs, ex, ev, evAnd, evOr, evs, evO, evL, evIf, evI, asg, asgs, setL, R.b, R.t, R.ne, RT.s, ofO, peek, peekT, peeks, isiD, tyOf, tyLe, truW, truD, wipe, args, binD, cmpD, eqD, bltD, intsOf, boolsOf, asInt, asBool, mk, allV, outW, itemsD, itemsW, itemsL, ixW, atI, ixN, slW, cut, sIx, freeze, mthW, mtyW, setIxW, enmD, zipD, zipP, rgI, small, szL, isNW, maxI, minI, ne1, ne2, ne3, ne4, ne5, ne6, e2]) (fun x hx => ⟨_, rfl, ?_⟩) (by show _ ≤ 16777216; omega)
    obtain ⟨w, l, r⟩ := x
    obtain ⟨g1, g2⟩ := hlk _ hx
    have hz : l.length ≤ szL := Nat.le_trans g1 (by decide)
    have hi : ev C alwX [some (.v b.D), some (.v (.int p)), some (.v (.str w.s)), some (.v (.list (l.map pD))), some (.v (.int r)), none, none] ⟨[], S⟩ = .ok (.v (.list (l.map fun y => .int y.1))) ⟨[], S⟩ := by
      refine ev_comp pD (fun y => .int y.1) l (by simp [runFn, exs, ex, ev, evAnd, evOr, evs, evO, evL, evIf, evI, asg, asgs, setL, R.b, R.t, R.ne, RT.s, ofO, peek, peekT, peeks, isiD, tyOf, tyLe, truW, truD, wipe, args, binD, cmpD, eqD, bltD, intsOf, boolsOf, asInt, asBool, mk, allV, outW, itemsD, itemsW, itemsL, ixW, atI, ixN, slW, cut, sIx, freeze, mthW, mtyW, setIxW, enmD, zipD, zipP, rgI, small, szL, isNW, maxI, minI, ne1, ne2, ne3, ne4, ne5, ne6]) (fun y hy => ⟨_, rfl, ?_⟩) hz
      simp [runFn, exs, ex, ev, evAnd, evOr, evs, evO, evL, evIf, evI, asg, asgs, setL, R.b, R.t, R.ne, RT.s, ofO, peek, peekT, peeks, isiD, tyOf, tyLe, truW, truD, wipe, args, binD, cmpD, eqD, bltD, intsOf, boolsOf, asInt, asBool, mk, allV, outW, itemsD, itemsW, itemsL, ixW, atI, ixN, slW, cut, sIx, freeze, mthW, mtyW, setIxW, enmD, zipD, zipP, rgI, small, szL, isNW, maxI, minI, ne1, ne2, ne3, ne4, ne5, ne6]
    cases w <;> simp only [Wo.s, alwE] at hi ⊢ <;> simp [alwQ, runFn, exs, ex, ev, evAnd, evOr, evs, evO, evL, evIf, evI, asg, asgs, setL, R.b, R.t, R.ne, RT.s, ofO, peek, peekT, peeks, isiD, tyOf, tyLe, truW, truD, wipe, args, binD, cmpD, eqD, bltD, intsOf, boolsOf, asInt, asBool, mk, allV, outW, itemsD, itemsW, itemsL, ixW, atI, ixN, slW, cut, sIx, freeze, mthW, mtyW, setIxW, enmD, zipD, zipP, rgI, small, szL, isNW, maxI, minI, ne1, ne2, ne3, ne4, ne5, ne6, hi, intsOf_mapf]
  rw [hf]
  simp [runFn, exs, ex, ev, evAnd, evOr, evs, evO, evL, evIf, evI, asg, asgs, setL, R.b, R.t, R.ne, RT.s, ofO, peek, peekT, peeks, isiD, tyOf, tyLe, truW, truD, wipe, args, binD, cmpD, eqD, bltD, intsOf, boolsOf, asInt, asBool, mk, allV, outW, itemsD, itemsW, itemsL, ixW, atI, ixN, slW, cut, sIx, freeze, mthW, mtyW, setIxW, enmD, zipD, zipP, rgI, small, szL, isNW, maxI, minI, ne1, ne2, ne3, ne4, ne5, ne6, e, ht, boolsOf_mapf, alw]
def cbeQ : E := .or (.cons (.cmp .ne (.var 2) (.cst (.str "or"))) (.cons (.cmp .eq (.var 4) (.cst (.int 0))) .nil))
def cbeY : E := .lst .fz (.comp [2, 3, 4] (.tp (.cons (.nm 2) (.cons (.nm 3) (.cons (.nm 4) .nil)))) (.seq (.call 19 (.cons (.var 0) (.cons (.var 1) .nil)))) .nil cbeQ)
theorem c6 (b : Big) (p : Int) (k : Nat) (S : List OS) (h : b.ok) (hk : b.dep + 5 ≤ k) (hd : b.dep ≤ 20) (h0 : 0 ≤ p) (h1 : p < acts b) : callP fs k 6 [.v b.D, .v (.int p)] S = .ok (.v (.bool (cbe b p))) ⟨[], S⟩ := by
  obtain ⟨k, rfl⟩ : ∃ j, k = j + 1 := ⟨k - 1, by omega⟩
  have e := c20 b p k S h (by omega) hd h0 h1
  have e2 := c19 b p k S h (by omega) hd h0 h1
  have hl := way_len b p
  show runFn (callP fs k) Fcan_be_end [.v b.D, .v (.int p)] S = _
  generalize callP fs k = C at e e2
  have hf : Fcan_be_end = ⟨2, 5, .cons (.ex (.call 20 (.cons (.var 0) (.cons (.var 1) .nil)))) (.cons (.ret (.blt .all (.cons cbeY .nil))) .nil)⟩ := rfl
  have ht : ev C cbeY [some (.v b.D), some (.v (.int p)), none, none, none] ⟨[], S⟩ = .ok (.v (.list ((way b p).map fun x => .bool (cbeE x)))) ⟨[], S⟩ := by
    refine ev_comp wD (fun x => .bool (cbeE x)) (way b p) (by simp [runFn, exs, ex, ev, evAnd, evOr, evs, evO, evL, evIf, evI, asg, asgs, setL, R.b, R.t, R.ne, RT.s, ofO, peek, peekT, peeks, isiD, tyOf, tyLe, truW, truD, wipe, args, binD, cmpD, eqD, bltD, intsOf, boolsOf, asInt, asBool, mk, allV, outW, itemsD, itemsW, itemsL, ixW, atI, ixN, slW, cut, sIx, freeze, mthW, mtyW, setIxW, enmD, zipD, zipP, rgI, small, szL, isNW, maxI, minI, ne1, ne2, ne3, ne4, ne5, ne6, e2]) (fun x hx => ⟨_, rfl, ?_⟩) (by show _ ≤ 16777216; omega)
    obtain ⟨w, l, r⟩ := x
    cases w <;> simp only [Wo.s, cbeE] <;> simp [cbeQ, runFn, exs, ex, ev, evAnd, evOr, evs, evO, evL, evIf, evI, asg, asgs, setL, R.b, R.t, R.ne, RT.s, ofO, peek, peekT, peeks, isiD, tyOf, tyLe, truW, truD, wipe, args, binD, cmpD, eqD, bltD, intsOf, boolsOf, asInt, asBool, mk, allV, outW, itemsD, itemsW, itemsL, ixW, atI, ixN, slW, cut, sIx, freeze, mthW, mtyW, setIxW, enmD, zipD, zipP, rgI, small, szL, isNW, maxI, minI, ne1, ne2, ne3, ne4, ne5, ne6]
  rw [hf]
  simp [runFn, exs, ex, ev, evAnd, evOr, evs, evO, evL, evIf, evI, asg, asgs, setL, R.b, R.t, R.ne, RT.s, ofO, peek, peekT, peeks, isiD, tyOf, tyLe, truW, truD, wipe, args, binD, cmpD, eqD, bltD, intsOf, boolsOf, asInt, asBool, mk, allV, outW, itemsD, itemsW, itemsL, ixW, atI, ixN, slW, cut, sIx, freeze, mthW, mtyW, setIxW, enmD, zipD, zipP, rgI, small, szL, isNW, maxI, minI, ne1, ne2, ne3, ne4, ne5, ne6, e, ht, boolsOf_mapf, cbe]
theorem c5 (b : Big) (k : Nat) (S : List OS) (h : b.ok) (hk : b.dep + 5 ≤ k) (hd : b.dep ≤ 20) : callP fs k 5 [.v b.D] S = .ok (.v (.list [.int (acts b), .int (ff b), .int (longest b), .int (shortest b)])) ⟨[], S⟩ := by
  obtain ⟨k, rfl⟩ : ∃ j, k = j + 1 := ⟨k - 1, by omega⟩
  have e1 := c11 b k S h (by omega) hd
  have e2 := c18 b k S h (by omega) hd
  have e3 := c17 b k S h (by omega) hd
  have e4 := c16 b k S h (by omega) hd
  show runFn (callP fs k) F_law_told [.v b.D] S = _
  generalize callP fs k = C at e1 e2 e3 e4
  simp [runFn, exs, ex, ev, evAnd, evOr, evs, evO, evL, evIf, evI, asg, asgs, setL, R.b, R.t, R.ne, RT.s, ofO, peek, peekT, peeks, isiD, tyOf, tyLe, truW, truD, turns, wipe, args, binD, cmpD, eqD, bltD, intsOf, boolsOf, asInt, asBool, mk, allV, outW, itemsD, itemsW, itemsL, ixW, atI, ixN, slW, cut, sIx, freeze, mthW, mtyW, setIxW, forR, enmD, zipD, zipP, rgI, small, szL, isNW, maxI, minI, ne1, ne2, ne3, ne4, ne5, ne6, F_law_told, e1, e2, e3, e4]
/-! _law_same -/
def scal : PyData → Bool
  | .int _ => true | .bool _ => true | .str _ => true | _ => false
theorem c4s (d : PyData) (hd : scal d = true) (k : Nat) (S : List OS) : callP fs (k + 1) 4 [.v d, .v d] S = .ok (.v (.bool true)) ⟨[], S⟩ := by
  show runFn (callP fs k) F_law_same [.v d, .v d] S = _
  cases d <;> first | cases hd | skip
  all_goals simp [runFn, exs, ex, ev, evAnd, evOr, evs, evO, evL, evIf, evI, asg, asgs, setL, R.b, R.t, R.ne, RT.s, ofO, peek, peekT, peeks, isiD, tyOf, tyLe, truW, truD, turns, wipe, args, binD, cmpD, eqD, bltD, intsOf, boolsOf, asInt, asBool, mk, allV, outW, itemsD, itemsW, itemsL, ixW, atI, ixN, slW, cut, sIx, freeze, mthW, mtyW, setIxW, forR, enmD, zipD, zipP, rgI, small, szL, isNW, maxI, minI, ne1, ne2, ne3, ne4, ne5, ne6, F_law_same]
theorem zipD_self (ds : List PyData) : zipD ds ds = ds.map fun d => .tuple [d, d] := by
  induction ds with
  | nil => rfl
  | cons x r ih => simp [zipD, ih]
def samX : E := .lst .fz (.comp [2, 3] (.tp (.cons (.nm 2) (.cons (.nm 3) .nil))) (.zip (.var 0) (.var 1)) .nil (.call 4 (.cons (.var 2) (.cons (.var 3) .nil))))
theorem c4l (ds : List PyData) (hs : ∀ d ∈ ds, scal d = true) (hl : ds.length ≤ 1000) (k : Nat) (S : List OS) : callP fs (k + 2) 4 [.v (.list ds), .v (.list ds)] S = .ok (.v (.bool true)) ⟨[], S⟩ := by
  have e : ∀ d ∈ ds, callP fs (k + 1) 4 [.v d, .v d] S = .ok (.v (.bool true)) ⟨[], S⟩ := fun d hd => c4s d (hs d hd) k S
  show runFn (callP fs (k + 1)) F_law_same [.v (.list ds), .v (.list ds)] S = _
  generalize callP fs (k + 1) = C at e
  have ht : ev C samX [some (.v (.list ds)), some (.v (.list ds)), none, none] ⟨[], S⟩ = .ok (.v (.list (ds.map fun _ => .bool true))) ⟨[], S⟩ := by
    refine ev_comp (fun d => .tuple [d, d]) (fun _ => .bool true) ds (by simp [runFn, exs, ex, ev, evAnd, evOr, evs, evO, evL, evIf, evI, asg, asgs, setL, R.b, R.t, R.ne, RT.s, ofO, peek, peekT, peeks, isiD, tyOf, tyLe, truW, truD, wipe, args, binD, cmpD, eqD, bltD, intsOf, boolsOf, asInt, asBool, mk, allV, outW, itemsD, itemsW, itemsL, ixW, atI, ixN, slW, cut, sIx, freeze, mthW, mtyW, setIxW, enmD, zipD, zipP, rgI, small, szL, isNW, maxI, minI, ne1, ne2, ne3, ne4, ne5, ne6, zipD_self]) (fun x hx => ⟨_, rfl, ?_⟩) (by show _ ≤ 16777216; omega)
    simp [runFn, exs, ex, ev, evAnd, evOr, evs, evO, evL, evIf, evI, asg, asgs, setL, R.b, R.t, R.ne, RT.s, ofO, peek, peekT, peeks, isiD, tyOf, tyLe, truW, truD, wipe, args, binD, cmpD, eqD, bltD, intsOf, boolsOf, asInt, asBool, mk, allV, outW, itemsD, itemsW, itemsL, ixW, atI, ixN, slW, cut, sIx, freeze, mthW, mtyW, setIxW, enmD, zipD, zipP, rgI, small, szL, isNW, maxI, minI, ne1, ne2, ne3, ne4, ne5, ne6, e x hx]
  have hf : F_law_same = ⟨2, 4, match F_law_same.body with | .cons (.ife c (.cons t (.cons (.ret (.and (.cons q _))) .nil)) .nil) r => .cons (.ife c (.cons t (.cons (.ret (.and (.cons q (.cons (.blt .all (.cons samX .nil)) .nil)))) .nil)) .nil) r | b => b⟩ := rfl
  rw [hf]
  have hb : boolsOf (ds.map fun _ => PyData.bool true) = some (ds.map fun _ => true) := boolsOf_mapf (fun _ => true) ds
  simp [runFn, exs, ex, ev, evAnd, evOr, evs, evO, evL, evIf, evI, asg, asgs, setL, R.b, R.t, R.ne, RT.s, ofO, peek, peekT, peeks, isiD, tyOf, tyLe, truW, truD, wipe, args, binD, cmpD, eqD, bltD, intsOf, boolsOf, asInt, asBool, mk, allV, outW, itemsD, itemsW, itemsL, ixW, atI, ixN, slW, cut, sIx, freeze, mthW, mtyW, setIxW, enmD, zipD, zipP, rgI, small, szL, isNW, maxI, minI, ne1, ne2, ne3, ne4, ne5, ne6, F_law_same, ht, hb]
end L

set_option maxHeartbeats 8000000
namespace L
open PySem Z
/-! draws -/
def Urn (N n : Nat) (S : List OS) : Prop := ∃ a b c : Int, S[n]? = some (.lst [.int a, .int b, .int c]) ∧ 0 ≤ b ∧ b ≤ cap 2 ∧ 0 ≤ c ∧ c ≤ N
theorem Urn.le {N M n : Nat} {S : List OS} (h : Urn N n S) (k : N ≤ M) : Urn M n S := by
  obtain ⟨a, b, c, h1, h2, h3, h4, h5⟩ := h
  exact ⟨a, b, c, h1, h2, h3, h4, by omega⟩
theorem cap2 : cap 2 = 22300745198530623141535718272648361505980416 := by decide
theorem cap20 : 1267650600228229401496703205376 ≤ cap 20 := by decide +kernel
theorem fit {x y : Int} (h1 : 0 ≤ x) (h2 : x ≤ cap 20) (h3 : 0 ≤ y) (h4 : y ≤ cap 20) : mulFit x y = true := mul_ok h1 h2 h3 h4 (by decide)
theorem cap20' : (22300745198530623141535718272648361505980416 * 4294967296 : Int) ≤ cap 20 := by decide +kernel
theorem c10 {N n : Nat} {S : List OS} (hU : Urn N n S) (hN : N ≤ 1000000) {low : Int} (h1 : 1 ≤ low) (h2 : low ≤ cap 20) (k : Nat) :
    ∃ r S', callP fs (k + 1) 10 [.ref n, .v (.int low)] S = .ok (.v (.int r)) ⟨[], S'⟩ ∧ 0 ≤ r ∧ r < low ∧ Urn (N + 1) n S' := by
  obtain ⟨a, b, c, hS, hb1, hb2, hc1, hc2⟩ := hU
  obtain ⟨hn, hg⟩ := List.getElem?_eq_some_iff.mp hS
  rw [cap2] at hb2
  have cc := cap20'
  have hd := div_ok h1 h2 (by decide)
  have hl : 0 < low := by omega
  show ∃ r S', runFn (callP fs k) F_law_take [.ref n, .v (.int low)] S = _ ∧ _
  by_cases ha : 0 < a
  · refine ⟨a % low, S.set n (.lst [.int (a / low), .int b, .int c]), ?_, (mod_in h1).1, (mod_in h1).2, a / low, b, c, by simp [hn], hb1, by rw [cap2]; exact hb2, hc1, by omega⟩
    simp [runFn, exs, ex, ev, evAnd, evOr, evs, evO, evL, evIf, evI, asg, asgs, setL, R.b, R.t, R.ne, RT.s, ofO, peek, peekT, peeks, isiD, tyOf, tyLe, truW, truD, turns, wipe, args, binD, cmpD, eqD, bltD, intsOf, boolsOf, asInt, asBool, mk, allV, outW, itemsD, itemsW, itemsL, ixW, atI, ixN, slW, cut, sIx, freeze, mthW, mtyW, setIxW, forR, enmD, zipD, zipP, rgI, small, szL, isNW, maxI, minI, ne1, ne2, ne3, ne4, ne5, ne6, F_law_take, hg, ha, hd, hl, hn]
  · have f1 : mulFit 48271 (c + 1) = true := fit (by decide) (by omega) (by omega) (by omega)
    have f2 : mulFit (b + 48271 * (c + 1)) (39373 + (c + 1)) = true := fit (by omega) (by omega) (by omega) (by omega)
    generalize ho : ((b + 48271 * (c + 1)) * (39373 + (c + 1))) % 2147483647 = o
    have o1 : 0 ≤ o ∧ o < 2147483647 := by omega
    have f3 : mulFit (o + (c + 1) + b / 1000003) (o % 40009 + 7) = true := fit (by omega) (by omega) (by omega) (by omega)
    generalize ht : ((o + (c + 1) + b / 1000003) * (o % 40009 + 7)) % 2147483629 = t
    have t1 : 0 ≤ t ∧ t < 2147483629 := by omega
    have f4 : mulFit t 48271 = true := fit (by omega) (by omega) (by omega) (by omega)
    have d1 : divFit 1000003 = true := by decide +kernel
    have d2 : divFit 64 = true := by decide +kernel
    refine ⟨((t * 48271 + o) % 2147483587 / 64) % low, S.set n (.lst [.int a, .int b, .int (c + 1)]), ?_, (mod_in h1).1, (mod_in h1).2, a, b, c + 1, by simp [hn], hb1, by rw [cap2]; exact hb2, by omega, by omega⟩
    simp [runFn, exs, ex, ev, evAnd, evOr, evs, evO, evL, evIf, evI, asg, asgs, setL, R.b, R.t, R.ne, RT.s, ofO, peek, peekT, peeks, isiD, tyOf, tyLe, truW, truD, turns, wipe, args, binD, cmpD, eqD, bltD, intsOf, boolsOf, asInt, asBool, mk, allV, outW, itemsD, itemsW, itemsL, ixW, atI, ixN, slW, cut, sIx, freeze, mthW, mtyW, setIxW, forR, enmD, zipD, zipP, rgI, small, szL, isNW, maxI, minI, ne1, ne2, ne3, ne4, ne5, ne6, F_law_take, hg, ha, hl, hn, f1, f2, ho, f3, ht, f4, d1, d2]
theorem c12 {N n : Nat} {S : List OS} (hU : Urn N n S) (hN : N ≤ 1000000) (ds : List PyData) (hl : 1 ≤ ds.length) (hl2 : ds.length ≤ 10) (k : Nat) :
    ∃ d S', d ∈ ds ∧ callP fs (k + 2) 12 [.ref n, .v (.list ds)] S = .ok (.v d) ⟨[], S'⟩ ∧ Urn (N + 1) n S' := by
  have c20 := cap20
  obtain ⟨r, S', e, r0, r1, hU'⟩ := c10 hU hN (low := (ds.length : Int)) (by omega) (by omega) k
  have hr : r.toNat < ds.length := by omega
  refine ⟨ds[r.toNat], S', List.getElem_mem hr, ?_, hU'⟩
  show runFn (callP fs (k + 1)) F_law_of [.ref n, .v (.list ds)] S = _
  generalize callP fs (k + 1) = C at e
  have hz : ds.length ≤ 16777216 := by omega
  simp [runFn, exs, ex, ev, evAnd, evOr, evs, evO, evL, evIf, evI, asg, asgs, setL, R.b, R.t, R.ne, RT.s, ofO, peek, peekT, peeks, isiD, tyOf, tyLe, truW, truD, turns, wipe, args, binD, cmpD, eqD, bltD, intsOf, boolsOf, asInt, asBool, mk, allV, outW, itemsD, itemsW, itemsL, ixW, atI, ixN, slW, cut, sIx, freeze, mthW, mtyW, setIxW, forR, enmD, zipD, zipP, rgI, small, szL, isNW, maxI, minI, ne1, ne2, ne3, ne4, ne5, ne6, F_law_of, e, r0, r1, hr]
def cost : Nat → Nat
  | 0 => 2
  | d + 1 => 6 + 3 * cost d
theorem c14 : ∀ (d : Nat) {N n : Nat} {S : List OS} (hU : Urn N n S) (hN : N + cost d ≤ 1000000) (hd : d ≤ 10) {many : Int} (h1 : 1 ≤ many) (h2 : many < 2 ^ 70) (k : Nat) (hk : d + 3 ≤ k),
    ∃ (b : Big) (S' : List OS), callP fs k 14 [.ref n, .v (.int many), .v (.int d)] S = .ok (.v b.D) ⟨[], S'⟩ ∧ b.ok ∧ b.dep ≤ d ∧ Urn (N + cost d) n S'
  | d, N, n, S, hU, hN, hd, many, h1, h2, k, hk => by
    obtain ⟨k, rfl⟩ : ∃ j, k = j + 3 := ⟨k - 3, by omega⟩
    have cc := cap20
    have leaf : ∀ {N : Nat} {S : List OS}, Urn N n S → N ≤ 1000000 → ∃ (s : Str) (S' : List OS), callP fs (k + 2) 12 [.ref n, .v (.list [.str "a", .str "b", .str "ask"])] S = .ok (.v (.str s)) ⟨[], S'⟩ ∧ Urn (N + 1) n S' := by
      intro N S hU hN
      obtain ⟨x, S', hx, e, hU'⟩ := c12 hU hN [.str "a", .str "b", .str "ask"] (by simp) (by simp) k
      simp only [List.mem_cons, List.not_mem_nil, or_false] at hx
      rcases hx with rfl | rfl | rfl <;> exact ⟨_, S', e, hU'⟩
    show ∃ (b : Big) (S' : List OS), runFn (callP fs (k + 2)) F_law_big [.ref n, .v (.int many), .v (.int d)] S = _ ∧ _
    cases d with
    | zero =>
      obtain ⟨s, S', e, hU'⟩ := leaf hU (by simp only [cost] at hN; omega)
      refine ⟨.act s, S', ?_, trivial, Nat.le_refl _, hU'.le (by simp only [cost]; omega)⟩
      generalize callP fs (k + 2) = C at e
      simp [runFn, exs, ex, ev, evAnd, evOr, evs, evO, evL, evIf, evI, asg, asgs, setL, R.b, R.t, R.ne, RT.s, ofO, peek, peekT, peeks, isiD, tyOf, tyLe, truW, truD, turns, wipe, args, binD, cmpD, eqD, bltD, intsOf, boolsOf, asInt, asBool, mk, allV, outW, itemsD, itemsW, itemsL, ixW, atI, ixN, slW, cut, sIx, freeze, mthW, mtyW, setIxW, forR, enmD, zipD, zipP, rgI, small, szL, isNW, maxI, minI, ne1, ne2, ne3, ne4, ne5, ne6, F_law_big, e, Big.D]
    | succ d =>
      have hN' : N + (6 + 3 * cost d) ≤ 1000000 := hN
      have dz : ((d + 1 : Nat) : Int) ≠ 0 := by omega
      have dm : ((d + 1 : Nat) : Int) - 1 = (d : Int) := by omega
      generalize ((d + 1 : Nat) : Int) = dd at dz dm
      obtain ⟨r3, S1, e1, _, _, hU1⟩ := c10 hU (by omega) (low := 3) (by decide) (by omega) (k + 1)
      by_cases hr3 : r3 = 0
      · subst hr3
        obtain ⟨s, S', e, hU'⟩ := leaf hU1 (by omega)
        refine ⟨.act s, S', ?_, trivial, Nat.zero_le _, hU'.le (by simp only [cost]; omega)⟩
        generalize callP fs (k + 2) = C at e e1
        simp [runFn, exs, ex, ev, evAnd, evOr, evs, evO, evL, evIf, evI, asg, asgs, setL, R.b, R.t, R.ne, RT.s, ofO, peek, peekT, peeks, isiD, tyOf, tyLe, truW, truD, turns, wipe, args, binD, cmpD, eqD, bltD, intsOf, boolsOf, asInt, asBool, mk, allV, outW, itemsD, itemsW, itemsL, ixW, atI, ixN, slW, cut, sIx, freeze, mthW, mtyW, setIxW, forR, enmD, zipD, zipP, rgI, small, szL, isNW, maxI, minI, ne1, ne2, ne3, ne4, ne5, ne6, F_law_big, e, e1, Big.D, dz]
      · obtain ⟨x, S2, hx, e2, hU2⟩ := c12 hU1 (by omega) [.str "and", .str "then", .str "or"] (by simp) (by simp) k
        obtain ⟨w, rfl⟩ : ∃ w : Wo, x = .str w.s := by
          simp only [List.mem_cons, List.not_mem_nil, or_false] at hx
          rcases hx with rfl | rfl | rfl
          · exact ⟨.a, rfl⟩
          · exact ⟨.t, rfl⟩
          · exact ⟨.o, rfl⟩
        obtain ⟨r2, S3, e3, r20, r21, hU3⟩ := c10 hU2 (by omega) (low := 2) (by decide) (by omega) (k + 1)
        by_cases hr2 : r2 = 0
        · subst hr2
          obtain ⟨rm, S4, e4, rm0, rm1, hU4⟩ := c10 hU3 (by omega) (low := many) h1 (by omega) (k + 1)
          obtain ⟨b, S5, e5, b1, b2, hU5⟩ := c14 d hU4 (by omega) (by omega) h1 h2 (k + 2) (by omega)
          refine ⟨.rep w (1 + rm) b, S5, ?_, ⟨by omega, by omega, b1⟩, Nat.succ_le_succ b2, hU5.le (by simp only [cost]; omega)⟩
          generalize callP fs (k + 2) = C at e1 e2 e3 e4 e5
          simp [runFn, exs, ex, ev, evAnd, evOr, evs, evO, evL, evIf, evI, asg, asgs, setL, R.b, R.t, R.ne, RT.s, ofO, peek, peekT, peeks, isiD, tyOf, tyLe, truW, truD, turns, wipe, args, binD, cmpD, eqD, bltD, intsOf, boolsOf, asInt, asBool, mk, allV, outW, itemsD, itemsW, itemsL, ixW, atI, ixN, slW, cut, sIx, freeze, mthW, mtyW, setIxW, forR, enmD, zipD, zipP, rgI, small, szL, isNW, maxI, minI, ne1, ne2, ne3, ne4, ne5, ne6, F_law_big, e1, e2, e3, e4, e5, Big.D, dz, dm, hr3]
        · obtain ⟨r5, S4, e4, r50, r51, hU4⟩ := c10 hU3 (by omega) (low := 2) (by decide) (by omega) (k + 1)
          obtain ⟨b, S5, e5, b1, b2, hU5⟩ := c14 d hU4 (by omega) (by omega) h1 h2 (k + 2) (by omega)
          obtain ⟨c, S6, e6, g1, g2, hU6⟩ := c14 d hU5 (by omega) (by omega) h1 h2 (k + 2) (by omega)
          by_cases hr5 : r5 = 0
          · subst hr5
            refine ⟨.two w b c, S6, ?_, ⟨b1, g1⟩, Nat.succ_le_succ (Nat.max_le.mpr ⟨b2, g2⟩), hU6.le (by simp only [cost]; omega)⟩
            generalize callP fs (k + 2) = C at e1 e2 e3 e4 e5 e6
            simp [runFn, exs, ex, ev, evAnd, evOr, evs, evO, evL, evIf, evI, asg, asgs, setL, R.b, R.t, R.ne, RT.s, ofO, peek, peekT, peeks, isiD, tyOf, tyLe, truW, truD, turns, wipe, args, binD, cmpD, eqD, bltD, intsOf, boolsOf, asInt, asBool, mk, allV, outW, itemsD, itemsW, itemsL, ixW, atI, ixN, slW, cut, sIx, freeze, mthW, mtyW, setIxW, forR, enmD, zipD, zipP, rgI, small, szL, isNW, maxI, minI, ne1, ne2, ne3, ne4, ne5, ne6, F_law_big, e1, e2, e3, e4, e5, e6, Big.D, dz, dm, hr3, hr2]
          · have : r5 = 1 := by omega
            subst this
            obtain ⟨x, S7, e7, i1, i2, hU7⟩ := c14 d hU6 (by omega) (by omega) h1 h2 (k + 2) (by omega)
            refine ⟨.three w b c x, S7, ?_, ⟨b1, g1, i1⟩, Nat.succ_le_succ (Nat.max_le.mpr ⟨Nat.max_le.mpr ⟨b2, g2⟩, i2⟩), hU7.le (by simp only [cost]; omega)⟩
            generalize callP fs (k + 2) = C at e1 e2 e3 e4 e5 e6 e7
            simp [runFn, exs, ex, ev, evAnd, evOr, evs, evO, evL, evIf, evI, asg, asgs, setL, R.b, R.t, R.ne, RT.s, ofO, peek, peekT, peeks, isiD, tyOf, tyLe, truW, truD, turns, wipe, args, binD, cmpD, eqD, bltD, intsOf, boolsOf, asInt, asBool, mk, allV, outW, itemsD, itemsW, itemsL, ixW, atI, ixN, slW, cut, sIx, freeze, mthW, mtyW, setIxW, forR, enmD, zipD, zipP, rgI, small, szL, isNW, maxI, minI, ne1, ne2, ne3, ne4, ne5, ne6, F_law_big, e1, e2, e3, e4, e5, e6, e7, Big.D, dz, dm, hr3, hr2]
theorem c15 (k : Nat) (S : List OS) : callP fs (k + 20) 15 [] S = .ok (.v (.bool true)) ⟨[], S⟩ := by kernel_rfl
end L

set_option maxHeartbeats 2000000
namespace L
open PySem Z
/-! the mathematics -/
theorem pk_self (m : Bool) (x : Int) : pk m x x = x := by cases m <;> simp [pk]
theorem manyL_one (w : Wo) (p : Int × Int) (m : Bool) : manyL w 1 p m = p := by
  obtain ⟨x, y⟩ := p
  cases w <;> simp [manyL, pk_self]
theorem lens_two (m : Bool) (w : Wo) (b c : Big) : lens m (.two w b c) = joinL w (lens m b) (lens m c) m := by
  show joinL w (manyL w 1 (lens m b) m) (manyL w 1 (lens m c) m) m = _
  rw [manyL_one, manyL_one]
theorem longest_then (b c : Big) : longest (.two .t b c) = longest b + longest c := by
  unfold longest
  rw [lens_two]
  generalize lens true b = p
  generalize lens true c = q
  simp only [joinL, pk, if_true]
  repeat' split
  all_goals omega
theorem shortest_then (b c : Big) : shortest (.two .t b c) = shortest b + shortest c := by
  unfold shortest
  rw [lens_two]
  generalize lens false b = p
  generalize lens false c = q
  simp only [joinL, pk, Bool.false_eq_true, if_false]
  repeat' split
  all_goals omega
theorem longest_le (w : Wo) (b c : Big) (hb : b.ok) (hc : c.ok) : longest (.two w b c) ≤ longest (.two .t b c) := by
  rw [longest_then]
  unfold longest
  rw [lens_two]
  obtain ⟨a1, _, b1, _⟩ := lens_cap true b hb
  obtain ⟨c1, _, d1, _⟩ := lens_cap true c hc
  generalize lens true b = p at *
  generalize lens true c = q at *
  cases w <;> simp only [joinL, pk, if_true] <;> repeat' split
  all_goals omega
theorem shortest_le (w : Wo) (b c : Big) (hb : b.ok) (hc : c.ok) : shortest b ≤ shortest (.two w b c) := by
  unfold shortest
  rw [lens_two]
  obtain ⟨a1, _, b1, _⟩ := lens_cap false b hb
  obtain ⟨c1, _, d1, _⟩ := lens_cap false c hc
  generalize lens false b = p at *
  generalize lens false c = q at *
  cases w <;> simp only [joinL, pk, Bool.false_eq_true, if_false] <;> repeat' split
  all_goals omega
/-! two -/
theorem at_two1 (w : Wo) (b c : Big) {p : Int} (h0 : 0 ≤ p) (h1 : p < acts b) : atB (.two w b c) p = atB b p := by
  unfold atB
  rw [if_pos h1, Int.emod_eq_of_lt h0 h1]
  cases b <;> rfl
theorem at_two2 (w : Wo) (b c : Big) {q : Int} (h0 : 0 ≤ q) (h1 : q < acts c) : atB (.two w b c) (acts b + q) = atB c q := by
  show (if acts b + q < acts b then _ else _) = _
  rw [if_neg (by omega), show acts b + q - acts b = q by omega, Int.emod_eq_of_lt h0 h1]
theorem way_two1 (w : Wo) (b c : Big) {p : Int} (h0 : 0 ≤ p) (h1 : p < acts b) : way (.two w b c) p = (w, [(0, b)], 1) :: way b p := by
  show (if p < acts b then _ else _) = _
  rw [if_pos h1, Int.emod_eq_of_lt h0 h1, Int.ediv_eq_zero_of_lt h0 h1]
  rfl
theorem way_two2 (w : Wo) (b c : Big) {q : Int} (h0 : 0 ≤ q) (h1 : q < acts c) : way (.two w b c) (acts b + q) = (w, [(1, b), (0, c)], 0) :: way c q := by
  show (if acts b + q < acts b then _ else _) = _
  rw [if_neg (by omega), show acts b + q - acts b = q by omega, Int.emod_eq_of_lt h0 h1, Int.ediv_eq_zero_of_lt h0 h1]
  rfl
theorem ftd_two1 (w : Wo) (b c : Big) {p : Int} (h0 : 0 ≤ p) (h1 : p < acts b) : ftd (.two w b c) p = ftd b p := by
  unfold ftd
  rw [way_two1 w b c h0 h1]
  cases w <;> simp [ftdE]
theorem ftd_two2 (w : Wo) (b c : Big) {q : Int} (h0 : 0 ≤ q) (h1 : q < acts c) : ftd (.two w b c) (acts b + q) = ftd c q + (match w with | .o => ff b | _ => 0) := by
  unfold ftd
  rw [way_two2 w b c h0 h1]
  cases w <;> simp [ftdE]
  omega
theorem alw_two1 (w : Wo) (b c : Big) {p : Int} (h0 : 0 ≤ p) (h1 : p < acts b) : alw (.two w b c) p = alw b p := by
  unfold alw
  rw [way_two1 w b c h0 h1]
  cases w <;> simp [alwE]
theorem alw_two2 (w : Wo) (b c : Big) {q : Int} (h0 : 0 ≤ q) (h1 : q < acts c) : alw (.two w b c) (acts b + q) = match w with | .t => alw c q | _ => false := by
  unfold alw
  rw [way_two2 w b c h0 h1]
  cases w <;> simp [alwE]
theorem cbe_two1 (w : Wo) (b c : Big) {p : Int} (h0 : 0 ≤ p) (h1 : p < acts b) : cbe (.two w b c) p = match w with | .o => false | _ => cbe b p := by
  unfold cbe
  rw [way_two1 w b c h0 h1]
  cases w <;> simp [cbeE]
theorem cbe_two2 (w : Wo) (b c : Big) {q : Int} (h0 : 0 ≤ q) (h1 : q < acts c) : cbe (.two w b c) (acts b + q) = cbe c q := by
  unfold cbe
  rw [way_two2 w b c h0 h1]
  cases w <;> simp [cbeE]
/-! one whole, cut in two -/
theorem mul_ge {n x : Int} (h : 0 ≤ n) (k : 0 ≤ x) : 0 ≤ n * x := Int.mul_nonneg h k
theorem lens_cut (w : Wo) {n m A : Int} {p : Int × Int} (k : Bool) (h : In p A) (h1 : 1 ≤ m) (h2 : m ≤ n - 1) : joinL w (manyL w m p k) (manyL w (n - m) p k) k = manyL w n p k := by
  obtain ⟨P, F⟩ := p
  obtain ⟨a1, _, b1, _⟩ := h
  simp only at a1 b1
  have x1 := mul_ge (n := m - 1) (x := P) (by omega) (by omega)
  have x2 := mul_ge (n := n - m - 1) (x := P) (by omega) (by omega)
  have y1 := mul_ge (n := m - 1) (x := F) (by omega) (by omega)
  have y2 := mul_ge (n := n - m - 1) (x := F) (by omega) (by omega)
  simp only [Int.sub_mul, Int.one_mul] at x1 x2 y1 y2
  cases w
  · simp only [joinL, manyL, pk, Int.sub_mul, Int.one_mul, Prod.mk.injEq]
    refine ⟨by omega, ?_⟩
    cases k <;> simp only [Bool.false_eq_true, if_false, if_true] <;> repeat' split
    all_goals omega
  · have mono : ∀ {x y : Int}, x ≤ y → m * x ≤ m * y ∧ (n - m) * x ≤ (n - m) * y := fun h => ⟨Int.mul_le_mul_of_nonneg_left h (by omega), Int.mul_le_mul_of_nonneg_left h (by omega)⟩
    have c1 : F ≤ P → m * F ≤ m * P ∧ n * F - m * F ≤ n * P - m * P := fun h => by have := mono h; simp only [Int.sub_mul] at this; exact this
    have c2 : P ≤ F → m * P ≤ m * F ∧ n * P - m * P ≤ n * F - m * F := fun h => by have := mono h; simp only [Int.sub_mul] at this; exact this
    cases k
    · by_cases hh : F < P
      · have e : pk false P F = F := by simp [pk, hh]
        have := c1 (by omega)
        simp only [joinL, manyL, e]
        simp only [pk, Int.sub_mul, Int.one_mul, Prod.mk.injEq, Bool.false_eq_true, if_false]
        refine ⟨by omega, ?_⟩
        repeat' split
        all_goals omega
      · have e : pk false P F = P := by simp [pk, hh]
        have := c2 (by omega)
        simp only [joinL, manyL, e]
        simp only [pk, Int.sub_mul, Int.one_mul, Prod.mk.injEq, Bool.false_eq_true, if_false]
        refine ⟨by omega, ?_⟩
        repeat' split
        all_goals omega
    · by_cases hh : P < F
      · have e : pk true P F = F := by simp [pk, hh]
        have := c2 (by omega)
        simp only [joinL, manyL, e]
        simp only [pk, Int.sub_mul, Int.one_mul, Prod.mk.injEq, if_true]
        refine ⟨by omega, ?_⟩
        repeat' split
        all_goals omega
      · have e : pk true P F = P := by simp [pk, hh]
        have := c1 (by omega)
        simp only [joinL, manyL, e]
        simp only [pk, Int.sub_mul, Int.one_mul, Prod.mk.injEq, if_true]
        refine ⟨by omega, ?_⟩
        repeat' split
        all_goals omega
  · simp only [joinL, manyL, pk, Int.sub_mul, Int.one_mul, Prod.mk.injEq]
    refine ⟨?_, by omega⟩
    cases k <;> simp only [Bool.false_eq_true, if_false, if_true] <;> repeat' split
    all_goals omega
def whole (w : Wo) (n : Int) (b : Big) : Big := .rep w n b
def cutB (w : Wo) (m n : Int) (b : Big) : Big := .two w (.rep w m b) (.rep w (n - m) b)
section
variable {w : Wo} {n m : Int} {b : Big}
theorem acts_cut : acts (cutB w m n b) = acts (whole w n b) := by
  show m * acts b + (n - m) * acts b = n * acts b
  rw [Int.sub_mul]
  omega
theorem ff_cut : ff (cutB w m n b) = ff (whole w n b) := by
  cases w <;> simp only [cutB, whole, ff]
  · omega
  · omega
  · rw [Int.sub_mul]
    omega
theorem lens_cutB (hb : b.ok) (h1 : 1 ≤ m) (h2 : m ≤ n - 1) (k : Bool) : lens k (cutB w m n b) = lens k (whole w n b) := by
  show lens k (.two w (.rep w m b) (.rep w (n - m) b)) = manyL w n (lens k b) k
  rw [lens_two]
  exact lens_cut w k (lens_cap k b hb) h1 h2
theorem longest_cut (hb : b.ok) (h1 : 1 ≤ m) (h2 : m ≤ n - 1) : longest (cutB w m n b) = longest (whole w n b) := by
  unfold longest
  rw [lens_cutB hb h1 h2]
theorem shortest_cut (hb : b.ok) (h1 : 1 ≤ m) (h2 : m ≤ n - 1) : shortest (cutB w m n b) = shortest (whole w n b) := by
  unfold shortest
  rw [lens_cutB hb h1 h2]
theorem lens_rep1 (k : Bool) : lens k (.rep w 1 b) = lens k b := manyL_one w (lens k b) k
theorem ff_rep1 : ff (.rep w 1 b) = ff b := by cases w <;> simp [ff]
theorem acts_rep1 : acts (.rep w 1 b) = acts b := by simp [acts]
/-- where p lies in the cut -/
theorem cut_lo (hb : b.ok) {p : Int} (h0 : 0 ≤ p) (h1 : p < m * acts b) : p % (m * acts b) = p ∧ p / (m * acts b) = 0 := ⟨Int.emod_eq_of_lt h0 h1, Int.ediv_eq_zero_of_lt h0 h1⟩
theorem way_lo (hb : b.ok) {p : Int} (h0 : 0 ≤ p) (h1 : p < m * acts b) : way (cutB w m n b) p = (w, [(0, .rep w m b)], 1) :: (w, [(p / acts b, b)], m - 1 - p / acts b) :: way b (p % acts b) := by
  have h1' : p < acts (.rep w m b) := h1
  show (if p < acts (.rep w m b) then _ else _) = _
  rw [if_pos h1', Int.emod_eq_of_lt h0 h1', Int.ediv_eq_zero_of_lt h0 h1']
  rfl
theorem hi_div (hb : b.ok) (p : Int) : (p - m * acts b) / acts b = p / acts b - m ∧ (p - m * acts b) % acts b = p % acts b := by
  have := (acts_cap b hb).1
  constructor
  · rw [Int.sub_mul_ediv_right _ _ (by omega)]
  · rw [Int.sub_mul_emod_self_right]
theorem way_hi (hb : b.ok) {p : Int} (h0 : m * acts b ≤ p) (h1 : p < n * acts b) : way (cutB w m n b) p = (w, [(1, .rep w m b), (0, .rep w (n - m) b)], 0) :: (w, [(p / acts b - m, b)], n - m - 1 - (p / acts b - m)) :: way b (p % acts b) := by
  have e : (n - m) * acts b = n * acts b - m * acts b := Int.sub_mul ..
  have h2 : p - m * acts b < acts (.rep w (n - m) b) := by show _ < (n - m) * acts b; omega
  have h3 : ¬ p < acts (.rep w m b) := by show ¬ p < m * acts b; omega
  show (if p < acts (.rep w m b) then _ else _) = _
  rw [if_neg h3]
  show (w, [(1, Big.rep w m b), ((p - m * acts b) / acts (.rep w (n - m) b), .rep w (n - m) b)], - ((p - m * acts b) / acts (.rep w (n - m) b))) :: way (.rep w (n - m) b) ((p - m * acts b) % acts (.rep w (n - m) b)) = _
  rw [Int.emod_eq_of_lt (by omega) h2, Int.ediv_eq_zero_of_lt (by omega) h2]
  show _ :: (w, [((p - m * acts b) / acts b, b)], n - m - 1 - (p - m * acts b) / acts b) :: way b ((p - m * acts b) % acts b) = _
  rw [(hi_div hb p).1, (hi_div hb p).2]
  rfl
theorem at_cut (hb : b.ok) {p : Int} (h0 : 0 ≤ p) (h1 : p < n * acts b) : atB (cutB w m n b) p = atB (whole w n b) p := by
  show (if p < acts (.rep w m b) then _ else _) = atB b (p % acts b)
  by_cases h : p < acts (.rep w m b)
  · rw [if_pos h, Int.emod_eq_of_lt h0 h]
    rfl
  · have h' : ¬ p < m * acts b := h
    have e : (n - m) * acts b = n * acts b - m * acts b := Int.sub_mul ..
    have h2 : p - m * acts b < acts (.rep w (n - m) b) := by show _ < (n - m) * acts b; omega
    rw [if_neg h]
    show atB (.rep w (n - m) b) ((p - m * acts b) % acts (.rep w (n - m) b)) = _
    rw [Int.emod_eq_of_lt (by omega) h2]
    show atB b ((p - m * acts b) % acts b) = _
    rw [(hi_div hb p).2]
theorem div_lt (hb : b.ok) {p k : Int} (h : p < k * acts b) : p / acts b < k := Int.ediv_lt_of_lt_mul (by have := (acts_cap b hb).1; omega) h
theorem le_div (hb : b.ok) {p k : Int} (h : k * acts b ≤ p) : k ≤ p / acts b := Int.le_ediv_of_mul_le (by have := (acts_cap b hb).1; omega) h
theorem way_whole (p : Int) : way (whole w n b) p = (w, [(p / acts b, b)], n - 1 - p / acts b) :: way b (p % acts b) := rfl
theorem cut_ftd (hb : b.ok) {p : Int} (h0 : 0 ≤ p) (h1 : p < n * acts b) : ftd (cutB w m n b) p = ftd (whole w n b) p := by
  unfold ftd
  rw [way_whole]
  by_cases h : p < m * acts b
  · rw [way_lo hb h0 h]
    cases w <;> simp [ftdE]
  · rw [way_hi hb (by omega) h1]
    cases w <;> simp [ftdE, ff, Int.sub_mul]
    omega
theorem cut_alw (hb : b.ok) (hm : 1 ≤ m) {p : Int} (h0 : 0 ≤ p) (h1 : p < n * acts b) : alw (cutB w m n b) p = alw (whole w n b) p := by
  unfold alw
  rw [way_whole]
  by_cases h : p < m * acts b
  · rw [way_lo hb h0 h]
    cases w <;> simp [alwE]
  · rw [way_hi hb (by omega) h1]
    have := le_div hb (p := p) (k := m) (by omega)
    have e : ¬ p / acts b = 0 := by omega
    cases w <;> simp [alwE, e]
theorem cut_cbe (hb : b.ok) (hm : m ≤ n - 1) {p : Int} (h0 : 0 ≤ p) (h1 : p < n * acts b) : cbe (cutB w m n b) p = cbe (whole w n b) p := by
  unfold cbe
  rw [way_whole]
  by_cases h : p < m * acts b
  · rw [way_lo hb h0 h]
    have := div_lt hb h
    have e : ¬ n - 1 - p / acts b = 0 := by omega
    cases w <;> simp [cbeE, e]
  · rw [way_hi hb (by omega) h1]
    have e : (n - m - 1 - (p / acts b - m) = 0) = (n - 1 - p / acts b = 0) := by
      apply propext
      constructor <;> intro h <;> omega
    cases w <;> simp [cbeE, e]
end
end L

set_option maxHeartbeats 4000000
namespace L
open PySem Z
def trB : TS := match F_law_two_right.body with | .cons _ (.cons _ (.cons (.forT _ _ b) _)) => b | _ => .nil
theorem trB_eq : trB = .cons (.asg (.nm 8) (.tup (.cons (.var 7) (.cons (.var 1) (.cons (.var 2) .nil))))) (.cons (.asg (.nm 9) (.lst .fz (.disp (.cons (.call 18 (.cons (.var 1) .nil)) (.cons (.call 18 (.cons (.var 2) .nil)) .nil))))) (.cons (.asg (.nm 10) (.lst .fz (.disp (.cons (.call 11 (.cons (.var 8) .nil)) (.cons (.call 9 (.cons (.var 8) (.cons (.var 5) .nil))) (.cons (.call 9 (.cons (.var 8) (.cons (.bin .add (.var 3) (.var 6)) .nil))) .nil)))))) (.cons (.asg (.nm 10) (.bin .add (.var 10) (.lst .fz (.disp (.cons (.call 18 (.cons (.var 8) .nil)) .nil))))) (.cons (.asg (.nm 11) (.lst .fz (.disp (.cons (.bin .add (.var 3) (.var 4)) (.cons (.call 9 (.cons (.var 1) (.cons (.var 5) .nil))) (.cons (.call 9 (.cons (.var 2) (.cons (.var 6) .nil))) .nil)))))) (.cons (.asg (.nm 11) (.bin .add (.var 11) (.lst .fz (.disp (.cons (.ite (.cmp .eq (.var 7) (.cst (.str "or"))) (.blt .sum (.cons (.var 9) .nil)) (.blt .min (.cons (.var 9) .nil))) .nil))))) (.cons (.asg (.nm 10) (.bin .add (.var 10) (.lst .fz (.disp (.cons (.call 8 (.cons (.var 8) (.cons (.var 5) .nil))) (.cons (.call 8 (.cons (.var 8) (.cons (.bin .add (.var 3) (.var 6)) .nil))) .nil)))))) (.cons (.asg (.nm 11) (.bin .add (.var 11) (.lst .fz (.disp (.cons (.call 8 (.cons (.var 1) (.cons (.var 5) .nil))) .nil))))) (.cons (.asg (.nm 11) (.bin .add (.var 11) (.lst .fz (.disp (.cons (.bin .add (.call 8 (.cons (.var 2) (.cons (.var 6) .nil))) (.bin .mul (.ix (.var 9) (.cst (.int 0))) (.blt .int (.cons (.cmp .eq (.var 7) (.cst (.str "or"))) .nil)))) .nil))))) (.cons (.asg (.nm 10) (.bin .add (.var 10) (.lst .fz (.disp (.cons (.call 7 (.cons (.var 8) (.cons (.var 5) .nil))) (.cons (.call 7 (.cons (.var 8) (.cons (.bin .add (.var 3) (.var 6)) .nil))) .nil)))))) (.cons (.asg (.nm 11) (.bin .add (.var 11) (.lst .fz (.disp (.cons (.call 7 (.cons (.var 1) (.cons (.var 5) .nil))) (.cons (.and (.cons (.call 7 (.cons (.var 2) (.cons (.var 6) .nil))) (.cons (.cmp .eq (.var 7) (.cst (.str "then"))) .nil))) .nil)))))) (.cons (.asg (.nm 10) (.bin .add (.var 10) (.lst .fz (.disp (.cons (.call 6 (.cons (.var 8) (.cons (.var 5) .nil))) (.cons (.call 6 (.cons (.var 8) (.cons (.bin .add (.var 3) (.var 6)) .nil))) .nil)))))) (.cons (.asg (.nm 11) (.bin .add (.var 11) (.lst .fz (.disp (.cons (.and (.cons (.call 6 (.cons (.var 1) (.cons (.var 5) .nil))) (.cons (.cmp .ne (.var 7) (.cst (.str "or"))) .nil))) (.cons (.call 6 (.cons (.var 2) (.cons (.var 6) .nil))) .nil)))))) (.cons (.ife (.not (.call 4 (.cons (.var 10) (.cons (.var 11) .nil)))) (.cons (.ret (.cst (.bool false))) .nil) .nil) (.cons (.ife (.and (.cons (.cmp .eq (.var 7) (.cst (.str "then"))) (.cons (.cmp .ne (.call 17 (.cons (.var 8) .nil)) (.bin .add (.call 17 (.cons (.var 1) .nil)) (.call 17 (.cons (.var 2) .nil)))) .nil))) (.cons (.ret (.cst (.bool false))) .nil) .nil) (.cons (.ife (.and (.cons (.cmp .eq (.var 7) (.cst (.str "then"))) (.cons (.cmp .ne (.call 16 (.cons (.var 8) .nil)) (.bin .add (.call 16 (.cons (.var 1) .nil)) (.call 16 (.cons (.var 2) .nil)))) .nil))) (.cons (.ret (.cst (.bool false))) .nil) .nil) (.cons (.ife (.or (.cons (.cmp .gt (.call 17 (.cons (.var 8) .nil)) (.call 17 (.cons (.tup (.cons (.cst (.str "then")) (.cons (.var 1) (.cons (.var 2) .nil)))) .nil))) (.cons (.cmp .lt (.call 16 (.cons (.var 8) .nil)) (.call 16 (.cons (.var 1) .nil))) .nil))) (.cons (.ret (.cst (.bool false))) .nil) .nil) .nil)))))))))))))))) := rfl
def orF (w : Wo) (x : Int) : Int := match w with | .o => x | _ => 0
def thB (w : Wo) (x : Bool) : Bool := match w with | .t => x | _ => false
def noB (w : Wo) (x : Bool) : Bool := match w with | .o => false | _ => x
structure Two (C : Orc) (S : List OS) (w : Wo) (b c : Big) (p q : Int) : Prop where
  b1 : C 11 [.v (.tuple [.str w.s, b.D, c.D])] S = .ok (.v (.int (acts b + acts c))) ⟨[], S⟩
  b2 : C 9 [.v (.tuple [.str w.s, b.D, c.D]), .v (.int p)] S = .ok (.v (.str (atB b p))) ⟨[], S⟩
  b3 : C 9 [.v (.tuple [.str w.s, b.D, c.D]), .v (.int (acts b + q))] S = .ok (.v (.str (atB c q))) ⟨[], S⟩
  b4 : C 18 [.v (.tuple [.str w.s, b.D, c.D])] S = .ok (.v (.int (ff (.two w b c)))) ⟨[], S⟩
  b5 : C 8 [.v (.tuple [.str w.s, b.D, c.D]), .v (.int p)] S = .ok (.v (.int (ftd b p))) ⟨[], S⟩
  b6 : C 8 [.v (.tuple [.str w.s, b.D, c.D]), .v (.int (acts b + q))] S = .ok (.v (.int (ftd c q + orF w (ff b)))) ⟨[], S⟩
  b7 : C 7 [.v (.tuple [.str w.s, b.D, c.D]), .v (.int p)] S = .ok (.v (.bool (alw b p))) ⟨[], S⟩
  b8 : C 7 [.v (.tuple [.str w.s, b.D, c.D]), .v (.int (acts b + q))] S = .ok (.v (.bool (thB w (alw c q)))) ⟨[], S⟩
  b9 : C 6 [.v (.tuple [.str w.s, b.D, c.D]), .v (.int p)] S = .ok (.v (.bool (noB w (cbe b p)))) ⟨[], S⟩
  b10 : C 6 [.v (.tuple [.str w.s, b.D, c.D]), .v (.int (acts b + q))] S = .ok (.v (.bool (cbe c q))) ⟨[], S⟩
  b11 : C 17 [.v (.tuple [.str w.s, b.D, c.D])] S = .ok (.v (.int (longest (.two w b c)))) ⟨[], S⟩
  b12 : C 16 [.v (.tuple [.str w.s, b.D, c.D])] S = .ok (.v (.int (shortest (.two w b c)))) ⟨[], S⟩
  t : C 17 [.v (.tuple [.str "then", b.D, c.D])] S = .ok (.v (.int (longest b + longest c))) ⟨[], S⟩
  m2 : C 9 [.v b.D, .v (.int p)] S = .ok (.v (.str (atB b p))) ⟨[], S⟩
  m3 : C 9 [.v c.D, .v (.int q)] S = .ok (.v (.str (atB c q))) ⟨[], S⟩
  m4 : C 18 [.v b.D] S = .ok (.v (.int (ff b))) ⟨[], S⟩
  m4' : C 18 [.v c.D] S = .ok (.v (.int (ff c))) ⟨[], S⟩
  m5 : C 8 [.v b.D, .v (.int p)] S = .ok (.v (.int (ftd b p))) ⟨[], S⟩
  m6 : C 8 [.v c.D, .v (.int q)] S = .ok (.v (.int (ftd c q))) ⟨[], S⟩
  m7 : C 7 [.v b.D, .v (.int p)] S = .ok (.v (.bool (alw b p))) ⟨[], S⟩
  m8 : C 7 [.v c.D, .v (.int q)] S = .ok (.v (.bool (alw c q))) ⟨[], S⟩
  m9 : C 6 [.v b.D, .v (.int p)] S = .ok (.v (.bool (cbe b p))) ⟨[], S⟩
  m10 : C 6 [.v c.D, .v (.int q)] S = .ok (.v (.bool (cbe c q))) ⟨[], S⟩
  m11 : C 17 [.v b.D] S = .ok (.v (.int (longest b))) ⟨[], S⟩
  m11' : C 17 [.v c.D] S = .ok (.v (.int (longest c))) ⟨[], S⟩
  m12 : C 16 [.v b.D] S = .ok (.v (.int (shortest b))) ⟨[], S⟩
  m12' : C 16 [.v c.D] S = .ok (.v (.int (shortest c))) ⟨[], S⟩
  s : ∀ ds, (∀ d ∈ ds, scal d = true) → ds.length ≤ 1000 → C 4 [.v (.list ds), .v (.list ds)] S = .ok (.v (.bool true)) ⟨[], S⟩
theorem two_of {w : Wo} {b c : Big} {p q : Int} (hb : b.ok) (hc : c.ok) (db : b.dep ≤ 10) (dc : c.dep ≤ 10) (p0 : 0 ≤ p) (p1 : p < acts b) (q0 : 0 ≤ q) (q1 : q < acts c) (k : Nat) (hk : 20 ≤ k) (S : List OS) : Two (callP fs k) S w b c p q := by
  have hd : (Big.two w b c).dep ≤ 11 := by show max b.dep c.dep + 1 ≤ 11; omega
  have hd2 : (Big.two .t b c).dep ≤ 11 := hd
  have ho : (Big.two w b c).ok := ⟨hb, hc⟩
  have a1 := (acts_cap b hb).1
  have a2 := (acts_cap c hc).1
  have ea : acts (.two w b c) = acts b + acts c := rfl
  have p2 : p < acts (.two w b c) := by omega
  have q2 : acts b + q < acts (.two w b c) := by omega
  refine { b1 := ?_, b2 := ?_, b3 := ?_, b4 := ?_, b5 := ?_, b6 := ?_, b7 := ?_, b8 := ?_, b9 := ?_, b10 := ?_, b11 := ?_, b12 := ?_, t := ?_, m2 := ?_, m3 := ?_, m4 := ?_, m4' := ?_, m5 := ?_, m6 := ?_, m7 := ?_, m8 := ?_, m9 := ?_, m10 := ?_, m11 := ?_, m11' := ?_, m12 := ?_, m12' := ?_, s := ?_ }
  · exact c11 (.two w b c) k S ho (by omega) (by omega)
  · rw [← at_two1 w b c p0 p1]; exact c9 (.two w b c) p k S ho (by omega) (by omega) p0 p2
  · rw [← at_two2 w b c q0 q1]; exact c9 (.two w b c) (acts b + q) k S ho (by omega) (by omega) (by omega) q2
  · exact c18 (.two w b c) k S ho (by omega) (by omega)
  · rw [← ftd_two1 w b c p0 p1]; exact c8 (.two w b c) p k S ho (by omega) (by omega) p0 p2
  · rw [show ftd c q + orF w (ff b) = ftd (.two w b c) (acts b + q) by rw [ftd_two2 w b c q0 q1]; cases w <;> rfl]; exact c8 (.two w b c) (acts b + q) k S ho (by omega) (by omega) (by omega) q2
  · rw [← alw_two1 w b c p0 p1]; exact c7 (.two w b c) p k S ho (by omega) (by omega) p0 p2
  · rw [show thB w (alw c q) = alw (.two w b c) (acts b + q) by rw [alw_two2 w b c q0 q1]; cases w <;> rfl]; exact c7 (.two w b c) (acts b + q) k S ho (by omega) (by omega) (by omega) q2
  · rw [show noB w (cbe b p) = cbe (.two w b c) p by rw [cbe_two1 w b c p0 p1]; cases w <;> rfl]; exact c6 (.two w b c) p k S ho (by omega) (by omega) p0 p2
  · rw [← cbe_two2 w b c q0 q1]; exact c6 (.two w b c) (acts b + q) k S ho (by omega) (by omega) (by omega) q2
  · exact c17 (.two w b c) k S ho (by omega) (by omega)
  · exact c16 (.two w b c) k S ho (by omega) (by omega)
  · rw [← longest_then]; exact c17 (.two .t b c) k S ho (by omega) (by omega)
  · exact c9 b p k S hb (by omega) (by omega) p0 p1
  · exact c9 c q k S hc (by omega) (by omega) q0 q1
  · exact c18 b k S hb (by omega) (by omega)
  · exact c18 c k S hc (by omega) (by omega)
  · exact c8 b p k S hb (by omega) (by omega) p0 p1
  · exact c8 c q k S hc (by omega) (by omega) q0 q1
  · exact c7 b p k S hb (by omega) (by omega) p0 p1
  · exact c7 c q k S hc (by omega) (by omega) q0 q1
  · exact c6 b p k S hb (by omega) (by omega) p0 p1
  · exact c6 c q k S hc (by omega) (by omega) q0 q1
  · exact c17 b k S hb (by omega) (by omega)
  · exact c17 c k S hc (by omega) (by omega)
  · exact c16 b k S hb (by omega) (by omega)
  · exact c16 c k S hc (by omega) (by omega)
  · intro ds h1 h2
    obtain ⟨k, rfl⟩ : ∃ j, k = j + 2 := ⟨k - 2, by omega⟩
    exact c4l ds h1 h2 k S
theorem exs_nx {C : Orc} {t : T} {r : TS} {ρ ρ' : Z.Env} {m m' : Mem} (h : ex C t ρ m = .nx ρ' m') : exs C (.cons t r) ρ m = exs C r ρ' m' := by
  simp only [exs, h, RT.s]
theorem tr_a {C : Orc} {S : List OS} {b c : Big} {p q : Int} (hb : b.ok) (hc : c.ok) (db : b.dep ≤ 10) (T : Two C S .a b c p q) (u y8 y9 y10 y11 : Option W) :
    ∃ z8 z9 z10 z11, exs C trB [u, some (.v b.D), some (.v c.D), some (.v (.int (acts b))), some (.v (.int (acts c))), some (.v (.int p)), some (.v (.int q)), some (.v (.str (Wo.s .a))), y8, y9, y10, y11] ⟨[], S⟩
      = .nx [u, some (.v b.D), some (.v c.D), some (.v (.int (acts b))), some (.v (.int (acts c))), some (.v (.int p)), some (.v (.int q)), some (.v (.str (Wo.s .a))), z8, z9, z10, z11] ⟨[], S⟩ := by
  obtain ⟨b1, b2, b3, b4, b5, b6, b7, b8, b9, b10, b11, b12, t, m2, m3, m4, m4', m5, m6, m7, m8, m9, m10, m11, m11', m12, m12', s⟩ := T
  have fc := ff_cap b hb
  have cm := cap_mono (a := b.dep) (b := 20) (by omega)
  have f0 : mulFit (ff b) 0 = true := fit (by omega) (by omega) (by decide) (by decide +kernel)
  have f1 : mulFit (ff b) 1 = true := fit (by omega) (by omega) (by decide) (by decide +kernel)
  have hL := longest_le .a b c hb hc
  have hS := shortest_le .a b c hb hc
  have hL' : ¬ longest b + longest c < longest (.two .a b c) := by rw [longest_then] at hL; omega
  have hS' : ¬ shortest (.two .a b c) < shortest b := by omega
  have st := longest_then b c
  have st2 := shortest_then b c
  cases ha : alw c q <;> cases hb2 : cbe b p <;> simp only [Wo.s, orF, thB, noB, ff, ha, hb2, st, st2] at b1 b2 b3 b4 b5 b6 b7 b8 b9 b10 b11 b12 m8 m9 hL' hS' ⊢
  all_goals
    rw [trB_eq]
    refine' ⟨_, _, _, _, ?e⟩
    case e =>
      refine (exs_nx (by simp [runFn, exs, ex, ev, evAnd, evOr, evs, evO, evL, evIf, evI, asg, asgs, setL, R.b, R.t, R.ne, RT.s, ofO, peek, peekT, peeks, isiD, tyOf, tyLe, truW, truD, turns, wipe, args, binD, cmpD, eqD, bltD, intsOf, boolsOf, asInt, asBool, mk, allV, outW, itemsD, itemsW, itemsL, ixW, atI, ixN, slW, cut, sIx, freeze, mthW, mtyW, setIxW, forR, enmD, zipD, zipP, rgI, small, szL, isNW, maxI, minI, ne1, ne2, ne3, ne4, ne5, ne6, b1, b2, b3, b4, b5, b6, b7, b8, b9, b10, b11, b12, t, m2, m3, m4, m4', m5, m6, m7, m8, m9, m10, m11, m11', m12, m12', f0, f1, hL', hS']; exact ⟨rfl, rfl⟩)).trans ?_
      refine (exs_nx (by simp [runFn, exs, ex, ev, evAnd, evOr, evs, evO, evL, evIf, evI, asg, asgs, setL, R.b, R.t, R.ne, RT.s, ofO, peek, peekT, peeks, isiD, tyOf, tyLe, truW, truD, turns, wipe, args, binD, cmpD, eqD, bltD, intsOf, boolsOf, asInt, asBool, mk, allV, outW, itemsD, itemsW, itemsL, ixW, atI, ixN, slW, cut, sIx, freeze, mthW, mtyW, setIxW, forR, enmD, zipD, zipP, rgI, small, szL, isNW, maxI, minI, ne1, ne2, ne3, ne4, ne5, ne6, b1, b2, b3, b4, b5, b6, b7, b8, b9, b10, b11, b12, t, m2, m3, m4, m4', m5, m6, m7, m8, m9, m10, m11, m11', m12, m12', f0, f1, hL', hS']; exact ⟨rfl, rfl⟩)).trans ?_
      refine (exs_nx (by simp [runFn, exs, ex, ev, evAnd, evOr, evs, evO, evL, evIf, evI, asg, asgs, setL, R.b, R.t, R.ne, RT.s, ofO, peek, peekT, peeks, isiD, tyOf, tyLe, truW, truD, turns, wipe, args, binD, cmpD, eqD, bltD, intsOf, boolsOf, asInt, asBool, mk, allV, outW, itemsD, itemsW, itemsL, ixW, atI, ixN, slW, cut, sIx, freeze, mthW, mtyW, setIxW, forR, enmD, zipD, zipP, rgI, small, szL, isNW, maxI, minI, ne1, ne2, ne3, ne4, ne5, ne6, b1, b2, b3, b4, b5, b6, b7, b8, b9, b10, b11, b12, t, m2, m3, m4, m4', m5, m6, m7, m8, m9, m10, m11, m11', m12, m12', f0, f1, hL', hS']; exact ⟨rfl, rfl⟩)).trans ?_
      refine (exs_nx (by simp [runFn, exs, ex, ev, evAnd, evOr, evs, evO, evL, evIf, evI, asg, asgs, setL, R.b, R.t, R.ne, RT.s, ofO, peek, peekT, peeks, isiD, tyOf, tyLe, truW, truD, turns, wipe, args, binD, cmpD, eqD, bltD, intsOf, boolsOf, asInt, asBool, mk, allV, outW, itemsD, itemsW, itemsL, ixW, atI, ixN, slW, cut, sIx, freeze, mthW, mtyW, setIxW, forR, enmD, zipD, zipP, rgI, small, szL, isNW, maxI, minI, ne1, ne2, ne3, ne4, ne5, ne6, b1, b2, b3, b4, b5, b6, b7, b8, b9, b10, b11, b12, t, m2, m3, m4, m4', m5, m6, m7, m8, m9, m10, m11, m11', m12, m12', f0, f1, hL', hS']; exact ⟨rfl, rfl⟩)).trans ?_
      refine (exs_nx (by simp [runFn, exs, ex, ev, evAnd, evOr, evs, evO, evL, evIf, evI, asg, asgs, setL, R.b, R.t, R.ne, RT.s, ofO, peek, peekT, peeks, isiD, tyOf, tyLe, truW, truD, turns, wipe, args, binD, cmpD, eqD, bltD, intsOf, boolsOf, asInt, asBool, mk, allV, outW, itemsD, itemsW, itemsL, ixW, atI, ixN, slW, cut, sIx, freeze, mthW, mtyW, setIxW, forR, enmD, zipD, zipP, rgI, small, szL, isNW, maxI, minI, ne1, ne2, ne3, ne4, ne5, ne6, b1, b2, b3, b4, b5, b6, b7, b8, b9, b10, b11, b12, t, m2, m3, m4, m4', m5, m6, m7, m8, m9, m10, m11, m11', m12, m12', f0, f1, hL', hS']; exact ⟨rfl, rfl⟩)).trans ?_
      refine (exs_nx (by simp [runFn, exs, ex, ev, evAnd, evOr, evs, evO, evL, evIf, evI, asg, asgs, setL, R.b, R.t, R.ne, RT.s, ofO, peek, peekT, peeks, isiD, tyOf, tyLe, truW, truD, turns, wipe, args, binD, cmpD, eqD, bltD, intsOf, boolsOf, asInt, asBool, mk, allV, outW, itemsD, itemsW, itemsL, ixW, atI, ixN, slW, cut, sIx, freeze, mthW, mtyW, setIxW, forR, enmD, zipD, zipP, rgI, small, szL, isNW, maxI, minI, ne1, ne2, ne3, ne4, ne5, ne6, b1, b2, b3, b4, b5, b6, b7, b8, b9, b10, b11, b12, t, m2, m3, m4, m4', m5, m6, m7, m8, m9, m10, m11, m11', m12, m12', f0, f1, hL', hS']; exact ⟨rfl, rfl⟩)).trans ?_
      refine (exs_nx (by simp [runFn, exs, ex, ev, evAnd, evOr, evs, evO, evL, evIf, evI, asg, asgs, setL, R.b, R.t, R.ne, RT.s, ofO, peek, peekT, peeks, isiD, tyOf, tyLe, truW, truD, turns, wipe, args, binD, cmpD, eqD, bltD, intsOf, boolsOf, asInt, asBool, mk, allV, outW, itemsD, itemsW, itemsL, ixW, atI, ixN, slW, cut, sIx, freeze, mthW, mtyW, setIxW, forR, enmD, zipD, zipP, rgI, small, szL, isNW, maxI, minI, ne1, ne2, ne3, ne4, ne5, ne6, b1, b2, b3, b4, b5, b6, b7, b8, b9, b10, b11, b12, t, m2, m3, m4, m4', m5, m6, m7, m8, m9, m10, m11, m11', m12, m12', f0, f1, hL', hS']; exact ⟨rfl, rfl⟩)).trans ?_
      refine (exs_nx (by simp [runFn, exs, ex, ev, evAnd, evOr, evs, evO, evL, evIf, evI, asg, asgs, setL, R.b, R.t, R.ne, RT.s, ofO, peek, peekT, peeks, isiD, tyOf, tyLe, truW, truD, turns, wipe, args, binD, cmpD, eqD, bltD, intsOf, boolsOf, asInt, asBool, mk, allV, outW, itemsD, itemsW, itemsL, ixW, atI, ixN, slW, cut, sIx, freeze, mthW, mtyW, setIxW, forR, enmD, zipD, zipP, rgI, small, szL, isNW, maxI, minI, ne1, ne2, ne3, ne4, ne5, ne6, b1, b2, b3, b4, b5, b6, b7, b8, b9, b10, b11, b12, t, m2, m3, m4, m4', m5, m6, m7, m8, m9, m10, m11, m11', m12, m12', f0, f1, hL', hS']; exact ⟨rfl, rfl⟩)).trans ?_
      refine (exs_nx (by simp [runFn, exs, ex, ev, evAnd, evOr, evs, evO, evL, evIf, evI, asg, asgs, setL, R.b, R.t, R.ne, RT.s, ofO, peek, peekT, peeks, isiD, tyOf, tyLe, truW, truD, turns, wipe, args, binD, cmpD, eqD, bltD, intsOf, boolsOf, asInt, asBool, mk, allV, outW, itemsD, itemsW, itemsL, ixW, atI, ixN, slW, cut, sIx, freeze, mthW, mtyW, setIxW, forR, enmD, zipD, zipP, rgI, small, szL, isNW, maxI, minI, ne1, ne2, ne3, ne4, ne5, ne6, b1, b2, b3, b4, b5, b6, b7, b8, b9, b10, b11, b12, t, m2, m3, m4, m4', m5, m6, m7, m8, m9, m10, m11, m11', m12, m12', f0, f1, hL', hS']; exact ⟨rfl, rfl⟩)).trans ?_
      refine (exs_nx (by simp [runFn, exs, ex, ev, evAnd, evOr, evs, evO, evL, evIf, evI, asg, asgs, setL, R.b, R.t, R.ne, RT.s, ofO, peek, peekT, peeks, isiD, tyOf, tyLe, truW, truD, turns, wipe, args, binD, cmpD, eqD, bltD, intsOf, boolsOf, asInt, asBool, mk, allV, outW, itemsD, itemsW, itemsL, ixW, atI, ixN, slW, cut, sIx, freeze, mthW, mtyW, setIxW, forR, enmD, zipD, zipP, rgI, small, szL, isNW, maxI, minI, ne1, ne2, ne3, ne4, ne5, ne6, b1, b2, b3, b4, b5, b6, b7, b8, b9, b10, b11, b12, t, m2, m3, m4, m4', m5, m6, m7, m8, m9, m10, m11, m11', m12, m12', f0, f1, hL', hS']; exact ⟨rfl, rfl⟩)).trans ?_
      refine (exs_nx (by simp [runFn, exs, ex, ev, evAnd, evOr, evs, evO, evL, evIf, evI, asg, asgs, setL, R.b, R.t, R.ne, RT.s, ofO, peek, peekT, peeks, isiD, tyOf, tyLe, truW, truD, turns, wipe, args, binD, cmpD, eqD, bltD, intsOf, boolsOf, asInt, asBool, mk, allV, outW, itemsD, itemsW, itemsL, ixW, atI, ixN, slW, cut, sIx, freeze, mthW, mtyW, setIxW, forR, enmD, zipD, zipP, rgI, small, szL, isNW, maxI, minI, ne1, ne2, ne3, ne4, ne5, ne6, b1, b2, b3, b4, b5, b6, b7, b8, b9, b10, b11, b12, t, m2, m3, m4, m4', m5, m6, m7, m8, m9, m10, m11, m11', m12, m12', f0, f1, hL', hS']; exact ⟨rfl, rfl⟩)).trans ?_
      refine (exs_nx (by simp [runFn, exs, ex, ev, evAnd, evOr, evs, evO, evL, evIf, evI, asg, asgs, setL, R.b, R.t, R.ne, RT.s, ofO, peek, peekT, peeks, isiD, tyOf, tyLe, truW, truD, turns, wipe, args, binD, cmpD, eqD, bltD, intsOf, boolsOf, asInt, asBool, mk, allV, outW, itemsD, itemsW, itemsL, ixW, atI, ixN, slW, cut, sIx, freeze, mthW, mtyW, setIxW, forR, enmD, zipD, zipP, rgI, small, szL, isNW, maxI, minI, ne1, ne2, ne3, ne4, ne5, ne6, b1, b2, b3, b4, b5, b6, b7, b8, b9, b10, b11, b12, t, m2, m3, m4, m4', m5, m6, m7, m8, m9, m10, m11, m11', m12, m12', f0, f1, hL', hS']; exact ⟨rfl, rfl⟩)).trans ?_
      refine (exs_nx (by simp [runFn, exs, ex, ev, evAnd, evOr, evs, evO, evL, evIf, evI, asg, asgs, setL, R.b, R.t, R.ne, RT.s, ofO, peek, peekT, peeks, isiD, tyOf, tyLe, truW, truD, turns, wipe, args, binD, cmpD, eqD, bltD, intsOf, boolsOf, asInt, asBool, mk, allV, outW, itemsD, itemsW, itemsL, ixW, atI, ixN, slW, cut, sIx, freeze, mthW, mtyW, setIxW, forR, enmD, zipD, zipP, rgI, small, szL, isNW, maxI, minI, ne1, ne2, ne3, ne4, ne5, ne6, b1, b2, b3, b4, b5, b6, b7, b8, b9, b10, b11, b12, t, m2, m3, m4, m4', m5, m6, m7, m8, m9, m10, m11, m11', m12, m12', f0, f1, hL', hS']; exact ⟨rfl, rfl⟩)).trans ?_
      refine (exs_nx (by simp [runFn, exs, ex, ev, evAnd, evOr, evs, evO, evL, evIf, evI, asg, asgs, setL, R.b, R.t, R.ne, RT.s, ofO, peek, peekT, peeks, isiD, tyOf, tyLe, truW, truD, turns, wipe, args, binD, cmpD, eqD, bltD, intsOf, boolsOf, asInt, asBool, mk, allV, outW, itemsD, itemsW, itemsL, ixW, atI, ixN, slW, cut, sIx, freeze, mthW, mtyW, setIxW, forR, enmD, zipD, zipP, rgI, small, szL, isNW, maxI, minI, ne1, ne2, ne3, ne4, ne5, ne6, b1, b2, b3, b4, b5, b6, b7, b8, b9, b10, b11, b12, t, m2, m3, m4, m4', m5, m6, m7, m8, m9, m10, m11, m11', m12, m12', f0, f1, hL', hS']; rw [s _ (by simp [scal]) (by simp)]; simp [runFn, exs, ex, ev, evAnd, evOr, evs, evO, evL, evIf, evI, asg, asgs, setL, R.b, R.t, R.ne, RT.s, ofO, peek, peekT, peeks, isiD, tyOf, tyLe, truW, truD, turns, wipe, args, binD, cmpD, eqD, bltD, intsOf, boolsOf, asInt, asBool, mk, allV, outW, itemsD, itemsW, itemsL, ixW, atI, ixN, slW, cut, sIx, freeze, mthW, mtyW, setIxW, forR, enmD, zipD, zipP, rgI, small, szL, isNW, maxI, minI, ne1, ne2, ne3, ne4, ne5, ne6]; exact ⟨rfl, rfl⟩)).trans ?_
      refine (exs_nx (by simp [runFn, exs, ex, ev, evAnd, evOr, evs, evO, evL, evIf, evI, asg, asgs, setL, R.b, R.t, R.ne, RT.s, ofO, peek, peekT, peeks, isiD, tyOf, tyLe, truW, truD, turns, wipe, args, binD, cmpD, eqD, bltD, intsOf, boolsOf, asInt, asBool, mk, allV, outW, itemsD, itemsW, itemsL, ixW, atI, ixN, slW, cut, sIx, freeze, mthW, mtyW, setIxW, forR, enmD, zipD, zipP, rgI, small, szL, isNW, maxI, minI, ne1, ne2, ne3, ne4, ne5, ne6, b1, b2, b3, b4, b5, b6, b7, b8, b9, b10, b11, b12, t, m2, m3, m4, m4', m5, m6, m7, m8, m9, m10, m11, m11', m12, m12', f0, f1, hL', hS']; exact ⟨rfl, rfl⟩)).trans ?_
      refine (exs_nx (by simp [runFn, exs, ex, ev, evAnd, evOr, evs, evO, evL, evIf, evI, asg, asgs, setL, R.b, R.t, R.ne, RT.s, ofO, peek, peekT, peeks, isiD, tyOf, tyLe, truW, truD, turns, wipe, args, binD, cmpD, eqD, bltD, intsOf, boolsOf, asInt, asBool, mk, allV, outW, itemsD, itemsW, itemsL, ixW, atI, ixN, slW, cut, sIx, freeze, mthW, mtyW, setIxW, forR, enmD, zipD, zipP, rgI, small, szL, isNW, maxI, minI, ne1, ne2, ne3, ne4, ne5, ne6, b1, b2, b3, b4, b5, b6, b7, b8, b9, b10, b11, b12, t, m2, m3, m4, m4', m5, m6, m7, m8, m9, m10, m11, m11', m12, m12', f0, f1, hL', hS']; exact ⟨rfl, rfl⟩)).trans ?_
      refine (exs_nx (by simp [runFn, exs, ex, ev, evAnd, evOr, evs, evO, evL, evIf, evI, asg, asgs, setL, R.b, R.t, R.ne, RT.s, ofO, peek, peekT, peeks, isiD, tyOf, tyLe, truW, truD, turns, wipe, args, binD, cmpD, eqD, bltD, intsOf, boolsOf, asInt, asBool, mk, allV, outW, itemsD, itemsW, itemsL, ixW, atI, ixN, slW, cut, sIx, freeze, mthW, mtyW, setIxW, forR, enmD, zipD, zipP, rgI, small, szL, isNW, maxI, minI, ne1, ne2, ne3, ne4, ne5, ne6, b1, b2, b3, b4, b5, b6, b7, b8, b9, b10, b11, b12, t, m2, m3, m4, m4', m5, m6, m7, m8, m9, m10, m11, m11', m12, m12', f0, f1, hL', hS']; exact ⟨rfl, rfl⟩)).trans ?_
      simp only [exs]
      rfl
theorem tr_t {C : Orc} {S : List OS} {b c : Big} {p q : Int} (hb : b.ok) (hc : c.ok) (db : b.dep ≤ 10) (T : Two C S .t b c p q) (u y8 y9 y10 y11 : Option W) :
    ∃ z8 z9 z10 z11, exs C trB [u, some (.v b.D), some (.v c.D), some (.v (.int (acts b))), some (.v (.int (acts c))), some (.v (.int p)), some (.v (.int q)), some (.v (.str (Wo.s .t))), y8, y9, y10, y11] ⟨[], S⟩
      = .nx [u, some (.v b.D), some (.v c.D), some (.v (.int (acts b))), some (.v (.int (acts c))), some (.v (.int p)), some (.v (.int q)), some (.v (.str (Wo.s .t))), z8, z9, z10, z11] ⟨[], S⟩ := by
  obtain ⟨b1, b2, b3, b4, b5, b6, b7, b8, b9, b10, b11, b12, t, m2, m3, m4, m4', m5, m6, m7, m8, m9, m10, m11, m11', m12, m12', s⟩ := T
  have fc := ff_cap b hb
  have cm := cap_mono (a := b.dep) (b := 20) (by omega)
  have f0 : mulFit (ff b) 0 = true := fit (by omega) (by omega) (by decide) (by decide +kernel)
  have f1 : mulFit (ff b) 1 = true := fit (by omega) (by omega) (by decide) (by decide +kernel)
  have hL := longest_le .t b c hb hc
  have hS := shortest_le .t b c hb hc
  have hL' : ¬ longest b + longest c < longest (.two .t b c) := by rw [longest_then]; omega
  have hS' : ¬ shortest (.two .t b c) < shortest b := by omega
  have st := longest_then b c
  have st2 := shortest_then b c
  cases ha : alw c q <;> cases hb2 : cbe b p <;> simp only [Wo.s, orF, thB, noB, ff, ha, hb2, st, st2] at b1 b2 b3 b4 b5 b6 b7 b8 b9 b10 b11 b12 m8 m9 hL' hS' ⊢
  all_goals
    rw [trB_eq]
    refine' ⟨_, _, _, _, ?e⟩
    case e =>
      refine (exs_nx (by simp [runFn, exs, ex, ev, evAnd, evOr, evs, evO, evL, evIf, evI, asg, asgs, setL, R.b, R.t, R.ne, RT.s, ofO, peek, peekT, peeks, isiD, tyOf, tyLe, truW, truD, turns, wipe, args, binD, cmpD, eqD, bltD, intsOf, boolsOf, asInt, asBool, mk, allV, outW, itemsD, itemsW, itemsL, ixW, atI, ixN, slW, cut, sIx, freeze, mthW, mtyW, setIxW, forR, enmD, zipD, zipP, rgI, small, szL, isNW, maxI, minI, ne1, ne2, ne3, ne4, ne5, ne6, b1, b2, b3, b4, b5, b6, b7, b8, b9, b10, b11, b12, t, m2, m3, m4, m4', m5, m6, m7, m8, m9, m10, m11, m11', m12, m12', f0, f1, hL', hS']; exact ⟨rfl, rfl⟩)).trans ?_
      refine (exs_nx (by simp [runFn, exs, ex, ev, evAnd, evOr, evs, evO, evL, evIf, evI, asg, asgs, setL, R.b, R.t, R.ne, RT.s, ofO, peek, peekT, peeks, isiD, tyOf, tyLe, truW, truD, turns, wipe, args, binD, cmpD, eqD, bltD, intsOf, boolsOf, asInt, asBool, mk, allV, outW, itemsD, itemsW, itemsL, ixW, atI, ixN, slW, cut, sIx, freeze, mthW, mtyW, setIxW, forR, enmD, zipD, zipP, rgI, small, szL, isNW, maxI, minI, ne1, ne2, ne3, ne4, ne5, ne6, b1, b2, b3, b4, b5, b6, b7, b8, b9, b10, b11, b12, t, m2, m3, m4, m4', m5, m6, m7, m8, m9, m10, m11, m11', m12, m12', f0, f1, hL', hS']; exact ⟨rfl, rfl⟩)).trans ?_
      refine (exs_nx (by simp [runFn, exs, ex, ev, evAnd, evOr, evs, evO, evL, evIf, evI, asg, asgs, setL, R.b, R.t, R.ne, RT.s, ofO, peek, peekT, peeks, isiD, tyOf, tyLe, truW, truD, turns, wipe, args, binD, cmpD, eqD, bltD, intsOf, boolsOf, asInt, asBool, mk, allV, outW, itemsD, itemsW, itemsL, ixW, atI, ixN, slW, cut, sIx, freeze, mthW, mtyW, setIxW, forR, enmD, zipD, zipP, rgI, small, szL, isNW, maxI, minI, ne1, ne2, ne3, ne4, ne5, ne6, b1, b2, b3, b4, b5, b6, b7, b8, b9, b10, b11, b12, t, m2, m3, m4, m4', m5, m6, m7, m8, m9, m10, m11, m11', m12, m12', f0, f1, hL', hS']; exact ⟨rfl, rfl⟩)).trans ?_
      refine (exs_nx (by simp [runFn, exs, ex, ev, evAnd, evOr, evs, evO, evL, evIf, evI, asg, asgs, setL, R.b, R.t, R.ne, RT.s, ofO, peek, peekT, peeks, isiD, tyOf, tyLe, truW, truD, turns, wipe, args, binD, cmpD, eqD, bltD, intsOf, boolsOf, asInt, asBool, mk, allV, outW, itemsD, itemsW, itemsL, ixW, atI, ixN, slW, cut, sIx, freeze, mthW, mtyW, setIxW, forR, enmD, zipD, zipP, rgI, small, szL, isNW, maxI, minI, ne1, ne2, ne3, ne4, ne5, ne6, b1, b2, b3, b4, b5, b6, b7, b8, b9, b10, b11, b12, t, m2, m3, m4, m4', m5, m6, m7, m8, m9, m10, m11, m11', m12, m12', f0, f1, hL', hS']; exact ⟨rfl, rfl⟩)).trans ?_
      refine (exs_nx (by simp [runFn, exs, ex, ev, evAnd, evOr, evs, evO, evL, evIf, evI, asg, asgs, setL, R.b, R.t, R.ne, RT.s, ofO, peek, peekT, peeks, isiD, tyOf, tyLe, truW, truD, turns, wipe, args, binD, cmpD, eqD, bltD, intsOf, boolsOf, asInt, asBool, mk, allV, outW, itemsD, itemsW, itemsL, ixW, atI, ixN, slW, cut, sIx, freeze, mthW, mtyW, setIxW, forR, enmD, zipD, zipP, rgI, small, szL, isNW, maxI, minI, ne1, ne2, ne3, ne4, ne5, ne6, b1, b2, b3, b4, b5, b6, b7, b8, b9, b10, b11, b12, t, m2, m3, m4, m4', m5, m6, m7, m8, m9, m10, m11, m11', m12, m12', f0, f1, hL', hS']; exact ⟨rfl, rfl⟩)).trans ?_
      refine (exs_nx (by simp [runFn, exs, ex, ev, evAnd, evOr, evs, evO, evL, evIf, evI, asg, asgs, setL, R.b, R.t, R.ne, RT.s, ofO, peek, peekT, peeks, isiD, tyOf, tyLe, truW, truD, turns, wipe, args, binD, cmpD, eqD, bltD, intsOf, boolsOf, asInt, asBool, mk, allV, outW, itemsD, itemsW, itemsL, ixW, atI, ixN, slW, cut, sIx, freeze, mthW, mtyW, setIxW, forR, enmD, zipD, zipP, rgI, small, szL, isNW, maxI, minI, ne1, ne2, ne3, ne4, ne5, ne6, b1, b2, b3, b4, b5, b6, b7, b8, b9, b10, b11, b12, t, m2, m3, m4, m4', m5, m6, m7, m8, m9, m10, m11, m11', m12, m12', f0, f1, hL', hS']; exact ⟨rfl, rfl⟩)).trans ?_
      refine (exs_nx (by simp [runFn, exs, ex, ev, evAnd, evOr, evs, evO, evL, evIf, evI, asg, asgs, setL, R.b, R.t, R.ne, RT.s, ofO, peek, peekT, peeks, isiD, tyOf, tyLe, truW, truD, turns, wipe, args, binD, cmpD, eqD, bltD, intsOf, boolsOf, asInt, asBool, mk, allV, outW, itemsD, itemsW, itemsL, ixW, atI, ixN, slW, cut, sIx, freeze, mthW, mtyW, setIxW, forR, enmD, zipD, zipP, rgI, small, szL, isNW, maxI, minI, ne1, ne2, ne3, ne4, ne5, ne6, b1, b2, b3, b4, b5, b6, b7, b8, b9, b10, b11, b12, t, m2, m3, m4, m4', m5, m6, m7, m8, m9, m10, m11, m11', m12, m12', f0, f1, hL', hS']; exact ⟨rfl, rfl⟩)).trans ?_
      refine (exs_nx (by simp [runFn, exs, ex, ev, evAnd, evOr, evs, evO, evL, evIf, evI, asg, asgs, setL, R.b, R.t, R.ne, RT.s, ofO, peek, peekT, peeks, isiD, tyOf, tyLe, truW, truD, turns, wipe, args, binD, cmpD, eqD, bltD, intsOf, boolsOf, asInt, asBool, mk, allV, outW, itemsD, itemsW, itemsL, ixW, atI, ixN, slW, cut, sIx, freeze, mthW, mtyW, setIxW, forR, enmD, zipD, zipP, rgI, small, szL, isNW, maxI, minI, ne1, ne2, ne3, ne4, ne5, ne6, b1, b2, b3, b4, b5, b6, b7, b8, b9, b10, b11, b12, t, m2, m3, m4, m4', m5, m6, m7, m8, m9, m10, m11, m11', m12, m12', f0, f1, hL', hS']; exact ⟨rfl, rfl⟩)).trans ?_
      refine (exs_nx (by simp [runFn, exs, ex, ev, evAnd, evOr, evs, evO, evL, evIf, evI, asg, asgs, setL, R.b, R.t, R.ne, RT.s, ofO, peek, peekT, peeks, isiD, tyOf, tyLe, truW, truD, turns, wipe, args, binD, cmpD, eqD, bltD, intsOf, boolsOf, asInt, asBool, mk, allV, outW, itemsD, itemsW, itemsL, ixW, atI, ixN, slW, cut, sIx, freeze, mthW, mtyW, setIxW, forR, enmD, zipD, zipP, rgI, small, szL, isNW, maxI, minI, ne1, ne2, ne3, ne4, ne5, ne6, b1, b2, b3, b4, b5, b6, b7, b8, b9, b10, b11, b12, t, m2, m3, m4, m4', m5, m6, m7, m8, m9, m10, m11, m11', m12, m12', f0, f1, hL', hS']; exact ⟨rfl, rfl⟩)).trans ?_
      refine (exs_nx (by simp [runFn, exs, ex, ev, evAnd, evOr, evs, evO, evL, evIf, evI, asg, asgs, setL, R.b, R.t, R.ne, RT.s, ofO, peek, peekT, peeks, isiD, tyOf, tyLe, truW, truD, turns, wipe, args, binD, cmpD, eqD, bltD, intsOf, boolsOf, asInt, asBool, mk, allV, outW, itemsD, itemsW, itemsL, ixW, atI, ixN, slW, cut, sIx, freeze, mthW, mtyW, setIxW, forR, enmD, zipD, zipP, rgI, small, szL, isNW, maxI, minI, ne1, ne2, ne3, ne4, ne5, ne6, b1, b2, b3, b4, b5, b6, b7, b8, b9, b10, b11, b12, t, m2, m3, m4, m4', m5, m6, m7, m8, m9, m10, m11, m11', m12, m12', f0, f1, hL', hS']; exact ⟨rfl, rfl⟩)).trans ?_
      refine (exs_nx (by simp [runFn, exs, ex, ev, evAnd, evOr, evs, evO, evL, evIf, evI, asg, asgs, setL, R.b, R.t, R.ne, RT.s, ofO, peek, peekT, peeks, isiD, tyOf, tyLe, truW, truD, turns, wipe, args, binD, cmpD, eqD, bltD, intsOf, boolsOf, asInt, asBool, mk, allV, outW, itemsD, itemsW, itemsL, ixW, atI, ixN, slW, cut, sIx, freeze, mthW, mtyW, setIxW, forR, enmD, zipD, zipP, rgI, small, szL, isNW, maxI, minI, ne1, ne2, ne3, ne4, ne5, ne6, b1, b2, b3, b4, b5, b6, b7, b8, b9, b10, b11, b12, t, m2, m3, m4, m4', m5, m6, m7, m8, m9, m10, m11, m11', m12, m12', f0, f1, hL', hS']; exact ⟨rfl, rfl⟩)).trans ?_
      refine (exs_nx (by simp [runFn, exs, ex, ev, evAnd, evOr, evs, evO, evL, evIf, evI, asg, asgs, setL, R.b, R.t, R.ne, RT.s, ofO, peek, peekT, peeks, isiD, tyOf, tyLe, truW, truD, turns, wipe, args, binD, cmpD, eqD, bltD, intsOf, boolsOf, asInt, asBool, mk, allV, outW, itemsD, itemsW, itemsL, ixW, atI, ixN, slW, cut, sIx, freeze, mthW, mtyW, setIxW, forR, enmD, zipD, zipP, rgI, small, szL, isNW, maxI, minI, ne1, ne2, ne3, ne4, ne5, ne6, b1, b2, b3, b4, b5, b6, b7, b8, b9, b10, b11, b12, t, m2, m3, m4, m4', m5, m6, m7, m8, m9, m10, m11, m11', m12, m12', f0, f1, hL', hS']; exact ⟨rfl, rfl⟩)).trans ?_
      refine (exs_nx (by simp [runFn, exs, ex, ev, evAnd, evOr, evs, evO, evL, evIf, evI, asg, asgs, setL, R.b, R.t, R.ne, RT.s, ofO, peek, peekT, peeks, isiD, tyOf, tyLe, truW, truD, turns, wipe, args, binD, cmpD, eqD, bltD, intsOf, boolsOf, asInt, asBool, mk, allV, outW, itemsD, itemsW, itemsL, ixW, atI, ixN, slW, cut, sIx, freeze, mthW, mtyW, setIxW, forR, enmD, zipD, zipP, rgI, small, szL, isNW, maxI, minI, ne1, ne2, ne3, ne4, ne5, ne6, b1, b2, b3, b4, b5, b6, b7, b8, b9, b10, b11, b12, t, m2, m3, m4, m4', m5, m6, m7, m8, m9, m10, m11, m11', m12, m12', f0, f1, hL', hS']; exact ⟨rfl, rfl⟩)).trans ?_
      refine (exs_nx (by simp [runFn, exs, ex, ev, evAnd, evOr, evs, evO, evL, evIf, evI, asg, asgs, setL, R.b, R.t, R.ne, RT.s, ofO, peek, peekT, peeks, isiD, tyOf, tyLe, truW, truD, turns, wipe, args, binD, cmpD, eqD, bltD, intsOf, boolsOf, asInt, asBool, mk, allV, outW, itemsD, itemsW, itemsL, ixW, atI, ixN, slW, cut, sIx, freeze, mthW, mtyW, setIxW, forR, enmD, zipD, zipP, rgI, small, szL, isNW, maxI, minI, ne1, ne2, ne3, ne4, ne5, ne6, b1, b2, b3, b4, b5, b6, b7, b8, b9, b10, b11, b12, t, m2, m3, m4, m4', m5, m6, m7, m8, m9, m10, m11, m11', m12, m12', f0, f1, hL', hS']; rw [s _ (by simp [scal]) (by simp)]; simp [runFn, exs, ex, ev, evAnd, evOr, evs, evO, evL, evIf, evI, asg, asgs, setL, R.b, R.t, R.ne, RT.s, ofO, peek, peekT, peeks, isiD, tyOf, tyLe, truW, truD, turns, wipe, args, binD, cmpD, eqD, bltD, intsOf, boolsOf, asInt, asBool, mk, allV, outW, itemsD, itemsW, itemsL, ixW, atI, ixN, slW, cut, sIx, freeze, mthW, mtyW, setIxW, forR, enmD, zipD, zipP, rgI, small, szL, isNW, maxI, minI, ne1, ne2, ne3, ne4, ne5, ne6]; exact ⟨rfl, rfl⟩)).trans ?_
      refine (exs_nx (by simp [runFn, exs, ex, ev, evAnd, evOr, evs, evO, evL, evIf, evI, asg, asgs, setL, R.b, R.t, R.ne, RT.s, ofO, peek, peekT, peeks, isiD, tyOf, tyLe, truW, truD, turns, wipe, args, binD, cmpD, eqD, bltD, intsOf, boolsOf, asInt, asBool, mk, allV, outW, itemsD, itemsW, itemsL, ixW, atI, ixN, slW, cut, sIx, freeze, mthW, mtyW, setIxW, forR, enmD, zipD, zipP, rgI, small, szL, isNW, maxI, minI, ne1, ne2, ne3, ne4, ne5, ne6, b1, b2, b3, b4, b5, b6, b7, b8, b9, b10, b11, b12, t, m2, m3, m4, m4', m5, m6, m7, m8, m9, m10, m11, m11', m12, m12', f0, f1, hL', hS']; exact ⟨rfl, rfl⟩)).trans ?_
      refine (exs_nx (by simp [runFn, exs, ex, ev, evAnd, evOr, evs, evO, evL, evIf, evI, asg, asgs, setL, R.b, R.t, R.ne, RT.s, ofO, peek, peekT, peeks, isiD, tyOf, tyLe, truW, truD, turns, wipe, args, binD, cmpD, eqD, bltD, intsOf, boolsOf, asInt, asBool, mk, allV, outW, itemsD, itemsW, itemsL, ixW, atI, ixN, slW, cut, sIx, freeze, mthW, mtyW, setIxW, forR, enmD, zipD, zipP, rgI, small, szL, isNW, maxI, minI, ne1, ne2, ne3, ne4, ne5, ne6, b1, b2, b3, b4, b5, b6, b7, b8, b9, b10, b11, b12, t, m2, m3, m4, m4', m5, m6, m7, m8, m9, m10, m11, m11', m12, m12', f0, f1, hL', hS']; exact ⟨rfl, rfl⟩)).trans ?_
      refine (exs_nx (by simp [runFn, exs, ex, ev, evAnd, evOr, evs, evO, evL, evIf, evI, asg, asgs, setL, R.b, R.t, R.ne, RT.s, ofO, peek, peekT, peeks, isiD, tyOf, tyLe, truW, truD, turns, wipe, args, binD, cmpD, eqD, bltD, intsOf, boolsOf, asInt, asBool, mk, allV, outW, itemsD, itemsW, itemsL, ixW, atI, ixN, slW, cut, sIx, freeze, mthW, mtyW, setIxW, forR, enmD, zipD, zipP, rgI, small, szL, isNW, maxI, minI, ne1, ne2, ne3, ne4, ne5, ne6, b1, b2, b3, b4, b5, b6, b7, b8, b9, b10, b11, b12, t, m2, m3, m4, m4', m5, m6, m7, m8, m9, m10, m11, m11', m12, m12', f0, f1, hL', hS']; exact ⟨rfl, rfl⟩)).trans ?_
      simp only [exs]
      rfl
theorem tr_o {C : Orc} {S : List OS} {b c : Big} {p q : Int} (hb : b.ok) (hc : c.ok) (db : b.dep ≤ 10) (T : Two C S .o b c p q) (u y8 y9 y10 y11 : Option W) :
    ∃ z8 z9 z10 z11, exs C trB [u, some (.v b.D), some (.v c.D), some (.v (.int (acts b))), some (.v (.int (acts c))), some (.v (.int p)), some (.v (.int q)), some (.v (.str (Wo.s .o))), y8, y9, y10, y11] ⟨[], S⟩
      = .nx [u, some (.v b.D), some (.v c.D), some (.v (.int (acts b))), some (.v (.int (acts c))), some (.v (.int p)), some (.v (.int q)), some (.v (.str (Wo.s .o))), z8, z9, z10, z11] ⟨[], S⟩ := by
  obtain ⟨b1, b2, b3, b4, b5, b6, b7, b8, b9, b10, b11, b12, t, m2, m3, m4, m4', m5, m6, m7, m8, m9, m10, m11, m11', m12, m12', s⟩ := T
  have fc := ff_cap b hb
  have cm := cap_mono (a := b.dep) (b := 20) (by omega)
  have f0 : mulFit (ff b) 0 = true := fit (by omega) (by omega) (by decide) (by decide +kernel)
  have f1 : mulFit (ff b) 1 = true := fit (by omega) (by omega) (by decide) (by decide +kernel)
  have hL := longest_le .o b c hb hc
  have hS := shortest_le .o b c hb hc
  have hL' : ¬ longest b + longest c < longest (.two .o b c) := by rw [longest_then] at hL; omega
  have hS' : ¬ shortest (.two .o b c) < shortest b := by omega
  have st := longest_then b c
  have st2 := shortest_then b c
  cases ha : alw c q <;> cases hb2 : cbe b p <;> simp only [Wo.s, orF, thB, noB, ff, ha, hb2, st, st2] at b1 b2 b3 b4 b5 b6 b7 b8 b9 b10 b11 b12 m8 m9 hL' hS' ⊢
  all_goals
    rw [trB_eq]
    refine' ⟨_, _, _, _, ?e⟩
    case e =>
      refine (exs_nx (by simp [runFn, exs, ex, ev, evAnd, evOr, evs, evO, evL, evIf, evI, asg, asgs, setL, R.b, R.t, R.ne, RT.s, ofO, peek, peekT, peeks, isiD, tyOf, tyLe, truW, truD, turns, wipe, args, binD, cmpD, eqD, bltD, intsOf, boolsOf, asInt, asBool, mk, allV, outW, itemsD, itemsW, itemsL, ixW, atI, ixN, slW, cut, sIx, freeze, mthW, mtyW, setIxW, forR, enmD, zipD, zipP, rgI, small, szL, isNW, maxI, minI, ne1, ne2, ne3, ne4, ne5, ne6, b1, b2, b3, b4, b5, b6, b7, b8, b9, b10, b11, b12, t, m2, m3, m4, m4', m5, m6, m7, m8, m9, m10, m11, m11', m12, m12', f0, f1, hL', hS']; exact ⟨rfl, rfl⟩)).trans ?_
      refine (exs_nx (by simp [runFn, exs, ex, ev, evAnd, evOr, evs, evO, evL, evIf, evI, asg, asgs, setL, R.b, R.t, R.ne, RT.s, ofO, peek, peekT, peeks, isiD, tyOf, tyLe, truW, truD, turns, wipe, args, binD, cmpD, eqD, bltD, intsOf, boolsOf, asInt, asBool, mk, allV, outW, itemsD, itemsW, itemsL, ixW, atI, ixN, slW, cut, sIx, freeze, mthW, mtyW, setIxW, forR, enmD, zipD, zipP, rgI, small, szL, isNW, maxI, minI, ne1, ne2, ne3, ne4, ne5, ne6, b1, b2, b3, b4, b5, b6, b7, b8, b9, b10, b11, b12, t, m2, m3, m4, m4', m5, m6, m7, m8, m9, m10, m11, m11', m12, m12', f0, f1, hL', hS']; exact ⟨rfl, rfl⟩)).trans ?_
      refine (exs_nx (by simp [runFn, exs, ex, ev, evAnd, evOr, evs, evO, evL, evIf, evI, asg, asgs, setL, R.b, R.t, R.ne, RT.s, ofO, peek, peekT, peeks, isiD, tyOf, tyLe, truW, truD, turns, wipe, args, binD, cmpD, eqD, bltD, intsOf, boolsOf, asInt, asBool, mk, allV, outW, itemsD, itemsW, itemsL, ixW, atI, ixN, slW, cut, sIx, freeze, mthW, mtyW, setIxW, forR, enmD, zipD, zipP, rgI, small, szL, isNW, maxI, minI, ne1, ne2, ne3, ne4, ne5, ne6, b1, b2, b3, b4, b5, b6, b7, b8, b9, b10, b11, b12, t, m2, m3, m4, m4', m5, m6, m7, m8, m9, m10, m11, m11', m12, m12', f0, f1, hL', hS']; exact ⟨rfl, rfl⟩)).trans ?_
      refine (exs_nx (by simp [runFn, exs, ex, ev, evAnd, evOr, evs, evO, evL, evIf, evI, asg, asgs, setL, R.b, R.t, R.ne, RT.s, ofO, peek, peekT, peeks, isiD, tyOf, tyLe, truW, truD, turns, wipe, args, binD, cmpD, eqD, bltD, intsOf, boolsOf, asInt, asBool, mk, allV, outW, itemsD, itemsW, itemsL, ixW, atI, ixN, slW, cut, sIx, freeze, mthW, mtyW, setIxW, forR, enmD, zipD, zipP, rgI, small, szL, isNW, maxI, minI, ne1, ne2, ne3, ne4, ne5, ne6, b1, b2, b3, b4, b5, b6, b7, b8, b9, b10, b11, b12, t, m2, m3, m4, m4', m5, m6, m7, m8, m9, m10, m11, m11', m12, m12', f0, f1, hL', hS']; exact ⟨rfl, rfl⟩)).trans ?_
      refine (exs_nx (by simp [runFn, exs, ex, ev, evAnd, evOr, evs, evO, evL, evIf, evI, asg, asgs, setL, R.b, R.t, R.ne, RT.s, ofO, peek, peekT, peeks, isiD, tyOf, tyLe, truW, truD, turns, wipe, args, binD, cmpD, eqD, bltD, intsOf, boolsOf, asInt, asBool, mk, allV, outW, itemsD, itemsW, itemsL, ixW, atI, ixN, slW, cut, sIx, freeze, mthW, mtyW, setIxW, forR, enmD, zipD, zipP, rgI, small, szL, isNW, maxI, minI, ne1, ne2, ne3, ne4, ne5, ne6, b1, b2, b3, b4, b5, b6, b7, b8, b9, b10, b11, b12, t, m2, m3, m4, m4', m5, m6, m7, m8, m9, m10, m11, m11', m12, m12', f0, f1, hL', hS']; exact ⟨rfl, rfl⟩)).trans ?_
      refine (exs_nx (by simp [runFn, exs, ex, ev, evAnd, evOr, evs, evO, evL, evIf, evI, asg, asgs, setL, R.b, R.t, R.ne, RT.s, ofO, peek, peekT, peeks, isiD, tyOf, tyLe, truW, truD, turns, wipe, args, binD, cmpD, eqD, bltD, intsOf, boolsOf, asInt, asBool, mk, allV, outW, itemsD, itemsW, itemsL, ixW, atI, ixN, slW, cut, sIx, freeze, mthW, mtyW, setIxW, forR, enmD, zipD, zipP, rgI, small, szL, isNW, maxI, minI, ne1, ne2, ne3, ne4, ne5, ne6, b1, b2, b3, b4, b5, b6, b7, b8, b9, b10, b11, b12, t, m2, m3, m4, m4', m5, m6, m7, m8, m9, m10, m11, m11', m12, m12', f0, f1, hL', hS']; exact ⟨rfl, rfl⟩)).trans ?_
      refine (exs_nx (by simp [runFn, exs, ex, ev, evAnd, evOr, evs, evO, evL, evIf, evI, asg, asgs, setL, R.b, R.t, R.ne, RT.s, ofO, peek, peekT, peeks, isiD, tyOf, tyLe, truW, truD, turns, wipe, args, binD, cmpD, eqD, bltD, intsOf, boolsOf, asInt, asBool, mk, allV, outW, itemsD, itemsW, itemsL, ixW, atI, ixN, slW, cut, sIx, freeze, mthW, mtyW, setIxW, forR, enmD, zipD, zipP, rgI, small, szL, isNW, maxI, minI, ne1, ne2, ne3, ne4, ne5, ne6, b1, b2, b3, b4, b5, b6, b7, b8, b9, b10, b11, b12, t, m2, m3, m4, m4', m5, m6, m7, m8, m9, m10, m11, m11', m12, m12', f0, f1, hL', hS']; exact ⟨rfl, rfl⟩)).trans ?_
      refine (exs_nx (by simp [runFn, exs, ex, ev, evAnd, evOr, evs, evO, evL, evIf, evI, asg, asgs, setL, R.b, R.t, R.ne, RT.s, ofO, peek, peekT, peeks, isiD, tyOf, tyLe, truW, truD, turns, wipe, args, binD, cmpD, eqD, bltD, intsOf, boolsOf, asInt, asBool, mk, allV, outW, itemsD, itemsW, itemsL, ixW, atI, ixN, slW, cut, sIx, freeze, mthW, mtyW, setIxW, forR, enmD, zipD, zipP, rgI, small, szL, isNW, maxI, minI, ne1, ne2, ne3, ne4, ne5, ne6, b1, b2, b3, b4, b5, b6, b7, b8, b9, b10, b11, b12, t, m2, m3, m4, m4', m5, m6, m7, m8, m9, m10, m11, m11', m12, m12', f0, f1, hL', hS']; exact ⟨rfl, rfl⟩)).trans ?_
      refine (exs_nx (by simp [runFn, exs, ex, ev, evAnd, evOr, evs, evO, evL, evIf, evI, asg, asgs, setL, R.b, R.t, R.ne, RT.s, ofO, peek, peekT, peeks, isiD, tyOf, tyLe, truW, truD, turns, wipe, args, binD, cmpD, eqD, bltD, intsOf, boolsOf, asInt, asBool, mk, allV, outW, itemsD, itemsW, itemsL, ixW, atI, ixN, slW, cut, sIx, freeze, mthW, mtyW, setIxW, forR, enmD, zipD, zipP, rgI, small, szL, isNW, maxI, minI, ne1, ne2, ne3, ne4, ne5, ne6, b1, b2, b3, b4, b5, b6, b7, b8, b9, b10, b11, b12, t, m2, m3, m4, m4', m5, m6, m7, m8, m9, m10, m11, m11', m12, m12', f0, f1, hL', hS']; exact ⟨rfl, rfl⟩)).trans ?_
      refine (exs_nx (by simp [runFn, exs, ex, ev, evAnd, evOr, evs, evO, evL, evIf, evI, asg, asgs, setL, R.b, R.t, R.ne, RT.s, ofO, peek, peekT, peeks, isiD, tyOf, tyLe, truW, truD, turns, wipe, args, binD, cmpD, eqD, bltD, intsOf, boolsOf, asInt, asBool, mk, allV, outW, itemsD, itemsW, itemsL, ixW, atI, ixN, slW, cut, sIx, freeze, mthW, mtyW, setIxW, forR, enmD, zipD, zipP, rgI, small, szL, isNW, maxI, minI, ne1, ne2, ne3, ne4, ne5, ne6, b1, b2, b3, b4, b5, b6, b7, b8, b9, b10, b11, b12, t, m2, m3, m4, m4', m5, m6, m7, m8, m9, m10, m11, m11', m12, m12', f0, f1, hL', hS']; exact ⟨rfl, rfl⟩)).trans ?_
      refine (exs_nx (by simp [runFn, exs, ex, ev, evAnd, evOr, evs, evO, evL, evIf, evI, asg, asgs, setL, R.b, R.t, R.ne, RT.s, ofO, peek, peekT, peeks, isiD, tyOf, tyLe, truW, truD, turns, wipe, args, binD, cmpD, eqD, bltD, intsOf, boolsOf, asInt, asBool, mk, allV, outW, itemsD, itemsW, itemsL, ixW, atI, ixN, slW, cut, sIx, freeze, mthW, mtyW, setIxW, forR, enmD, zipD, zipP, rgI, small, szL, isNW, maxI, minI, ne1, ne2, ne3, ne4, ne5, ne6, b1, b2, b3, b4, b5, b6, b7, b8, b9, b10, b11, b12, t, m2, m3, m4, m4', m5, m6, m7, m8, m9, m10, m11, m11', m12, m12', f0, f1, hL', hS']; exact ⟨rfl, rfl⟩)).trans ?_
      refine (exs_nx (by simp [runFn, exs, ex, ev, evAnd, evOr, evs, evO, evL, evIf, evI, asg, asgs, setL, R.b, R.t, R.ne, RT.s, ofO, peek, peekT, peeks, isiD, tyOf, tyLe, truW, truD, turns, wipe, args, binD, cmpD, eqD, bltD, intsOf, boolsOf, asInt, asBool, mk, allV, outW, itemsD, itemsW, itemsL, ixW, atI, ixN, slW, cut, sIx, freeze, mthW, mtyW, setIxW, forR, enmD, zipD, zipP, rgI, small, szL, isNW, maxI, minI, ne1, ne2, ne3, ne4, ne5, ne6, b1, b2, b3, b4, b5, b6, b7, b8, b9, b10, b11, b12, t, m2, m3, m4, m4', m5, m6, m7, m8, m9, m10, m11, m11', m12, m12', f0, f1, hL', hS']; exact ⟨rfl, rfl⟩)).trans ?_
      refine (exs_nx (by simp [runFn, exs, ex, ev, evAnd, evOr, evs, evO, evL, evIf, evI, asg, asgs, setL, R.b, R.t, R.ne, RT.s, ofO, peek, peekT, peeks, isiD, tyOf, tyLe, truW, truD, turns, wipe, args, binD, cmpD, eqD, bltD, intsOf, boolsOf, asInt, asBool, mk, allV, outW, itemsD, itemsW, itemsL, ixW, atI, ixN, slW, cut, sIx, freeze, mthW, mtyW, setIxW, forR, enmD, zipD, zipP, rgI, small, szL, isNW, maxI, minI, ne1, ne2, ne3, ne4, ne5, ne6, b1, b2, b3, b4, b5, b6, b7, b8, b9, b10, b11, b12, t, m2, m3, m4, m4', m5, m6, m7, m8, m9, m10, m11, m11', m12, m12', f0, f1, hL', hS']; exact ⟨rfl, rfl⟩)).trans ?_
      refine (exs_nx (by simp [runFn, exs, ex, ev, evAnd, evOr, evs, evO, evL, evIf, evI, asg, asgs, setL, R.b, R.t, R.ne, RT.s, ofO, peek, peekT, peeks, isiD, tyOf, tyLe, truW, truD, turns, wipe, args, binD, cmpD, eqD, bltD, intsOf, boolsOf, asInt, asBool, mk, allV, outW, itemsD, itemsW, itemsL, ixW, atI, ixN, slW, cut, sIx, freeze, mthW, mtyW, setIxW, forR, enmD, zipD, zipP, rgI, small, szL, isNW, maxI, minI, ne1, ne2, ne3, ne4, ne5, ne6, b1, b2, b3, b4, b5, b6, b7, b8, b9, b10, b11, b12, t, m2, m3, m4, m4', m5, m6, m7, m8, m9, m10, m11, m11', m12, m12', f0, f1, hL', hS']; rw [s _ (by simp [scal]) (by simp)]; simp [runFn, exs, ex, ev, evAnd, evOr, evs, evO, evL, evIf, evI, asg, asgs, setL, R.b, R.t, R.ne, RT.s, ofO, peek, peekT, peeks, isiD, tyOf, tyLe, truW, truD, turns, wipe, args, binD, cmpD, eqD, bltD, intsOf, boolsOf, asInt, asBool, mk, allV, outW, itemsD, itemsW, itemsL, ixW, atI, ixN, slW, cut, sIx, freeze, mthW, mtyW, setIxW, forR, enmD, zipD, zipP, rgI, small, szL, isNW, maxI, minI, ne1, ne2, ne3, ne4, ne5, ne6]; exact ⟨rfl, rfl⟩)).trans ?_
      refine (exs_nx (by simp [runFn, exs, ex, ev, evAnd, evOr, evs, evO, evL, evIf, evI, asg, asgs, setL, R.b, R.t, R.ne, RT.s, ofO, peek, peekT, peeks, isiD, tyOf, tyLe, truW, truD, turns, wipe, args, binD, cmpD, eqD, bltD, intsOf, boolsOf, asInt, asBool, mk, allV, outW, itemsD, itemsW, itemsL, ixW, atI, ixN, slW, cut, sIx, freeze, mthW, mtyW, setIxW, forR, enmD, zipD, zipP, rgI, small, szL, isNW, maxI, minI, ne1, ne2, ne3, ne4, ne5, ne6, b1, b2, b3, b4, b5, b6, b7, b8, b9, b10, b11, b12, t, m2, m3, m4, m4', m5, m6, m7, m8, m9, m10, m11, m11', m12, m12', f0, f1, hL', hS']; exact ⟨rfl, rfl⟩)).trans ?_
      refine (exs_nx (by simp [runFn, exs, ex, ev, evAnd, evOr, evs, evO, evL, evIf, evI, asg, asgs, setL, R.b, R.t, R.ne, RT.s, ofO, peek, peekT, peeks, isiD, tyOf, tyLe, truW, truD, turns, wipe, args, binD, cmpD, eqD, bltD, intsOf, boolsOf, asInt, asBool, mk, allV, outW, itemsD, itemsW, itemsL, ixW, atI, ixN, slW, cut, sIx, freeze, mthW, mtyW, setIxW, forR, enmD, zipD, zipP, rgI, small, szL, isNW, maxI, minI, ne1, ne2, ne3, ne4, ne5, ne6, b1, b2, b3, b4, b5, b6, b7, b8, b9, b10, b11, b12, t, m2, m3, m4, m4', m5, m6, m7, m8, m9, m10, m11, m11', m12, m12', f0, f1, hL', hS']; exact ⟨rfl, rfl⟩)).trans ?_
      refine (exs_nx (by simp [runFn, exs, ex, ev, evAnd, evOr, evs, evO, evL, evIf, evI, asg, asgs, setL, R.b, R.t, R.ne, RT.s, ofO, peek, peekT, peeks, isiD, tyOf, tyLe, truW, truD, turns, wipe, args, binD, cmpD, eqD, bltD, intsOf, boolsOf, asInt, asBool, mk, allV, outW, itemsD, itemsW, itemsL, ixW, atI, ixN, slW, cut, sIx, freeze, mthW, mtyW, setIxW, forR, enmD, zipD, zipP, rgI, small, szL, isNW, maxI, minI, ne1, ne2, ne3, ne4, ne5, ne6, b1, b2, b3, b4, b5, b6, b7, b8, b9, b10, b11, b12, t, m2, m3, m4, m4', m5, m6, m7, m8, m9, m10, m11, m11', m12, m12', f0, f1, hL', hS']; exact ⟨rfl, rfl⟩)).trans ?_
      simp only [exs]
      rfl
theorem tr_iter {w : Wo} {C : Orc} {S : List OS} {b c : Big} {p q : Int} (hb : b.ok) (hc : c.ok) (db : b.dep ≤ 10) (T : Two C S w b c p q) (u y8 y9 y10 y11 : Option W) :
    ∃ z8 z9 z10 z11, exs C trB [u, some (.v b.D), some (.v c.D), some (.v (.int (acts b))), some (.v (.int (acts c))), some (.v (.int p)), some (.v (.int q)), some (.v (.str (Wo.s w))), y8, y9, y10, y11] ⟨[], S⟩
      = .nx [u, some (.v b.D), some (.v c.D), some (.v (.int (acts b))), some (.v (.int (acts c))), some (.v (.int p)), some (.v (.int q)), some (.v (.str (Wo.s w))), z8, z9, z10, z11] ⟨[], S⟩ := by
  cases w
  · exact tr_a hb hc db T u y8 y9 y10 y11
  · exact tr_t hb hc db T u y8 y9 y10 y11
  · exact tr_o hb hc db T u y8 y9 y10 y11
end L

set_option maxHeartbeats 4000000
namespace L
open PySem Z
theorem two_eq : F_law_two_right = ⟨3, 12, .cons (.par [3, 4] (.cons (.call 11 (.cons (.var 1) .nil)) (.cons (.call 11 (.cons (.var 2) .nil)) .nil))) (.cons (.par [5, 6] (.cons (.call 10 (.cons (.var 0) (.cons (.var 3) .nil))) (.cons (.call 10 (.cons (.var 0) (.cons (.var 4) .nil))) .nil))) (.cons (.forT (.nm 7) (.seq (.tup (.cons (.cst (.str "and")) (.cons (.cst (.str "then")) (.cons (.cst (.str "or")) .nil))))) trB) (.cons (.ret (.cst (.bool true))) .nil)))⟩ := rfl
theorem c13 {N n : Nat} {S : List OS} (hU : Urn N n S) (hN : N + 2 ≤ 1000000) {b c : Big} (hb : b.ok) (hc : c.ok) (db : b.dep ≤ 10) (dc : c.dep ≤ 10) (k : Nat) (hk : 30 ≤ k) :
    ∃ S', callP fs k 13 [.ref n, .v b.D, .v c.D] S = .ok (.v (.bool true)) ⟨[], S'⟩ ∧ Urn (N + 2) n S' := by
  obtain ⟨k, rfl⟩ : ∃ j, k = j + 2 := ⟨k - 2, by omega⟩
  have ab := acts_cap b hb
  have ac := acts_cap c hc
  have cb := cap_mono (a := b.dep) (b := 20) (by omega)
  have cc := cap_mono (a := c.dep) (b := 20) (by omega)
  have e1 := c11 b (k + 1) S hb (by omega) (by omega)
  have e2 := c11 c (k + 1) S hc (by omega) (by omega)
  obtain ⟨p, S1, e3, p0, p1, hU1⟩ := c10 hU (by omega) (low := acts b) (by omega) (by omega) k
  obtain ⟨q, S2, e4, q0, q1, hU2⟩ := c10 hU1 (by omega) (low := acts c) (by omega) (by omega) k
  have ta := two_of (w := .a) hb hc db dc p0 p1 q0 q1 (k + 1) (by omega) S2
  have tt := two_of (w := .t) hb hc db dc p0 p1 q0 q1 (k + 1) (by omega) S2
  have to := two_of (w := .o) hb hc db dc p0 p1 q0 q1 (k + 1) (by omega) S2
  refine ⟨S2, ?_, hU2⟩
  show runFn (callP fs (k + 1)) F_law_two_right [.ref n, .v b.D, .v c.D] S = _
  generalize callP fs (k + 1) = C at *
  obtain ⟨x8, x9, x10, x11, t1⟩ := tr_iter hb hc db ta (some (.ref n)) none none none none
  obtain ⟨z8, z9, z10, z11, t2⟩ := tr_iter hb hc db tt (some (.ref n)) x8 x9 x10 x11
  obtain ⟨u8, u9, u10, u11, t3⟩ := tr_iter hb hc db to (some (.ref n)) z8 z9 z10 z11
  rw [two_eq]
  simp only [Wo.s] at t1 t2 t3
  simp [runFn, exs, ex, ev, evAnd, evOr, evs, evO, evL, evIf, evI, asg, asgs, setL, R.b, R.t, R.ne, RT.s, ofO, peek, peekT, peeks, isiD, tyOf, tyLe, truW, truD, turns, wipe, args, binD, cmpD, eqD, bltD, intsOf, boolsOf, asInt, asBool, mk, allV, outW, itemsD, itemsW, itemsL, ixW, atI, ixN, slW, cut, sIx, freeze, mthW, mtyW, setIxW, forR, enmD, zipD, zipP, rgI, small, szL, isNW, maxI, minI, ne1, ne2, ne3, ne4, ne5, ne6, e1, e2, e3, e4, t1, t2, t3]
def rB : TS := match F_law_right.body with | .cons _ (.cons (.forT _ _ b) _) => b | _ => .nil
def lapB : TS := match rB with | .cons _ (.cons _ (.cons _ (.cons _ (.cons _ (.cons _ (.cons _ (.cons (.forT _ _ b) _))))))) => b | _ => .nil
theorem right_eq : F_law_right = ⟨1, 15, .cons (.ife (.not (.call 15 .nil)) (.cons (.ret (.cst (.bool false))) .nil) .nil) (.cons (.forT (.nm 1) (.rng1 (.cst (.int 6))) rB) (.cons (.ret (.cst (.bool true))) .nil))⟩ := rfl
theorem cut_ok {w : Wo} {n m : Int} {b : Big} (hb : b.ok) (h1 : 1 ≤ m) (h2 : m ≤ n - 1) (h3 : n ≤ 2 ^ 70) : (cutB w m n b).ok ∧ (whole w n b).ok := ⟨⟨⟨h1, by omega, hb⟩, by omega, by omega, hb⟩, by omega, h3, hb⟩
theorem cut_dep {w : Wo} {n m : Int} {b : Big} : (cutB w m n b).dep = b.dep + 2 := by
  show max (b.dep + 1) (b.dep + 1) + 1 = _
  omega
theorem lap_iter {N n : Nat} {S : List OS} (hU : Urn N n S) (hN : N + 1 ≤ 1000000) {w : Wo} {q m : Int} {b : Big} (hb : b.ok) (db : b.dep ≤ 5) (h1 : 1 ≤ m) (h2 : m ≤ q - 1) (h3 : q ≤ 2 ^ 70) (k : Nat) (hk : 30 ≤ k) (y1 y2 y3 y4 y5 y6 y7 y10 y11 y12 y13 y14 : Option W) :
    ∃ S' z11 z12 z13, exs (callP fs k) lapB [some (.ref n), y1, y2, y3, y4, y5, y6, y7, some (.v (whole w q b).D), some (.v (cutB w m q b).D), y10, y11, y12, y13, y14] ⟨[], S⟩
      = .nx [some (.ref n), y1, y2, y3, y4, y5, y6, y7, some (.v (whole w q b).D), some (.v (cutB w m q b).D), y10, z11, z12, z13, y14] ⟨[], S'⟩ ∧ Urn (N + 1) n S' := by
  obtain ⟨k, rfl⟩ : ∃ j, k = j + 2 := ⟨k - 2, by omega⟩
  obtain ⟨ok2, ok1⟩ := cut_ok (w := w) hb h1 h2 h3
  have d2 : (cutB w m q b).dep = b.dep + 2 := cut_dep
  have d1 : (whole w q b).dep = b.dep + 1 := rfl
  have aw := acts_cap _ ok1
  have cw := cap_mono (a := (whole w q b).dep) (b := 20) (by omega)
  have e1 := c11 (whole w q b) (k + 2) S ok1 (by omega) (by omega)
  obtain ⟨p, S', e2, p0, p1, hU'⟩ := c10 hU (by omega) (low := acts (whole w q b)) (by omega) (by omega) (k + 1)
  have p1' : p < q * acts b := p1
  have p2 : p < acts (cutB w m q b) := by rw [acts_cut]; exact p1
  have a1 := c9 (whole w q b) p (k + 2) S' ok1 (by omega) (by omega) p0 p1
  have a2 := c8 (whole w q b) p (k + 2) S' ok1 (by omega) (by omega) p0 p1
  have a3 := c7 (whole w q b) p (k + 2) S' ok1 (by omega) (by omega) p0 p1
  have a4 := c6 (whole w q b) p (k + 2) S' ok1 (by omega) (by omega) p0 p1
  have b1 := c9 (cutB w m q b) p (k + 2) S' ok2 (by omega) (by omega) p0 p2
  have b2 := c8 (cutB w m q b) p (k + 2) S' ok2 (by omega) (by omega) p0 p2
  have b3 := c7 (cutB w m q b) p (k + 2) S' ok2 (by omega) (by omega) p0 p2
  have b4 := c6 (cutB w m q b) p (k + 2) S' ok2 (by omega) (by omega) p0 p2
  rw [at_cut hb p0 p1'] at b1
  rw [cut_ftd hb p0 p1'] at b2
  rw [cut_alw hb h1 p0 p1'] at b3
  rw [cut_cbe hb h2 p0 p1'] at b4
  have s : callP fs (k + 2) 4 [.v (.list [.str (atB (whole w q b) p), .int (ftd (whole w q b) p), .bool (alw (whole w q b) p), .bool (cbe (whole w q b) p)]), .v (.list [.str (atB (whole w q b) p), .int (ftd (whole w q b) p), .bool (alw (whole w q b) p), .bool (cbe (whole w q b) p)])] S' = .ok (.v (.bool true)) ⟨[], S'⟩ := c4l _ (by simp [scal]) (by simp) k S'
  generalize callP fs (k + 2) = C at *
  generalize (whole w q b).D = W1 at *
  generalize (cutB w m q b).D = W2 at *
  generalize acts (whole w q b) = aW at *
  exact ⟨S', _, _, _, by simp [lapB, rB, F_law_right, runFn, exs, ex, ev, evAnd, evOr, evs, evO, evL, evIf, evI, asg, asgs, setL, R.b, R.t, R.ne, RT.s, ofO, peek, peekT, peeks, isiD, tyOf, tyLe, truW, truD, turns, wipe, args, binD, cmpD, eqD, bltD, intsOf, boolsOf, asInt, asBool, mk, allV, outW, itemsD, itemsW, itemsL, ixW, atI, ixN, slW, cut, sIx, freeze, mthW, mtyW, setIxW, forR, enmD, zipD, zipP, rgI, small, szL, isNW, maxI, minI, ne1, ne2, ne3, ne4, ne5, ne6, e1, e2, a1, a2, a3, a4, b1, b2, b3, b4, s] <;> exact ⟨rfl, rfl, rfl⟩, hU'⟩
theorem rB_eq : rB = .cons (.asg (.nm 2) (.call 12 (.cons (.var 0) (.cons (.lst .fz (.disp (.cons (.cst (.int 3)) (.cons (.bin .pow (.cst (.int 10)) (.cst (.int 20))) .nil)))) .nil)))) (.cons (.asg (.tp (.cons (.nm 3) (.cons (.nm 4) .nil))) (.lst .fz (.comp [14] (.nm 14) (.rng1 (.cst (.int 2))) .nil (.call 14 (.cons (.var 0) (.cons (.var 2) (.cons (.cst (.int 2)) .nil))))))) (.cons (.ife (.not (.call 13 (.cons (.var 0) (.cons (.var 3) (.cons (.var 4) .nil))))) (.cons (.ret (.cst (.bool false))) .nil) .nil) (.cons (.par [5, 6, 7] (.cons (.bin .add (.cst (.int 2)) (.call 10 (.cons (.var 0) (.cons (.var 2) .nil)))) (.cons (.call 10 (.cons (.var 0) (.cons (.var 2) .nil))) (.cons (.call 12 (.cons (.var 0) (.cons (.lst .fz (.disp (.cons (.cst (.str "and")) (.cons (.cst (.str "then")) (.cons (.cst (.str "or")) .nil))))) .nil))) .nil)))) (.cons (.asg (.nm 6) (.bin .add (.cst (.int 1)) (.bin .mod (.var 6) (.bin .sub (.var 5) (.cst (.int 1)))))) (.cons (.par [8, 9] (.cons (.tup (.cons (.var 7) (.cons (.var 5) (.cons (.var 3) .nil)))) (.cons (.tup (.cons (.var 7) (.cons (.tup (.cons (.var 7) (.cons (.var 6) (.cons (.var 3) .nil)))) (.cons (.tup (.cons (.var 7) (.cons (.bin .sub (.var 5) (.var 6)) (.cons (.var 3) .nil)))) .nil)))) .nil))) (.cons (.ife (.not (.call 4 (.cons (.call 5 (.cons (.var 8) .nil)) (.cons (.call 5 (.cons (.var 9) .nil)) .nil)))) (.cons (.ret (.cst (.bool false))) .nil) .nil) (.cons (.forT (.nm 10) (.rng1 (.cst (.int 3))) lapB) (.cons (.ife (.not (.call 4 (.cons (.call 5 (.cons (.tup (.cons (.var 7) (.cons (.cst (.int 1)) (.cons (.var 3) .nil)))) .nil)) (.cons (.call 5 (.cons (.var 3) .nil)) .nil)))) (.cons (.ret (.cst (.bool false))) .nil) .nil) .nil)))))))) := rfl
theorem turn_iter {N n : Nat} {S : List OS} (hU : Urn N n S) (hN : N + 1000 ≤ 1000000) (k : Nat) (hk : 40 ≤ k) (y1 y2 y3 y4 y5 y6 y7 y8 y9 y10 y11 y12 y13 y14 : Option W) :
    ∃ S' z2 z3 z4 z5 z6 z7 z8 z9 z10 z11 z12 z13, exs (callP fs k) rB [some (.ref n), y1, y2, y3, y4, y5, y6, y7, y8, y9, y10, y11, y12, y13, y14] ⟨[], S⟩
      = .nx [some (.ref n), y1, z2, z3, z4, z5, z6, z7, z8, z9, z10, z11, z12, z13, y14] ⟨[], S'⟩ ∧ Urn (N + 1000) n S' := by
  obtain ⟨k, rfl⟩ : ∃ j, k = j + 3 := ⟨k - 3, by omega⟩
  have c100 := cap20
  obtain ⟨x, S1, hx, e1, hU1⟩ := c12 hU (by omega) [.int 3, .int 100000000000000000000] (by simp) (by simp) (k + 1)
  obtain ⟨sz, rfl, sz1, sz2⟩ : ∃ sz : Int, x = .int sz ∧ 1 ≤ sz ∧ sz ≤ 100000000000000000000 := by
    simp only [List.mem_cons, List.not_mem_nil, or_false] at hx
    rcases hx with rfl | rfl
    · exact ⟨3, rfl, by decide, by decide⟩
    · exact ⟨100000000000000000000, rfl, by decide, by decide⟩
  have hc2 : cost 2 = 42 := rfl
  obtain ⟨b, S2, e2, okb, db, hU2⟩ := c14 2 hU1 (by omega) (by decide) (many := sz) sz1 (by omega) (k + 3) (by omega)
  obtain ⟨c, S3, e3, okc, dc, hU3⟩ := c14 2 hU2 (by omega) (by decide) (many := sz) sz1 (by omega) (k + 3) (by omega)
  obtain ⟨S4, e4, hU4⟩ := c13 hU3 (by omega) okb okc (by omega) (by omega) (k + 3) (by omega)
  obtain ⟨r1, S5, e5, r10, r11, hU5⟩ := c10 hU4 (by omega) (low := sz) sz1 (by omega) (k + 2)
  obtain ⟨r2, S6, e6, r20, r21, hU6⟩ := c10 hU5 (by omega) (low := sz) sz1 (by omega) (k + 2)
  obtain ⟨x, S7, hx, e7, hU7⟩ := c12 hU6 (by omega) [.str "and", .str "then", .str "or"] (by simp) (by simp) (k + 1)
  obtain ⟨w, rfl⟩ : ∃ w : Wo, x = .str w.s := by
    simp only [List.mem_cons, List.not_mem_nil, or_false] at hx
    rcases hx with rfl | rfl | rfl
    · exact ⟨.a, rfl⟩
    · exact ⟨.t, rfl⟩
    · exact ⟨.o, rfl⟩
  have hpos : 0 < 2 + r1 - 1 := by omega
  generalize hm : 1 + r2 % (2 + r1 - 1) = m
  have m1 : 1 ≤ m ∧ m ≤ (2 + r1) - 1 := by
    have := mod_in (p := r2) (a := 2 + r1 - 1) (by omega)
    omega
  generalize hq : 2 + r1 = q at *
  have q1 : q ≤ 2 ^ 70 := by omega
  obtain ⟨ok2, ok1⟩ := cut_ok (w := w) okb m1.1 m1.2 q1
  have d2 : (cutB w m q b).dep = b.dep + 2 := cut_dep
  have d1 : (whole w q b).dep = b.dep + 1 := rfl
  have t1 := c5 (whole w q b) (k + 3) S7 ok1 (by omega) (by omega)
  have t2 := c5 (cutB w m q b) (k + 3) S7 ok2 (by omega) (by omega)
  rw [acts_cut, ff_cut, longest_cut okb m1.1 m1.2, shortest_cut okb m1.1 m1.2] at t2
  have s : ∀ (S : List OS) (a b c d : Int), callP fs (k + 3) 4 [.v (.list [.int a, .int b, .int c, .int d]), .v (.list [.int a, .int b, .int c, .int d])] S = .ok (.v (.bool true)) ⟨[], S⟩ := fun S a b c d => c4l _ (by simp [scal]) (by simp) (k + 1) S
  obtain ⟨S8, u11, u12, u13, l1, hU8⟩ := lap_iter hU7 (by omega) (w := w) okb (by omega) m1.1 m1.2 q1 (k + 3) (by omega) y1 (some (.v (.int sz))) (some (.v b.D)) (some (.v c.D)) (some (.v (.int q))) (some (.v (.int m))) (some (.v (.str w.s))) (some (.v (.int 0))) y11 y12 y13 y14
  obtain ⟨S9, v11, v12, v13, l2, hU9⟩ := lap_iter hU8 (by omega) (w := w) okb (by omega) m1.1 m1.2 q1 (k + 3) (by omega) y1 (some (.v (.int sz))) (some (.v b.D)) (some (.v c.D)) (some (.v (.int q))) (some (.v (.int m))) (some (.v (.str w.s))) (some (.v (.int 1))) u11 u12 u13 y14
  obtain ⟨S10, x11, x12, x13, l3, hU10⟩ := lap_iter hU9 (by omega) (w := w) okb (by omega) m1.1 m1.2 q1 (k + 3) (by omega) y1 (some (.v (.int sz))) (some (.v b.D)) (some (.v c.D)) (some (.v (.int q))) (some (.v (.int m))) (some (.v (.str w.s))) (some (.v (.int 2))) v11 v12 v13 y14
  have ok3 : (Big.rep w 1 b).ok := ⟨by decide, by decide, okb⟩
  have t3 := c5 (.rep w 1 b) (k + 3) S10 ok3 (by show b.dep + 1 + 5 ≤ _; omega) (by show b.dep + 1 ≤ _; omega)
  have t4 := c5 b (k + 3) S10 okb (by omega) (by omega)
  have lo : longest (.rep w 1 b) = longest b := by unfold longest; rw [lens_rep1]
  have sh : shortest (.rep w 1 b) = shortest b := by unfold shortest; rw [lens_rep1]
  rw [acts_rep1, ff_rep1, lo, sh] at t3
  have pf : powFit 10 20 = true := by decide +kernel
  refine ⟨S10, some (.v (.int sz)), some (.v b.D), some (.v c.D), some (.v (.int q)), some (.v (.int m)), some (.v (.str w.s)), some (.v (whole w q b).D), some (.v (cutB w m q b).D), some (.v (.int 2)), x11, x12, x13, ?_, hU10.le (by omega)⟩
  rw [rB_eq]
  generalize callP fs (k + 3) = C at *
  simp only [whole, cutB, Big.D] at t1 t2 t3 l1 l2 l3 ⊢
  simp only [Int.cast_ofNat_Int] at e2 e3
  simp [runFn, exs, ex, ev, evAnd, evOr, evs, evO, evL, evIf, evI, asg, asgs, setL, R.b, R.t, R.ne, RT.s, ofO, peek, peekT, peeks, isiD, tyOf, tyLe, truW, truD, turns, wipe, args, binD, cmpD, eqD, bltD, intsOf, boolsOf, asInt, asBool, mk, allV, outW, itemsD, itemsW, itemsL, ixW, atI, ixN, slW, cut, sIx, freeze, mthW, mtyW, setIxW, forR, enmD, zipD, zipP, rgI, small, szL, isNW, maxI, minI, ne1, ne2, ne3, ne4, ne5, ne6, e1, e2, e3, e4, e5, e6, e7, t1, t2, t3, t4, s, l1, l2, l3, pf, hm, hq, hpos, show 1 < q by omega]
theorem turns_loop (k : Nat) (hk : 40 ≤ k) {n : Nat} : ∀ (ds : List PyData) {N : Nat} {S : List OS}, Urn N n S → N + 1000 * ds.length ≤ 1000000 → ∀ (y1 y2 y3 y4 y5 y6 y7 y8 y9 y10 y11 y12 y13 y14 : Option W),
    ∃ ρ S', forR (fun d ρ m => match asg (.nm 1) (.v d) ρ with | some ρ => exs (callP fs k) rB ρ m | none => .bad) ds [some (.ref n), y1, y2, y3, y4, y5, y6, y7, y8, y9, y10, y11, y12, y13, y14] ⟨[], S⟩ = .nx ρ ⟨[], S'⟩ := by
  intro ds
  induction ds with
  | nil => intro N S _ _ y1 y2 y3 y4 y5 y6 y7 y8 y9 y10 y11 y12 y13 y14; exact ⟨_, S, by rw [forR]⟩
  | cons d ds ih =>
    intro N S hU hN y1 y2 y3 y4 y5 y6 y7 y8 y9 y10 y11 y12 y13 y14
    rw [List.length_cons] at hN
    obtain ⟨S', z2, z3, z4, z5, z6, z7, z8, z9, z10, z11, z12, z13, e, hU'⟩ := turn_iter hU (by omega) k hk (some (.v d)) y2 y3 y4 y5 y6 y7 y8 y9 y10 y11 y12 y13 y14
    obtain ⟨ρ, S'', ih⟩ := ih hU' (by omega) (some (.v d)) z2 z3 z4 z5 z6 z7 z8 z9 z10 z11 z12 z13 y14
    refine ⟨ρ, S'', ?_⟩
    rw [forR]
    have ha : asg (.nm 1) (.v d) [some (.ref n), y1, y2, y3, y4, y5, y6, y7, y8, y9, y10, y11, y12, y13, y14] = some [some (.ref n), some (.v d), y2, y3, y4, y5, y6, y7, y8, y9, y10, y11, y12, y13, y14] := rfl
    rw [ha]
    dsimp only
    rw [e]
    exact ih
theorem c1 {N n : Nat} {S : List OS} (hU : Urn N n S) (hN : N ≤ 1000) (k : Nat) (hk : 41 ≤ k) : ∃ S', callP fs k 1 [.ref n] S = .ok (.v (.bool true)) ⟨[], S'⟩ := by
  obtain ⟨k, rfl⟩ : ∃ j, k = j + 21 := ⟨k - 21, by omega⟩
  have e := c15 k S
  obtain ⟨ρ, S', l⟩ := turns_loop (k + 20) (by omega) (rgI 0 6) hU (by simp [rgI]; omega) none none none none none none none none none none none none none none
  refine ⟨S', ?_⟩
  show runFn (callP fs (k + 20)) F_law_right [.ref n] S = _
  have hw : ∀ ρ m, ex (callP fs (k + 20)) (.forT (.nm 1) (.rng1 (.cst (.int 6))) rB) ρ m = (evI (callP fs (k + 20)) (.rng1 (.cst (.int 6))) ρ m).t ρ fun ds m => forR (fun d ρ m => match asg (.nm 1) (.v d) ρ with | some ρ => exs (callP fs (k + 20)) rB ρ m | none => .bad) ds ρ m := fun ρ m => by simp only [ex] <;> rfl
  rw [right_eq]
  generalize (fun (d : PyData) (ρ : Z.Env) (m : Mem) => match asg (.nm 1) (.v d) ρ with | some ρ => exs (callP fs (k + 20)) rB ρ m | none => RT.bad) = cf at l hw
  generalize callP fs (k + 20) = C at *
  simp only [runFn, exs, hw]
  have hr : ∀ (ρ : Z.Env) (m : Mem), evI C (.rng1 (.cst (.int 6))) ρ m = .ok (rgI 0 6) m := fun _ _ => rfl
  simp only [hr]
  generalize rgI 0 6 = dd at l
  simp [runFn, exs, ex, ev, evAnd, evOr, evs, evO, evL, evIf, evI, asg, asgs, setL, R.b, R.t, R.ne, RT.s, ofO, peek, peekT, peeks, isiD, tyOf, tyLe, truW, truD, wipe, args, binD, cmpD, eqD, bltD, intsOf, boolsOf, asInt, asBool, mk, allV, outW, itemsD, itemsW, itemsL, ixW, atI, ixN, slW, cut, sIx, freeze, mthW, mtyW, setIxW, enmD, zipD, zipP, rgI, small, szL, isNW, maxI, minI, ne1, ne2, ne3, ne4, ne5, ne6, e, l]
/-! the cells, the box, the law -/
theorem log_add {x y : Int} {a : Nat} (hx : x.natAbs.log2 ≤ a) (hy : y.natAbs.log2 ≤ a) : (x + y).natAbs.log2 ≤ a + 1 := by
  have lt : ∀ z : Int, z.natAbs.log2 ≤ a → z.natAbs < 2 ^ (a + 1) := fun z h => by
    by_cases e : z.natAbs = 0
    · rw [e]; exact Nat.two_pow_pos _
    · exact (Nat.log2_lt e).mp (by omega)
  have h1 := lt x hx
  have h2 := lt y hy
  have h3 : (x + y).natAbs < 2 ^ (a + 2) := by
    have := Int.natAbs_add_le x y
    have e : 2 ^ (a + 2) = 2 * 2 ^ (a + 1) := by rw [Nat.pow_succ 2 (a + 1)]; omega
    omega
  by_cases e : (x + y).natAbs = 0
  · rw [e]; simp
  · have := (Nat.log2_lt e).mpr h3
    omega
theorem log_mul {x y : Int} {a b : Nat} (hx : x.natAbs.log2 ≤ a) (hy : y.natAbs.log2 ≤ b) : (x * y).natAbs.log2 ≤ a + b + 1 := by
  have lt : ∀ (z : Int) (a : Nat), z.natAbs.log2 ≤ a → z.natAbs < 2 ^ (a + 1) := fun z a h => by
    by_cases e : z.natAbs = 0
    · rw [e]; exact Nat.two_pow_pos _
    · exact (Nat.log2_lt e).mp (by omega)
  have h1 := lt x a hx
  have h2 := lt y b hy
  have h3 : (x * y).natAbs < 2 ^ (a + b + 2) := by
    rw [Int.natAbs_mul, show a + b + 2 = (a + 1) + (b + 1) by omega, Nat.pow_add]
    exact Nat.mul_lt_mul_of_lt_of_le h1 (Nat.le_of_lt h2) (Nat.two_pow_pos _)
  by_cases e : (x * y).natAbs = 0
  · rw [e]; simp
  · have := (Nat.log2_lt e).mpr h3
    omega
theorem c2 (ds : List Int) (hb : ∀ z ∈ ds, z.natAbs.log2 ≤ 10000000) (i : Nat) (hi : i < ds.length) (hl : ds.length ≤ 100) (k : Nat) (S : List OS) : ∃ S', callP fs (k + 1) 2 [.v (.list (ds.map .int)), .v (.int i)] S = .ok (.ref S.length) ⟨[], S'⟩ ∧ Urn 0 S.length S' := by
  have hz := hb ds[i] (List.getElem_mem hi)
  generalize hx : ds[i] = x at hz
  have p1 : powFit 10 18 = true := by decide +kernel
  have m1 : ∀ y : Int, y = 0 ∨ y = 1 → mulFit (x.natAbs : Int) y = true := fun y hy => decide_eq_true (by
    rw [Int.natAbs_natCast]
    have z0 : Nat.log2 0 = 0 := by decide +kernel
    have z1 : Nat.log2 1 = 0 := by decide +kernel
    rcases hy with rfl | rfl
    · show _ + Nat.log2 0 < _; rw [z0]; omega
    · show _ + Nat.log2 1 < _; rw [z1]; omega)
  have m10 := m1 0 (.inl rfl)
  have m11 := m1 1 (.inr rfl)
  have m2 : mulFit 39373 (i : Int) = true := fit (by decide) (by have := cap20; omega) (by omega) (by have := cap20; omega)
  have hil : (i : Int) < (ds.length : Int) := by omega
  show ∃ S', runFn (callP fs k) F_law_box [.v (.list (ds.map .int)), .v (.int i)] S = _ ∧ _
  by_cases hg : (1000000000000000000 : Int) ≤ (x.natAbs : Int)
  · refine ⟨S ++ [.lst [.int (x.natAbs * 1), .int (x % 2305843009213693951 + 39373 * i + 10516083), .int 0]], ?_, ⟨(x.natAbs : Int) * 1, x % 2305843009213693951 + 39373 * i + 10516083, 0, by simp, ?_⟩⟩
    · simp [runFn, exs, ex, ev, evAnd, evOr, evs, evO, evL, evIf, evI, asg, asgs, setL, R.b, R.t, R.ne, RT.s, ofO, peek, peekT, peeks, isiD, tyOf, tyLe, truW, truD, turns, wipe, args, binD, cmpD, eqD, bltD, intsOf, boolsOf, asInt, asBool, mk, allV, outW, itemsD, itemsW, itemsL, ixW, atI, ixN, slW, cut, sIx, freeze, mthW, mtyW, setIxW, forR, enmD, zipD, zipP, rgI, small, szL, isNW, maxI, minI, ne1, ne2, ne3, ne4, ne5, ne6, F_law_box, hi, hx, p1, hg, m11, m2]
    · rw [cap2]; omega
  · refine ⟨S ++ [.lst [.int (x.natAbs * 0), .int (x % 2305843009213693951 + 39373 * i + 10516083), .int 0]], ?_, ⟨(x.natAbs : Int) * 0, x % 2305843009213693951 + 39373 * i + 10516083, 0, by simp, ?_⟩⟩
    · simp [runFn, exs, ex, ev, evAnd, evOr, evs, evO, evL, evIf, evI, asg, asgs, setL, R.b, R.t, R.ne, RT.s, ofO, peek, peekT, peeks, isiD, tyOf, tyLe, truW, truD, turns, wipe, args, binD, cmpD, eqD, bltD, intsOf, boolsOf, asInt, asBool, mk, allV, outW, itemsD, itemsW, itemsL, ixW, atI, ixN, slW, cut, sIx, freeze, mthW, mtyW, setIxW, forR, enmD, zipD, zipP, rgI, small, szL, isNW, maxI, minI, ne1, ne2, ne3, ne4, ne5, ne6, F_law_box, hi, hx, p1, hg, m10, m2]
    · rw [cap2]; omega
end L

set_option maxHeartbeats 4000000
namespace L
open PySem Z
def celB : TS := match F_law_cells.body with | .cons _ (.cons (.forT _ _ b) _) => b | _ => .nil
def celG : G := .tp (.cons (.nm 3) (.cons (.nm 4) .nil))
theorem cel_step {C : Orc} {S : List OS} {x y z c : Int} {i : Int} (h0 : 0 ≤ i) (hm : mulFit c (i + 2) = true) (u : Option W) (y5 : Option W) :
    ∃ x' y' z' v5, exs C celB [u, some (.v (.int 3)), some (.loc 0), some (.v (.int i)), some (.v (.int c)), y5] ⟨[.lst [.v (.int x), .v (.int y), .v (.int z)]], S⟩
      = .nx [u, some (.v (.int 3)), some (.loc 0), some (.v (.int i)), some (.v (.int c)), v5] ⟨[.lst [.v (.int x'), .v (.int y'), .v (.int z')]], S⟩ ∧
      (x' = x ∨ x' = x + c * (i + 2)) ∧ (y' = y ∨ y' = y + c * (i + 2)) ∧ (z' = z ∨ z' = z + c * (i + 2)) := by
  have hr : i % 3 = 0 ∨ i % 3 = 1 ∨ i % 3 = 2 := by omega
  rcases hr with hr | hr | hr
  · exact ⟨x + c * (i + 2), y, z, some (.v (.int 0)), by simp [celB, F_law_cells, runFn, exs, ex, ev, evAnd, evOr, evs, evO, evL, evIf, evI, asg, asgs, setL, R.b, R.t, R.ne, RT.s, ofO, peek, peekT, peeks, isiD, tyOf, tyLe, truW, truD, turns, wipe, args, binD, cmpD, eqD, bltD, intsOf, boolsOf, asInt, asBool, mk, allV, outW, itemsD, itemsW, itemsL, ixW, atI, ixN, slW, cut, sIx, freeze, mthW, mtyW, setIxW, forR, enmD, zipD, zipP, rgI, small, szL, isNW, maxI, minI, ne1, ne2, ne3, ne4, ne5, ne6, hr, hm], .inr rfl, .inl rfl, .inl rfl⟩
  · exact ⟨x, y + c * (i + 2), z, some (.v (.int 1)), by simp [celB, F_law_cells, runFn, exs, ex, ev, evAnd, evOr, evs, evO, evL, evIf, evI, asg, asgs, setL, R.b, R.t, R.ne, RT.s, ofO, peek, peekT, peeks, isiD, tyOf, tyLe, truW, truD, turns, wipe, args, binD, cmpD, eqD, bltD, intsOf, boolsOf, asInt, asBool, mk, allV, outW, itemsD, itemsW, itemsL, ixW, atI, ixN, slW, cut, sIx, freeze, mthW, mtyW, setIxW, forR, enmD, zipD, zipP, rgI, small, szL, isNW, maxI, minI, ne1, ne2, ne3, ne4, ne5, ne6, hr, hm], .inl rfl, .inr rfl, .inl rfl⟩
  · exact ⟨x, y, z + c * (i + 2), some (.v (.int 2)), by simp [celB, F_law_cells, runFn, exs, ex, ev, evAnd, evOr, evs, evO, evL, evIf, evI, asg, asgs, setL, R.b, R.t, R.ne, RT.s, ofO, peek, peekT, peeks, isiD, tyOf, tyLe, truW, truD, turns, wipe, args, binD, cmpD, eqD, bltD, intsOf, boolsOf, asInt, asBool, mk, allV, outW, itemsD, itemsW, itemsL, ixW, atI, ixN, slW, cut, sIx, freeze, mthW, mtyW, setIxW, forR, enmD, zipD, zipP, rgI, small, szL, isNW, maxI, minI, ne1, ne2, ne3, ne4, ne5, ne6, hr, hm], .inl rfl, .inl rfl, .inr rfl⟩
theorem cel_loop {C : Orc} {S : List OS} (u : Option W) : ∀ (ns : List Int) (i : Nat) (x y z : Int) (y3 y4 y5 : Option W), (∀ c ∈ ns, c.natAbs.log2 ≤ 1048576) → i + ns.length ≤ 1000 → x.natAbs.log2 ≤ 1048700 + i → y.natAbs.log2 ≤ 1048700 + i → z.natAbs.log2 ≤ 1048700 + i →
    ∃ x' y' z' v3 v4 v5, forR (fun d ρ m => match asg celG (.v d) ρ with | some ρ => exs C celB ρ m | none => .bad) (enmD i (ns.map .int)) [u, some (.v (.int 3)), some (.loc 0), y3, y4, y5] ⟨[.lst [.v (.int x), .v (.int y), .v (.int z)]], S⟩
      = .nx [u, some (.v (.int 3)), some (.loc 0), v3, v4, v5] ⟨[.lst [.v (.int x'), .v (.int y'), .v (.int z')]], S⟩ ∧ x'.natAbs.log2 ≤ 10000000 ∧ y'.natAbs.log2 ≤ 10000000 ∧ z'.natAbs.log2 ≤ 10000000 := by
  intro ns
  induction ns with
  | nil =>
    intro i x y z y3 y4 y5 _ hl hx hy hz
    exact ⟨x, y, z, y3, y4, y5, by simp [enmD, forR], by omega, by omega, by omega⟩
  | cons c ns ih =>
    intro i x y z y3 y4 y5 hc hl hx hy hz
    rw [List.length_cons] at hl
    have h1 := hc c (by simp)
    have hk : ((i : Int) + 2).natAbs.log2 ≤ 10 := by
      have e : ((i : Int) + 2).natAbs = i + 2 := by omega
      rw [e]
      have := (Nat.log2_lt (n := i + 2) (k := 11) (by omega)).mpr (by omega)
      omega
    have hm : mulFit c ((i : Int) + 2) = true := decide_eq_true (by omega)
    have hp := log_mul h1 hk
    obtain ⟨x', y', z', v5, e, ex, ey, ez⟩ := cel_step (C := C) (S := S) (x := x) (y := y) (z := z) (c := c) (i := (i : Int)) (by omega) hm u y5
    have bx : ∀ {x x' : Int}, x.natAbs.log2 ≤ 1048700 + i → (x' = x ∨ x' = x + c * ((i : Int) + 2)) → x'.natAbs.log2 ≤ 1048700 + (i + 1) := fun {x x'} h k => by
      rcases k with k | k <;> rw [k]
      · omega
      · exact log_add (a := 1048700 + i) h (by omega)
    obtain ⟨x2, y2, z2, v3, v4, w5, e2, b1, b2, b3⟩ := ih (i + 1) x' y' z' (some (.v (.int i))) (some (.v (.int c))) v5 (fun d hd => hc d (List.mem_cons_of_mem _ hd)) (by omega) (bx hx ex) (bx hy ey) (bx hz ez)
    refine ⟨x2, y2, z2, v3, v4, w5, ?_, b1, b2, b3⟩
    rw [List.map_cons, enmD, forR]
    have ha : asg celG (.v (.tuple [.int (i : Int), .int c])) [u, some (.v (.int 3)), some (.loc 0), y3, y4, y5] = some [u, some (.v (.int 3)), some (.loc 0), some (.v (.int (i : Int))), some (.v (.int c)), y5] := rfl
    rw [ha]
    dsimp only
    rw [e]
    exact e2
theorem cells_eq : F_law_cells = ⟨2, 6, .cons (.asg (.nm 2) (.or (.cons (.lst .loc (.of (.sl (.var 0) .none (.some (.var 1))))) (.cons (.lst .loc (.disp (.cons (.cst (.int 0)) .nil))) .nil)))) (.cons (.forT celG (.enm (.sl (.var 0) (.some (.var 1)) (.some (.cst (.int 63))))) celB) (.cons (.ret (.frz (.var 2))) .nil))⟩ := rfl
theorem c3 (ns : List Int) (hl : ns.length ≤ 63) (hb : ∀ c ∈ ns, c.natAbs.log2 ≤ 1048576) (k : Nat) (S : List OS) :
    ∃ ds : List Int, 1 ≤ ds.length ∧ ds.length ≤ 3 ∧ (∀ c ∈ ds, c.natAbs.log2 ≤ 10000000) ∧ callP fs (k + 1) 3 [.ro (ns.map .int), .v (.int 3)] S = .ok (.v (.list (ds.map .int))) ⟨[], S⟩ := by
  match ns, hl, hb with
  | [], _, _ => exact ⟨[0], by simp, by simp, (by intro c hc; simp at hc; subst hc; decide +kernel), by kernel_rfl⟩
  | [a], _, hb => exact ⟨[a], by simp, by simp, (fun c hc => Nat.le_trans (hb c hc) (by decide)), by kernel_rfl⟩
  | [a, b], _, hb => exact ⟨[a, b], by simp, by simp, (fun c hc => Nat.le_trans (hb c hc) (by decide)), by kernel_rfl⟩
  | a :: b :: c :: r, hl, hb =>
    simp only [List.length_cons] at hl
    have ha := hb a (by simp)
    have hb' := hb b (by simp)
    have hc := hb c (by simp)
    obtain ⟨x, y, z, v3, v4, v5, e, b1, b2, b3⟩ := cel_loop (C := callP fs k) (S := S) (some (.ro ((a :: b :: c :: r).map .int))) r 0 a b c none none none (fun d hd => hb d (by simp [hd])) (by omega) (by omega) (by omega) (by omega)
    refine ⟨[x, y, z], by simp, by simp, by simp [b1, b2, b3], ?_⟩
    show runFn (callP fs k) F_law_cells [.ro ((a :: b :: c :: r).map .int), .v (.int 3)] S = _
    have hw : ∀ ρ m, ex (callP fs k) (.forT celG (.enm (.sl (.var 0) (.some (.var 1)) (.some (.cst (.int 63))))) celB) ρ m = (evI (callP fs k) (.enm (.sl (.var 0) (.some (.var 1)) (.some (.cst (.int 63))))) ρ m).t ρ fun ds m => forR (fun d ρ m => match asg celG (.v d) ρ with | some ρ => exs (callP fs k) celB ρ m | none => .bad) ds ρ m := fun ρ m => by simp only [ex] <;> rfl
    rw [cells_eq]
    generalize (fun (d : PyData) (ρ : Z.Env) (m : Mem) => match asg celG (.v d) ρ with | some ρ => exs (callP fs k) celB ρ m | none => RT.bad) = cf at e hw
    generalize callP fs k = C at *
    simp only [runFn, exs, hw]
    have s1 : min 3 (r.length + 1 + 1 + 1) = 3 := by omega
    have s2 : min 63 (r.length + 1 + 1 + 1) = r.length + 3 := by omega
    have s3 : List.take r.length (r.map PyData.int) = r.map PyData.int := List.take_of_length_le (by simp)
    simp only [List.map_cons] at e
    simp [runFn, exs, ex, ev, evAnd, evOr, evs, evO, evL, evIf, evI, asg, asgs, setL, R.b, R.t, R.ne, RT.s, ofO, peek, peekT, peeks, isiD, tyOf, tyLe, truW, truD, wipe, args, binD, cmpD, eqD, bltD, intsOf, boolsOf, asInt, asBool, mk, allV, outW, itemsD, itemsW, itemsL, ixW, atI, ixN, slW, cut, sIx, freeze, mthW, mtyW, setIxW, enmD, zipD, zipP, rgI, small, szL, isNW, maxI, minI, ne1, ne2, ne3, ne4, ne5, ne6, s1, s2, s3, e] at e ⊢
theorem law_true (ns : List Int) (hl : ns.length ≤ 63) (hb : ∀ z ∈ ns, PySem.Builtin.Int.intBits z ≤ 1048576) : ∃ m, callP fs 100 0 [.ro (ns.map .int)] [] = .ok (.v (.bool true)) m := by
  have hb' : ∀ z ∈ ns, z.natAbs.log2 ≤ 1048576 := fun z hz => by
    have := hb z hz
    unfold PySem.Builtin.Int.intBits at this
    split at this
    · rename_i e
      have : z = 0 := by simpa using e
      subst this
      decide +kernel
    · omega
  obtain ⟨ds, h1, h2, h3, e⟩ := c3 ns hl hb' 98 []
  show ∃ m, runFn (callP fs 99) Flaw [.ro (ns.map .int)] [] = .ok (.v (.bool true)) m
  have one : ∀ (i : Nat) (hi : i < ds.length) (S : List OS), ∃ n S' S'', callP fs 99 2 [.v (.list (ds.map .int)), .v (.int i)] S = .ok (.ref n) ⟨[], S'⟩ ∧ callP fs 99 1 [.ref n] S' = .ok (.v (.bool true)) ⟨[], S''⟩ := by
    intro i hi S
    obtain ⟨S', e1, hU⟩ := c2 ds h3 i hi (by omega) 98 S
    obtain ⟨S'', e2⟩ := c1 hU (by decide) 99 (by decide)
    exact ⟨_, S', S'', e1, e2⟩
  generalize callP fs 99 = C at *
  match ds, h1, h2, e, one with
  | [a], _, _, e, one =>
    obtain ⟨n1, S1, S2, e1, e2⟩ := one 0 (by simp) []
    simp only [List.map_cons, List.map_nil, Int.cast_ofNat_Int, Int.natCast_zero] at e e1
    refine ⟨⟨[], S2⟩, ?_⟩
    simp [runFn, exs, ex, ev, evAnd, evOr, evs, evO, evL, evIf, evI, asg, asgs, setL, R.b, R.t, R.ne, RT.s, ofO, peek, peekT, peeks, isiD, tyOf, tyLe, truW, truD, turns, wipe, args, binD, cmpD, eqD, bltD, intsOf, boolsOf, asInt, asBool, mk, allV, outW, itemsD, itemsW, itemsL, ixW, atI, ixN, slW, cut, sIx, freeze, mthW, mtyW, setIxW, forR, enmD, zipD, zipP, rgI, small, szL, isNW, maxI, minI, ne1, ne2, ne3, ne4, ne5, ne6, Flaw, e, e1, e2]
  | [a, b], _, _, e, one =>
    obtain ⟨n1, S1, S2, e1, e2⟩ := one 0 (by simp) []
    obtain ⟨n2, S3, S4, e3, e4⟩ := one 1 (by simp) S2
    simp only [List.map_cons, List.map_nil, Int.cast_ofNat_Int, Int.natCast_zero] at e e1 e3
    refine ⟨⟨[], S4⟩, ?_⟩
    simp [runFn, exs, ex, ev, evAnd, evOr, evs, evO, evL, evIf, evI, asg, asgs, setL, R.b, R.t, R.ne, RT.s, ofO, peek, peekT, peeks, isiD, tyOf, tyLe, truW, truD, turns, wipe, args, binD, cmpD, eqD, bltD, intsOf, boolsOf, asInt, asBool, mk, allV, outW, itemsD, itemsW, itemsL, ixW, atI, ixN, slW, cut, sIx, freeze, mthW, mtyW, setIxW, forR, enmD, zipD, zipP, rgI, small, szL, isNW, maxI, minI, ne1, ne2, ne3, ne4, ne5, ne6, Flaw, e, e1, e2, e3, e4]
  | [a, b, c], _, _, e, one =>
    obtain ⟨n1, S1, S2, e1, e2⟩ := one 0 (by simp) []
    obtain ⟨n2, S3, S4, e3, e4⟩ := one 1 (by simp) S2
    obtain ⟨n3, S5, S6, e5, e6⟩ := one 2 (by simp) S4
    simp only [List.map_cons, List.map_nil, Int.cast_ofNat_Int, Int.natCast_zero] at e e1 e3 e5
    refine ⟨⟨[], S6⟩, ?_⟩
    simp [runFn, exs, ex, ev, evAnd, evOr, evs, evO, evL, evIf, evI, asg, asgs, setL, R.b, R.t, R.ne, RT.s, ofO, peek, peekT, peeks, isiD, tyOf, tyLe, truW, truD, turns, wipe, args, binD, cmpD, eqD, bltD, intsOf, boolsOf, asInt, asBool, mk, allV, outW, itemsD, itemsW, itemsL, ixW, atI, ixN, slW, cut, sIx, freeze, mthW, mtyW, setIxW, forR, enmD, zipD, zipP, rgI, small, szL, isNW, maxI, minI, ne1, ne2, ne3, ne4, ne5, ne6, Flaw, e, e1, e2, e3, e4, e5, e6]
end L

namespace L
theorem law_tab (ns : List Int) (hl : ns.length ≤ 63) (hb : ∀ z ∈ ns, PySem.Builtin.Int.intBits z ≤ 1048576) : ∃ m, Z.callP (Z.fnsT ds) 100 0 [.ro (ns.map .int)] [] = .ok (.v (.bool true)) m := by
  rw [fs_ds]
  exact law_true ns hl hb
end L
open PySem PySem.W PyProof.Rows
set_option maxHeartbeats 0 in
theorem PySem.Challenge.cw_wayoutdeeds_k83_whole_great_bodies_one_b_holds : PySem.Challenge.rw_wayoutdeeds_k83_whole_great_bodies_one_b.Holds := by
  w_on; o_law; k_head; (case hw => w_witness2)
  k_fill
  refine L2.walk_ofB (l := PySem.Challenge.rw_wayoutdeeds_k83_whole_great_bodies_one_b) (n := 63) (k := 100) (x := "_law_script") (CX := fun w => L2.CX PySem.Challenge.pw_wayoutdeeds_k83_whole_great_bodies_one_b w) (sp := fun w => Z.spZ _ (Z.callP (Z.fnsT L.ds) 100) 0 1) rfl (by decide) rfl ⟨rfl, by decide, by decide⟩ (fun w h Y => PySem.W.kIn_of Y) ?F (fun _ _ a ns hl hb hO hS => Z.sp_law hO hS (L.law_tab ns hl hb)) (fun _ _ _ _ _ h => Z.CX_no h)
  case F =>
    intro w mg fa h KX G hmg
    refine' Z.law_fn (i := 0) (d := L.Dlaw) KX G hmg ⟨?df, L.ds_ok, ?bl, ?gc⟩ rfl rfl
    case gc => exact Z.gc_nil
    case bl => refine' Z.bl_mk ?b0 ?b1 ?b2 ?b3 ?b4 ?b5 ?b6 ?b7 ?b8 ?b9 ?b10 ?b11 ?b12 ?b13 ?b14 ?b15 <;> k_is
    case df =>
      refine' Z.df_cons ?d0 ?r0
      case d0 =>
        refine' Z.dfS (x := "law") (q := "law") (st := L.topS 29) (ps := ["_law_script"]) rfl ?n0 ?l0 ?c0 ?k0 (fun _ _ _ _ _ _ us hl => match us, hl with | [_], _ => rfl)
        (case n0 => k_is); (case l0 => k_is); (case c0 => k_is); (case k0 => k_is)
      refine' Z.df_cons ?d1 ?r1
      case d1 =>
        refine' Z.dfS (x := "_law_right") (q := "_law_right") (st := L.topS 28) (ps := ["_law_urn"]) rfl ?n1 ?l1 ?c1 ?k1 (fun _ _ _ _ _ _ us hl => match us, hl with | [_], _ => rfl)
        (case n1 => k_is); (case l1 => k_is); (case c1 => k_is); (case k1 => k_is)
      refine' Z.df_cons ?d2 ?r2
      case d2 =>
        refine' Z.dfS (x := "_law_box") (q := "_law_box") (st := L.topS 19) (ps := ["_law_script", "_law_k"]) rfl ?n2 ?l2 ?c2 ?k2 (fun _ _ _ _ _ _ us hl => match us, hl with | [_, _], _ => rfl)
        (case n2 => k_is); (case l2 => k_is); (case c2 => k_is); (case k2 => k_is)
      refine' Z.df_cons ?d3 ?r3
      case d3 =>
        refine' Z.dfS (x := "_law_cells") (q := "_law_cells") (st := L.topS 21) (ps := ["_law_script", "_law_top"]) rfl ?n3 ?l3 ?c3 ?k3 (fun _ _ _ _ _ _ us hl => match us, hl with | [_, _], _ => rfl)
        (case n3 => k_is); (case l3 => k_is); (case c3 => k_is); (case k3 => k_is)
      refine' Z.df_cons ?d4 ?r4
      case d4 =>
        refine' Z.dfS (x := "_law_same") (q := "_law_same") (st := L.topS 23) (ps := ["_law_got", "_law_goal"]) rfl ?n4 ?l4 ?c4 ?k4 (fun _ _ _ _ _ _ us hl => match us, hl with | [_, _], _ => rfl)
        (case n4 => k_is); (case l4 => k_is); (case c4 => k_is); (case k4 => k_is)
      refine' Z.df_cons ?d5 ?r5
      case d5 =>
        refine' Z.dfS (x := "_law_told") (q := "_law_told") (st := L.topS 26) (ps := ["_law_big_so"]) rfl ?n5 ?l5 ?c5 ?k5 (fun _ _ _ _ _ _ us hl => match us, hl with | [_], _ => rfl)
        (case n5 => k_is); (case l5 => k_is); (case c5 => k_is); (case k5 => k_is)
      refine' Z.df_cons ?d6 ?r6
      case d6 =>
        refine' Z.dfS (x := "can_be_end") (q := "can_be_end") (st := L.topS 11) (ps := ["big", "place"]) rfl ?n6 ?l6 ?c6 ?k6 (fun _ _ _ _ _ _ us hl => match us, hl with | [_, _], _ => rfl)
        (case n6 => k_is); (case l6 => k_is); (case c6 => k_is); (case k6 => k_is)
      refine' Z.df_cons ?d7 ?r7
      case d7 =>
        refine' Z.dfS (x := "is_always_done") (q := "is_always_done") (st := L.topS 10) (ps := ["big", "place"]) rfl ?n7 ?l7 ?c7 ?k7 (fun _ _ _ _ _ _ us hl => match us, hl with | [_, _], _ => rfl)
        (case n7 => k_is); (case l7 => k_is); (case c7 => k_is); (case k7 => k_is)
      refine' Z.df_cons ?d8 ?r8
      case d8 =>
        refine' Z.dfS (x := "fewest_to_do") (q := "fewest_to_do") (st := L.topS 9) (ps := ["big", "place"]) rfl ?n8 ?l8 ?c8 ?k8 (fun _ _ _ _ _ _ us hl => match us, hl with | [_, _], _ => rfl)
        (case n8 => k_is); (case l8 => k_is); (case c8 => k_is); (case k8 => k_is)
      refine' Z.df_cons ?d9 ?r9
      case d9 =>
        refine' Z.dfS (x := "act_at") (q := "act_at") (st := L.topS 6) (ps := ["big", "place"]) rfl ?n9 ?l9 ?c9 ?k9 (fun _ _ _ _ _ _ us hl => match us, hl with | [_, _], _ => rfl)
        (case n9 => k_is); (case l9 => k_is); (case c9 => k_is); (case k9 => k_is)
      refine' Z.df_cons ?d10 ?r10
      case d10 =>
        refine' Z.dfS (x := "_law_take") (q := "_law_take") (st := L.topS 20) (ps := ["_law_urn", "_law_low_so"]) rfl ?n10 ?l10 ?c10 ?k10 (fun _ _ _ _ _ _ us hl => match us, hl with | [_, _], _ => rfl)
        (case n10 => k_is); (case l10 => k_is); (case c10 => k_is); (case k10 => k_is)
      refine' Z.df_cons ?d11 ?r11
      case d11 =>
        refine' Z.dfS (x := "how_many_acts") (q := "how_many_acts") (st := L.topS 4) (ps := ["big"]) rfl ?n11 ?l11 ?c11 ?k11 (fun _ _ _ _ _ _ us hl => match us, hl with | [_], _ => rfl)
        (case n11 => k_is); (case l11 => k_is); (case c11 => k_is); (case k11 => k_is)
      refine' Z.df_cons ?d12 ?r12
      case d12 =>
        refine' Z.dfS (x := "_law_of") (q := "_law_of") (st := L.topS 22) (ps := ["_law_urn", "_law_some_so"]) rfl ?n12 ?l12 ?c12 ?k12 (fun _ _ _ _ _ _ us hl => match us, hl with | [_, _], _ => rfl)
        (case n12 => k_is); (case l12 => k_is); (case c12 => k_is); (case k12 => k_is)
      refine' Z.df_cons ?d13 ?r13
      case d13 =>
        refine' Z.dfS (x := "_law_two_right") (q := "_law_two_right") (st := L.topS 27) (ps := ["_law_urn", "_law_mine", "_law_its"]) rfl ?n13 ?l13 ?c13 ?k13 (fun _ _ _ _ _ _ us hl => match us, hl with | [_, _, _], _ => rfl)
        (case n13 => k_is); (case l13 => k_is); (case c13 => k_is); (case k13 => k_is)
      refine' Z.df_cons ?d14 ?r14
      case d14 =>
        refine' Z.dfS (x := "_law_big") (q := "_law_big") (st := L.topS 24) (ps := ["_law_urn", "_law_many", "_law_most_so"]) rfl ?n14 ?l14 ?c14 ?k14 (fun _ _ _ _ _ _ us hl => match us, hl with | [_, _, _], _ => rfl)
        (case n14 => k_is); (case l14 => k_is); (case c14 => k_is); (case k14 => k_is)
      refine' Z.df_cons ?d15 ?r15
      case d15 =>
        refine' Z.dfS (x := "_law_by_hand_right") (q := "_law_by_hand_right") (st := L.topS 25) (ps := []) rfl ?n15 ?l15 ?c15 ?k15 (fun _ _ _ _ _ _ us hl => match us, hl with | [], _ => rfl)
        (case n15 => k_is); (case l15 => k_is); (case c15 => k_is); (case k15 => k_is)
      refine' Z.df_cons ?d16 ?r16
      case d16 =>
        refine' Z.dfS (x := "shortest_run") (q := "shortest_run") (st := L.topS 17) (ps := ["big"]) rfl ?n16 ?l16 ?c16 ?k16 (fun _ _ _ _ _ _ us hl => match us, hl with | [_], _ => rfl)
        (case n16 => k_is); (case l16 => k_is); (case c16 => k_is); (case k16 => k_is)
      refine' Z.df_cons ?d17 ?r17
      case d17 =>
        refine' Z.dfS (x := "longest_run") (q := "longest_run") (st := L.topS 16) (ps := ["big"]) rfl ?n17 ?l17 ?c17 ?k17 (fun _ _ _ _ _ _ us hl => match us, hl with | [_], _ => rfl)
        (case n17 => k_is); (case l17 => k_is); (case c17 => k_is); (case k17 => k_is)
      refine' Z.df_cons ?d18 ?r18
      case d18 =>
        refine' Z.dfS (x := "fewest_failing") (q := "fewest_failing") (st := L.topS 8) (ps := ["big"]) rfl ?n18 ?l18 ?c18 ?k18 (fun _ _ _ _ _ _ us hl => match us, hl with | [_], _ => rfl)
        (case n18 => k_is); (case l18 => k_is); (case c18 => k_is); (case k18 => k_is)
      refine' Z.df_cons ?d19 ?r19
      case d19 =>
        refine' Z.dfS (x := "way_to") (q := "way_to") (st := L.topS 7) (ps := ["big", "place"]) rfl ?n19 ?l19 ?c19 ?k19 (fun _ _ _ _ _ _ us hl => match us, hl with | [_, _], _ => rfl)
        (case n19 => k_is); (case l19 => k_is); (case c19 => k_is); (case k19 => k_is)
      refine' Z.df_cons ?d20 ?r20
      case d20 =>
        refine' Z.dfS (x := "check") (q := "check") (st := L.topS 5) (ps := ["big", "place"]) rfl ?n20 ?l20 ?c20 ?k20 (fun _ _ _ _ _ _ us hl => match us, hl with | [_, _], _ => rfl)
        (case n20 => k_is); (case l20 => k_is); (case c20 => k_is); (case k20 => k_is)
      refine' Z.df_cons ?d21 ?r21
      case d21 =>
        refine' Z.dfS (x := "parts_of") (q := "parts_of") (st := L.topS 3) (ps := ["big"]) rfl ?n21 ?l21 ?c21 ?k21 (fun _ _ _ _ _ _ us hl => match us, hl with | [_], _ => rfl)
        (case n21 => k_is); (case l21 => k_is); (case c21 => k_is); (case k21 => k_is)
      refine' Z.df_cons ?d22 ?r22
      case d22 =>
        refine' Z.dfS (x := "lengths_of") (q := "lengths_of") (st := L.topS 15) (ps := ["big", "is_most"]) rfl ?n22 ?l22 ?c22 ?k22 (fun _ _ _ _ _ _ us hl => match us, hl with | [_, _], _ => rfl)
        (case n22 => k_is); (case l22 => k_is); (case c22 => k_is); (case k22 => k_is)
      refine' Z.df_cons ?d23 ?r23
      case d23 =>
        refine' Z.dfS (x := "joined_lengths") (q := "joined_lengths") (st := L.topS 13) (ps := ["word", "lengths", "is_most"]) rfl ?n23 ?l23 ?c23 ?k23 (fun _ _ _ _ _ _ us hl => match us, hl with | [_, _, _], _ => rfl)
        (case n23 => k_is); (case l23 => k_is); (case c23 => k_is); (case k23 => k_is)
      refine' Z.df_cons ?d24 ?r24
      case d24 =>
        refine' Z.dfS (x := "many_lengths") (q := "many_lengths") (st := L.topS 14) (ps := ["word", "many", "own", "is_most"]) rfl ?n24 ?l24 ?c24 ?k24 (fun _ _ _ _ _ _ us hl => match us, hl with | [_, _, _, _], _ => rfl)
        (case n24 => k_is); (case l24 => k_is); (case c24 => k_is); (case k24 => k_is)
      refine' Z.df_cons ?d25 ?r25
      case d25 =>
        refine' Z.dfS (x := "picked") (q := "picked") (st := L.topS 12) (ps := ["one", "other", "is_most"]) rfl ?n25 ?l25 ?c25 ?k25 (fun _ _ _ _ _ _ us hl => match us, hl with | [_, _, _], _ => rfl)
        (case n25 => k_is); (case l25 => k_is); (case c25 => k_is); (case k25 => k_is)
      exact Z.df_nil

