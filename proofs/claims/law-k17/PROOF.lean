import PyProof.Rows.All
import Wide.All
import OpenK.AllK
import Wide.FinOn
import KE.SortData
import HandS.ForMost
import HandS.ForExc
import HandS.Defaults
import HandS.HeadEnd
import HandS.Deep
import HandS.TupAny
import HandS.TupMul
import HandS.TupLe
import HandS.Wide
import HandS.Flow
import HandS.Conv
import HandS.Zip
import HandS.TupLen
import HandS.TupSets
import HandS.Star
import HandS.Style
import KE.GoesComp
import HandS.Ends
import HandS.Codes
import HandS.More
import HandS.Words
import HandS.Head0
import HandS.Head1
import HandS.Head2
import HandS.HeadHook1
import HandS.HeadHook2
import PySem.Challenge.RW_evenlytied_k17_whole_degrees_let
set_option Elab.async false
set_option linter.all false
set_option maxRecDepth 100000
set_option maxHeartbeats 0
/-! Pyl1: a small pure interpreter for a part of Python; values are the library's PyData. -/
namespace Pyl
open PySem

inductive Bop | add | sub | mul | fdiv | mod | pow | shl deriving DecidableEq
inductive Cop | eq | ne | lt | le | gt | ge | isin | nin | is | isn deriving DecidableEq
inductive Bi | len | tuple | list | sorted | sum | min | max | any | all | int | abs | repr | str | dict | bool deriving DecidableEq
inductive Mt | get | keys | values | items | index | count | pop | join deriving DecidableEq
inductive Fld | left | mixed | turn deriving DecidableEq
/-- targets -/
inductive Tg | nm (i : Nat) | tp (ts : List Tg)

mutual
/-- expressions -/
inductive Ex where
  | vr (i : Nat) | cn (x : PyData)
  | bin (o : Bop) (a b : Ex) | neg (a : Ex) | nt (a : Ex)
  | cmp (o : Cop) (a b : Ex) | cmp2 (o o' : Cop) (a b c : Ex)
  | an (a b : Ex) | or (a b : Ex) | one (a : Ex) | ite (c a b : Ex)
  | tup (es : Exs) | lst (es : Exs)
  | call (f : Nat) (es : Exs)
  | bi (b : Bi) (es : Exs) | mt (m : Mt) (o : Ex) (es : Exs)
  | ix (a i : Ex) | sl (a : Ex) (lo hi : Exs) | rv (a : Ex)
  | dsp (ks vs : Exs)
  | lc (elt : Ex) (tg : Tg) (it : Itx) (ifs : Exs) (own : List (Str × Nat))
  | sget (j : Nat) (f : Fld) | slen (j : Nat) (direct : Bool) | spop (j : Nat) (direct : Bool)
/-- arguments, items of a display (b: starred) -/
inductive Exs where
  | nil | cons (b : Bool) (e : Ex) (r : Exs)
/-- what a for walks -/
inductive Itx where
  | ex (e : Ex) | rng1 (a : Ex) | rng2 (a b : Ex) | enm (e : Ex) | zip (a b : Ex) | itm (e : Ex) | vls (e : Ex) | scr (j : Nat)
end

/-- the drawn source -/
structure Src where
  cells : List Int
  left : Int
  mixed : Int
  turn : Int
/-- what a slot shows to an expression -/
inductive Vw | no | d (x : PyData) | src | cel | scr (ns : List Int)

def truth : PyData → Option Bool
  | .none => some false
  | .bool b => some b
  | .int i => some (i != 0)
  | .list xs => some (!xs.isEmpty)
  | .tuple xs => some (!xs.isEmpty)
  | _ => none
def shp (d : PyData) : Bool := SeqAt.shaped d
def mulOk (i j : Int) : Bool := decide (i.natAbs < 2 ^ 64) || decide (j.natAbs < 2 ^ 64) || decide (i.natAbs.log2 + j.natAbs.log2 < 1000000)
def ints? : List PyData → Option (List Int)
  | [] => some []
  | .int i :: r => (ints? r).map (i :: ·)
  | _ :: _ => none
def bools? : List PyData → Option (List Bool)
  | [] => some []
  | .bool i :: r => (bools? r).map (i :: ·)
  | _ :: _ => none
def okLen (n : Nat) : Bool := decide (n ≤ 16777216)
def repL (xs : List PyData) (k : Int) : List PyData := (List.replicate k.toNat xs).flatten
def binD : Bop → PyData → PyData → Option PyData
  | .add, .int i, .int j => some (.int (i + j))
  | .add, .list xs, .list ys => if okLen (xs.length + ys.length) then some (.list (xs ++ ys)) else none
  | .add, .tuple xs, .tuple ys => if okLen (xs.length + ys.length) then some (.tuple (xs ++ ys)) else none
  | .add, .str x, .str y => if okLen (x.length + y.length) then some (.str (x ++ y)) else none
  | .sub, .int i, .int j => some (.int (i - j))
  | .mul, .int i, .int j => if mulOk i j then some (.int (i * j)) else none
  | .mul, .list xs, .int k => if decide (-(2 ^ 63) ≤ k) && decide (k < 2 ^ 63) && okLen (xs.length * k.toNat) then some (.list (repL xs k)) else none
  | .fdiv, .int i, .int j => if decide (0 < j) && decide (j.natAbs.log2 < 9000) then some (.int (i / j)) else if decide (j < 0) && decide (j.natAbs < 1073741824) then some (.int (i.fdiv j)) else none
  | .mod, .int i, .int j => if decide (0 < j) then some (.int (i % j)) else if decide (j < 0) then some (.int (i.fmod j)) else none
  | .pow, .int i, .int j => if decide (0 ≤ j) && decide (j ≤ 1000000) && decide (i.natAbs < 2 ^ 64) then some (.int (i ^ j.toNat)) else none
  | .shl, .int i, .int j => if decide (0 ≤ j) && decide (j ≤ 1000000) && decide (i.natAbs < 2 ^ 64) then some (.int (i * 2 ^ j.toNat)) else none
  | _, _, _ => none
def lexI : List Int → List Int → Bool := HT.lexLt
def isNone : PyData → Bool
  | .none => true
  | _ => false
def hasK (kvs : List (PyData × PyData)) (k : PyData) : Bool := kvs.any fun p => PyData.eqv p.1 k
def eqOk : PyData → PyData → Bool
  | .str _, .str _ => true
  | a, b => shp a && shp b
/-- a key of a dict: an int or a text, or a tuple of these -/
def keyB : PyData → Bool
  | .int _ => true
  | .str _ => true
  | _ => false
def keyT : PyData → Bool
  | .tuple ks => ks.all keyB
  | _ => false
/-- may be asked of a dict with these keys -/
def keyOk (kvs : List (PyData × PyData)) (k : PyData) : Bool := (keyB k && kvs.all fun p => keyB p.1) || (keyT k && kvs.all fun p => keyT p.1)
def cmpD : Cop → PyData → PyData → Option Bool
  | .eq, a, b => if eqOk a b then some (PyData.eqv a b) else none
  | .ne, a, b => if eqOk a b then some (!PyData.eqv a b) else none
  | .lt, .int i, .int j => some (decide (i < j))
  | .le, .int i, .int j => some (decide (i ≤ j))
  | .gt, .int i, .int j => some (decide (j < i))
  | .ge, .int i, .int j => some (decide (j ≤ i))
  | .lt, .tuple xs, .tuple ys => (ints? xs).bind fun ns => (ints? ys).map fun ms => lexI ns ms
  | .isin, a, .list xs => if shp a && shp (.list xs) then some (xs.any fun z => PyData.eqv z a) else none
  | .isin, a, .tuple xs => if shp a && shp (.tuple xs) then some (xs.any fun z => PyData.eqv z a) else none
  | .isin, a, .dict kvs => if keyOk kvs a then some (hasK kvs a) else none
  | .nin, a, .list xs => if shp a && shp (.list xs) then some (!xs.any fun z => PyData.eqv z a) else none
  | .nin, a, .tuple xs => if shp a && shp (.tuple xs) then some (!xs.any fun z => PyData.eqv z a) else none
  | .nin, a, .dict kvs => if keyOk kvs a then some (!hasK kvs a) else none
  | .is, a, .none => some (isNone a)
  | .isn, a, .none => some (!isNone a)
  | _, _, _ => none
/-- a bound of the written text's length -/
def rl : PyData → Nat
  | .none => 4
  | .bool _ => 5
  | .int i => i.natAbs.log2 + 3
  | .str x => 10 * x.length + 2
  | .list xs => rlAll xs + 2
  | .tuple xs => rlAll xs + 3
  | .dict _ => 0
where rlAll : List PyData → Nat
  | [] => 0
  | x :: xs => rl x + 2 + rlAll xs
def noDict : PyData → Bool := fun d => d.canLay0
def reprOk (d : PyData) : Bool := shp d && PyData.showable d && okLen d.shown.length
def atD (xs : List PyData) (i : Int) : Option PyData := L2.atI xs i
def lookD (kvs : List (PyData × PyData)) (k : PyData) : Option PyData := (kvs.find? fun p => PyData.eqv p.1 k).map (·.2)
def putD (kvs : List (PyData × PyData)) (k v : PyData) : List (PyData × PyData) :=
  if hasK kvs k then kvs.map fun p => if PyData.eqv p.1 k then (p.1, v) else p else kvs ++ [(k, v)]
def ixD : PyData → PyData → Option PyData
  | .list xs, .int i => atD xs i
  | .tuple xs, .int i => atD xs i
  | .dict kvs, k => if keyOk kvs k then lookD kvs k else none
  | _, _ => none
def cutD (xs : List PyData) (lo hi : Option Int) : List PyData := (xs.drop (HT.sIx xs.length 0 lo)).take (HT.sIx xs.length xs.length hi - HT.sIx xs.length 0 lo)
def slD : PyData → Option Int → Option Int → Option PyData
  | .list xs, lo, hi => some (.list (cutD xs lo hi))
  | .tuple xs, lo, hi => some (.tuple (cutD xs lo hi))
  | _, _, _ => none
def minI : List Int → Option Int
  | [] => none
  | x :: xs => some (xs.foldl (fun a b => if b < a then b else a) x)
def maxI : List Int → Option Int
  | [] => none
  | x :: xs => some (xs.foldl (fun a b => if b > a then b else a) x)
/-- what may be sorted: alike, of one sort -/
def sortOk (xs : List PyData) : Bool := xs.all shp && xs.all (fun a => xs.all fun b => W.alike a b) && (xs.all (fun a => match a with | .tuple (_ :: _) => true | _ => false) || xs.all (fun a => match a with | .none => false | .tuple _ => false | _ => true))
def sortD (xs : List PyData) : List PyData := xs.mergeSort (W.dataLe false id)
def lenD : List PyData → Option PyData
  | [.list xs] => some (.int xs.length)
  | [.tuple xs] => some (.int xs.length)
  | [.dict xs] => some (.int xs.length)
  | _ => none
def tupD : List PyData → Option PyData
  | [.list xs] => some (.tuple xs)
  | [.tuple xs] => some (.tuple xs)
  | _ => none
def lstD : List PyData → Option PyData
  | [.list xs] => some (.list xs)
  | [.tuple xs] => some (.list xs)
  | [.dict kvs] => some (.list (kvs.map (·.1)))
  | _ => none
def sortedD : List PyData → Option PyData
  | [.list xs] => if sortOk xs then some (.list (sortD xs)) else none
  | [.tuple xs] => if sortOk xs then some (.list (sortD xs)) else none
  | [.dict kvs] => if sortOk (kvs.map (·.1)) then some (.list (sortD (kvs.map (·.1)))) else none
  | _ => none
def sumD : List PyData → Option PyData
  | [.list xs] => (ints? xs).map fun ns => .int ns.sum
  | _ => none
def minD : List PyData → Option PyData
  | [.int i, .int j] => some (.int (if j < i then j else i))
  | [.list xs] => (ints? xs).bind fun ns => (minI ns).map .int
  | _ => none
def maxD : List PyData → Option PyData
  | [.int i, .int j] => some (.int (if j > i then j else i))
  | [.list xs] => (ints? xs).bind fun ns => (maxI ns).map .int
  | _ => none
def anyD : List PyData → Option PyData
  | [.list xs] => (bools? xs).map fun bs => .bool (bs.any id)
  | _ => none
def allD : List PyData → Option PyData
  | [.list xs] => (bools? xs).map fun bs => .bool (bs.all id)
  | _ => none
def intD : List PyData → Option PyData
  | [.int i] => some (.int i)
  | [.bool b] => some (.int (if b then 1 else 0))
  | _ => none
def absD : List PyData → Option PyData
  | [.int i] => some (.int (if i < 0 then -i else i))
  | _ => none
def reprD : List PyData → Option PyData
  | [d] => if reprOk d then some (.str d.shown) else none
  | _ => none
def biD : Bi → List PyData → Option PyData
  | .len => lenD
  | .tuple => tupD
  | .list => lstD
  | .sorted => sortedD
  | .sum => sumD
  | .min => minD
  | .max => maxD
  | .any => anyD
  | .all => allD
  | .int => intD
  | .abs => absD
  | .repr => reprD
  | _ => fun _ => none

/-- assignment to targets: what is stored, in order -/
def bindTg : Tg → PyData → Option (List (Nat × PyData))
  | .nm i, d => some [(i, d)]
  | .tp ts, .tuple ds => go ts ds
  | .tp _, _ => none
where go : List Tg → List PyData → Option (List (Nat × PyData))
  | [], [] => some []
  | t :: ts, d :: ds => (bindTg t d).bind fun a => (go ts ds).map (a ++ ·)
  | _, _ => none
def setAllV (ρ : List Vw) (as : List (Nat × PyData)) : List Vw := as.foldl (fun r p => r.set p.1 (.d p.2)) ρ
def wipeV (ρ : List Vw) (is : List Nat) : List Vw := is.foldl (fun r i => r.set i .no) ρ
def vwD : Option Vw → Option PyData
  | some (.d x) => some x
  | _ => none
def isSrc : Option Vw → Bool
  | some .src => true
  | _ => false
def isCel : Option Vw → Bool
  | some .cel => true
  | _ => false

def cOk (ρ : List Vw) (j : Nat) (b : Bool) : Bool := if b then isSrc ρ[j]? else isCel ρ[j]?
/-- the turns of a comprehension -/
def runC (f : PyData → Src → Option (Option PyData × Src)) : List PyData → Src → Option (List PyData × Src)
  | [], S => some ([], S)
  | x :: xs, S => (f x S).bind fun r => (runC f xs r.2).map fun q => (r.1.toList ++ q.1, q.2)
/-- from lo, n of them -/
def upTo (lo : Int) (n : Nat) : List PyData := (List.range n).map fun (i : Nat) => PyData.int (lo + i)
def small62 (i : Int) : Bool := decide (-(2 ^ 62) ≤ i) && decide (i < 2 ^ 62)
def rngD : List PyData → Option (List PyData)
  | [.int j] => if small62 j && okLen j.toNat then some (upTo 0 j.toNat) else none
  | [.int i, .int j] => if small62 i && small62 j && okLen (j - i).toNat then some (upTo i (j - i).toNat) else none
  | _ => none
def itemsD : PyData → Option (List PyData)
  | .list xs => some xs
  | .tuple xs => some xs
  | .dict kvs => some (kvs.map (·.1))
  | _ => none
def seqD : PyData → Option (List PyData)
  | .list xs => some xs
  | .tuple xs => some xs
  | _ => none
def enumD (xs : List PyData) : List PyData := (xs.zipIdx).map fun p => .tuple [.int (p.2 : Nat), p.1]
def zipD (xs ys : List PyData) : List PyData := (xs.zip ys).map fun p => .tuple [p.1, p.2]
def oneInt : Option (List PyData) → Option (Option Int)
  | some [] => some none
  | some [.int i] => some (some i)
  | _ => none

abbrev R (α : Type) := Option (α × Src)

section
variable (Φ : Nat → List Vw → Src → R PyData)
mutual
def evE : Ex → List Vw → Src → R PyData
  | .vr i, ρ, S => (vwD ρ[i]?).map (·, S)
  | .cn x, _, S => some (x, S)
  | .bin o a b, ρ, S => (evE a ρ S).bind fun p => (evE b ρ p.2).bind fun q => (binD o p.1 q.1).map (·, q.2)
  | .neg a, ρ, S => (evE a ρ S).bind fun p => match p.1 with
    | .int i => some (.int (-i), p.2)
    | _ => none
  | .nt a, ρ, S => (evE a ρ S).bind fun p => (truth p.1).map fun t => (.bool (!t), p.2)
  | .cmp o a b, ρ, S => (evE a ρ S).bind fun p => (evE b ρ p.2).bind fun q => (cmpD o p.1 q.1).map fun c => (.bool c, q.2)
  | .cmp2 o o' a b c, ρ, S => (evE a ρ S).bind fun p => (evE b ρ p.2).bind fun q => (cmpD o p.1 q.1).bind fun k =>
      if k then (evE c ρ q.2).bind fun r => (cmpD o' q.1 r.1).map fun c => (.bool c, r.2) else some (.bool false, q.2)
  | .an a b, ρ, S => (evE a ρ S).bind fun p => (truth p.1).bind fun t => if t then evE b ρ p.2 else some p
  | .or a b, ρ, S => (evE a ρ S).bind fun p => (truth p.1).bind fun t => if t then some p else evE b ρ p.2
  | .one a, ρ, S => evE a ρ S
  | .ite c a b, ρ, S => (evE c ρ S).bind fun p => (truth p.1).bind fun t => if t then evE a ρ p.2 else evE b ρ p.2
  | .tup es, ρ, S => (evEs es ρ S).bind fun p => if okLen p.1.length then some (.tuple p.1, p.2) else none
  | .lst es, ρ, S => (evEs es ρ S).bind fun p => if okLen p.1.length then some (.list p.1, p.2) else none
  | .call f es, ρ, S => (evAs es ρ S).bind fun p => Φ f p.1 p.2
  | .bi b es, ρ, S => (evEs es ρ S).bind fun p => (biD b p.1).map (·, p.2)
  | .mt m o es, ρ, S => none
  | .ix a i, ρ, S => (evE a ρ S).bind fun p => (evE i ρ p.2).bind fun q => (ixD p.1 q.1).map (·, q.2)
  | .sl a lo hi, ρ, S => (evE a ρ S).bind fun p => (evEs lo ρ p.2).bind fun q => (evEs hi ρ q.2).bind fun r =>
      (oneInt (some q.1)).bind fun l => (oneInt (some r.1)).bind fun h => (slD p.1 l h).map (·, r.2)
  | .rv a, ρ, S => (evE a ρ S).bind fun p => match p.1 with
    | .list xs => some (.list xs.reverse, p.2)
    | _ => none
  | .dsp ks vs, ρ, S => match ks with
    | .nil => some (.dict [], S)
    | _ => none
  | .lc elt tg it ifs own, ρ, S => (evI it ρ S).bind fun p =>
      (runC (fun x S => (bindTg tg x).bind fun as =>
          (evTs ifs (setAllV (wipeV ρ (own.map (·.2))) as) S).bind fun t =>
            if t.1 then (evE elt (setAllV (wipeV ρ (own.map (·.2))) as) t.2).map fun e => (some e.1, e.2) else some (none, t.2)) p.1 p.2).map fun q => (.list q.1, q.2)
  | .sget j f, ρ, S => if isSrc ρ[j]? then some (.int (match f with | .left => S.left | .mixed => S.mixed | .turn => S.turn), S) else none
  | .slen j b, ρ, S => if cOk ρ j b then some (.int S.cells.length, S) else none
  | .spop j b, ρ, S => if cOk ρ j b then (S.cells.getLast?).map fun c => (.int c, { S with cells := S.cells.dropLast }) else none
/-- items of a display, starred ones spliced -/
def evEs : Exs → List Vw → Src → R (List PyData)
  | .nil, _, S => some ([], S)
  | .cons false e r, ρ, S => (evE e ρ S).bind fun p => (evEs r ρ p.2).map fun q => (p.1 :: q.1, q.2)
  | .cons true e r, ρ, S => (evE e ρ S).bind fun p => (seqD p.1).bind fun xs => (evEs r ρ p.2).map fun q => (xs ++ q.1, q.2)
/-- arguments of a def: the source may be handed on -/
def evAs : Exs → List Vw → Src → R (List Vw)
  | .nil, _, S => some ([], S)
  | .cons _ (.vr i) r, ρ, S => match ρ[i]? with
    | some (.d x) => (evAs r ρ S).map fun q => (.d x :: q.1, q.2)
    | some .src => (evAs r ρ S).map fun q => (.src :: q.1, q.2)
    | _ => none
  | .cons _ e r, ρ, S => (evE e ρ S).bind fun p => (evAs r ρ p.2).map fun q => (.d p.1 :: q.1, q.2)
/-- tests of a clause -/
def evTs : Exs → List Vw → Src → R Bool
  | .nil, _, S => some (true, S)
  | .cons _ e r, ρ, S => (evE e ρ S).bind fun p => (truth p.1).bind fun t => if t then evTs r ρ p.2 else some (false, p.2)
/-- what is walked -/
def evI : Itx → List Vw → Src → R (List PyData)
  | .ex e, ρ, S => (evE e ρ S).bind fun p => (itemsD p.1).map (·, p.2)
  | .rng1 a, ρ, S => (evE a ρ S).bind fun p => (rngD [p.1]).map (·, p.2)
  | .rng2 a b, ρ, S => (evE a ρ S).bind fun p => (evE b ρ p.2).bind fun q => (rngD [p.1, q.1]).map (·, q.2)
  | .enm e, ρ, S => (evE e ρ S).bind fun p => match p.1 with
    | .list xs => some (enumD xs, p.2)
    | _ => none
  | .zip a b, ρ, S => (evE a ρ S).bind fun p => (evE b ρ p.2).bind fun q => match p.1, q.1 with
    | .list xs, .list ys => some (zipD xs ys, q.2)
    | .tuple xs, .tuple ys => some (zipD xs ys, q.2)
    | _, _ => none
  | .itm e, ρ, S => (evE e ρ S).bind fun p => match p.1 with
    | .dict kvs => some (kvs.map fun kv => .tuple [kv.1, kv.2], p.2)
    | _ => none
  | .vls e, ρ, S => (evE e ρ S).bind fun p => match p.1 with
    | .dict kvs => some (kvs.map (·.2), p.2)
    | _ => none
  | .scr j, ρ, S => match ρ[j]? with
    | some (.scr ns) => some (ns.map .int, S)
    | _ => none
end
end
end Pyl

/-! Pyl2: statements, defs, programs of the interpreter. -/
namespace Pyl
open PySem

/-- a slot: nothing; a value that nothing changes; the source; its cells; lists and dicts that this frame alone holds (flat, or of rows) -/
inductive Sl | no | d (x : PyData) | src | cel | scr (ns : List Int) | ol (xs : List PyData) | oll (xs : List (List PyData)) | od (kvs : List (PyData × PyData)) | odl (xs : List (List (PyData × PyData)))
def Sl.fz : Sl → Vw
  | .d x => .d x
  | .src => .src
  | .cel => .cel
  | .scr ns => .scr ns
  | _ => .no
def Sl.vw : Sl → Vw
  | .d x => .d x
  | .src => .src
  | .cel => .cel
  | .scr ns => .scr ns
  | .ol xs => .d (.list xs)
  | .oll xs => .d (.list (xs.map .list))
  | .od kvs => .d (.dict kvs)
  | .odl xs => .d (.list (xs.map .dict))
  | .no => .no
/-- no list, no dict within -/
def lf : PyData → Bool
  | .none => true
  | .bool _ => true
  | .int _ => true
  | .str _ => true
  | .tuple xs => lfAll xs
  | .list _ => false
  | .dict _ => false
where lfAll : List PyData → Bool
  | [] => true
  | x :: xs => lf x && lfAll xs
/-- the expressions whose list or dict is new -/
def frs : Ex → Bool
  | .lst _ => true
  | .lc .. => true
  | .sl _ _ _ => true
  | .rv _ => true
  | .bin .add _ _ => true
  | .bin .mul _ _ => true
  | .bi .list _ => true
  | .bi .sorted _ => true
  | .dsp _ _ => true
  | _ => false

inductive Md | f | b | o | ob | ool | ood deriving DecidableEq
mutual
inductive Stm where
  | asg (b : Bool) (tg : Tg) (e : Ex)
  | own (i : Nat) (m : Md) (e : Ex)
  | par (is : List Nat) (ms : List Md) (es : Exs)
  | frz (i : Nat)
  | app (i : Nat) (b : Bool) (e : Ex)
  | ext (i : Nat) (b : Bool) (e : Ex)
  | app2 (i : Nat) (k : Ex) (b : Bool) (e : Ex)
  | set1 (i : Nat) (k : Ex) (b : Bool) (e : Ex)
  | set2 (i : Nat) (a k : Ex) (b : Bool) (e : Ex)
  | sset (j : Nat) (f : Fld) (e : Ex)
  | cels (i j : Nat)
  | ifs (c : Ex) (a b : Sts)
  | frs (tg : Tg) (it : Itx) (b : Sts)
  | whl (c : Ex) (b : Sts)
  | ret (e : Ex)
  | exs (e : Ex)
  | pas | brk | cnt
inductive Sts where
  | nil | cons (s : Stm) (r : Sts)
end
inductive Fl | nx | rt (v : PyData) | bk | ct
abbrev RS := Option (Fl × List Sl × Src)
def setS (ρ : List Sl) (as : List (Nat × PyData)) : List Sl := as.foldl (fun r p => r.set p.1 (.d p.2)) ρ
/-- the turns of a for -/
def loopF (f : PyData → List Sl → Src → RS) : List PyData → List Sl → Src → RS
  | [], ρ, S => some (.nx, ρ, S)
  | x :: xs, ρ, S => (f x ρ S).bind fun r => match r.1 with
    | .nx => loopF f xs r.2.1 r.2.2
    | .ct => loopF f xs r.2.1 r.2.2
    | .bk => some (.nx, r.2)
    | .rt v => some (.rt v, r.2)
/-- the turns of a while, at most n -/
def loopW (c : List Sl → Src → R Bool) (f : List Sl → Src → RS) : Nat → List Sl → Src → RS
  | 0, _, _ => none
  | n + 1, ρ, S => (c ρ S).bind fun t => if t.1 then (f ρ t.2).bind fun r => match r.1 with
      | .nx => loopW c f n r.2.1 r.2.2
      | .ct => loopW c f n r.2.1 r.2.2
      | .bk => some (.nx, r.2)
      | .rt v => some (.rt v, r.2)
    else some (.nx, ρ, t.2)
def whileFuel : Nat := 1073741824
def rows? : List PyData → Option (List (List PyData))
  | [] => some []
  | .list xs :: r => (rows? r).map (xs :: ·)
  | _ :: _ => none
def drows? : List PyData → Option (List (List (PyData × PyData)))
  | [] => some []
  | .dict xs :: r => (drows? r).map (xs :: ·)
  | _ :: _ => none
/-- a value laid into a slot, by the mode -/
def layS : Md → PyData → Option Sl
  | .f, x => some (.d x)
  | .b, x => if lf x then some (.d x) else none
  | .o, .list xs => some (.ol xs)
  | .o, .dict kvs => some (.od kvs)
  | .ob, .list xs => if lf.lfAll xs then some (.ol xs) else none
  | .ool, .list xs => (rows? xs).map .oll
  | .ood, .list xs => (drows? xs).map .odl
  | _, _ => none
/-- in the borrowed view -/
def isB : Md → Bool
  | .b => true
  | .ob => true
  | _ => false
section
variable (Φ : Nat → List Vw → Src → R PyData)
/-- what a for walks: no dict -/
def evJ (it : Itx) (ρ : List Vw) (S : Src) : R (List PyData) := match it with
  | .ex e => (evE Φ e ρ S).bind fun p => (seqD p.1).map (·, p.2)
  | it => evI Φ it ρ S
/-- frozen view, or a borrowed one whose value holds no list -/
def evB (b : Bool) (e : Ex) (ρ : List Sl) (S : Src) : R PyData :=
  if b then (evE Φ e (ρ.map Sl.vw) S).bind fun p => if lf p.1 then some p else none else evE Φ e (ρ.map Sl.fz) S
/-- a, b = x, y: values in order, each by its mode -/
def evP : List Md → Exs → List Sl → Src → R (List Sl)
  | [], .nil, _, S => some ([], S)
  | m :: ms, .cons _ e r, ρ, S => (evE Φ e (ρ.map (if isB m then Sl.vw else Sl.fz)) S).bind fun p => (layS m p.1).bind fun s => (evP ms r ρ p.2).map fun q => (s :: q.1, q.2)
  | _, _, _, _ => none
def setSl (ρ : List Sl) : List Nat → List Sl → List Sl
  | i :: is, s :: ss => setSl (ρ.set i s) is ss
  | _, _ => ρ
def putAt (xs : List PyData) (i : Int) (v : PyData) : Option (List PyData) := (L2.ixN xs.length i).map fun j => xs.set j v
def put1 : Sl → PyData → PyData → Option Sl
  | .ol xs, .int i, v => (putAt xs i v).map .ol
  | .od kvs, k, v => if keyOk kvs k && okLen (kvs.length + 1) then some (.od (putD kvs k v)) else none
  | _, _, _ => none
def put2 : Sl → PyData → PyData → PyData → Option Sl
  | .oll rows, .int a, .int i, v => (L2.ixN rows.length a).bind fun j => (rows[j]?).bind fun xs => (putAt xs i v).map fun ys => .oll (rows.set j ys)
  | .odl rows, .int a, k, v => (L2.ixN rows.length a).bind fun j => (rows[j]?).bind fun kvs => if keyOk kvs k && okLen (kvs.length + 1) then some (.odl (rows.set j (putD kvs k v))) else none
  | _, _, _, _ => none
mutual
def exS : Stm → List Sl → Src → RS
  | .asg b tg e, ρ, S => (evB Φ b e ρ S).bind fun p => (bindTg tg p.1).map fun as => (.nx, setS ρ as, p.2)
  | .own i m e, ρ, S => (evE Φ e (ρ.map (if isB m then Sl.vw else Sl.fz)) S).bind fun p => (layS m p.1).map fun s => (.nx, ρ.set i s, p.2)
  | .par is ms es, ρ, S => if is.all (fun i => decide (i < ρ.length)) then (evP Φ ms es ρ S).bind fun p => some (.nx, setSl ρ is p.1, p.2) else none
  | .frz i, ρ, S => match ρ[i]? with
    | some s => some (.nx, ρ.set i (match s.vw with | .d x => .d x | _ => s), S)
    | none => none
  | .app i b e, ρ, S => (evB Φ b e ρ S).bind fun p => match ρ[i]? with
    | some (.ol xs) => if okLen (xs.length + 1) then some (.nx, ρ.set i (.ol (xs ++ [p.1])), p.2) else none
    | _ => none
  | .ext i b e, ρ, S => (evB Φ b e ρ S).bind fun p => match ρ[i]?, p.1 with
    | some (.ol xs), .list ys => if okLen (xs.length + ys.length) then some (.nx, ρ.set i (.ol (xs ++ ys)), p.2) else none
    | _, _ => none
  | .app2 i k b e, ρ, S => (evE Φ k (ρ.map Sl.vw) S).bind fun q => (evB Φ b e ρ q.2).bind fun p => match ρ[i]?, q.1 with
    | some (.oll rows), .int a => (L2.ixN rows.length a).bind fun j => (rows[j]?).bind fun xs => if okLen (xs.length + 1) then some (.nx, ρ.set i (.oll (rows.set j (xs ++ [p.1]))), p.2) else none
    | _, _ => none
  | .set1 i k b e, ρ, S => (evB Φ b e ρ S).bind fun p => (evE Φ k (ρ.map Sl.vw) p.2).bind fun q => (ρ[i]?).bind fun s => if lf q.1 then (put1 s q.1 p.1).map fun s' => (.nx, ρ.set i s', q.2) else none
  | .set2 i a k b e, ρ, S => (evB Φ b e ρ S).bind fun p => (evE Φ a (ρ.map Sl.vw) p.2).bind fun r => (evE Φ k (ρ.map Sl.vw) r.2).bind fun q => (ρ[i]?).bind fun s =>
      if lf q.1 then (put2 s r.1 q.1 p.1).map fun s' => (.nx, ρ.set i s', q.2) else none
  | .sset j f e, ρ, S => (evE Φ e (ρ.map Sl.vw) S).bind fun p => match ρ[j]?, p.1 with
    | some .src, .int n => some (.nx, ρ, match f with | .left => { p.2 with left := n } | .mixed => { p.2 with mixed := n } | .turn => { p.2 with turn := n })
    | _, _ => none
  | .cels i j, ρ, S => match ρ[j]? with
    | some .src => some (.nx, ρ.set i .cel, S)
    | _ => none
  | .ifs c a b, ρ, S => (evE Φ c (ρ.map Sl.vw) S).bind fun p => (truth p.1).bind fun t => if t then exSs a ρ p.2 else exSs b ρ p.2
  | .frs tg it b, ρ, S => (evJ Φ it (ρ.map Sl.fz) S).bind fun p => loopF (fun x ρ S => (bindTg tg x).bind fun as => exSs b (setS ρ as) S) p.1 ρ p.2
  | .whl c b, ρ, S => loopW (fun ρ S => (evE Φ c (ρ.map Sl.vw) S).bind fun p => (truth p.1).map (·, p.2)) (fun ρ S => exSs b ρ S) whileFuel ρ S
  | .ret e, ρ, S => (evE Φ e (ρ.map Sl.vw) S).map fun p => (.rt p.1, ρ, p.2)
  | .exs e, ρ, S => (evE Φ e (ρ.map Sl.vw) S).map fun p => (.nx, ρ, p.2)
  | .pas, ρ, S => some (.nx, ρ, S)
  | .brk, ρ, S => some (.bk, ρ, S)
  | .cnt, ρ, S => some (.ct, ρ, S)
def exSs : Sts → List Sl → Src → RS
  | .nil, ρ, S => some (.nx, ρ, S)
  | .cons s r, ρ, S => (exS s ρ S).bind fun q => match q.1 with
    | .nx => exSs r q.2.1 q.2.2
    | _ => some q
end
end
def Vw.sl : Vw → Sl
  | .d x => .d x
  | .src => .src
  | .cel => .cel
  | .scr ns => .scr ns
  | .no => .no
/-- a def: its name, its slots by name, parameters first, how many these are, its body -/
structure Fd where
  name : Str
  names : List Str
  np : Nat
  body : Sts
def startS (n : Nat) (args : List Vw) : List Sl := args.map Vw.sl ++ List.replicate (n - args.length) .no
def endR : RS → R PyData
  | some (.rt v, _, S) => some (v, S)
  | some (.nx, _, S) => some (.none, S)
  | _ => none
/-- calls, at most d deep -/
def callT (T : List Fd) : Nat → Nat → List Vw → Src → R PyData
  | 0, _, _, _ => none
  | d + 1, f, args, S => (T[f]?).bind fun fd => if args.length = fd.np then endR (exSs (callT T d) fd.body (startS fd.names.length args) S) else none
end Pyl

/-! Pyl3: how values stand in the abstract heap; steps; the call of a def with nothing under way. -/
namespace Pyl
open PySem PySem.Spec PyProof.Rows L2

def kD : Key → PyData
  | .inl i => .int i
  | .inr x => .str x
mutual
/-- the value v reads as d; G holds what nothing changes any more -/
inductive Rel (K : PySem.W.Frag) (G : Hp) : V → PyData → Prop
  | non : Rel K G .non .none
  | bl (b : Bool) : Rel K G (.bl b) (.bool b)
  | int (i : Int) : Rel K G (.int i) (.int i)
  | str (x : Str) : Rel K G (.str x) (.str x)
  | lst {a : Addr} {xs : List V} {ds : List PyData} : G a = some (.lst xs) → xs.length ≤ sizeLine → RelAll K G xs ds → Rel K G (.ref a) (.list ds)
  | tup {a : Addr} {xs : List V} {ds : List PyData} : G a = some (.tup xs) → xs.length ≤ sizeLine → RelAll K G xs ds → Rel K G (.ref a) (.tuple ds)
  | dk {a : Addr} {kvs : List (Key × V)} {ds : List (PyData × PyData)} : G a = some (.dK kvs) → kvs.length ≤ sizeLine → RelK K G kvs ds → Rel K G (.ref a) (.dict ds)
  | dt {a : Addr} {kvs : List (List Key × V)} {ds : List (PyData × PyData)} : G a = some (.dT kvs) → kvs.length ≤ sizeLine → RelT K G kvs ds → Rel K G (.ref a) (.dict ds)
inductive RelAll (K : PySem.W.Frag) (G : Hp) : List V → List PyData → Prop
  | nil : RelAll K G [] []
  | cons {v : V} {vs : List V} {d : PyData} {ds : List PyData} : Rel K G v d → RelAll K G vs ds → RelAll K G (v :: vs) (d :: ds)
inductive RelK (K : PySem.W.Frag) (G : Hp) : List (Key × V) → List (PyData × PyData) → Prop
  | nil : RelK K G [] []
  | cons {k : Key} {v : V} {d : PyData} {r : List (Key × V)} {ds : List (PyData × PyData)} : Rel K G v d → RelK K G r ds → RelK K G ((k, v) :: r) ((kD k, d) :: ds)
inductive RelT (K : PySem.W.Frag) (G : Hp) : List (List Key × V) → List (PyData × PyData) → Prop
  | nil : RelT K G [] []
  | cons {k : List Key} {v : V} {d : PyData} {r : List (List Key × V)} {ds : List (PyData × PyData)} : (k.map kV).length ≤ sizeLine → Rel K G v d → RelT K G r ds → RelT K G ((k, v) :: r) ((.tuple (k.map kD), d) :: ds)
end

/-- G' knows what G knows -/
def Le (G G' : Hp) : Prop := ∀ a u, G a = some u → G' a = some u
theorem Le.refl (G : Hp) : Le G G := fun _ _ h => h
theorem Le.trans {G G' G'' : Hp} (h : Le G G') (k : Le G' G'') : Le G G'' := fun a u e => k a u (h a u e)
theorem Le.rd {G G' : Hp} (h : Le G G') {a : Addr} {u : HO} : Rd G a u → Rd G' a u
  | .inl e => .inl (h a u e)
  | .inr ⟨o, e⟩ => .inr ⟨o, h a _ e⟩
theorem Le.sqL {K : PySem.W.Frag} {G G' : Hp} (h : Le G G') {a : Addr} {xs : List V} : SqL K G a xs → SqL K G' a xs
  | .inl e => .inl (h.rd e)
  | .inr e => .inr e
theorem Le.sqT {K : PySem.W.Frag} {G G' : Hp} (h : Le G G') {a : Addr} {xs : List V} : SqT K G a xs → SqT K G' a xs
  | .inl e => .inl (h.rd e)
  | .inr e => .inr e
mutual
theorem Rel.mono {K : PySem.W.Frag} {G G' : Hp} (h : Le G G') : ∀ {v : V} {d : PyData}, Rel K G v d → Rel K G' v d
  | _, _, .non => .non
  | _, _, .bl b => .bl b
  | _, _, .int i => .int i
  | _, _, .str x => .str x
  | _, _, .lst s l r => .lst (h _ _ s) l (RelAll.mono h r)
  | _, _, .tup s l r => .tup (h _ _ s) l (RelAll.mono h r)
  | _, _, .dk s l r => .dk (h _ _ s) l (RelK.mono h r)
  | _, _, .dt s l r => .dt (h _ _ s) l (RelT.mono h r)
theorem RelAll.mono {K : PySem.W.Frag} {G G' : Hp} (h : Le G G') : ∀ {v : List V} {d : List PyData}, RelAll K G v d → RelAll K G' v d
  | _, _, .nil => .nil
  | _, _, .cons a b => .cons (Rel.mono h a) (RelAll.mono h b)
theorem RelK.mono {K : PySem.W.Frag} {G G' : Hp} (h : Le G G') : ∀ {v : List (Key × V)} {d : List (PyData × PyData)}, RelK K G v d → RelK K G' v d
  | _, _, .nil => .nil
  | _, _, .cons a b => .cons (Rel.mono h a) (RelK.mono h b)
theorem RelT.mono {K : PySem.W.Frag} {G G' : Hp} (h : Le G G') : ∀ {v : List (List Key × V)} {d : List (PyData × PyData)}, RelT K G v d → RelT K G' v d
  | _, _, .nil => .nil
  | _, _, .cons z a b => .cons z (Rel.mono h a) (RelT.mono h b)
end
theorem RelAll.length {K : PySem.W.Frag} {G : Hp} : ∀ {v : List V} {d : List PyData}, RelAll K G v d → v.length = d.length
  | _, _, .nil => rfl
  | _, _, .cons _ b => congrArg Nat.succ (RelAll.length b)
theorem RelK.length {K : PySem.W.Frag} {G : Hp} : ∀ {v : List (Key × V)} {d : List (PyData × PyData)}, RelK K G v d → v.length = d.length
  | _, _, .nil => rfl
  | _, _, .cons _ b => congrArg Nat.succ (RelK.length b)
theorem RelT.length {K : PySem.W.Frag} {G : Hp} : ∀ {v : List (List Key × V)} {d : List (PyData × PyData)}, RelT K G v d → v.length = d.length
  | _, _, .nil => rfl
  | _, _, .cons _ _ b => congrArg Nat.succ (RelT.length b)
theorem RelAll.append {K : PySem.W.Frag} {G : Hp} : ∀ {v w : List V} {d e : List PyData}, RelAll K G v d → RelAll K G w e → RelAll K G (v ++ w) (d ++ e)
  | _, _, _, _, .nil, h => h
  | _, _, _, _, .cons a b, h => .cons a (RelAll.append b h)
theorem RelAll.get {K : PySem.W.Frag} {G : Hp} : ∀ {vs : List V} {ds : List PyData} {i : Nat} {d : PyData}, RelAll K G vs ds → ds[i]? = some d → ∃ v, vs[i]? = some v ∧ Rel K G v d
  | _, _, 0, _, .cons a _, e => ⟨_, rfl, by cases e; exact a⟩
  | _, _, i + 1, _, .cons _ b, e => RelAll.get (i := i) b e
  | _, _, _, _, .nil, e => by simp at e
theorem RelAll.getV {K : PySem.W.Frag} {G : Hp} : ∀ {vs : List V} {ds : List PyData} {i : Nat} {v : V}, RelAll K G vs ds → vs[i]? = some v → ∃ d, ds[i]? = some d ∧ Rel K G v d
  | _, _, 0, _, .cons a _, e => ⟨_, rfl, by cases e; exact a⟩
  | _, _, i + 1, _, .cons _ b, e => RelAll.getV (i := i) b e
  | _, _, _, _, .nil, e => by simp at e
theorem RelAll.take {K : PySem.W.Frag} {G : Hp} : ∀ {vs : List V} {ds : List PyData} (n : Nat), RelAll K G vs ds → RelAll K G (vs.take n) (ds.take n)
  | _, _, 0, _ => by simp only [List.take_zero]; exact .nil
  | _, _, _ + 1, .nil => .nil
  | _, _, n + 1, .cons a b => .cons a (RelAll.take n b)
theorem RelAll.drop {K : PySem.W.Frag} {G : Hp} : ∀ {vs : List V} {ds : List PyData} (n : Nat), RelAll K G vs ds → RelAll K G (vs.drop n) (ds.drop n)
  | _, _, 0, h => h
  | _, _, _ + 1, .nil => .nil
  | _, _, n + 1, .cons _ b => RelAll.drop n b
theorem RelAll.set {K : PySem.W.Frag} {G : Hp} {v : V} {d : PyData} (h : Rel K G v d) : ∀ {vs : List V} {ds : List PyData} (n : Nat), RelAll K G vs ds → RelAll K G (vs.set n v) (ds.set n d)
  | _, _, _, .nil => .nil
  | _, _, 0, .cons _ b => .cons h b
  | _, _, n + 1, .cons a b => .cons a (RelAll.set h n b)
theorem RelAll.reverse {K : PySem.W.Frag} {G : Hp} : ∀ {vs : List V} {ds : List PyData}, RelAll K G vs ds → RelAll K G vs.reverse ds.reverse
  | _, _, .nil => .nil
  | _, _, .cons a b => by rw [List.reverse_cons, List.reverse_cons]; exact (RelAll.reverse b).append (.cons a .nil)
theorem RelAll.rep {K : PySem.W.Frag} {G : Hp} {vs : List V} {ds : List PyData} (h : RelAll K G vs ds) : ∀ n : Nat, RelAll K G (List.replicate n vs).flatten (List.replicate n ds).flatten
  | 0 => .nil
  | n + 1 => by
    rw [List.replicate_succ, List.replicate_succ, List.flatten_cons, List.flatten_cons]
    exact h.append (RelAll.rep h n)
theorem RelAll.ints {K : PySem.W.Frag} {G : Hp} : ∀ {vs : List V} {ds : List PyData} {ns : List Int}, RelAll K G vs ds → ints? ds = some ns → vs = ns.map V.int
  | _, [], ns, .nil, h => by cases h; rfl
  | _, d :: ds, ns, .cons a b, h => by
    cases a with
    | int i =>
      simp only [ints?] at h
      cases q : ints? ds with
      | none => rw [q] at h; cases h
      | some ms =>
        rw [q] at h
        cases h
        rw [RelAll.ints b q]
        rfl
    | _ => cases h
theorem RelAll.bools {K : PySem.W.Frag} {G : Hp} : ∀ {vs : List V} {ds : List PyData} {ns : List Bool}, RelAll K G vs ds → bools? ds = some ns → vs = ns.map V.bl
  | _, [], ns, .nil, h => by cases h; rfl
  | _, d :: ds, ns, .cons a b, h => by
    cases a with
    | bl i =>
      simp only [bools?] at h
      cases q : bools? ds with
      | none => rw [q] at h; cases h
      | some ms =>
        rw [q] at h
        cases h
        rw [RelAll.bools b q]
        rfl
    | _ => cases h
theorem ints_map : ∀ ns : List Int, ints? (ns.map PyData.int) = some ns
  | [] => rfl
  | n :: ns => by simp only [List.map_cons, ints?, ints_map ns, Option.map_some]
theorem bools_map : ∀ ns : List Bool, bools? (ns.map PyData.bool) = some ns
  | [] => rfl
  | n :: ns => by simp only [List.map_cons, bools?, bools_map ns, Option.map_some]

/-- dicts may be locked in H -/
def isDct : HO → Bool
  | .dK _ => true
  | .dT _ => true
  | _ => false
def Sub (G H : Hp) : Prop := ∀ a u, G a = some u → H a = some u ∨ (isDct u = true ∧ ∃ o, H a = some (.frz o u))
theorem Sub.live {G H : Hp} (h : Sub G H) {a : Addr} (e : G a ≠ none) : H a ≠ none := by
  cases q : G a with
  | none => exact absurd q e
  | some u => rcases h a u q with z | ⟨_, o, z⟩ <;> rw [z] <;> simp
theorem Sub.none {G H : Hp} (h : Sub G H) {a : Addr} (e : H a = none) : G a = none := by
  cases q : G a with
  | none => rfl
  | some u => exact absurd e (h.live (by rw [q]; simp))
theorem Sub.ex {G H : Hp} (h : Sub G H) {a : Addr} {u : HO} (e : G a = some u) (z : isDct u = false) : H a = some u := by
  rcases h a u e with q | ⟨q, _⟩
  · exact q
  · rw [z] at q; cases q
theorem Sub.rd {G H : Hp} (h : Sub G H) {a : Addr} {u : HO} : Rd G a u → isDct u = false → Rd H a u
  | .inl e, z => by
    rcases h a u e with q | ⟨q, _⟩
    · exact .inl q
    · rw [z] at q; cases q
  | .inr ⟨o, e⟩, z => by
    rcases h a _ e with q | ⟨q, _⟩
    · exact .inr ⟨o, q⟩
    · cases q
theorem Sub.sqL {K : PySem.W.Frag} {G H : Hp} (h : Sub G H) {a : Addr} {xs : List V} : SqL K G a xs → SqL K H a xs
  | .inl e => .inl (h.rd e rfl)
  | .inr e => .inr e
theorem Sub.sqT {K : PySem.W.Frag} {G H : Hp} (h : Sub G H) {a : Addr} {xs : List V} : SqT K G a xs → SqT K H a xs
  | .inl e => .inl (h.rd e rfl)
  | .inr e => .inr e
mutual
/-- a value without dicts, in the hand layer's words -/
theorem Rel.dp {K : PySem.W.Frag} {G H : Hp} (h : Sub G H) : ∀ {v : V} {d : PyData}, Rel K G v d → d.canLay0 = true → Dp K H v d
  | _, _, .non, _ => .non
  | _, _, .bl b, _ => .bl b
  | _, _, .int i, _ => .int i
  | _, _, .str x, _ => .str x
  | _, _, .lst s _ r, q => .lst (.inl (.inl (h.ex s rfl))) (RelAll.dp h r q)
  | _, _, .tup s _ r, q => .tup (.inl (.inl (h.ex s rfl))) (RelAll.dp h r q)
  | _, _, .dk s _ r, q => by cases q
  | _, _, .dt s _ r, q => by cases q
theorem RelAll.dp {K : PySem.W.Frag} {G H : Hp} (h : Sub G H) : ∀ {v : List V} {d : List PyData}, RelAll K G v d → PyData.canLayAll0 d = true → DpAll K H v d
  | _, _, .nil, _ => .nil
  | _, _, .cons (d := d) (ds := ds) a b, q => by
    have q' : (PyData.canLay0 d && PyData.canLayAll0 ds) = true := q
    rw [Bool.and_eq_true] at q'
    exact .cons (Rel.dp h a q'.1) (RelAll.dp h b q'.2)
end

def isTup : HO → Bool
  | .tup _ => true
  | _ => false
abbrev PC := Option (Addr × Addr)
def isPc : PC → Addr → Prop
  | none, _ => False
  | some (p, c), a => a = p ∨ a = c
def SrcOk : PC → Hp → Src → Prop
  | none, _, _ => True
  | some (p, c), H, S => p ≠ c ∧ H p = some (.dK [(.inr "cells", .ref c), (.inr "left", .int S.left), (.inr "mixed", .int S.mixed), (.inr "turn", .int S.turn)]) ∧ H c = some (.lst (S.cells.map V.int))
/-- what an expression may do to the heaps: new things, the source; all else stays -/
structure EStep (pc : PC) (G H G' H' : Hp) : Prop where
  le : Le G G'
  ok : Sub G' H'
  keep : ∀ a, H a ≠ none → ¬ isPc pc a → H' a = H a
  live : ∀ a, H a ≠ none → H' a ≠ none
  new : ∀ a u, G' a = some u → G a ≠ none ∨ H a = none ∨ isTup u = true
theorem EStep.refl {pc : PC} {G H : Hp} (h : Sub G H) : EStep pc G H G H := ⟨Le.refl G, h, fun _ _ _ => rfl, fun _ h => h, fun _ u h => .inl (by rw [h]; simp)⟩
theorem EStep.trans {pc : PC} {G H G1 H1 G2 H2 : Hp} (h : EStep pc G H G1 H1) (k : EStep pc G1 H1 G2 H2) : EStep pc G H G2 H2 :=
  ⟨h.le.trans k.le, k.ok, fun a e n => (k.keep a (h.live a e) n).trans (h.keep a e n), fun a e => k.live a (h.live a e), fun a u e => by
    rcases k.new a u e with z | z | z
    · cases q : G1 a with
      | none => exact absurd q z
      | some w =>
        have q2 := k.le a w q
        rw [e] at q2
        cases q2
        exact h.new a u q
    · refine .inr (.inl ?_)
      cases q : H a with
      | none => rfl
      | some u => exact absurd z (h.live a (by rw [q]; simp))
    · exact .inr (.inr z)⟩
/-- a new thing, told -/
theorem EStep.laid {pc : PC} {G H : Hp} (h : Sub G H) {p : Addr} (n : H p = none) (u : HO) : EStep pc G H (upd G p u) (upd H p u) := by
  have ng : G p = none := h.none n
  refine ⟨fun a w e => ?_, fun a w e => ?_, fun a e _ => ?_, fun a e => ?_, fun a w e => ?_⟩
  · by_cases z : a = p
    · rw [z, ng] at e; cases e
    · rw [upd_ne z]; exact e
  · by_cases z : a = p
    · rw [z, upd_same] at e ⊢; exact .inl e
    · rw [upd_ne z] at e ⊢; exact h a w e
  · by_cases z : a = p
    · rw [z] at e; exact absurd n e
    · rw [upd_ne z]
  · by_cases z : a = p
    · rw [z, upd_same]; simp
    · rw [upd_ne z]; exact e
  · by_cases z : a = p
    · rw [z]; exact .inr (.inl n)
    · rw [upd_ne z] at e; exact .inl (by rw [e]; simp)
/-- a new thing, not told -/
theorem EStep.hid {pc : PC} {G H : Hp} (h : Sub G H) {p : Addr} (n : H p = none) (u : HO) : EStep pc G H G (upd H p u) := by
  refine ⟨Le.refl G, fun a w e => ?_, fun a e _ => ?_, fun a e => ?_, fun a w e => .inl (by rw [e]; simp)⟩
  · by_cases z : a = p
    · rw [z, h.none n] at e; cases e
    · rw [upd_ne z]; exact h a w e
  · by_cases z : a = p
    · rw [z] at e; exact absurd n e
    · rw [upd_ne z]
  · by_cases z : a = p
    · rw [z, upd_same]; simp
    · rw [upd_ne z]; exact e
theorem SrcOk.keep {pc : PC} {H H' : Hp} {S : Src} (h : SrcOk pc H S) (k : ∀ a, isPc pc a → H' a = H a) : SrcOk pc H' S := by
  cases pc with
  | none => trivial
  | some q =>
    obtain ⟨p, c⟩ := q
    obtain ⟨h0, h1, h2⟩ := h
    exact ⟨h0, (k p (.inl rfl)).trans h1, (k c (.inr rfl)).trans h2⟩
theorem SrcOk.live {pc : PC} {H : Hp} {S : Src} (h : SrcOk pc H S) {a : Addr} (q : isPc pc a) : H a ≠ none := by
  cases pc with
  | none => exact q.elim
  | some z =>
    obtain ⟨p, c⟩ := z
    obtain ⟨h0, h1, h2⟩ := h
    rcases q with e | e
    · rw [e, h1]; simp
    · rw [e, h2]; simp
theorem SrcOk.upd {pc : PC} {H : Hp} {S : Src} (h : SrcOk pc H S) {p : Addr} (n : H p = none) (u : HO) : SrcOk pc (upd H p u) S :=
  h.keep fun a q => upd_ne fun e => absurd n (e ▸ h.live q)

theorem SrcOk.noTup {pc : PC} {H : Hp} {S : Src} (h : SrcOk pc H S) {a : Addr} (q : isPc pc a) {u : HO} (e : H a = some u) (t : isTup u = true) : False := by
  cases pc with
  | none => exact q
  | some z =>
    obtain ⟨p, c⟩ := z
    obtain ⟨h0, h1, h2⟩ := h
    rcases q with y | y
    · rw [y, h1] at e; cases e; cases t
    · rw [y, h2] at e; cases e; cases t
/-- what the slots show -/
def VwOk (K : PySem.W.Frag) (pc : PC) (G : Hp) (ρ : List Vw) (σ : L2.St) : Prop := ∀ (i : Nat) (w : Vw), ρ[i]? = some w → match w with
  | .d x => ∃ v, σ[i]? = some (some v) ∧ Rel K G v x
  | .scr ns => ∃ a, σ[i]? = some (some (.ref a)) ∧ SqL K G a (ns.map V.int) ∧ ns.length ≤ sizeLine
  | .src => ∃ p c, pc = some (p, c) ∧ σ[i]? = some (some (.ref p))
  | .cel => ∃ p c, pc = some (p, c) ∧ σ[i]? = some (some (.ref c))
  | .no => i < σ.length
theorem VwOk.mono {K : PySem.W.Frag} {pc : PC} {G G' : Hp} {ρ : List Vw} {σ : L2.St} (h : VwOk K pc G ρ σ) (l : Le G G') : VwOk K pc G' ρ σ := fun i w e => by
  have q := h i w e
  cases w with
  | d x => obtain ⟨v, a, b⟩ := q; exact ⟨v, a, b.mono l⟩
  | scr ns => obtain ⟨a, b, c, z⟩ := q; exact ⟨a, b, l.sqL c, z⟩
  | src => exact q
  | cel => exact q
  | no => exact q
structure Pre (K : PySem.W.Frag) (pc : PC) (G H : Hp) (S : Src) (ρ : List Vw) (σ : L2.St) : Prop where
  sub : Sub G H
  src : SrcOk pc H S
  npc : ∀ a, isPc pc a → G a = none
  vw : VwOk K pc G ρ σ
theorem Pre.next {K : PySem.W.Frag} {pc : PC} {G H G' H' : Hp} {S S' : Src} {ρ : List Vw} {σ : L2.St} (h : Pre K pc G H S ρ σ) (e : EStep pc G H G' H') (s : SrcOk pc H' S') : Pre K pc G' H' S' ρ σ :=
  ⟨e.ok, s, fun a q => by
    cases z : G' a with
    | none => rfl
    | some u =>
      rcases e.new a u z with y | y | y
      · exact absurd (h.npc a q) y
      · exact absurd y (h.src.live q)
      · exact (s.noTup q (e.ok.ex z (by cases u <;> first | rfl | cases y)) y).elim, h.vw.mono e.le⟩
end Pyl

/-! Pyl4: operators, comparisons, built-ins on values. -/
namespace Pyl
open PySem PySem.Spec PyProof.Rows L2

/-- the wish behind an operation that makes r -/
def Kt (K : PySem.W.Frag) (pc : PC) (G H : Hp) (r : PyData) (Q : VK) : Prop := ∀ v G' H', EStep pc G H G' H' → (∀ S, SrcOk pc H S → SrcOk pc H' S) → Rel K G' v r → Q v H'
theorem Kt.same {K : PySem.W.Frag} {pc : PC} {G H : Hp} {r : PyData} {Q : VK} (k : Kt K pc G H r Q) (s : Sub G H) {v : V} (h : Rel K G v r) : Q v H := k v G H (EStep.refl s) (fun _ h => h) h
theorem Kt.new {K : PySem.W.Frag} {pc : PC} {G H : Hp} {r : PyData} {Q : VK} (k : Kt K pc G H r Q) (s : Sub G H) {p : Addr} {u : HO} (n : H p = none) (h : Rel K (upd G p u) (.ref p) r) : Q (.ref p) (upd H p u) :=
  k _ (upd G p u) (upd H p u) (EStep.laid s n u) (fun _ h => h.upd n u) h
theorem Le.upd {G H : Hp} (s : Sub G H) {p : Addr} (n : H p = none) (u : HO) : Le G (upd G p u) := (EStep.laid (pc := none) s n u).le
theorem Rel.newL {K : PySem.W.Frag} {G H : Hp} (s : Sub G H) {p : Addr} (n : H p = none) {xs : List V} {ds : List PyData} (l : xs.length ≤ sizeLine) (h : RelAll K G xs ds) : Rel K (upd G p (.lst xs)) (.ref p) (.list ds) :=
  .lst upd_same l (h.mono (Le.upd s n _))
theorem Rel.newT {K : PySem.W.Frag} {G H : Hp} (s : Sub G H) {p : Addr} (n : H p = none) {xs : List V} {ds : List PyData} (l : xs.length ≤ sizeLine) (h : RelAll K G xs ds) : Rel K (upd G p (.tup xs)) (.ref p) (.tuple ds) :=
  .tup upd_same l (h.mono (Le.upd s n _))
/-- .. whose list or dict is new and nothing else holds it -/
def isOb : PyData → Bool
  | .list _ => true
  | .dict _ => true
  | _ => false
inductive RelO (K : PySem.W.Frag) (G : Hp) : HO → PyData → Prop
  | lst {xs ds} : xs.length ≤ sizeLine → RelAll K G xs ds → RelO K G (.lst xs) (.list ds)
  | dk {kvs ds} : kvs.length ≤ sizeLine → RelK K G kvs ds → RelO K G (.dK kvs) (.dict ds)
  | dt {kvs ds} : kvs.length ≤ sizeLine → RelT K G kvs ds → RelO K G (.dT kvs) (.dict ds)
def Kf (K : PySem.W.Frag) (pc : PC) (G H : Hp) (r : PyData) (Q : VK) : Prop := ∀ a u G' H', EStep pc G H G' H' → (∀ S, SrcOk pc H S → SrcOk pc H' S) → H a = none → G' a = none → H' a = some u → RelO K G' u r → Q (.ref a) H'
theorem Kf.new {K : PySem.W.Frag} {pc : PC} {G H : Hp} {r : PyData} {Q : VK} (k : Kf K pc G H r Q) (s : Sub G H) {p : Addr} {u : HO} (n : H p = none) (h : RelO K G u r) : Q (.ref p) (upd H p u) :=
  k p u G (upd H p u) (EStep.hid s n u) (fun _ h => h.upd n u) n (s.none n) upd_same h
theorem RelO.rel {K : PySem.W.Frag} {G : Hp} {a : Addr} {u : HO} {r : PyData} (h : RelO K G u r) (n : G a = none) : Rel K (L2.upd G a u) (.ref a) r := by
  have l : Le G (L2.upd G a u) := fun b w e => by
    by_cases z : b = a
    · rw [z, n] at e; cases e
    · rw [upd_ne z]; exact e
  cases h with
  | lst z h => exact .lst upd_same z (h.mono l)
  | dk z h => exact .dk upd_same z (h.mono l)
  | dt z h => exact .dt upd_same z (h.mono l)
theorem Kt.kf {K : PySem.W.Frag} {pc : PC} {G H : Hp} {r : PyData} {Q : VK} (k : Kt K pc G H r Q) : Kf K pc G H r Q := fun a u G' H' e s n n' h o => by
  refine k _ (L2.upd G' a u) H' ⟨fun b w z => ?_, fun b w z => ?_, e.keep, e.live, fun b w z => ?_⟩ s (o.rel n')
  · by_cases q : b = a
    · have := e.le b w z; rw [q, n'] at this; cases this
    · rw [upd_ne q]; exact e.le b w z
  · by_cases q : b = a
    · rw [q, upd_same] at z; cases z; rw [q]; exact .inl h
    · rw [upd_ne q] at z; exact e.ok b w z
  · by_cases q : b = a
    · rw [q]; exact .inr (.inl n)
    · rw [upd_ne q] at z; exact e.new b w z

/-- an operation on values by its rule: W is the wish of what follows -/
abbrev Wish := PySem.W.Frag → PC → Hp → Hp → PyData → VK → Prop
def Op2 (W : Wish) (K : PySem.W.Frag) (g : PyData → PyData → Option PyData) (r : R2) : Prop := ∀ (pc : PC) (G H : Hp) (x y : V) (d e z : PyData) (Q : VK), Sub G H → Rel K G x d → Rel K G y e → g d e = some z → W K pc G H z Q → r x y H Q
theorem okLen_le {n : Nat} (h : okLen n = true) : n ≤ sizeLine := by rw [sizeLine_eq]; exact of_decide_eq_true h

theorem shp_lay {d : PyData} (h : shp d = true) : d.canLay0 = true := SeqAt.canLay_of_shaped h


section
variable {K : PySem.W.Frag} {pc : PC} {G H : Hp}
/-- an int made -/
theorem kt_int {i : Int} {Q : VK} (k : Kt K pc G H (.int i) Q) (s : Sub G H) : Q (.int i) H := k.same s (.int i)
theorem kt_bl {b : Bool} {Q : VK} (k : Kt K pc G H (.bool b) Q) (s : Sub G H) : Q (.bl b) H := k.same s (.bl b)
end
def rAdd (K : PySem.W.Frag) : R2 := fun x y H Q => rI0 (fun i j => .int (i + j)) x y H Q ∨ rCat x y H Q ∨ rCatA K x y H Q ∨ (∃ i j, x = .str i ∧ y = .str j ∧ i.length + j.length ≤ sizeLine ∧ Q (.str (i ++ j)) H)
theorem or_add {X : Cx} : OpR X (binaryOp .Add) (rAdd X.K) := OpR.or op_add (OpR.or op_cat (OpR.or op_catA op_add_str))
theorem o2_add {K : PySem.W.Frag} : Op2 Kt K (binD .add) (rAdd K) := fun pc G H x y d e z Q s hx hy g k => by
  cases hx with
  | int i =>
    cases hy with
    | int j => cases g; exact .inl ⟨i, j, rfl, rfl, kt_int k s⟩
    | _ => cases g
  | str i =>
    cases hy with
    | str j =>
      simp only [binD] at g
      split at g
      · rename_i h
        cases g
        exact .inr (.inr (.inr ⟨i, j, rfl, rfl, okLen_le h, k.same s (.str _)⟩))
      · cases g
    | _ => cases g
  | lst ea la ra =>
    cases hy with
    | lst eb lb rb =>
      simp only [binD] at g
      split at g
      · rename_i h
        cases g
        have h1 := okLen_le h
        rw [← ra.length, ← rb.length] at h1
        exact .inr (.inl ⟨_, _, _, _, rfl, rfl, s.ex ea rfl, s.ex eb rfl, h1, fun p n => k.new s n (Rel.newL s n (by rw [List.length_append]; exact h1) (ra.append rb))⟩)
      · cases g
    | _ => cases g
  | tup ea la ra =>
    cases hy with
    | tup eb lb rb =>
      simp only [binD] at g
      split at g
      · rename_i h
        cases g
        have h1 := okLen_le h
        rw [← ra.length, ← rb.length] at h1
        refine .inr (.inr (.inl ⟨_, _, _, _, rfl, rfl, .inl (.inl (s.ex ea rfl)), .inl (.inl (s.ex eb rfl)), h1, fun e1 => ?_, fun _ e2 => ?_, fun _ _ p n => k.new s n (Rel.newT s n (by rw [List.length_append]; exact h1) (ra.append rb))⟩))
        · subst e1
          cases ra
          exact k.same s (.tup eb lb rb)
        · subst e2
          cases rb
          rw [List.append_nil] at k
          exact k.same s (.tup ea la ra)
      · cases g
    | _ => cases g
  | _ => cases hy <;> cases g
theorem o2f_add {K : PySem.W.Frag} : Op2 (fun K pc G H z Q => isOb z = true ∧ Kf K pc G H z Q) K (binD .add) (rAdd K) := fun pc G H x y d e z Q s hx hy g k => by
  obtain ⟨ko, k⟩ := k
  cases hx with
  | lst ea la ra =>
    cases hy with
    | lst eb lb rb =>
      simp only [binD] at g
      split at g
      · rename_i h
        cases g
        have h1 := okLen_le h
        rw [← ra.length, ← rb.length] at h1
        exact .inr (.inl ⟨_, _, _, _, rfl, rfl, s.ex ea rfl, s.ex eb rfl, h1, fun p n => k.new s n (.lst (by rw [List.length_append]; exact h1) (ra.append rb))⟩)
      · cases g
    | _ => cases g
  | _ =>
    cases hy <;> first
      | (cases g; done)
      | (cases g; cases ko; done)
      | (simp only [binD] at g; split at g <;> (cases g; try cases ko))
theorem o2_sub {K : PySem.W.Frag} : Op2 Kt K (binD .sub) (rI0 fun i j => .int (i - j)) := fun pc G H x y d e z Q s hx hy g k => by
  cases hx with
  | int i =>
    cases hy with
    | int j => cases g; exact ⟨i, j, rfl, rfl, kt_int k s⟩
    | _ => cases g
  | _ => cases hy <;> cases g
def rMul : R2 := fun x y H Q => rI CMul (fun i j => .int (i * j)) x y H Q ∨ rI CMulW (fun i j => .int (i * j)) x y H Q ∨ rRep x y H Q
theorem or_mul {X : Cx} : OpR X (binaryOp .Mult) rMul := OpR.or op_mul (OpR.or op_mulW op_rep)
theorem abs_lt {i : Int} (h : i.natAbs < 2 ^ 64) : -(2 ^ 64) < i ∧ i < 2 ^ 64 := by omega
theorem mul_c {i j : Int} (h : mulOk i j = true) : CMul i j ∨ CMulW i j := by
  unfold mulOk at h
  rw [Bool.or_eq_true, Bool.or_eq_true] at h
  rcases h with (h | h) | h
  · exact .inl (.inl (abs_lt (of_decide_eq_true h)))
  · exact .inl (.inr (abs_lt (of_decide_eq_true h)))
  · exact .inr (show i.natAbs.log2 + j.natAbs.log2 < 1000000 from of_decide_eq_true h)
theorem rep_len {xs : List V} (k : Nat) : (List.replicate k xs).flatten.length = xs.length * k := by
  rw [List.length_flatten, List.map_replicate, List.sum_replicate_nat]
  exact Nat.mul_comm _ _
theorem mul_case {K : PySem.W.Frag} {G H : Hp} {x y : V} {d e z : PyData} {Q : VK} (s : Sub G H) (hx : Rel K G x d) (hy : Rel K G y e) (g : binD .mul d e = some z) (ki : ∀ i, z = .int i → Q (.int i) H)
    (kl : ∀ xs ds p, z = .list ds → xs.length ≤ sizeLine → RelAll K G xs ds → H p = none → Q (.ref p) (upd H p (.lst xs))) : rMul x y H Q := by
  cases hx with
  | int i =>
    cases hy with
    | int j =>
      simp only [binD] at g
      split at g
      · rename_i h
        cases g
        rcases mul_c h with c | c
        · exact .inl ⟨i, j, rfl, rfl, c, ki _ rfl⟩
        · exact .inr (.inl ⟨i, j, rfl, rfl, c, ki _ rfl⟩)
      · cases g
    | _ => cases g
  | lst ea la ra =>
    cases hy with
    | int j =>
      simp only [binD] at g
      split at g
      · rename_i h
        cases g
        rw [Bool.and_eq_true, Bool.and_eq_true] at h
        obtain ⟨⟨h1, h2⟩, h3⟩ := h
        have h3 := okLen_le h3
        rw [← ra.length] at h3
        exact .inr (.inr ⟨_, j, _, rfl, rfl, s.ex ea rfl, of_decide_eq_true h1, of_decide_eq_true h2, h3, fun p n => kl _ _ p rfl (by rw [rep_len]; exact h3) (ra.rep _) n⟩)
      · cases g
    | _ => cases g
  | _ => cases hy <;> cases g
theorem o2_mul {K : PySem.W.Frag} : Op2 Kt K (binD .mul) rMul := fun pc G H x y d e z Q s hx hy g k =>
  mul_case s hx hy g (fun i q => kt_int (q ▸ k) s) fun xs ds p q l r n => by
    subst q
    exact k.new s n (Rel.newL s n l r)
theorem o2f_mul {K : PySem.W.Frag} : Op2 (fun K pc G H z Q => isOb z = true ∧ Kf K pc G H z Q) K (binD .mul) rMul := fun pc G H x y d e z Q s hx hy g k =>
  mul_case s hx hy g (fun i q => by rw [q] at k; cases k.1) fun xs ds p q l r n => by
    subst q
    exact k.2.new s n (.lst l r)
def rFdiv : R2 := fun x y H Q => rI CDivW (fun i j => .int (i / j)) x y H Q ∨ rI CDivN (fun i j => .int (i.fdiv j)) x y H Q
theorem or_fdiv {X : Cx} : OpR X (binaryOp .FloorDiv) rFdiv := OpR.or op_fdivW op_fdivN
theorem o2_fdiv {K : PySem.W.Frag} : Op2 Kt K (binD .fdiv) rFdiv := fun pc G H x y d e z Q s hx hy g k => by
  cases hx with
  | int i =>
    cases hy with
    | int j =>
      simp only [binD] at g
      split at g
      · rename_i h
        cases g
        rw [Bool.and_eq_true] at h
        exact .inl ⟨i, j, rfl, rfl, ⟨of_decide_eq_true h.1, of_decide_eq_true h.2⟩, kt_int k s⟩
      · split at g
        · rename_i h
          cases g
          rw [Bool.and_eq_true] at h
          have h1 := of_decide_eq_true h.1
          exact .inr ⟨i, j, rfl, rfl, ⟨by omega, of_decide_eq_true h.2⟩, kt_int k s⟩
        · cases g
    | _ => cases g
  | _ => cases hy <;> cases g
def rMod : R2 := fun x y H Q => rI (fun _ j => 0 < j) (fun i j => .int (i % j)) x y H Q ∨ rI (fun _ j => j ≠ 0) (fun i j => .int (i.fmod j)) x y H Q
theorem or_mod {X : Cx} : OpR X (binaryOp .Mod) rMod := OpR.or op_mod op_modN
theorem o2_mod {K : PySem.W.Frag} : Op2 Kt K (binD .mod) rMod := fun pc G H x y d e z Q s hx hy g k => by
  cases hx with
  | int i =>
    cases hy with
    | int j =>
      simp only [binD] at g
      split at g
      · rename_i h
        cases g
        exact .inl ⟨i, j, rfl, rfl, of_decide_eq_true h, kt_int k s⟩
      · split at g
        · rename_i h
          cases g
          have h1 := of_decide_eq_true h
          exact .inr ⟨i, j, rfl, rfl, by omega, kt_int k s⟩
        · cases g
    | _ => cases g
  | _ => cases hy <;> cases g
theorem pow_c {i j : Int} (h : (decide (0 ≤ j) && decide (j ≤ 1000000) && decide (i.natAbs < 2 ^ 64)) = true) : CPow i j := by
  rw [Bool.and_eq_true, Bool.and_eq_true] at h
  exact ⟨of_decide_eq_true h.1.1, of_decide_eq_true h.1.2, of_decide_eq_true h.2⟩
theorem o2_pow {K : PySem.W.Frag} : Op2 Kt K (binD .pow) (rI CPow fun i j => .int (i ^ j.toNat)) := fun pc G H x y d e z Q s hx hy g k => by
  cases hx with
  | int i =>
    cases hy with
    | int j =>
      simp only [binD] at g
      split at g
      · rename_i h
        cases g
        exact ⟨i, j, rfl, rfl, pow_c h, kt_int k s⟩
      · cases g
    | _ => cases g
  | _ => cases hy <;> cases g
theorem o2_shl {K : PySem.W.Frag} : Op2 Kt K (binD .shl) (rI CPow fun i j => .int (i * 2 ^ j.toNat)) := fun pc G H x y d e z Q s hx hy g k => by
  cases hx with
  | int i =>
    cases hy with
    | int j =>
      simp only [binD] at g
      split at g
      · rename_i h
        cases g
        exact ⟨i, j, rfl, rfl, pow_c h, kt_int k s⟩
      · cases g
    | _ => cases g
  | _ => cases hy <;> cases g
end Pyl

/-! Pyl5: comparisons, dicts asked. -/
namespace Pyl
open PySem PySem.Spec PyProof.Rows L2

def rel2 (W : Wish) (K : PySem.W.Frag) (pc : PC) (g : PyData → PyData → Option PyData) : R2 := fun x y H Q => ∃ G d e z, Sub G H ∧ Rel K G x d ∧ Rel K G y e ∧ g d e = some z ∧ W K pc G H z Q
theorem O2.of {X : Cx} {W : Wish} {pc : PC} {g : PyData → PyData → Option PyData} {f : Value → Value → Sem Value} {r : R2} (ho : OpR X f r) (h : Op2 W X.K g r) : OpR X f (rel2 W X.K pc g) := by
  intro pins s σ H x y v u Q I rx ry ⟨G, d, e, z, a, b, c, g, k⟩
  exact ho pins s σ H x y v u Q I rx ry (h pc G H x y d e z Q a b c g k)

def Cop.py : Cop → CmpOp
  | .eq => .Eq | .ne => .NotEq | .lt => .Lt | .le => .LtE | .gt => .Gt | .ge => .GtE | .isin => .In | .nin => .NotIn | .is => .Is | .isn => .IsNot
def Bop.py : Bop → Operator
  | .add => .Add | .sub => .Sub | .mul => .Mult | .fdiv => .FloorDiv | .mod => .Mod | .pow => .Pow | .shl => .LShift

/-! ### keys -/
theorem kD_inj {a b : Key} (h : kD a = kD b) : a = b := by
  cases a <;> cases b <;> cases h <;> rfl
theorem kDs_inj : ∀ {a b : List Key}, a.map kD = b.map kD → a = b
  | [], [], _ => rfl
  | [], _ :: _, h => by cases h
  | _ :: _, [], h => by cases h
  | a :: as, b :: bs, h => by
    simp only [List.map_cons, List.cons.injEq] at h
    rw [kD_inj h.1, kDs_inj h.2]
theorem eqv_kD (a b : Key) : PyData.eqv (kD a) (kD b) = decide (a = b) := by
  cases a with
  | inl i =>
    cases b with
    | inl j =>
      simp only [kD, PyData.eqv]
      by_cases e : i = j
      · subst e; simp
      · have : ¬ (Sum.inl i : Key) = Sum.inl j := fun q => e (Sum.inl.inj q)
        simp [e, this]
    | inr y => simp [kD, PyData.eqv]
  | inr x =>
    cases b with
    | inl j => simp [kD, PyData.eqv]
    | inr y =>
      simp only [kD, PyData.eqv]
      by_cases e : x = y
      · subst e; simp
      · have : ¬ (Sum.inr x : Key) = Sum.inr y := fun q => e (Sum.inr.inj q)
        simp [e, this]
theorem eqv_kDs : ∀ a b : List Key, PyData.eqvAll (a.map kD) (b.map kD) = decide (a = b)
  | [], [] => by simp [PyData.eqvAll]
  | [], _ :: _ => by simp [PyData.eqvAll]
  | _ :: _, [] => by simp [PyData.eqvAll]
  | a :: as, b :: bs => by
    simp only [List.map_cons, PyData.eqvAll, eqv_kD, eqv_kDs as bs, List.cons.injEq]
    by_cases h1 : a = b <;> by_cases h2 : as = bs <;> simp [h1, h2]
theorem eqv_kT (a b : List Key) : PyData.eqv (.tuple (a.map kD)) (.tuple (b.map kD)) = decide (a = b) := by
  simp only [PyData.eqv]
  exact eqv_kDs a b
theorem keyB_kD {d : PyData} (h : keyB d = true) : ∃ k, d = kD k := by
  cases d with
  | int i => exact ⟨.inl i, rfl⟩
  | str x => exact ⟨.inr x, rfl⟩
  | _ => cases h
theorem keyBs : ∀ {ds : List PyData}, ds.all keyB = true → ∃ ks : List Key, ds = ks.map kD
  | [], _ => ⟨[], rfl⟩
  | d :: ds, h => by
    rw [List.all_cons, Bool.and_eq_true] at h
    obtain ⟨k, rfl⟩ := keyB_kD h.1
    obtain ⟨ks, rfl⟩ := keyBs h.2
    exact ⟨k :: ks, rfl⟩
theorem keyT_kD {d : PyData} (h : keyT d = true) : ∃ ks : List Key, d = .tuple (ks.map kD) := by
  cases d with
  | tuple ds => obtain ⟨ks, rfl⟩ := keyBs h; exact ⟨ks, rfl⟩
  | _ => cases h
theorem keyB_of (k : Key) : keyB (kD k) = true := by cases k <;> rfl
theorem keyT_of (ks : List Key) : keyT (.tuple (ks.map kD)) = true := by
  show (ks.map kD).all keyB = true
  rw [List.all_map]
  exact List.all_eq_true.mpr fun k _ => keyB_of k
theorem keyB_not_T (k : Key) : keyT (kD k) = false := by cases k <;> rfl
theorem Rel.key {K : PySem.W.Frag} {G : Hp} {v : V} {k : Key} (h : Rel K G v (kD k)) : v = kV k := by
  cases k <;> cases h <;> rfl
theorem RelAll.keys {K : PySem.W.Frag} {G : Hp} : ∀ {vs : List V} {ks : List Key}, RelAll K G vs (ks.map kD) → vs = ks.map kV
  | _, [], .nil => rfl
  | _, k :: ks, .cons a b => by rw [Rel.key a, RelAll.keys b]; rfl
theorem Rel.tkey {K : PySem.W.Frag} {G : Hp} {v : V} {ks : List Key} (h : Rel K G v (.tuple (ks.map kD))) : ∃ b, v = .ref b ∧ G b = some (.tup (ks.map kV)) := by
  cases h with
  | tup e l r => exact ⟨_, rfl, by rw [← RelAll.keys r]; exact e⟩
/-- what the pairs hold -/
theorem RelK.look {K : PySem.W.Frag} {G : Hp} (k : Key) : ∀ {kvs : List (Key × V)} {ds : List (PyData × PyData)}, RelK K G kvs ds → (hasK ds (kD k) = (valV kvs k).isSome) ∧ (∀ d, lookD ds (kD k) = some d → ∃ v, valV kvs k = some v ∧ Rel K G v d) ∧ (lookD ds (kD k) = none → valV kvs k = none)
  | _, _, .nil => ⟨rfl, fun d h => (nomatch h), fun _ => rfl⟩
  | (k', v) :: r, _, .cons (d := d) (ds := ds) a b => by
    obtain ⟨h1, h2, h3⟩ := RelK.look k b
    simp only [hasK, lookD, List.any_cons, List.find?_cons, eqv_kD]
    by_cases e : k' = k
    · subst e
      rw [valV_pos rfl]
      simp only [decide_true, Bool.true_or, Option.isSome_some, Option.map_some, true_and]
      exact ⟨fun d' h => ⟨v, rfl, by cases h; exact a⟩, fun h => (nomatch h)⟩
    · rw [valV_neg e]
      simp only [e, decide_false, Bool.false_or]
      exact ⟨h1, h2, h3⟩
theorem RelT.look {K : PySem.W.Frag} {G : Hp} (k : List Key) : ∀ {kvs : List (List Key × V)} {ds : List (PyData × PyData)}, RelT K G kvs ds → (hasK ds (.tuple (k.map kD)) = (valV kvs k).isSome) ∧ (∀ d, lookD ds (.tuple (k.map kD)) = some d → ∃ v, valV kvs k = some v ∧ Rel K G v d) ∧ (lookD ds (.tuple (k.map kD)) = none → valV kvs k = none)
  | _, _, .nil => ⟨rfl, fun d h => (nomatch h), fun _ => rfl⟩
  | (k', v) :: r, _, .cons (d := d) (ds := ds) _ a b => by
    obtain ⟨h1, h2, h3⟩ := RelT.look k b
    simp only [hasK, lookD, List.any_cons, List.find?_cons, eqv_kT]
    by_cases e : k' = k
    · subst e
      rw [valV_pos rfl]
      simp only [decide_true, Bool.true_or, Option.isSome_some, Option.map_some, true_and]
      exact ⟨fun d' h => ⟨v, rfl, by cases h; exact a⟩, fun h => (nomatch h)⟩
    · rw [valV_neg e]
      simp only [e, decide_false, Bool.false_or]
      exact ⟨h1, h2, h3⟩
theorem RelK.keysB {K : PySem.W.Frag} {G : Hp} : ∀ {kvs : List (Key × V)} {ds : List (PyData × PyData)}, RelK K G kvs ds → kvs = [] ∨ ∃ p, p ∈ ds ∧ keyT p.1 = false
  | _, _, .nil => .inl rfl
  | (k, _) :: _, _, .cons _ _ => .inr ⟨_, List.mem_cons_self, keyB_not_T k⟩
theorem RelT.keysB {K : PySem.W.Frag} {G : Hp} : ∀ {kvs : List (List Key × V)} {ds : List (PyData × PyData)}, RelT K G kvs ds → kvs = [] ∨ ∃ p, p ∈ ds ∧ keyB p.1 = false
  | _, _, .nil => .inl rfl
  | (k, _) :: _, _, .cons _ _ _ => .inr ⟨_, List.mem_cons_self, rfl⟩

/-! ### an empty dict has keys of any sort -/
section
variable {P : Program} {w : World} {h : Heap} {a : Addr}
theorem ofH_empty (d : h.DictOf (mixKind P w) a []) : h.DictOfH (tupleKind (mixKind P w)) a [] := by
  obtain ⟨o, es, ep, h1, h2, h3, _, h5, _⟩ := d
  have e : es.toList = [] := by
    cases q : es.toList with
    | nil => rfl
    | cons x r => rw [q] at h5; cases h5
  exact ⟨o, es, ep, h1, h2, h3, by rw [e]; rfl, fun x hx => (nomatch hx), List.nodup_nil⟩
theorem of_emptyH (d : h.DictOfH (tupleKind (mixKind P w)) a []) : h.DictOf (mixKind P w) a [] := by
  obtain ⟨o, es, ep, h1, h2, h3, h4, _, _⟩ := d
  have e : es = #[] := by
    cases es with
    | mk l => cases l with
      | nil => rfl
      | cons x r => cases h4
  subst e
  exact ⟨o, #[], ep, h1, h2, h3, fun _ he => by simp at he, Pairs.nil, List.nodup_nil⟩
end
section
variable {X : Cx} {pins : List (Addr × Obj)} {σ : L2.St} {H : Hp} {s : Shared} {A : Around} {E : Value → Shared → Prop}
/-- a dict's look-up: what it holds at the key, whatever the keys' sort where it is empty -/
def DAsk (H : Hp) (a : Addr) (y : V) (r : Option V) : Prop :=
  DGet H a y r ∨ (r = none ∧ ((∃ k, y = kV k ∧ Rd H a (.dT [])) ∨ ∃ b, ∃ ks : List Key, y = .ref b ∧ H b = some (.tup (ks.map kV)) ∧ Rd H a (.dK [])))
theorem Sub.rdd {G H : Hp} (s : Sub G H) {a : Addr} {u : HO} (e : G a = some u) : Rd H a u := by
  rcases s a u e with q | ⟨_, o, q⟩
  · exact .inl q
  · exact .inr ⟨o, q⟩
theorem ask_of {K : PySem.W.Frag} {G H : Hp} (s : Sub G H) {a : Addr} {y : V} {kvs : List (PyData × PyData)} {k : PyData} (hd : Rel K G (.ref a) (.dict kvs)) (hk : Rel K G y k) (ok : keyOk kvs k = true) :
    ∃ r, DAsk H a y r ∧ hasK kvs k = r.isSome ∧ (∀ d, lookD kvs k = some d → ∃ v, r = some v ∧ Rel K G v d) ∧ (lookD kvs k = none → r = none) := by
  unfold keyOk at ok
  rw [Bool.or_eq_true, Bool.and_eq_true, Bool.and_eq_true] at ok
  cases hd with
  | dk e l r =>
    rename_i vs
    rcases ok with ⟨o1, o2⟩ | ⟨o1, o2⟩
    · obtain ⟨kk, rfl⟩ := keyB_kD o1
      obtain ⟨h1, h2, h3⟩ := RelK.look kk r
      rw [hk.key]
      exact ⟨_, .inl (.inl ⟨vs, kk, s.rdd e, rfl, rfl⟩), h1, h2, h3⟩
    · obtain ⟨ks, rfl⟩ := keyT_kD o1
      obtain ⟨b, rfl, hb⟩ := hk.tkey
      rcases r.keysB with z | ⟨p, hp, hn⟩
      · subst z
        cases r
        exact ⟨none, .inr ⟨rfl, .inr ⟨b, ks, rfl, s.ex hb rfl, s.rdd e⟩⟩, rfl, fun d h => (nomatch h), fun _ => rfl⟩
      · have := List.all_eq_true.mp o2 p hp
        rw [hn] at this; cases this
  | dt e l r =>
    rename_i vs
    rcases ok with ⟨o1, o2⟩ | ⟨o1, o2⟩
    · obtain ⟨kk, rfl⟩ := keyB_kD o1
      rw [hk.key]
      rcases r.keysB with z | ⟨p, hp, hn⟩
      · subst z
        cases r
        exact ⟨none, .inr ⟨rfl, .inl ⟨kk, rfl, s.rdd e⟩⟩, rfl, fun d h => (nomatch h), fun _ => rfl⟩
      · have := List.all_eq_true.mp o2 p hp
        rw [hn] at this; cases this
    · obtain ⟨ks, rfl⟩ := keyT_kD o1
      obtain ⟨h1, h2, h3⟩ := RelT.look ks r
      obtain ⟨b, rfl, hb⟩ := hk.tkey
      exact ⟨_, .inl (.inr ⟨vs, ks, b, s.rdd e, rfl, s.ex hb rfl, rfl⟩), h1, h2, h3⟩
theorem dt_nil (I : Inv X pins σ H s) {a : Addr} (e : Rd H a (.dT [])) : (a == sysModules) = false ∧ s.heap.DictOf (mixKind X.prog X.w) a [] := by
  obtain ⟨_, hd, xs, rel, dd⟩ := dt_rd I.hok e
  cases rel
  exact ⟨hd, of_emptyH dd⟩
theorem dk_nil (I : Inv X pins σ H s) {a : Addr} (e : Rd H a (.dK [])) : (a == sysModules) = false ∧ s.heap.DictOfH (tupleKind (mixKind X.prog X.w)) a [] := by
  obtain ⟨_, hd, xs, rel, dd⟩ := dk_rd I.hok e
  cases rel
  exact ⟨hd, ofH_empty dd⟩
theorem a_in {a : Addr} {y : V} {u : Value} {o : Option V} {Q : Value → Shared → Prop} (hu : A.units + 1 < cLine) (I : Inv X pins σ H s) (g : DAsk H a y o) (ry : RelV y u) (h : ∀ s', Inv X pins σ H s' → Q (.bool o.isSome) s') :
    wpAny (model X.prog X.w) A (compareOp .In u (.ref a)) Q E s := by
  rcases g with g | ⟨rfl, ⟨k, rfl, e⟩ | ⟨b, ks, rfl, eb, e⟩⟩
  · exact d_in hu I g ry h
  · obtain ⟨hd, dd⟩ := dt_nil I e
    exact wpAny_in_of (kV_is ry) hd dd.mapOf (h _ (I.tok _))
  · obtain ⟨hd, dd⟩ := dk_nil I e
    cases (show u = Value.ref b from ry)
    exact wpAny_in_heap (tupleKind_room_in1 hu) (key_of I.hok eb) hd dd (h _ (I.tok _))
theorem a_nin {a : Addr} {y : V} {u : Value} {o : Option V} {Q : Value → Shared → Prop} (hu : A.units + 1 < cLine) (I : Inv X pins σ H s) (g : DAsk H a y o) (ry : RelV y u) (h : ∀ s', Inv X pins σ H s' → Q (.bool (!o.isSome)) s') :
    wpAny (model X.prog X.w) A (compareOp .NotIn u (.ref a)) Q E s := by
  rcases g with g | ⟨rfl, ⟨k, rfl, e⟩ | ⟨b, ks, rfl, eb, e⟩⟩
  · exact d_notIn hu I g ry h
  · obtain ⟨hd, dd⟩ := dt_nil I e
    exact wpAny_notIn_of (kV_is ry) hd dd.mapOf (h _ (I.tok _))
  · obtain ⟨hd, dd⟩ := dk_nil I e
    cases (show u = Value.ref b from ry)
    exact wpAny_notIn_heap (tupleKind_room_in1 hu) (key_of I.hok eb) hd dd (h _ (I.tok _))
end

/-! ### comparisons -/
def gCmp (o : Cop) : PyData → PyData → Option PyData := fun d e => (cmpD o d e).map .bool
theorem gCmp_some {o : Cop} {d e z : PyData} (h : gCmp o d e = some z) : ∃ c, cmpD o d e = some c ∧ z = .bool c := by
  unfold gCmp at h
  cases q : cmpD o d e with
  | none => rw [q] at h; cases h
  | some c => rw [q] at h; cases h; exact ⟨c, rfl, rfl⟩
section
variable {X : Cx} {pc : PC}
theorem str_dec (x y : Str) : decide (V.str x = V.str y) = (x == y) := by
  rw [Bool.eq_iff_iff]
  simp
theorem oc_eq (hu : X.A.units + 64 < cLine) : OpR X (compareOp .Eq) (rel2 Kt X.K pc (gCmp .eq)) := by
  intro pins s σ H x y v u Q I rx ry ⟨G, d, e, z, a, b, c, g, k⟩
  have gg := gCmp_some g
  clear g
  obtain ⟨c', g, rfl⟩ := gg
  have g : (if eqOk d e then some _ else none) = some c' := g
  split at g
  · rename_i h
    cases g
    by_cases q : ∃ x' y', d = .str x' ∧ e = .str y'
    · obtain ⟨x', y', rfl, rfl⟩ := q
      cases b
      cases c
      refine op_eq pins s σ H _ _ v u Q I rx ry ⟨rfl, ?_⟩
      rw [str_dec]
      exact kt_bl k a
    · have h' : (shp d && shp e) = true := by
        unfold eqOk at h
        split at h
        · exact absurd ⟨_, _, rfl, rfl⟩ q
        · exact h
      rw [Bool.and_eq_true] at h'
      exact op_eqD hu pins s σ H x y v u Q I rx ry ⟨d, e, b.dp a (shp_lay h'.1), c.dp a (shp_lay h'.2), h'.1, h'.2, kt_bl k a⟩
  · cases g
theorem oc_ne (hu : X.A.units + 64 < cLine) : OpR X (compareOp .NotEq) (rel2 Kt X.K pc (gCmp .ne)) := by
  intro pins s σ H x y v u Q I rx ry ⟨G, d, e, z, a, b, c, g, k⟩
  have gg := gCmp_some g
  clear g
  obtain ⟨c', g, rfl⟩ := gg
  have g : (if eqOk d e then some _ else none) = some c' := g
  split at g
  · rename_i h
    cases g
    by_cases q : ∃ x' y', d = .str x' ∧ e = .str y'
    · obtain ⟨x', y', rfl, rfl⟩ := q
      cases b
      cases c
      refine op_ne pins s σ H _ _ v u Q I rx ry ⟨rfl, ?_⟩
      rw [str_dec]
      exact kt_bl k a
    · have h' : (shp d && shp e) = true := by
        unfold eqOk at h
        split at h
        · exact absurd ⟨_, _, rfl, rfl⟩ q
        · exact h
      rw [Bool.and_eq_true] at h'
      exact op_neD hu pins s σ H x y v u Q I rx ry ⟨d, e, b.dp a (shp_lay h'.1), c.dp a (shp_lay h'.2), h'.1, h'.2, kt_bl k a⟩
  · cases g
theorem bind_ints {xs ys : List PyData} {c : Bool} (g : ((ints? xs).bind fun ns => (ints? ys).map fun ms => lexI ns ms) = some c) : ∃ ns ms, ints? xs = some ns ∧ ints? ys = some ms ∧ lexI ns ms = c := by
  cases q : ints? xs with
  | none => rw [q] at g; cases g
  | some ns =>
    cases r : ints? ys with
    | none => rw [q, r] at g; cases g
    | some ms => rw [q, r] at g; cases g; exact ⟨ns, ms, rfl, rfl, rfl⟩
theorem oc_lt (hu : X.A.units < cLine) : OpR X (compareOp .Lt) (rel2 Kt X.K pc (gCmp .lt)) := by
  intro pins s σ H x y v u Q I rx ry ⟨G, d, e, z, a, b, c, g, k⟩
  have gg := gCmp_some g
  clear g
  obtain ⟨c', g, rfl⟩ := gg
  cases b with
  | int i =>
    cases c with
    | int j => cases g; exact op_lt pins s σ H _ _ v u Q I rx ry ⟨i, j, rfl, rfl, kt_bl k a⟩
    | _ => cases g
  | tup ea la ra =>
    cases c with
    | tup eb lb rb =>
      obtain ⟨ns, ms, h1, h2, h3⟩ := bind_ints g
      have e1 := ra.ints h1
      have e2 := rb.ints h2
      subst e1 e2 h3
      exact op_ltT hu pins s σ H _ _ v u Q I rx ry ⟨_, _, ns, ms, rfl, rfl, .inl (.inl (a.ex ea rfl)), .inl (.inl (a.ex eb rfl)), kt_bl k a⟩
    | _ => cases g
  | _ => cases c <;> cases g
theorem oc_le : OpR X (compareOp .LtE) (rel2 Kt X.K pc (gCmp .le)) := by
  intro pins s σ H x y v u Q I rx ry ⟨G, d, e, z, a, b, c, g, k⟩
  have gg := gCmp_some g
  clear g
  obtain ⟨c', g, rfl⟩ := gg
  cases b with
  | int i =>
    cases c with
    | int j => cases g; exact op_le pins s σ H _ _ v u Q I rx ry ⟨i, j, rfl, rfl, kt_bl k a⟩
    | _ => cases g
  | _ => cases c <;> cases g
theorem oc_gt : OpR X (compareOp .Gt) (rel2 Kt X.K pc (gCmp .gt)) := by
  intro pins s σ H x y v u Q I rx ry ⟨G, d, e, z, a, b, c, g, k⟩
  have gg := gCmp_some g
  clear g
  obtain ⟨c', g, rfl⟩ := gg
  cases b with
  | int i =>
    cases c with
    | int j => cases g; exact op_gt pins s σ H _ _ v u Q I rx ry ⟨i, j, rfl, rfl, kt_bl k a⟩
    | _ => cases g
  | _ => cases c <;> cases g
theorem oc_ge : OpR X (compareOp .GtE) (rel2 Kt X.K pc (gCmp .ge)) := by
  intro pins s σ H x y v u Q I rx ry ⟨G, d, e, z, a, b, c, g, k⟩
  have gg := gCmp_some g
  clear g
  obtain ⟨c', g, rfl⟩ := gg
  cases b with
  | int i =>
    cases c with
    | int j => cases g; exact op_ge pins s σ H _ _ v u Q I rx ry ⟨i, j, rfl, rfl, kt_bl k a⟩
    | _ => cases g
  | _ => cases c <;> cases g
theorem oc_in (hu : X.A.units + 65 < cLine) : OpR X (compareOp .In) (rel2 Kt X.K pc (gCmp .isin)) := by
  intro pins s σ H x y v u Q I rx ry ⟨G, d, e, z, a, b, c, g, k⟩
  have gg := gCmp_some g
  clear g
  obtain ⟨c', g, rfl⟩ := gg
  cases c with
  | lst ec lc rc =>
    rename_i ds
    simp only [cmpD] at g
    split at g
    · rename_i h
      cases g
      rw [Bool.and_eq_true] at h
      exact op_inD hu pins s σ H _ _ v u Q I rx ry ⟨d, ds, b.dp a (shp_lay h.1), (Rel.lst ec lc rc).dp a (shp_lay h.2), h.1, h.2, kt_bl k a⟩
    · cases g
  | tup ec lc rc =>
    rename_i ds
    simp only [cmpD] at g
    split at g
    · rename_i h
      cases g
      rw [Bool.and_eq_true] at h
      obtain ⟨bs, r1⟩ := Dp.reads I d x v (b.dp a (shp_lay h.1)) rx
      obtain ⟨as, r2⟩ := Dp.reads I (.tuple ds) _ u ((Rel.tup ec lc rc).dp a (shp_lay h.2)) ry
      exact SeqAt.in_tuple_reads r2 r1 (shp_lay h.2) (shp_lay h.1) (room_in_shaped h.1 hu) ⟨.bl _, H, I, rfl, kt_bl k a⟩
    · cases g
  | dk ec lc rc =>
    rename_i ds
    simp only [cmpD] at g
    split at g
    · rename_i h
      cases g
      obtain ⟨r, g1, g2, _⟩ := ask_of a (Rel.dk ec lc rc) b h
      cases (show u = Value.ref _ from ry)
      exact a_in (by omega) I g1 rx fun s' I' => ⟨.bl _, H, I', rfl, by rw [← g2]; exact kt_bl k a⟩
    · cases g
  | dt ec lc rc =>
    rename_i ds
    simp only [cmpD] at g
    split at g
    · rename_i h
      cases g
      obtain ⟨r, g1, g2, _⟩ := ask_of a (Rel.dt ec lc rc) b h
      cases (show u = Value.ref _ from ry)
      exact a_in (by omega) I g1 rx fun s' I' => ⟨.bl _, H, I', rfl, by rw [← g2]; exact kt_bl k a⟩
    · cases g
  | _ => cases d <;> cases g
theorem oc_nin (hu : X.A.units + 65 < cLine) : OpR X (compareOp .NotIn) (rel2 Kt X.K pc (gCmp .nin)) := by
  intro pins s σ H x y v u Q I rx ry ⟨G, d, e, z, a, b, c, g, k⟩
  have gg := gCmp_some g
  clear g
  obtain ⟨c', g, rfl⟩ := gg
  cases c with
  | lst ec lc rc =>
    rename_i ds
    simp only [cmpD] at g
    split at g
    · rename_i h
      cases g
      rw [Bool.and_eq_true] at h
      exact op_notInD hu pins s σ H _ _ v u Q I rx ry ⟨d, ds, b.dp a (shp_lay h.1), (Rel.lst ec lc rc).dp a (shp_lay h.2), h.1, h.2, kt_bl k a⟩
    · cases g
  | tup ec lc rc =>
    rename_i ds
    simp only [cmpD] at g
    split at g
    · rename_i h
      cases g
      rw [Bool.and_eq_true] at h
      obtain ⟨bs, r1⟩ := Dp.reads I d x v (b.dp a (shp_lay h.1)) rx
      obtain ⟨as, r2⟩ := Dp.reads I (.tuple ds) _ u ((Rel.tup ec lc rc).dp a (shp_lay h.2)) ry
      exact SeqAt.notIn_tuple_reads r2 r1 (shp_lay h.2) (shp_lay h.1) (room_in_shaped h.1 hu) ⟨.bl _, H, I, rfl, kt_bl k a⟩
    · cases g
  | dk ec lc rc =>
    rename_i ds
    simp only [cmpD] at g
    split at g
    · rename_i h
      cases g
      obtain ⟨r, g1, g2, _⟩ := ask_of a (Rel.dk ec lc rc) b h
      cases (show u = Value.ref _ from ry)
      exact a_nin (by omega) I g1 rx fun s' I' => ⟨.bl _, H, I', rfl, by rw [← g2]; exact kt_bl k a⟩
    · cases g
  | dt ec lc rc =>
    rename_i ds
    simp only [cmpD] at g
    split at g
    · rename_i h
      cases g
      obtain ⟨r, g1, g2, _⟩ := ask_of a (Rel.dt ec lc rc) b h
      cases (show u = Value.ref _ from ry)
      exact a_nin (by omega) I g1 rx fun s' I' => ⟨.bl _, H, I', rfl, by rw [← g2]; exact kt_bl k a⟩
    · cases g
  | _ => cases d <;> cases g
theorem isNone_dec {K : PySem.W.Frag} {G : Hp} {x : V} {d : PyData} (h : Rel K G x d) : decide (x = .non) = isNone d := by
  cases h <;> rfl
theorem oc_is : OpR X (compareOp .Is) (rel2 Kt X.K pc (gCmp .is)) := by
  intro pins s σ H x y v u Q I rx ry ⟨G, d, e, z, a, b, c, g, k⟩
  have gg := gCmp_some g
  clear g
  obtain ⟨c', g, rfl⟩ := gg
  cases c with
  | non =>
    cases g
    exact op_isN pins s σ H _ _ v u Q I rx ry ⟨rfl, by rw [isNone_dec b]; exact kt_bl k a⟩
  | _ => cases d <;> cases g
theorem oc_isn : OpR X (compareOp .IsNot) (rel2 Kt X.K pc (gCmp .isn)) := by
  intro pins s σ H x y v u Q I rx ry ⟨G, d, e, z, a, b, c, g, k⟩
  have gg := gCmp_some g
  clear g
  obtain ⟨c', g, rfl⟩ := gg
  cases c with
  | non =>
    cases g
    exact op_notN pins s σ H _ _ v u Q I rx ry ⟨rfl, by rw [isNone_dec b]; exact kt_bl k a⟩
  | _ => cases d <;> cases g
theorem oc_all (hu : X.A.units + 65 < cLine) : ∀ o : Cop, OpR X (compareOp o.py) (rel2 Kt X.K pc (gCmp o))
  | .eq => oc_eq (by omega)
  | .ne => oc_ne (by omega)
  | .lt => oc_lt (by omega)
  | .le => oc_le
  | .gt => oc_gt
  | .ge => oc_ge
  | .isin => oc_in hu
  | .nin => oc_nin hu
  | .is => oc_is
  | .isn => oc_isn
theorem ob_all : ∀ o : Bop, OpR X (binaryOp o.py) (rel2 Kt X.K pc (binD o))
  | .add => O2.of or_add o2_add
  | .sub => O2.of op_sub o2_sub
  | .mul => O2.of or_mul o2_mul
  | .fdiv => O2.of or_fdiv o2_fdiv
  | .mod => O2.of or_mod o2_mod
  | .pow => O2.of op_pow o2_pow
  | .shl => O2.of op_shl o2_shl
end
end Pyl

/-! Pyl6: built-ins called with values. -/
namespace Pyl
open PySem PySem.Spec PyProof.Rows L2

def relN (W : Wish) (K : PySem.W.Frag) (pc : PC) (g : List PyData → Option PyData) : List V → Hp → VK → Prop := fun vs H Q => ∃ G ds z, Sub G H ∧ RelAll K G vs ds ∧ g ds = some z ∧ W K pc G H z Q
def WF : Wish := fun K pc G H z Q => isOb z = true ∧ Kf K pc G H z Q

section
variable {X : Cx} {pc : PC} {pins : List (Addr × Obj)} {σ : L2.St} {H : Hp} {s : Shared}

mutual
theorem reads_lt {h : Heap} : ∀ {v : Value} {d : PyData} {as : List Addr}, Reads h v d as → d.canLay0 = true → ∀ a ∈ as, a < h.objs.size
  | _, _, _, .none, _, a, q => by cases q
  | _, _, _, .bool _, _, a, q => by cases q
  | _, _, _, .int _ _, _, a, q => by cases q
  | _, _, _, .str _ _, _, a, q => by cases q
  | _, _, _, .list h1 _ _ h4, c, a, q => by
    rcases List.mem_cons.mp q with e | q
    · rw [e]; exact Heap.lt_size h1
    · exact readsAll_lt h4 c a q
  | _, _, _, .tuple _ _ _ h4, c, a, q => readsAll_lt h4 c a q
  | _, _, _, .dict .., c, _, _ => by cases c
theorem readsAll_lt {h : Heap} : ∀ {v : List Value} {d : List PyData} {as : List Addr}, ReadsAll h v d as → PyData.canLayAll0 d = true → ∀ a ∈ as, a < h.objs.size
  | _, _, _, .nil, _, a, q => by cases q
  | _, _, _, .cons (d := d) (ds := ds) h1 h2, c, a, q => by
    have c' : (PyData.canLay0 d && PyData.canLayAll0 ds) = true := c
    rw [Bool.and_eq_true] at c'
    rcases List.mem_append.mp q with q | q
    · exact reads_lt h1 c'.1 a q
    · exact readsAll_lt h2 c'.2 a q
end

/-- a sequence's items, handed over -/
theorem coll_seq (I : Inv X pins σ H s) {G : Hp} (sb : Sub G H) {a : Addr} {d : PyData} {ds : List PyData} (h : Rel X.K G (.ref a) d) (e : seqD d = some ds) :
    ∃ vs its, Vals vs its ∧ RelAll X.K G vs ds ∧ its.length ≤ sizeLine ∧ ∀ (A : Around) (R : List Value → Shared → Prop) (E : Value → Shared → Prop), A.handled = none → (∀ (h' : Heap) (tk : Nat), (∀ b o, s.heap.get? b = some o → h'.get? b = some o) → R its { s with heap := h', toks := tk }) → wpAny (model X.prog X.w) A (collect (.ref a)) R E s := by
  cases h with
  | lst ea la ra =>
    cases e
    obtain ⟨its, rv, pl, hz⟩ := I.list (.inl (.inl (sb.ex ea rfl)))
    obtain ⟨o, n, ho, hc, hd, hdt⟩ := pl
    refine ⟨_, its, rv, ra, by rw [← rv.length]; exact hz, fun A R E _ q => ?_⟩
    exact wpAny_collect_seq a (.inl rfl) ho hc hdt (fun h' k => q h' s.toks k) (by rw [List.size_toArray, ← rv.length]; exact hz)
  | tup ea la ra =>
    cases e
    obtain ⟨its, rv, pl, hz⟩ := I.tuple (.inl (.inl (sb.ex ea rfl)))
    obtain ⟨o, ho, hc, n, hdt⟩ := pl
    refine ⟨_, its, rv, ra, by rw [← rv.length]; exact hz, fun A R E _ q => ?_⟩
    exact wpAny_collect_seq a (.inr rfl) ho hc hdt (fun h' k => q h' s.toks k) (by rw [List.size_toArray, ← rv.length]; exact hz)
  | _ => cases e

/-! ### sorted -/
theorem sort_maps {bs : List (V × PyData)} : (bs.mergeSort (PySem.W.dataLe false Prod.snd)).map Prod.snd = sortD (bs.map Prod.snd) := by
  unfold sortD
  rw [List.map_mergeSort]
  intro a _ b _
  rfl
theorem each_zip {K : PySem.W.Frag} {G : Hp} : ∀ {vs : List V} {ds : List PyData} {us : List Value}, RelAll K G vs ds → Vals vs us → PySem.W.EachIs (fun u (p : V × PyData) => RelV p.1 u ∧ Rel K G p.1 p.2) us (vs.zip ds)
  | _, _, _, .nil, .nil => .nil
  | _, _, _, .cons a b, .cons r t => .cons ⟨r, a⟩ (each_zip b t)
theorem each_out {K : PySem.W.Frag} {G : Hp} : ∀ {us : List Value} {bs : List (V × PyData)}, PySem.W.EachIs (fun u (p : V × PyData) => RelV p.1 u ∧ Rel K G p.1 p.2) us bs → Vals (bs.map Prod.fst) us ∧ RelAll K G (bs.map Prod.fst) (bs.map Prod.snd)
  | _, _, .nil => ⟨.nil, .nil⟩
  | _, _, .cons a b => ⟨.cons a.1 (each_out b).1, .cons a.2 (each_out b).2⟩
theorem zip_snd {K : PySem.W.Frag} {G : Hp} : ∀ {vs : List V} {ds : List PyData}, RelAll K G vs ds → (vs.zip ds).map Prod.snd = ds
  | _, _, .nil => rfl
  | _, _, .cons _ b => by simp only [List.zip_cons_cons, List.map_cons, zip_snd b]
theorem each_reads (I : Inv X pins σ H s) {G : Hp} (sb : Sub G H) {hh : Heap} (kp : ∀ b o, s.heap.get? b = some o → hh.get? b = some o) {n : Addr} (hn : s.heap.objs.size ≤ n) : ∀ {vs : List V} {ds : List PyData} {us : List Value}, RelAll X.K G vs ds → Vals vs us → PyData.canLayAll0 ds = true →
    PySem.W.EachIs (fun u (p : V × PyData) => ∃ as, Reads hh u p.2 as ∧ n ∉ as) us (vs.zip ds)
  | _, _, _, .nil, .nil, _ => .nil
  | _, _, _, .cons (d := d) (ds := ds) a b, .cons r t, c => by
    have c' : (PyData.canLay0 d && PyData.canLayAll0 ds) = true := c
    rw [Bool.and_eq_true] at c'
    obtain ⟨as, q⟩ := Dp.reads I d _ _ (a.dp sb c'.1) r
    refine .cons ⟨as, PyProof.Rows.Reads.keeps kp q, fun m => ?_⟩ (each_reads I sb kp hn b t c'.2)
    exact absurd (Nat.lt_of_lt_of_le (reads_lt q c'.1 n m) hn) (Nat.lt_irrefl _)
theorem lay_all {ds : List PyData} (h : ds.all shp = true) : PyData.canLayAll0 ds = true := by
  induction ds with
  | nil => rfl
  | cons d ds ih =>
    rw [List.all_cons, Bool.and_eq_true] at h
    show (PyData.canLay0 d && PyData.canLayAll0 ds) = true
    rw [shp_lay h.1, ih h.2]
    rfl
theorem sortOk_of {ds : List PyData} (h : sortOk ds = true) : ds.all shp = true ∧ PySem.W.AllAlike ds ∧ PySem.W.Sortable ds := by
  unfold sortOk at h
  rw [Bool.and_eq_true, Bool.and_eq_true, Bool.or_eq_true] at h
  obtain ⟨⟨h1, h2⟩, h3⟩ := h
  refine ⟨h1, fun d hd d' hd' => ?_, ?_⟩
  · exact List.all_eq_true.mp (List.all_eq_true.mp h2 d hd) d' hd'
  · rcases h3 with h3 | h3
    · refine .inl fun d hd => ?_
      have := List.all_eq_true.mp h3 d hd
      split at this
      · exact ⟨_, _, rfl⟩
      · cases this
    · refine .inr fun d hd => ?_
      have := List.all_eq_true.mp h3 d hd
      split at this
      · cases this
      · cases this
      · rename_i e1 e2
        exact ⟨e1, e2⟩
/-- sorted of what is handed over as a list of values -/
theorem sorted_go (hc : X.calm = true) (hu : X.A.units + 70 < cLine) (I : Inv X pins σ H s) {G : Hp} (sb : Sub G H) {v : Value} {vs : List V} {its : List Value} {ds : List PyData} (rv : Vals vs its) (ra : RelAll X.K G vs ds) (hz : its.length ≤ sizeLine)
    (col : ∀ (A : Around) (R : List Value → Shared → Prop) (E : Value → Shared → Prop), A.handled = none → (∀ (h' : Heap) (tk : Nat), (∀ b o, s.heap.get? b = some o → h'.get? b = some o) → R its { s with heap := h', toks := tk }) → wpAny (model X.prog X.w) A (collect v) R E s)
    (ok : sortOk ds = true) {Q : VK} (k : ∀ xs p, xs.length ≤ sizeLine → RelAll X.K G xs (sortD ds) → H p = none → Q (.ref p) (upd H p (.lst xs))) : wpAny (model X.prog X.w) X.A (call (.builtin "sorted") [v]) (EP X pins σ Q) X.xe s := by
  obtain ⟨o1, o2, o3⟩ := sortOk_of ok
  refine Calls.call_function_entry PyProof.Rows.kind_sorted PyProof.Rows.plain_sorted PyProof.Rows.entry_sorted (PyProof.Rows.args_sorted1 _) ?_
  unfold Builtin.«sorted»
  refine wpAny_bind (m := checkCount "sorted" 1 1 _) (wpAny_pure ?_)
  refine wpAny_bind (col X.A.in1 _ _ (I.ok.hd hc) fun h' tk hk => ?_)
  have I1 : Inv X pins σ H { s with heap := h', toks := tk } := I.kept hk
  refine wpAny_bind (wpAny_newList ?_ hz)
  have hoL : (h'.push (seqObj "list" its.toArray 0)).get? h'.objs.size = some (seqObj "list" its.toArray 0) := Heap.get?_push_size _ rfl
  show wpAny _ _ _ _ _ { s with heap := h'.push (seqObj "list" its.toArray 0), toks := tk }
  have hl : (vs.zip ds).length = its.length := by rw [List.length_zip, ← ra.length, Nat.min_self, rv.length]
  have e1 := zip_snd ra
  refine wpAny_bind (wpAny_holding (PySem.W.list_sort_data (enc := Prod.snd) hoL (each_zip ra rv) (each_reads I1 sb (fun b o q => Heap.get?_push_of_some _ q) (Nat.le_refl _) ra rv (lay_all o1)) (by rw [e1]; exact o2) (by rw [e1]; exact o3) (by rw [hl]; exact hz) (fun b hb => ?_) fun out lo eo => ?_))
  · have : b.2 ∈ ds := by rw [← e1]; exact List.mem_map_of_mem hb
    have h1 := List.all_eq_true.mp o1 b.2 this
    have h2 := SeqAt.depth_of_shaped h1
    show X.A.units + 1 + 1 + b.2.depth < cLine
    omega
  · obtain ⟨r1, r2⟩ := each_out eo
    rw [sort_maps, e1] at r2
    obtain ⟨ep, he⟩ := PyProof.Rows.sortedHeap_at (vs := its) (out := out.toArray) hoL
    have hlen : (((vs.zip ds).mergeSort (PySem.W.dataLe false Prod.snd)).map Prod.fst).length ≤ sizeLine := by
      rw [List.length_map, List.length_mergeSort, hl]
      exact hz
    refine wpAny_pure ⟨_, rfl, .ref h'.objs.size, upd H h'.objs.size (.lst (((vs.zip ds).mergeSort (PySem.W.dataLe false Prod.snd)).map Prod.fst)), I1.laid (t' := tk) (fun b u e => ?_) (Nat.le_refl _) ⟨hlen, out, ep, r1, he⟩, rfl, k _ _ hlen r2 (I1.hok.fresh (Nat.le_refl _))⟩
    have hb : b < h'.objs.size := Heap.lt_size e
    rw [PyProof.Rows.sortedHeap_old (Nat.ne_of_lt hb) (by rw [size_push']; exact Nat.lt_succ_of_lt hb)]
    exact Heap.get?_push_of_some _ e

/-! ### the keys of a dict -/
/-- G with every tuple of H -/
def tupG (G H : Hp) : Hp := fun b => match G b with
  | some u => some u
  | none => match H b with
    | some (.tup xs) => some (.tup xs)
    | _ => none
theorem tupG_of {G H : Hp} (sb : Sub G H) {b : Addr} {xs : List V} (e : H b = some (.tup xs)) : tupG G H b = some (.tup xs) := by
  unfold tupG
  cases q : G b with
  | none => rw [e]
  | some u =>
    rcases sb b u q with z | ⟨_, o, z⟩
    · rw [e] at z; cases z; rfl
    · rw [e] at z; cases z
theorem tupG_step {G H : Hp} (sb : Sub G H) : EStep pc G H (tupG G H) H := by
  refine ⟨fun a u e => ?_, fun a u e => ?_, fun _ _ _ => rfl, fun _ h => h, fun a u e => ?_⟩
  · unfold tupG; rw [e]
  · unfold tupG at e
    cases q : G a with
    | some w => rw [q] at e; cases e; exact sb a _ q
    | none =>
      rw [q] at e
      simp only at e
      split at e
      · rename_i z; rw [z, e]; exact .inl rfl
      · cases e
  · unfold tupG at e
    cases q : G a with
    | some w => exact .inl (by simp)
    | none =>
      rw [q] at e
      simp only at e
      split at e
      · cases e; exact .inr (.inr rfl)
      · cases e
theorem keys_vals {P : Program} {w : World} : ∀ {es : List DictEntry} {kvs : List (Key × V)} {vs : List (Key × Value)}, Pairs (mixKind P w) es vs → KV kvs vs → Vals (kvs.map fun p => kV p.1) (es.map (·.key))
  | [], _, _, .nil, .nil => .nil
  | _ :: _, [], _, a, b => by cases b; cases a
  | e :: es, p :: ps, q :: qs, .cons h1 h2 h3, .cons h t => .cons (by
      have h1 : keyIs q.1 e.key = true := h1
      rw [← h.1] at h1
      rcases keyIs_shape h1 with ⟨i, t, a, b⟩ | ⟨i, t, a, b⟩ <;> (show RelV (kV p.1) e.key; rw [a, b]; exact ⟨t, rfl⟩)) (keys_vals h3 t)
theorem RelK.keys {K : PySem.W.Frag} {G : Hp} (G' : Hp) : ∀ {kvs : List (Key × V)} {ds : List (PyData × PyData)}, RelK K G kvs ds → RelAll K G' (kvs.map fun p => kV p.1) (ds.map (·.1))
  | _, _, .nil => .nil
  | (k, v) :: r, _, .cons a b => .cons (by cases k; exact .int _; exact .str _) (RelK.keys G' b)
theorem kVs_rel {K : PySem.W.Frag} {G : Hp} : ∀ ks : List Key, RelAll K G (ks.map kV) (ks.map kD)
  | [] => .nil
  | k :: ks => .cons (by cases k; exact .int _; exact .str _) (kVs_rel ks)
theorem keysT_rel {K : PySem.W.Frag} {G H : Hp} (sb : Sub G H) (hz : ∀ b xs, H b = some (.tup xs) → xs.length ≤ sizeLine) : ∀ {kvs : List (List Key × V)} {ds : List (PyData × PyData)} {xs : List (List Key × Addr × Value)}, RelT K G kvs ds → KT H kvs xs → RelAll K (tupG G H) (xs.map fun x => V.ref x.2.1) (ds.map (·.1))
  | _, _, _, .nil, .nil => .nil
  | _, _, _, .cons _ a b, .cons h t => .cons (.tup (tupG_of sb h.2.1) (hz _ _ h.2.1) (kVs_rel _)) (keysT_rel sb hz b t)
theorem items_eq {es : List DictEntry} {acc : Array Value} (h : ItemsOf (fun i v => ∃ en : DictEntry, es.toArray[i]? = some en ∧ v = en.key) acc es.length) : acc.toList = es.map (·.key) := by
  apply List.ext_getElem?
  intro j
  rw [List.getElem?_map]
  cases hj : acc.toList[j]? with
  | none =>
    have h1 := List.getElem?_eq_none_iff.mp hj
    have h2 : acc.size = es.length := h.1
    rw [Array.length_toList, h2] at h1
    rw [List.getElem?_eq_none h1]
    rfl
  | some v =>
    obtain ⟨en, hen, hv⟩ := h.2 j v (by rw [← Array.getElem?_toList]; exact hj)
    rw [List.getElem?_toArray] at hen
    rw [hen, hv]
    rfl
theorem coll_dict (I : Inv X pins σ H s) {G : Hp} (sb : Sub G H) {a : Addr} {kvs : List (PyData × PyData)} (h : Rel X.K G (.ref a) (.dict kvs)) :
    ∃ vs its, Vals vs its ∧ RelAll X.K (tupG G H) vs (kvs.map (·.1)) ∧ its.length ≤ sizeLine ∧ ∀ (A : Around) (R : List Value → Shared → Prop) (E : Value → Shared → Prop), A.handled = none → (∀ (h' : Heap) (tk : Nat), (∀ b o, s.heap.get? b = some o → h'.get? b = some o) → R its { s with heap := h', toks := tk }) → wpAny (model X.prog X.w) A (collect (.ref a)) R E s := by
  have go : ∀ (o : Obj) (es : Array DictEntry) (ep : Nat), (a == sysModules) = false → s.heap.get? a = some o → o.ExactDict → o.data = .dict es ep → es.size ≤ sizeLine → ∀ (A : Around) (R : List Value → Shared → Prop) (E : Value → Shared → Prop), A.handled = none → (∀ (h' : Heap) (tk : Nat), (∀ b o, s.heap.get? b = some o → h'.get? b = some o) → R (es.toList.map (·.key)) { s with heap := h', toks := tk }) → wpAny (model X.prog X.w) A (collect (.ref a)) R E s := by
    intro o es ep lo ho hx hd hz A R E hh q
    refine PySem.W.kdu_collect (kdl_raw lo hx hd) hh ho hz fun h' tk acc k it => ?_
    have e := items_eq (es := es.toList) (acc := acc) (by
      obtain ⟨l⟩ := es
      exact it)
    rw [e]
    exact q h' tk k
  cases h with
  | dk e l r =>
    rename_i kv
    obtain ⟨hz, lo, vs, rel, o, es, ep, ho, hx, hd, _, hp, _⟩ := dk_rd I.hok (sb.rdd e)
    have hk := keys_vals hp rel
    have hl : (es.toList.map (·.key)).length ≤ sizeLine := by rw [← hk.length, List.length_map]; exact hz
    exact ⟨_, _, hk, RelK.keys _ r, hl, go o es ep lo ho hx hd (by simpa using hl)⟩
  | dt e l r =>
    rename_i kv
    obtain ⟨hz, lo, xs, rel, o, es, ep, ho, hx, hd, he, _, _⟩ := dt_rd I.hok (sb.rdd e)
    have ek : es.toList.map (·.key) = (xs.map fun x => x.2.1).map Value.ref := by
      rw [he, List.map_map, List.map_map]
      rfl
    have hl : es.size ≤ sizeLine := by
      have := congrArg List.length he
      rw [Array.length_toList, List.length_map, ← Paired.length rel] at this
      rw [this]; exact hz
    refine ⟨_, es.toList.map (·.key), ?_, keysT_rel sb (fun b ys q => ?_) r rel, by simpa using hl, go o es ep lo ho hx hd hl⟩
    · rw [ek, show (xs.map fun x => V.ref x.2.1) = (xs.map fun x => x.2.1).map V.ref by rw [List.map_map]; rfl]
      exact vals_refs _
    · exact (show ObjOk X.prog X.w H s.heap b (.tup ys) from I.hok b _ q).1
end
end Pyl

/-! Pyl7: the rules of the built-ins. -/
namespace Pyl
open PySem PySem.Spec PyProof.Rows L2

def Bi.val : Bi → Value
  | .len => .builtin "len" | .tuple => .type "tuple" | .list => .type "list" | .sorted => .builtin "sorted" | .sum => .builtin "sum" | .min => .builtin "min" | .max => .builtin "max"
  | .any => .builtin "any" | .all => .builtin "all" | .int => .type "int" | .abs => .builtin "abs" | .repr => .builtin "repr" | .str => .type "str" | .dict => .type "dict" | .bool => .type "bool"
section
variable {X : Cx} {pc : PC}
theorem all1 {K : PySem.W.Frag} {G : Hp} {vs : List V} {d : PyData} (h : RelAll K G vs [d]) : ∃ v, vs = [v] ∧ Rel K G v d := by
  cases h with
  | cons a b => cases b; exact ⟨_, rfl, a⟩
theorem all2 {K : PySem.W.Frag} {G : Hp} {vs : List V} {d e : PyData} (h : RelAll K G vs [d, e]) : ∃ v w, vs = [v, w] ∧ Rel K G v d ∧ Rel K G w e := by
  cases h with
  | cons a b =>
    cases b with
    | cons b c => cases c; exact ⟨_, _, rfl, a, b⟩
theorem bi_len (hu : X.A.units + 70 < cLine) : CallR X (.builtin "len") (relN Kt X.K pc lenD) := by
  intro pins s σ H vs us Q I r ⟨G, ds, z, sb, ra, g, k⟩
  unfold lenD at g
  split at g
  · cases g
    obtain ⟨v, rfl, h⟩ := all1 ra
    cases h with
    | lst ea la rl => exact call_len_seq pins s σ H _ us Q I r ⟨_, _, rfl, .inl (.inl (.inl (sb.ex ea rfl))), by rw [rl.length]; exact kt_int k sb⟩
  · cases g
    obtain ⟨v, rfl, h⟩ := all1 ra
    cases h with
    | tup ea la rl => exact call_len_seq pins s σ H _ us Q I r ⟨_, _, rfl, .inr (.inl (.inl (sb.ex ea rfl))), by rw [rl.length]; exact kt_int k sb⟩
  · cases g
    obtain ⟨v, rfl, h⟩ := all1 ra
    cases h with
    | dk ea la rl =>
      rw [Vals.ref1 r]
      exact d_len I (sb.rdd ea) fun t s' I' => ⟨.int _, H, I', ⟨t, rfl⟩, by rw [rl.length]; exact kt_int k sb⟩
    | dt ea la rl =>
      rw [Vals.ref1 r]
      obtain ⟨hz, lo, xs, rel, dd⟩ := dt_rd I.hok (sb.rdd ea)
      have e1 := Paired.length rel
      refine call_len_dictH lo dd (by rw [← e1]; rw [sizeLine_eq] at la; omega) ⟨.int _, H, I.tok _, ⟨_, rfl⟩, ?_⟩
      rw [← e1, rl.length]
      exact kt_int k sb
  · cases g
theorem bi_tuple : CallR X (.type "tuple") (relN Kt X.K pc tupD) := by
  intro pins s σ H vs us Q I r ⟨G, ds, z, sb, ra, g, k⟩
  unfold tupD at g
  split at g
  · cases g
    obtain ⟨v, rfl, h⟩ := all1 ra
    cases h with
    | lst ea la rl => exact call_tuple_of pins s σ H _ us Q I r ⟨_, _, rfl, .inl ⟨.inl (.inl (sb.ex ea rfl)), fun l n => k.new sb n (Rel.newT sb n la rl)⟩⟩
  · cases g
    obtain ⟨v, rfl, h⟩ := all1 ra
    cases h with
    | tup ea la rl => exact call_tuple_of pins s σ H _ us Q I r ⟨_, _, rfl, .inr ⟨.inl (.inl (sb.ex ea rfl)), k.same sb (.tup ea la rl)⟩⟩
  · cases g
theorem keysI {K : PySem.W.Frag} {G H : Hp} (sb : Sub G H) (hz : ∀ b xs, H b = some (.tup xs) → xs.length ≤ sizeLine) : ∀ {kvs : List (List Key × V)} {ds : List (PyData × PyData)} {bs : List Addr}, RelT K G kvs ds → IsKeys H kvs bs → RelAll K (tupG G H) (bs.map V.ref) (ds.map (·.1))
  | _, _, _, .nil, ik => by cases ik; exact .nil
  | _, _, _, .cons _ a b, ik => by
    cases ik with
    | cons h t => exact .cons (.tup (tupG_of sb h) (hz _ _ h) (kVs_rel _)) (keysI sb hz b t)
theorem list_case {K : PySem.W.Frag} {G H : Hp} {vs : List V} {ds : List PyData} {z : PyData} {Q : VK} (sb : Sub G H) (ra : RelAll K G vs ds) (g : lstD ds = some z)
    (k : ∀ G' xs ys p, z = .list ys → EStep pc G H G' H → xs.length ≤ sizeLine → RelAll K G' xs ys → H p = none → Q (.ref p) (upd H p (.lst xs)))
    (hz : ∀ b xs, H b = some (.tup xs) → xs.length ≤ sizeLine) :
    (∃ p ys, vs = [.ref p] ∧ (SqL K H p ys ∨ SqT K H p ys) ∧ ∀ l, H l = none → Q (.ref l) (upd H l (.lst ys))) ∨
    (∃ (a : Addr) (kvs : List (Key × V)), vs = [.ref a] ∧ Rd H a (.dK kvs) ∧ ∀ p, H p = none → Q (.ref p) (upd H p (.lst (kvs.map fun kv => kV kv.1)))) ∨
    (∃ d kvs, vs = [V.ref d] ∧ Rd H d (.dT kvs) ∧ ∀ p bs, H p = none → IsKeys H kvs bs → Q (.ref p) (upd H p (.lst (bs.map V.ref)))) := by
  unfold lstD at g
  split at g
  · cases g
    obtain ⟨v, rfl, h⟩ := all1 ra
    cases h with
    | lst ea la rl => exact .inl ⟨_, _, rfl, .inl (.inl (.inl (sb.ex ea rfl))), fun l n => k G _ _ l rfl (EStep.refl sb) la rl n⟩
  · cases g
    obtain ⟨v, rfl, h⟩ := all1 ra
    cases h with
    | tup ea la rl => exact .inl ⟨_, _, rfl, .inr (.inl (.inl (sb.ex ea rfl))), fun l n => k G _ _ l rfl (EStep.refl sb) la rl n⟩
  · cases g
    obtain ⟨v, rfl, h⟩ := all1 ra
    cases h with
    | dk ea la rl => exact .inr (.inl ⟨_, _, rfl, sb.rdd ea, fun p n => k G _ _ p rfl (EStep.refl sb) (by rw [List.length_map]; exact la) (RelK.keys G rl) n⟩)
    | dt ea la rl =>
      refine .inr (.inr ⟨_, _, rfl, sb.rdd ea, fun p bs n ik => k (tupG G H) _ _ p rfl (tupG_step sb) ?_ ?_ n⟩)
      · rw [List.length_map, ← Paired.length ik]; exact la
      · exact keysI sb hz rl ik
  · cases g
theorem tup_len {pins : List (Addr × Obj)} {σ : L2.St} {H : Hp} {s : Shared} (I : Inv X pins σ H s) : ∀ b xs, H b = some (.tup xs) → xs.length ≤ sizeLine := fun b ys q => (show ObjOk X.prog X.w H s.heap b (.tup ys) from I.hok b _ q).1
theorem list_rule (hc : X.calm = true) : CallR X (.type "list") (fun vs H Q => (∃ p ys, vs = [.ref p] ∧ (SqL X.K H p ys ∨ SqT X.K H p ys) ∧ ∀ l, H l = none → Q (.ref l) (upd H l (.lst ys))) ∨
    (∃ (a : Addr) (kvs : List (Key × V)), vs = [.ref a] ∧ Rd H a (.dK kvs) ∧ ∀ p, H p = none → Q (.ref p) (upd H p (.lst (kvs.map fun kv => kV kv.1)))) ∨
    (∃ d kvs, vs = [V.ref d] ∧ Rd H d (.dT kvs) ∧ ∀ p bs, H p = none → IsKeys H kvs bs → Q (.ref p) (upd H p (.lst (bs.map V.ref))))) := CallR.or call_list_of (CallR.or (call_listD hc) (call_list_dT hc))
theorem bi_list (hc : X.calm = true) : CallR X (.type "list") (relN Kt X.K pc lstD) := by
  intro pins s σ H vs us Q I r ⟨G, ds, z, sb, ra, g, k⟩
  exact list_rule hc pins s σ H _ us Q I r (list_case (pc := pc) sb ra g (fun G' xs ys p e st l r n => by
    subst e
    exact k _ _ _ (st.trans (EStep.laid st.ok n _)) (fun _ h => h.upd n _) (Rel.newL st.ok n l r)) (tup_len I))
theorem bif_list (hc : X.calm = true) : CallR X (.type "list") (relN WF X.K pc lstD) := by
  intro pins s σ H vs us Q I r ⟨G, ds, z, sb, ra, g, k⟩
  exact list_rule hc pins s σ H _ us Q I r (list_case (pc := pc) sb ra g (fun G' xs ys p e st l r n => by
    subst e
    exact k.2 _ _ _ _ (st.trans (EStep.hid st.ok n _)) (fun _ h => h.upd n _) n (st.ok.none n) upd_same (.lst l r)) (tup_len I))
theorem sorted_case (hc : X.calm = true) (hu : X.A.units + 70 < cLine) {pins : List (Addr × Obj)} {σ : L2.St} {H : Hp} {s : Shared} (I : Inv X pins σ H s) {G : Hp} {vs : List V} {us : List Value} {ds : List PyData} {z : PyData} {Q : VK} (r : Vals vs us) (sb : Sub G H) (ra : RelAll X.K G vs ds) (g : sortedD ds = some z)
    (k : ∀ G' xs ys p, z = .list ys → EStep pc G H G' H → xs.length ≤ sizeLine → RelAll X.K G' xs ys → H p = none → Q (.ref p) (upd H p (.lst xs))) : wpAny (model X.prog X.w) X.A (call (.builtin "sorted") us) (EP X pins σ Q) X.xe s := by
  unfold sortedD at g
  split at g
  · split at g
    · rename_i ok
      cases g
      obtain ⟨v, rfl, h⟩ := all1 ra
      cases h with
      | lst ea la rl =>
        rw [Vals.ref1 r]
        obtain ⟨vs, its, h1, h2, h3, h4⟩ := coll_seq I sb (.lst ea la rl) rfl
        exact sorted_go hc hu I sb h1 h2 h3 h4 ok fun xs p l r n => k G _ _ p rfl (EStep.refl sb) l r n
    · cases g
  · split at g
    · rename_i ok
      cases g
      obtain ⟨v, rfl, h⟩ := all1 ra
      cases h with
      | tup ea la rl =>
        rw [Vals.ref1 r]
        obtain ⟨vs, its, h1, h2, h3, h4⟩ := coll_seq I sb (.tup ea la rl) rfl
        exact sorted_go hc hu I sb h1 h2 h3 h4 ok fun xs p l r n => k G _ _ p rfl (EStep.refl sb) l r n
    · cases g
  · split at g
    · rename_i ok
      cases g
      obtain ⟨v, rfl, h⟩ := all1 ra
      cases h with
      | dk ea la rl =>
        rw [Vals.ref1 r]
        obtain ⟨vs, its, h1, h2, h3, h4⟩ := coll_dict I sb (.dk ea la rl)
        exact sorted_go hc hu I (tupG_step (pc := pc) sb).ok h1 h2 h3 h4 ok fun xs p l r n => k _ _ _ p rfl (tupG_step sb) l r n
      | dt ea la rl =>
        rw [Vals.ref1 r]
        obtain ⟨vs, its, h1, h2, h3, h4⟩ := coll_dict I sb (.dt ea la rl)
        exact sorted_go hc hu I (tupG_step (pc := pc) sb).ok h1 h2 h3 h4 ok fun xs p l r n => k _ _ _ p rfl (tupG_step sb) l r n
    · cases g
  · cases g
theorem bi_sorted (hc : X.calm = true) (hu : X.A.units + 70 < cLine) : CallR X (.builtin "sorted") (relN Kt X.K pc sortedD) := by
  intro pins s σ H vs us Q I r ⟨G, ds, z, sb, ra, g, k⟩
  exact sorted_case (pc := pc) hc hu I r sb ra g fun G' xs ys p e st l r n => by
    subst e
    exact k _ _ _ (st.trans (EStep.laid st.ok n _)) (fun _ h => h.upd n _) (Rel.newL st.ok n l r)
theorem bif_sorted (hc : X.calm = true) (hu : X.A.units + 70 < cLine) : CallR X (.builtin "sorted") (relN WF X.K pc sortedD) := by
  intro pins s σ H vs us Q I r ⟨G, ds, z, sb, ra, g, k⟩
  exact sorted_case (pc := pc) hc hu I r sb ra g fun G' xs ys p e st l r n => by
    subst e
    exact k.2 _ _ _ _ (st.trans (EStep.hid st.ok n _)) (fun _ h => h.upd n _) n (st.ok.none n) upd_same (.lst l r)
theorem imap {α β : Type} {o : Option α} {f : α → β} {z : β} (h : o.map f = some z) : ∃ a, o = some a ∧ z = f a := by
  cases o with
  | none => cases h
  | some a => cases h; exact ⟨a, rfl, rfl⟩
theorem ibind {α β : Type} {o : Option α} {f : α → Option β} {z : β} (h : o.bind f = some z) : ∃ a, o = some a ∧ f a = some z := by
  cases o with
  | none => cases h
  | some a => exact ⟨a, rfl, h⟩
theorem bi_sum (hc : X.calm = true) : CallR X (.builtin "sum") (relN Kt X.K pc sumD) := by
  intro pins s σ H vs us Q I r ⟨G, ds, z, sb, ra, g, k⟩
  unfold sumD at g
  split at g
  · obtain ⟨ns, e, rfl⟩ := imap g
    obtain ⟨v, rfl, h⟩ := all1 ra
    cases h with
    | lst ea la rl =>
      have := rl.ints e
      subst this
      exact cr_sum hc pins s σ H _ us Q I r ⟨_, ns, rfl, .inl (.inl (sb.ex ea rfl)), kt_int k sb⟩
  · cases g
theorem foldMin : ∀ (xs : List Int) (x : Int), let m := xs.foldl (fun a b => if b < a then b else a) x; (m = x ∨ m ∈ xs) ∧ m ≤ x ∧ ∀ y ∈ xs, m ≤ y
  | [], x => ⟨.inl rfl, Int.le_refl x, fun y h => by cases h⟩
  | b :: xs, x => by
    obtain ⟨h1, h2, h3⟩ := foldMin xs (if b < x then b else x)
    simp only [List.foldl_cons]
    generalize xs.foldl (fun a b => if b < a then b else a) (if b < x then b else x) = m at h1 h2 h3 ⊢
    by_cases q : b < x
    · rw [if_pos q] at h1 h2
      refine ⟨.inr ?_, by omega, fun y hy => ?_⟩
      · rcases h1 with h1 | h1
        · rw [h1]; exact List.mem_cons_self
        · exact List.mem_cons_of_mem _ h1
      · rcases List.mem_cons.mp hy with e | hy
        · omega
        · exact h3 y hy
    · rw [if_neg q] at h1 h2
      refine ⟨?_, by omega, fun y hy => ?_⟩
      · rcases h1 with h1 | h1
        · exact .inl h1
        · exact .inr (List.mem_cons_of_mem _ h1)
      · rcases List.mem_cons.mp hy with e | hy
        · omega
        · exact h3 y hy
theorem foldMax : ∀ (xs : List Int) (x : Int), let m := xs.foldl (fun a b => if b > a then b else a) x; (m = x ∨ m ∈ xs) ∧ x ≤ m ∧ ∀ y ∈ xs, y ≤ m
  | [], x => ⟨.inl rfl, Int.le_refl x, fun y h => by cases h⟩
  | b :: xs, x => by
    obtain ⟨h1, h2, h3⟩ := foldMax xs (if b > x then b else x)
    simp only [List.foldl_cons]
    generalize xs.foldl (fun a b => if b > a then b else a) (if b > x then b else x) = m at h1 h2 h3 ⊢
    by_cases q : b > x
    · rw [if_pos q] at h1 h2
      refine ⟨.inr ?_, by omega, fun y hy => ?_⟩
      · rcases h1 with h1 | h1
        · rw [h1]; exact List.mem_cons_self
        · exact List.mem_cons_of_mem _ h1
      · rcases List.mem_cons.mp hy with e | hy
        · omega
        · exact h3 y hy
    · rw [if_neg q] at h1 h2
      refine ⟨?_, by omega, fun y hy => ?_⟩
      · rcases h1 with h1 | h1
        · exact .inl h1
        · exact .inr (List.mem_cons_of_mem _ h1)
      · rcases List.mem_cons.mp hy with e | hy
        · omega
        · exact h3 y hy
theorem minI_ok {ns : List Int} {m : Int} (h : minI ns = some m) : m ∈ ns ∧ ∀ y ∈ ns, m ≤ y := by
  cases ns with
  | nil => cases h
  | cons x xs =>
    cases h
    obtain ⟨h1, h2, h3⟩ := foldMin xs x
    refine ⟨?_, fun y hy => ?_⟩
    · rcases h1 with h1 | h1
      · rw [h1]; exact List.mem_cons_self
      · exact List.mem_cons_of_mem _ h1
    · rcases List.mem_cons.mp hy with e | hy
      · rw [e]; exact h2
      · exact h3 y hy
theorem maxI_ok {ns : List Int} {m : Int} (h : maxI ns = some m) : m ∈ ns ∧ ∀ y ∈ ns, y ≤ m := by
  cases ns with
  | nil => cases h
  | cons x xs =>
    cases h
    obtain ⟨h1, h2, h3⟩ := foldMax xs x
    refine ⟨?_, fun y hy => ?_⟩
    · rcases h1 with h1 | h1
      · rw [h1]; exact List.mem_cons_self
      · exact List.mem_cons_of_mem _ h1
    · rcases List.mem_cons.mp hy with e | hy
      · rw [e]; exact h2
      · exact h3 y hy
theorem bi_min (hc : X.calm = true) : CallR X (.builtin "min") (relN Kt X.K pc minD) := by
  intro pins s σ H vs us Q I r ⟨G, ds, z, sb, ra, g, k⟩
  unfold minD at g
  split at g
  · cases g
    obtain ⟨v, w, rfl, h1, h2⟩ := all2 ra
    cases h1; cases h2
    exact call_min2 hc pins s σ H _ us Q I r ⟨_, _, rfl, kt_int k sb⟩
  · obtain ⟨ns, e, g⟩ := ibind g
    obtain ⟨m, hm, rfl⟩ := imap g
    obtain ⟨v, rfl, h⟩ := all1 ra
    cases h with
    | lst ea la rl =>
      have := rl.ints e
      subst this
      obtain ⟨m1, m2⟩ := minI_ok hm
      refine cr_min hc pins s σ H _ us Q I r ⟨_, ns, rfl, .inl (.inl (sb.ex ea rfl)), List.length_pos_of_mem m1, fun n n1 n2 => ?_⟩
      have : n = m := Int.le_antisymm (n2 m m1) (m2 n n1)
      subst this
      exact kt_int k sb
  · cases g
theorem bi_max (hc : X.calm = true) : CallR X (.builtin "max") (relN Kt X.K pc maxD) := by
  intro pins s σ H vs us Q I r ⟨G, ds, z, sb, ra, g, k⟩
  unfold maxD at g
  split at g
  · cases g
    obtain ⟨v, w, rfl, h1, h2⟩ := all2 ra
    cases h1; cases h2
    exact call_max2 hc pins s σ H _ us Q I r ⟨_, _, rfl, kt_int k sb⟩
  · obtain ⟨ns, e, g⟩ := ibind g
    obtain ⟨m, hm, rfl⟩ := imap g
    obtain ⟨v, rfl, h⟩ := all1 ra
    cases h with
    | lst ea la rl =>
      have := rl.ints e
      subst this
      obtain ⟨m1, m2⟩ := maxI_ok hm
      refine cr_max hc pins s σ H _ us Q I r ⟨_, ns, rfl, .inl (.inl (sb.ex ea rfl)), List.length_pos_of_mem m1, fun n n1 n2 => ?_⟩
      have : n = m := Int.le_antisymm (m2 n n1) (n2 m m1)
      subst this
      exact kt_int k sb
  · cases g
theorem bi_any (hc : X.calm = true) : CallR X (.builtin "any") (relN Kt X.K pc anyD) := by
  intro pins s σ H vs us Q I r ⟨G, ds, z, sb, ra, g, k⟩
  unfold anyD at g
  split at g
  · obtain ⟨ns, e, rfl⟩ := imap g
    obtain ⟨v, rfl, h⟩ := all1 ra
    cases h with
    | lst ea la rl =>
      have := rl.bools e
      subst this
      exact cr_any hc pins s σ H _ us Q I r ⟨_, ns, rfl, .inl (.inl (sb.ex ea rfl)), kt_bl k sb⟩
  · cases g
theorem bi_all (hc : X.calm = true) : CallR X (.builtin "all") (relN Kt X.K pc allD) := by
  intro pins s σ H vs us Q I r ⟨G, ds, z, sb, ra, g, k⟩
  unfold allD at g
  split at g
  · obtain ⟨ns, e, rfl⟩ := imap g
    obtain ⟨v, rfl, h⟩ := all1 ra
    cases h with
    | lst ea la rl =>
      have := rl.bools e
      subst this
      exact cr_all hc pins s σ H _ us Q I r ⟨_, ns, rfl, .inl (.inl (sb.ex ea rfl)), kt_bl k sb⟩
  · cases g
theorem bi_int : CallR X (.type "int") (relN Kt X.K pc intD) := by
  intro pins s σ H vs us Q I r ⟨G, ds, z, sb, ra, g, k⟩
  unfold intD at g
  split at g
  · cases g
    obtain ⟨v, rfl, h⟩ := all1 ra
    cases h
    exact call_int1 pins s σ H _ us Q I r (.inl ⟨_, rfl, kt_int k sb⟩)
  · cases g
    obtain ⟨v, rfl, h⟩ := all1 ra
    cases h
    exact call_int1 pins s σ H _ us Q I r (.inr ⟨_, rfl, kt_int k sb⟩)
  · cases g
theorem bi_abs : CallR X (.builtin "abs") (relN Kt X.K pc absD) := by
  intro pins s σ H vs us Q I r ⟨G, ds, z, sb, ra, g, k⟩
  unfold absD at g
  split at g
  · cases g
    obtain ⟨v, rfl, h⟩ := all1 ra
    cases h
    exact call_abs pins s σ H _ us Q I r ⟨_, rfl, kt_int k sb⟩
  · cases g
theorem noDict_of : ∀ {d : PyData}, d.canLay0 = true → d.hasDict = false := by
  intro d h
  exact (PyData.rec (motive_1 := fun d => d.canLay0 = true → d.hasDict = false) (motive_2 := fun l => PyData.canLayAll0 l = true → PyData.hasDictAll l = false) (motive_3 := fun _ => True) (motive_4 := fun _ => True)
    (fun _ => rfl) (fun _ _ => rfl) (fun _ _ => rfl) (fun _ _ => rfl) (fun xs ih h => ih h) (fun xs ih h => ih h) (fun _ _ h => by cases h) (fun _ => rfl)
    (fun x xs h1 h2 h => by
      have h' : (PyData.canLay0 x && PyData.canLayAll0 xs) = true := h
      rw [Bool.and_eq_true] at h'
      simp only [PyData.hasDictAll, h1 h'.1, h2 h'.2]
      rfl) trivial (fun _ _ _ _ => trivial) (fun _ _ _ _ => trivial) d) h
theorem bi_repr (hu : X.A.units + 70 < cLine) (hg : X.A.guards = some []) : CallR X (.builtin "repr") (relN Kt X.K pc reprD) := by
  intro pins s σ H vs us Q I r ⟨G, ds, z, sb, ra, g, k⟩
  unfold reprD at g
  split at g
  · split at g
    · rename_i d ok
      cases g
      unfold reprOk at ok
      rw [Bool.and_eq_true, Bool.and_eq_true] at ok
      obtain ⟨⟨o1, o2⟩, o3⟩ := ok
      have o3 := okLen_le o3
      obtain ⟨v, rfl, h⟩ := all1 ra
      obtain ⟨u, rfl, ru⟩ := vals1 r
      have fin : ∀ (h' : Heap) (t tk : Tok), (∀ b o, s.heap.get? b = some o → h'.get? b = some o) → EP X pins σ Q (.str d.shown t) { s with heap := h', toks := tk } := fun h' t tk kp => ⟨.str _, H, I.kept kp, ⟨t, rfl⟩, k.same sb (.str _)⟩
      have refc : ∀ a, u = .ref a → wpAny (model X.prog X.w) X.A (call (.builtin "repr") [u]) (EP X pins σ Q) X.xe s := fun a e => by
        obtain ⟨as, rd⟩ := Dp.reads I d v u (h.dp sb (shp_lay o1)) ru
        subst e
        have dp := SeqAt.depth_of_shaped o1
        exact repr_of_reads' rd o2 (fun z => by rw [noDict_of (shp_lay o1)] at z; cases z) hg (by omega) (fun _ _ q => q) fin o3
      cases h with
      | non => cases ru; exact PySem.P.repr_of_none (fin s.heap _ _ fun _ _ q => q)
      | bl b => cases ru; exact PySem.P.repr_of_bool (fin s.heap _ _ fun _ _ q => q)
      | int i =>
        obtain ⟨t, rfl⟩ := ru
        exact PySem.P.repr_of_int (of_decide_eq_true o2) (fin s.heap _ _ fun _ _ q => q)
      | str x =>
        obtain ⟨t, rfl⟩ := ru
        exact PySem.P.repr_of_str (fin s.heap _ _ fun _ _ q => q) o3
      | lst _ _ _ => cases ru; exact refc _ rfl
      | tup _ _ _ => cases ru; exact refc _ rfl
      | dk _ _ _ => cases ru; exact refc _ rfl
      | dt _ _ _ => cases ru; exact refc _ rfl
    · cases g
  · cases g
theorem bi_all_of (hc : X.calm = true) (hu : X.A.units + 70 < cLine) (hg : X.A.guards = some []) : ∀ b : Bi, CallR X b.val (relN Kt X.K pc (biD b))
  | .len => bi_len hu
  | .tuple => bi_tuple
  | .list => bi_list hc
  | .sorted => bi_sorted hc hu
  | .sum => bi_sum hc
  | .min => bi_min hc
  | .max => bi_max hc
  | .any => bi_any hc
  | .all => bi_all hc
  | .int => bi_int
  | .abs => bi_abs
  | .repr => bi_repr hu hg
  | .str => fun pins s σ H vs us Q I r ⟨G, ds, z, sb, ra, g, k⟩ => nomatch g
  | .dict => fun pins s σ H vs us Q I r ⟨G, ds, z, sb, ra, g, k⟩ => nomatch g
  | .bool => fun pins s σ H vs us Q I r ⟨G, ds, z, sb, ra, g, k⟩ => nomatch g
end
end Pyl

/-! Pyl8: whether an expression of Python is told by one of ours; scopes. -/
namespace Pyl
open PySem PySem.Spec PyProof.Rows L2

def Bi.nm : Bi → Str
  | .len => "len" | .tuple => "tuple" | .list => "list" | .sorted => "sorted" | .sum => "sum" | .min => "min" | .max => "max"
  | .any => "any" | .all => "all" | .int => "int" | .abs => "abs" | .repr => "repr" | .str => "str" | .dict => "dict" | .bool => "bool"
def Fld.nm : Fld → Str
  | .left => "left" | .mixed => "mixed" | .turn => "turn"
def visB (sc : Scope) (x : Str) : Bool := match sc.names.lookup x with
  | some .local => true
  | some .cell => true
  | some .free => true
  | _ => false
def locB (sc : Scope) (x : Str) : Bool := match sc.names.lookup x with
  | some .local => true
  | some .cell => true
  | _ => false
def gloB (sc : Scope) (x : Str) : Bool := sc.names.lookup x == some .globalImplicit
def nameOk (x : Str) : Bool := !(x == ("__debug__" : Str)) && !(x == ("__classdict__" : Str))
/-- the slot i is the name x, seen here -/
def slotB (N : List Str) (sc : Scope) (x : Str) (i : Nat) : Bool := N[i]? == some x && visB sc x && nameOk x
def blkB (N : List Str) (sc scope : Scope) (own : List (Str × Nat)) : Bool :=
  scope.kind == .function && scope.names.all (fun y => scope.names.lookup y.1 == some y.2) && own.all (fun p => N[p.2]? == some p.1) &&
  scope.names.all (fun y => y.2 != .free || sc.names.lookup y.1 == some .cell || sc.names.lookup y.1 == some .free) &&
  scope.names.all (fun y => !(y.2 == .local || y.2 == .cell) || (own.map (·.1)).contains y.1 || !N.contains y.1)
def plainE : Expr → Bool
  | .Starred .. => false
  | .Slice .. => false
  | .Set .. => false
  | _ => true
section
variable (nm : List Str) (N : List Str)
mutual
def chkG (sc : Scope) : Expr → Tg → Bool
  | .Name x _, .nm i => N[i]? == some x && locB sc x
  | .Tuple es _ _, .tp ts => chkGs sc es ts
  | _, _ => false
def chkGs (sc : Scope) : List Expr → List Tg → Bool
  | [], [] => true
  | e :: es, t :: ts => plainE e && chkG sc e t && chkGs sc es ts
  | _, _ => false
end
mutual
def tgIn (is : List Nat) : Tg → Bool
  | .nm i => is.contains i
  | .tp ts => tgsIn is ts
def tgsIn (is : List Nat) : List Tg → Bool
  | [] => true
  | t :: ts => tgIn is t && tgsIn is ts
end
def isTupleE : Expr → Bool
  | .Tuple .. => true
  | _ => false
mutual
def chkE (sc : Scope) : Expr → Ex → Bool
  | e, .vr i => match e with
    | .Name x _ => slotB N sc x i
    | _ => false
  | e, .cn d => match e, d with
    | .Constant .none _ _, .none => true
    | .Constant (.bool b) _ _, .bool c => b == c
    | .Constant (.int i) _ _, .int j => i == j
    | .Constant (.str x) _ _, .str y => x == y
    | _, _ => false
  | e, .bin o a b => match e with
    | .BinOp ea op eb _ => op == o.py && chkE sc ea a && chkE sc eb b
    | _ => false
  | e, .neg a => match e with
    | .UnaryOp .USub ea _ => chkE sc ea a
    | _ => false
  | e, .nt a => match e with
    | .UnaryOp .Not ea _ => chkE sc ea a
    | _ => false
  | e, .cmp o a b => match e with
    | .Compare ea [op] [eb] _ => op == o.py && plainE eb && chkE sc ea a && chkE sc eb b
    | _ => false
  | e, .cmp2 o o' a b c => match e with
    | .Compare ea [op, op'] [eb, ec] _ => op == o.py && op' == o'.py && plainE eb && plainE ec && chkE sc ea a && chkE sc eb b && chkE sc ec c
    | _ => false
  | e, .an a b => match e with
    | .BoolOp .And (ea :: eb :: rest) pos => chkE sc ea a && chkE sc (.BoolOp .And (eb :: rest) pos) b
    | _ => false
  | e, .or a b => match e with
    | .BoolOp .Or (ea :: eb :: rest) pos => chkE sc ea a && chkE sc (.BoolOp .Or (eb :: rest) pos) b
    | _ => false
  | e, .one a => match e with
    | .BoolOp _ [ea] _ => chkE sc ea a
    | _ => false
  | e, .ite c a b => match e with
    | .IfExp ec ea eb _ => chkE sc ec c && chkE sc ea a && chkE sc eb b
    | _ => false
  | e, .tup es => match e with
    | .Tuple ees _ _ => chkEs sc ees es
    | _ => false
  | e, .lst es => match e with
    | .List ees _ => chkEs sc ees es
    | _ => false
  | e, .dsp ks vs => match e, ks with
    | .Dict [] [] _, .nil => true
    | _, _ => false
  | e, .call f es => match e with
    | .Call (.Name x _) (ea :: eas) [] _ => nm[f]? == some x && gloB sc x && nameOk x && (ea :: eas).all plainE && chkAs sc (ea :: eas) es
    | _ => false
  | e, .bi b es => match e with
    | .Call (.Name x _) (ea :: eas) [] _ => x == b.nm && gloB sc x && (ea :: eas).all plainE && chkEs sc (ea :: eas) es
    | _ => false
  | _, .mt _ _ _ => false
  | e, .ix a i => match e with
    | .Subscript ea ei _ => plainE ei && chkE sc ea a && chkE sc ei i
    | _ => false
  | e, .sl a lo hi => match e with
    | .Subscript ea (.Slice elo ehi none _) _ => chkE sc ea a && chkO sc elo lo && chkO sc ehi hi
    | _ => false
  | e, .rv a => match e with
    | .Subscript ea (.Slice none none (some (.UnaryOp .USub (.Constant (.int 1) _ _) _)) _) _ => chkE sc ea a
    | _ => false
  | e, .lc elt tg it ifs own => match e with
    | .ListComp eelt [⟨etg, eit, eifs, 0⟩] scope _ => blkB N sc scope own && tgIn (own.map (·.2)) tg && plainE eit && chkG N scope etg tg && chkI sc etg eit it && chkTs scope eifs ifs && chkE scope eelt elt
    | _ => false
  | e, .sget j f => match e with
    | .Subscript (.Name x _) (.Constant (.str k) _ _) _ => slotB N sc x j && k == f.nm
    | _ => false
  | e, .slen j b => match e with
    | .Call (.Name l _) [o] [] _ => l == ("len" : Str) && gloB sc l && chkC sc o j b
    | _ => false
  | e, .spop j b => match e with
    | .Call (.Attribute o m ap) [] [] cp => m == ("pop" : Str) && ap.endLine == cp.line && chkC sc o j b
    | _ => false
where chkC (sc : Scope) : Expr → Nat → Bool → Bool
  | .Name x _, j, false => slotB N sc x j
  | .Subscript (.Name x _) (.Constant (.str k) _ _) _, j, true => slotB N sc x j && k == ("cells" : Str)
  | _, _, _ => false
def chkEs (sc : Scope) : List Expr → Exs → Bool
  | l, .nil => l.isEmpty
  | l, .cons false e r => match l with
    | ee :: er => plainE ee && chkE sc ee e && chkEs sc er r
    | _ => false
  | l, .cons true e r => match l with
    | .Starred ee _ :: er => chkE sc ee e && chkEs sc er r
    | _ => false
def chkAs (sc : Scope) : List Expr → Exs → Bool
  | l, .nil => l.isEmpty
  | l, .cons _ e r => match l with
    | ee :: er => chkE sc ee e && chkAs sc er r
    | _ => false
def chkTs (sc : Scope) : List Expr → Exs → Bool
  | l, .nil => l.isEmpty
  | l, .cons _ e r => match l with
    | [ee] => chkE sc ee e && (match r with | .nil => true | _ => false)
    | _ => false
def chkO (sc : Scope) : Option Expr → Exs → Bool
  | o, .nil => o.isNone
  | o, .cons b e r => match o with
    | some ee => !b && plainE ee && chkE sc ee e && (match r with | .nil => true | _ => false)
    | none => false
def chkI (sc : Scope) : Expr → Expr → Itx → Bool
  | _, e, .ex x => chkE sc e x
  | _, e, .rng1 a => match e with
    | .Call (.Name x _) [ea] [] _ => x == ("range" : Str) && gloB sc x && plainE ea && chkE sc ea a
    | _ => false
  | _, e, .rng2 a b => match e with
    | .Call (.Name x _) [ea, eb] [] _ => x == ("range" : Str) && gloB sc x && plainE ea && plainE eb && chkE sc ea a && chkE sc eb b
    | _ => false
  | tg, e, .enm x => match e with
    | .Call (.Name n _) [ea] [] _ => n == ("enumerate" : Str) && gloB sc n && isTupleE tg && plainE ea && chkE sc ea x
    | _ => false
  | tg, e, .zip a b => match e with
    | .Call (.Name n _) [ea, eb] [] _ => n == ("zip" : Str) && gloB sc n && isTupleE tg && plainE ea && plainE eb && chkE sc ea a && chkE sc eb b
    | _ => false
  | tg, e, .itm x => false
  | _, e, .vls x => false
  | _, e, .scr j => match e with
    | .Name x _ => slotB N sc x j
    | _ => false
end
end

/-! ### scopes -/
def Agree (sc sc' : Scope) : Prop := ∀ x k, sc.names.lookup x = some k → sc'.names.lookup x = some k ∨ (k = .free ∧ sc'.names.lookup x = some .cell)
theorem Agree.refl (sc : Scope) : Agree sc sc := fun _ _ h => .inl h
theorem map_free {f : Str × NameKind → Str × NameKind} (hf : ∀ n k, ∃ k', f (n, k) = (n, k') ∧ (k' = k ∨ (k = .free ∧ k' = .cell))) : ∀ {names : List (Str × NameKind)} {x : Str}, names.lookup x = some .free → (names.map f).lookup x = some .free ∨ (names.map f).lookup x = some .cell
  | [], _, h => by simp at h
  | (n, k) :: r, x, h => by
    have ih := @map_free f hf r x
    obtain ⟨k', e, q⟩ := hf n k
    rw [List.map_cons, e, List.lookup_cons]
    rw [List.lookup_cons] at h
    cases hx : x == n with
    | true =>
      rw [hx] at h
      cases h
      rcases q with q | ⟨_, q⟩
      · exact .inl (by rw [q])
      · exact .inr (by rw [q])
    | false =>
      rw [hx] at h
      exact ih h
theorem relS_free {sc : Scope} {scope : Scope} {x : Str} (h : scope.names.lookup x = some .free) : (relS scope sc).names.lookup x = some .free ∨ (relS scope sc).names.lookup x = some .cell := by
  refine map_free (fun n k => ?_) h
  by_cases c : (k == NameKind.free && sc.kind == .function && sc.names.lookup n == some .cell) = true
  · refine ⟨.cell, if_pos c, .inr ⟨?_, rfl⟩⟩
    simp only [Bool.and_eq_true, beq_iff_eq] at c
    exact c.1.1
  · exact ⟨k, if_neg c, .inl rfl⟩
theorem Agree.blk (scope sc : Scope) : Agree scope (relS scope sc) := fun x k h => by
  by_cases hk : k = .free
  · subst hk
    rcases relS_free (sc := sc) h with q | q
    · exact .inl q
    · exact .inr ⟨rfl, q⟩
  · exact .inl (lookup_relS_keep hk h)
theorem Agree.vis {sc sc' : Scope} (h : Agree sc sc') {x : Str} (v : visB sc x = true) : Vis sc' x := by
  unfold visB at v
  split at v
  · rename_i q
    rcases h x _ q with z | ⟨z, _⟩
    · exact .inl z
    · cases z
  · rename_i q
    rcases h x _ q with z | ⟨z, _⟩
    · exact .inr (.inl z)
    · cases z
  · rename_i q
    rcases h x _ q with z | ⟨_, z⟩
    · exact .inr (.inr z)
    · exact .inr (.inl z)
  · cases v
theorem Agree.glo {sc sc' : Scope} (h : Agree sc sc') {x : Str} (v : gloB sc x = true) : sc'.names.lookup x = some .globalImplicit := by
  have q : sc.names.lookup x = some .globalImplicit := by simpa [gloB] using v
  rcases h x _ q with z | ⟨z, _⟩
  · exact z
  · cases z
theorem blk_of {N : List Str} {sc sc' scope : Scope} {own : List (Str × Nat)} (ag : Agree sc sc') (h : blkB N sc scope own = true) : BlkOk N sc' scope own := by
  unfold blkB at h
  simp only [Bool.and_eq_true] at h
  obtain ⟨⟨⟨⟨h1, h2⟩, h3⟩, h4⟩, h5⟩ := h
  refine ⟨by simpa using h1, fun y hy => by simpa using List.all_eq_true.mp h2 y hy, fun p hp => by simpa using List.all_eq_true.mp h3 p hp, fun y hy e => ?_, fun y hy e => ?_⟩
  · have q := List.all_eq_true.mp h4 y hy
    rw [e] at q
    have q : sc.names.lookup y.1 = some .cell ∨ sc.names.lookup y.1 = some .free := by simpa using q
    rcases q with q | q
    · rcases ag _ _ q with z | ⟨z, _⟩
      · exact .inl z
      · cases z
    · rcases ag _ _ q with z | ⟨_, z⟩
      · exact .inr z
      · exact .inl z
  · have q := List.all_eq_true.mp h5 y hy
    by_cases m : y.1 ∈ own.map (·.1)
    · exact .inl m
    · refine .inr fun mn => ?_
      rcases e with e | e <;> rw [e] at q <;> simp [m, mn] at q
      all_goals (obtain ⟨z, zz⟩ := q; exact m (List.mem_map.mpr ⟨_, zz, rfl⟩))
end Pyl

/-! Pyl9: what an expression's reading is; simple expressions. -/
namespace Pyl
open PySem PySem.Spec PyProof.Rows L2

def ArgOk (K : PySem.W.Frag) (pc : PC) (G : Hp) (v : V) : Vw → Prop
  | .d x => Rel K G v x
  | .src => ∃ p c, pc = some (p, c) ∧ v = .ref p
  | _ => False
inductive VwAll (K : PySem.W.Frag) (pc : PC) (G : Hp) : List V → List Vw → Prop
  | nil : VwAll K pc G [] []
  | cons {v : V} {w : Vw} {vs : List V} {ws : List Vw} : ArgOk K pc G v w → VwAll K pc G vs ws → VwAll K pc G (v :: vs) (w :: ws)
theorem ArgOk.mono {K : PySem.W.Frag} {pc : PC} {G G' : Hp} (l : Le G G') {v : V} : ∀ {w : Vw}, ArgOk K pc G v w → ArgOk K pc G' v w
  | .d _, h => Rel.mono l h
  | .src, h => h
theorem VwAll.mono {K : PySem.W.Frag} {pc : PC} {G G' : Hp} (l : Le G G') : ∀ {vs : List V} {ws : List Vw}, VwAll K pc G vs ws → VwAll K pc G' vs ws
  | _, _, .nil => .nil
  | _, _, .cons a b => .cons (a.mono l) (VwAll.mono l b)
theorem VwAll.length {K : PySem.W.Frag} {pc : PC} {G : Hp} : ∀ {vs : List V} {ws : List Vw}, VwAll K pc G vs ws → vs.length = ws.length
  | _, _, .nil => rfl
  | _, _, .cons _ b => congrArg Nat.succ (VwAll.length b)

/-- a def's promise where nothing of repr is under way -/
structure FnG (P : Program) (w : World) (K : PySem.W.Frag) (mg : Str → Option Value) (base : Heap) (k : Nat) (f : Addr) (fd : FuncData) (ps : List Str) (sp : Sp) : Prop where
  len : ∀ vs H Q E, sp vs H Q E → vs.length = ps.length
  run : ∀ (A : Around) (outer : List Env) (s : Shared) (H : Hp) (args : Args) (us : List Value) (vs : List V) (Q : VK) (E : XK), A.guards = some [] → Room k A → Env0 P w K mg base A outer s H →
    BindsTo s fd args (ps.zip us) → Vals vs us → sp vs H Q E → codeAny (model P w) A (.call (.ref f) args) (CR CX0 outer P w H s Q E) s
abbrev Sem1 := Nat → List Vw → Src → R PyData
def spF (K : PySem.W.Frag) (Φ : Sem1) (f np : Nat) : Sp := fun vs H Q _ => vs.length = np ∧ ∃ (pc : PC) (G : Hp) (args : List Vw) (S : Src) (r : PyData) (S' : Src),
  Sub G H ∧ SrcOk pc H S ∧ (∀ a, isPc pc a → G a = none) ∧ VwAll K pc G vs args ∧ Φ f args S = some (r, S') ∧
  ∀ v G' H', EStep pc G H G' H' → SrcOk pc H' S' → Rel K G' v r → Q v H'
def bltNames : List Str := ["len", "tuple", "list", "sorted", "sum", "min", "max", "any", "all", "int", "abs", "repr", "str", "dict", "bool", "range", "enumerate", "zip"]
structure XOk (X : Cx) (T : List Fd) (Φ : Sem1) (sc : Scope) : Prop where
  calm : X.calm = true
  nd : X.N.Nodup
  ag : Agree sc X.env.scope
  fn : ∀ x, sc.names.lookup x = some .cell → X.fn x = true
  hu : X.A.units + 200 < cLine
  gd : X.A.guards = some []
  blt : ∀ x ∈ bltNames, X.mg x = none
  arity : ∀ f fd args S r, T[f]? = some fd → Φ f args S = some r → args.length = fd.np
  fns : ∀ f fd, T[f]? = some fd → ∃ (a : Addr) (fdt : FuncData) (ps : List Str) (k : Nat), X.mg fd.name = some (.ref a) ∧ PySem.W.keepIn X.K (.ref a) = true ∧ Binds X.K fdt ps [] ∧ Room k X.A ∧
    FnG X.prog X.w X.K X.mg X.base k a fdt ps (spF X.K Φ f fd.np)

section
variable (K : PySem.W.Frag) (pc : PC) (Φ : Sem1)
def tI (x : Ex) : TE := fun σ H Q => ∃ (G : Hp) (ρ : List Vw) (S : Src) (r : PyData) (S' : Src), Pre K pc G H S ρ σ ∧ evE Φ x ρ S = some (r, S') ∧
  ∀ v G' H', EStep pc G H G' H' → SrcOk pc H' S' → Rel K G' v r → Q v H'
def tF (x : Ex) : TE := fun σ H Q => ∃ (G : Hp) (ρ : List Vw) (S : Src) (r : PyData) (S' : Src), Pre K pc G H S ρ σ ∧ evE Φ x ρ S = some (r, S') ∧ isOb r = true ∧
  ∀ a u G' H', EStep pc G H G' H' → SrcOk pc H' S' → H a = none → G' a = none → H' a = some u → RelO K G' u r → Q (.ref a) H'
def tB (x : Ex) : TT := fun σ H Q => ∃ (G : Hp) (ρ : List Vw) (S : Src) (r : PyData) (S' : Src) (t : Bool), Pre K pc G H S ρ σ ∧ evE Φ x ρ S = some (r, S') ∧ truth r = some t ∧
  ∀ G' H', EStep pc G H G' H' → SrcOk pc H' S' → Q t H'
def tIs (xs : Exs) : TA := fun σ H Q => ∃ (G : Hp) (ρ : List Vw) (S : Src) (r : List PyData) (S' : Src), Pre K pc G H S ρ σ ∧ evEs Φ xs ρ S = some (r, S') ∧
  ∀ vs G' H', EStep pc G H G' H' → SrcOk pc H' S' → RelAll K G' vs r → Q vs H'
def tAs (xs : Exs) : TA := fun σ H Q => ∃ (G : Hp) (ρ : List Vw) (S : Src) (r : List Vw) (S' : Src), Pre K pc G H S ρ σ ∧ evAs Φ xs ρ S = some (r, S') ∧
  ∀ vs G' H', EStep pc G H G' H' → SrcOk pc H' S' → VwAll K pc G' vs r → Q vs H'
def tTs (xs : Exs) : TT := fun σ H Q => ∃ (G : Hp) (ρ : List Vw) (S : Src) (t : Bool) (S' : Src), Pre K pc G H S ρ σ ∧ evTs Φ xs ρ S = some (t, S') ∧
  ∀ G' H', EStep pc G H G' H' → SrcOk pc H' S' → Q t H'
end
theorem _root_.L2.PE.imp {X : Cx} {e : Expr} {t t' : TE} (h : PE X e t) (i : ∀ σ H Q, t' σ H Q → t σ H Q) : PE X e t' := ⟨fun pins s σ H Q I q => h.run pins s σ H Q I (i σ H Q q)⟩
theorem _root_.L2.PT.imp {X : Cx} {e : Expr} {t t' : TT} (h : PT X e t) (i : ∀ σ H Q, t' σ H Q → t σ H Q) : PT X e t' := ⟨fun pins s σ H Q I q => h.run pins s σ H Q I (i σ H Q q)⟩
theorem _root_.L2.PW.imp {X : Cx} {e : Expr} {t t' : TT} (h : PW X e t) (i : ∀ σ H Q, t' σ H Q → t σ H Q) : PW X e t' := ⟨fun wh pins s σ H Q I q => h.run wh pins s σ H Q I (i σ H Q q)⟩
theorem _root_.L2.PA.imp {X : Cx} {e : List Expr} {t t' : TA} (h : PA X e t) (i : ∀ σ H Q, t' σ H Q → t σ H Q) : PA X e t' := ⟨fun pos pins s σ H Q I q => h.run pos pins s σ H Q I (i σ H Q q)⟩
theorem _root_.L2.PTs.imp {X : Cx} {e : List Expr} {t t' : TT} (h : PTs X e t) (i : ∀ σ H Q, t' σ H Q → t σ H Q) : PTs X e t' := ⟨fun pins s σ H Q I q => h.run pins s σ H Q I (i σ H Q q)⟩
theorem _root_.L2.PI.imp {X : Cx} {tg e : Expr} {t t' : TI} (h : PI X tg e t) (i : ∀ σ H Q, t' σ H Q → t σ H Q) : PI X tg e t' := ⟨fun pins s σ H Q I q => h.run pins s σ H Q I (i σ H Q q)⟩

/-- an expression is told -/
structure Snd (X : Cx) (pc : PC) (Φ : Sem1) (e : Expr) (x : Ex) : Prop where
  pe : PE X e (tI X.K pc Φ x)
  pt : PT X e (tB X.K pc Φ x)
  pw : ∀ op es pos, e = .BoolOp op es pos → PW X e (tB X.K pc Φ x)
  pf : frs x = true → PE X e (tF X.K pc Φ x)

theorem truth_v {K : PySem.W.Frag} {G H : Hp} {v : V} {d : PyData} {t : Bool} (sb : Sub G H) (h : Rel K G v d) (e : truth d = some t) : TruV K v H t := by
  cases h with
  | non => cases e; rfl
  | bl b => cases e; rfl
  | int i => cases e; rfl
  | str x => cases e
  | lst ea la ra =>
    cases e
    refine .inl ⟨_, .inl (.inl (sb.ex ea rfl)), ?_⟩
    cases ra <;> rfl
  | tup ea la ra =>
    cases e
    refine .inr (.inl ⟨_, .inl (.inl (sb.ex ea rfl)), ?_⟩)
    cases ra <;> rfl
  | dk _ _ _ => cases e
  | dt _ _ _ => cases e
section
variable {X : Cx} {pc : PC} {Φ : Sem1} {T : List Fd} {sc : Scope}
/-- plain tests -/
theorem pt_of {e : Expr} {x : Ex} (h : PE X e (tI X.K pc Φ x)) (he : ∀ whole, isTrue e X.env whole = (do let v ← whole; standAt e.pos; holding [v] (truthy v))) : PT X e (tB X.K pc Φ x) :=
  (pt_truth h he).imp fun σ H Q ⟨G, ρ, S, r, S', t, p, ev, tr, k⟩ => ⟨G, ρ, S, r, S', p, ev, fun v G' H' st sr rl => ⟨t, truth_v st.ok rl tr, k G' H' st sr⟩⟩
theorem snd_plain {e : Expr} {x : Ex} (h : PE X e (tI X.K pc Φ x)) (he : ∀ whole, isTrue e X.env whole = (do let v ← whole; standAt e.pos; holding [v] (truthy v))) (nb : ∀ op es pos, e ≠ .BoolOp op es pos) (nf : frs x = true → PE X e (tF X.K pc Φ x)) : Snd X pc Φ e x :=
  ⟨h, pt_of h he, fun op es pos z => absurd z (nb op es pos), nf⟩
/-- from a fresh value -/
theorem fresh_i {e : Expr} {x : Ex} (h : PE X e (tF X.K pc Φ x)) (ho : ∀ ρ S r S', evE Φ x ρ S = some (r, S') → isOb r = true) : PE X e (tI X.K pc Φ x) :=
  h.imp fun σ H Q ⟨G, ρ, S, r, S', p, ev, k⟩ => by
    refine ⟨G, ρ, S, r, S', p, ev, ho _ _ _ _ ev, fun a u G' H' st sr n n' hu ro => ?_⟩
    have l : Le G' (L2.upd G' a u) := fun b w e => by
      by_cases z : b = a
      · rw [z, n'] at e; cases e
      · rw [upd_ne z]; exact e
    refine k _ (L2.upd G' a u) H' ⟨st.le.trans l, fun b w z => ?_, st.keep, st.live, fun b w z => ?_⟩ sr (ro.rel n')
    · by_cases q : b = a
      · rw [q, upd_same] at z; cases z; rw [q]; exact .inl hu
      · rw [upd_ne q] at z; exact st.ok b w z
    · by_cases q : b = a
      · rw [q]; exact .inr (.inl n)
      · rw [upd_ne q] at z; exact st.new b w z

theorem vwD_some {w : Option Vw} {x : PyData} (h : vwD w = some x) : w = some (.d x) := by
  cases w with
  | none => cases h
  | some w => cases w <;> first | (cases h; rfl) | cases h
theorem nm_of {x : Str} (h : nameOk x = true) : (x == ("__debug__" : Str)) = false ∧ (x == ("__classdict__" : Str)) = false := by
  unfold nameOk at h
  simpa using h
theorem s_vr {x : Str} {pos : Pos} {i : Nat} (ok : XOk X T Φ sc) (h : slotB X.N sc x i = true) : Snd X pc Φ (.Name x pos) (.vr i) := by
  unfold slotB at h
  simp only [Bool.and_eq_true] at h
  obtain ⟨⟨h1, h2⟩, h3⟩ := h
  obtain ⟨d1, d2⟩ := nm_of h3
  refine snd_plain ((pe_var (by simpa using h1) (ok.ag.vis h2) d1 d2).imp fun σ H Q ⟨G, ρ, S, r, S', p, ev, k⟩ => ?_) (fun _ => rfl) (fun _ _ _ => nofun) (fun z => by cases z)
  obtain ⟨y, e1, e2⟩ := imap ev
  cases e2
  obtain ⟨v, hv, rl⟩ := p.vw i _ (vwD_some e1)
  exact ⟨v, hv, k v G H (EStep.refl p.sub) p.src rl⟩
theorem pe_cn {e : Expr} {v : V} {d : PyData} (h : PE X e (tC v)) (r : ∀ G, Rel X.K G v d) : PE X e (tI X.K pc Φ (.cn d)) :=
  h.imp fun σ H Q ⟨G, ρ, S, r', S', p, ev, k⟩ => by
    cases ev
    exact k v G H (EStep.refl p.sub) p.src (r G)
theorem s_cn {e : Expr} {d : PyData} {N : List Str} {nm : List Str} (h : chkE nm N sc e (.cn d) = true) : Snd X pc Φ e (.cn d) := by
  simp only [chkE] at h
  split at h
  · exact snd_plain (pe_cn pe_non fun _ => .non) (fun _ => rfl) (fun _ _ _ => nofun) (fun z => by cases z)
  · have := eq_of_beq h
    subst this
    exact snd_plain (pe_cn pe_bl fun _ => .bl _) (fun _ => rfl) (fun _ _ _ => nofun) (fun z => by cases z)
  · have := eq_of_beq h
    subst this
    exact snd_plain (pe_cn pe_int fun _ => .int _) (fun _ => rfl) (fun _ _ _ => nofun) (fun z => by cases z)
  · have := eq_of_beq h
    subst this
    exact snd_plain (pe_cn pe_str fun _ => .str _) (fun _ => rfl) (fun _ _ _ => nofun) (fun z => by cases z)
  · cases h
/-- two values, one behind the other -/
theorem two {a b : Ex} {σ : L2.St} {H : Hp} {R : V → V → Hp → Prop} {G : Hp} {ρ : List Vw} {S : Src} {p q : PyData × Src} (pr : Pre X.K pc G H S ρ σ) (ea : evE Φ a ρ S = some p) (eb : evE Φ b ρ p.2 = some q)
    (k : ∀ v w G' H', EStep pc G H G' H' → SrcOk pc H' q.2 → Rel X.K G' v p.1 → Rel X.K G' w q.1 → R v w H') : tI X.K pc Φ a σ H fun x H1 => tI X.K pc Φ b σ H1 fun y H2 => R x y H2 :=
  ⟨G, ρ, S, p.1, p.2, pr, ea, fun v G1 H1 st1 s1 r1 => ⟨G1, ρ, p.2, q.1, q.2, pr.next st1 s1, eb, fun w G2 H2 st2 s2 r2 => k v w G2 H2 (st1.trans st2) s2 (r1.mono st2.le) r2⟩⟩
theorem kt_of {G0 H0 G H : Hp} {S' : Src} {r : PyData} {Q : VK} (st : EStep pc G0 H0 G H) (sr : SrcOk pc H S') (k : ∀ v G' H', EStep pc G0 H0 G' H' → SrcOk pc H' S' → Rel X.K G' v r → Q v H') : Kt X.K pc G H r Q :=
  fun v G' H' st' ks rl => k v G' H' (st.trans st') (ks _ sr) rl
theorem kf_of {G0 H0 G H : Hp} {S' : Src} {r : PyData} {Q : VK} (st : EStep pc G0 H0 G H) (sr : SrcOk pc H S') (k : ∀ a u G' H', EStep pc G0 H0 G' H' → SrcOk pc H' S' → H0 a = none → G' a = none → H' a = some u → RelO X.K G' u r → Q (.ref a) H') : Kf X.K pc G H r Q :=
  fun a u G' H' st' ks n n' hu ro => k a u G' H' (st.trans st') (ks _ sr) (by
    cases q : H0 a with
    | none => rfl
    | some w => exact absurd n (st.live a (by rw [q]; simp))) n' hu ro
theorem s_bin {ea eb : Expr} {pos : Pos} {o : Bop} {a b : Ex} (ha : Snd X pc Φ ea a) (hb : Snd X pc Φ eb b) : Snd X pc Φ (.BinOp ea o.py eb pos) (.bin o a b) := by
  refine snd_plain ((pe_op (ob_all (pc := pc) o) ha.pe hb.pe).imp fun σ H Q ⟨G, ρ, S, r, S', p, ev, k⟩ => ?_) (fun _ => rfl) (fun _ _ _ => nofun) (fun z => ?_)
  · obtain ⟨p1, e1, ev⟩ := ibind ev
    obtain ⟨p2, e2, ev⟩ := ibind ev
    obtain ⟨r', e3, e4⟩ := imap ev
    cases e4
    exact two p e1 e2 fun v w G' H' st sr r1 r2 => ⟨G', _, _, _, st.ok, r1, r2, e3, kt_of st sr k⟩
  · have fr : ∀ {r2 : R2}, OpR X (binaryOp o.py) r2 → Op2 (fun K pc G H z Q => isOb z = true ∧ Kf K pc G H z Q) X.K (binD o) r2 → PE X (.BinOp ea o.py eb pos) (tF X.K pc Φ (.bin o a b)) := fun {r2} ho h2 => by
      refine (pe_op (O2.of (pc := pc) ho h2) ha.pe hb.pe).imp fun σ H Q ⟨G, ρ, S, r, S', p, ev, io, k⟩ => ?_
      obtain ⟨p1, e1, ev⟩ := ibind ev
      obtain ⟨p2, e2, ev⟩ := ibind ev
      obtain ⟨r', e3, e4⟩ := imap ev
      cases e4
      exact two p e1 e2 fun v w G' H' st sr r1 r2 => ⟨G', _, _, _, st.ok, r1, r2, e3, io, kf_of st sr k⟩
    cases o with
    | add => exact fr or_add o2f_add
    | mul => exact fr or_mul o2f_mul
    | _ => cases z
theorem s_neg {ea : Expr} {pos : Pos} {a : Ex} (ha : Snd X pc Φ ea a) : Snd X pc Φ (.UnaryOp .USub ea pos) (.neg a) := by
  refine snd_plain ((pe_un un_neg ha.pe).imp fun σ H Q ⟨G, ρ, S, r, S', p, ev, k⟩ => ?_) (fun _ => rfl) (fun _ _ _ => nofun) (fun z => by cases z)
  obtain ⟨p1, e1, ev⟩ := ibind ev
  refine ⟨G, ρ, S, p1.1, p1.2, p, e1, fun v G' H' st sr rl => ?_⟩
  split at ev
  · rename_i i q
    cases ev
    rw [q] at rl
    cases rl
    exact ⟨_, rfl, k _ G' H' st sr (.int _)⟩
  · cases ev
theorem s_nt {ea : Expr} {pos : Pos} {a : Ex} (ha : Snd X pc Φ ea a) : Snd X pc Φ (.UnaryOp .Not ea pos) (.nt a) := by
  refine ⟨(pe_notT ha.pe).imp fun σ H Q ⟨G, ρ, S, r, S', p, ev, k⟩ => ?_, (pt_not ha.pt).imp fun σ H Q ⟨G, ρ, S, r, S', t, p, ev, tr, k⟩ => ?_, fun _ _ _ => nofun, fun z => by cases z⟩
  · obtain ⟨p1, e1, ev⟩ := ibind ev
    obtain ⟨t, e2, e3⟩ := imap ev
    cases e3
    exact ⟨G, ρ, S, p1.1, p1.2, p, e1, fun v G' H' st sr rl => ⟨t, truth_v st.ok rl e2, k _ G' H' st sr (.bl _)⟩⟩
  · obtain ⟨p1, e1, ev⟩ := ibind ev
    obtain ⟨t', e2, e3⟩ := imap ev
    cases e3
    cases tr
    exact ⟨G, ρ, S, p1.1, p1.2, t', p, e1, e2, fun G' H' st sr => k G' H' st sr⟩
theorem plain_set {op : CmpOp} {b : Expr} (h : plainE b = true) : behindInMarks op b = false := by
  cases b <;> first | rfl | cases h
theorem s_cmp {ea eb : Expr} {pos : Pos} {o : Cop} {a b : Ex} (ok : XOk X T Φ sc) (pb : plainE eb = true) (ha : Snd X pc Φ ea a) (hb : Snd X pc Φ eb b) : Snd X pc Φ (.Compare ea [o.py] [eb] pos) (.cmp o a b) := by
  have hu := ok.hu
  refine ⟨(pe_cmpR (oc_all (pc := pc) (by omega) o) ha.pe hb.pe (plain_set pb)).imp fun σ H Q ⟨G, ρ, S, r, S', p, ev, k⟩ => ?_, (pt_cmpR (oc_all (pc := pc) (by omega) o) ha.pe hb.pe (plain_set pb)).imp fun σ H Q ⟨G, ρ, S, r, S', t, p, ev, tr, k⟩ => ?_, fun _ _ _ => nofun, fun z => by cases z⟩
  · obtain ⟨p1, e1, ev⟩ := ibind ev
    obtain ⟨p2, e2, ev⟩ := ibind ev
    obtain ⟨c, e3, e4⟩ := imap ev
    cases e4
    exact two p e1 e2 fun v w G' H' st sr r1 r2 => ⟨G', _, _, _, st.ok, r1, r2, by unfold gCmp; rw [e3]; rfl, kt_of st sr k⟩
  · obtain ⟨p1, e1, ev⟩ := ibind ev
    obtain ⟨p2, e2, ev⟩ := ibind ev
    obtain ⟨c, e3, e4⟩ := imap ev
    cases e4
    cases tr
    refine two p e1 e2 fun v w G' H' st sr r1 r2 => ⟨G', _, _, _, st.ok, r1, r2, by unfold gCmp; rw [e3]; rfl, kt_of st sr fun v' G'' H'' st' sr' rl => ?_⟩
    cases rl
    exact ⟨_, rfl, k G'' H'' st' sr'⟩
theorem two_marks {op op' : CmpOp} {b c : Expr} (h1 : plainE b = true) (h2 : plainE c = true) : lastMarks [op, op'] [b, c] = false := by
  show behindInMarks op' c = false
  exact plain_set h2
theorem s_cmp2 {ea eb ec : Expr} {pos : Pos} {o o' : Cop} {a b c : Ex} (ok : XOk X T Φ sc) (pb : plainE eb = true) (pcc : plainE ec = true) (ha : Snd X pc Φ ea a) (hb : Snd X pc Φ eb b) (hc : Snd X pc Φ ec c) : Snd X pc Φ (.Compare ea [o.py, o'.py] [eb, ec] pos) (.cmp2 o o' a b c) := by
  have hu := ok.hu
  have core : ∀ σ H Q G ρ S r S', Pre X.K pc G H S ρ σ → evE Φ (.cmp2 o o' a b c) ρ S = some (r, S') → (∀ v G' H', EStep pc G H G' H' → SrcOk pc H' S' → Rel X.K G' v r → Q v H') →
      tChain (rel2 Kt X.K pc (gCmp o)) (rel2 Kt X.K pc (gCmp o')) (tI X.K pc Φ a) (tI X.K pc Φ b) (tI X.K pc Φ c) σ H Q := fun σ H Q G ρ S r S' p ev k => by
    obtain ⟨p1, e1, ev⟩ := ibind ev
    obtain ⟨p2, e2, ev⟩ := ibind ev
    obtain ⟨t, e3, ev⟩ := ibind ev
    refine two p e1 e2 fun v w G' H' st sr r1 r2 => ⟨G', _, _, _, st.ok, r1, r2, by unfold gCmp; rw [e3]; rfl, fun v' G'' H'' st' ks rl => ?_⟩
    cases rl
    refine ⟨t, rfl, ?_⟩
    cases t with
    | true =>
      rw [if_pos rfl]
      rw [if_pos rfl] at ev
      obtain ⟨p3, e4, ev⟩ := ibind ev
      obtain ⟨t', e5, e6⟩ := imap ev
      cases e6
      exact ⟨G'', ρ, p2.2, p3.1, p3.2, p.next (st.trans st') (ks _ sr), e4, fun w' G3 H3 st3 sr3 r3 => ⟨G3, _, _, _, st3.ok, (r2.mono st'.le).mono st3.le, r3, by unfold gCmp; rw [e5]; rfl, kt_of ((st.trans st').trans st3) sr3 k⟩⟩
    | false =>
      rw [if_neg (by decide)]
      rw [if_neg (by decide)] at ev
      cases ev
      exact k _ G'' H'' (st.trans st') (ks _ sr) (.bl _)
  refine ⟨(pe_chain (oc_all (pc := pc) (by omega) o) (oc_all (pc := pc) (by omega) o') ha.pe hb.pe hc.pe (two_marks pb pcc)).imp fun σ H Q ⟨G, ρ, S, r, S', p, ev, k⟩ => core σ H Q G ρ S r S' p ev k,
    (pt_chain (oc_all (pc := pc) (by omega) o) (oc_all (pc := pc) (by omega) o') ha.pe hb.pe hc.pe (two_marks pb pcc)).imp fun σ H Q ⟨G, ρ, S, r, S', t, p, ev, tr, k⟩ => core σ H _ G ρ S r S' p ev fun v G' H' st sr rl => ?_, fun _ _ _ => nofun, fun z => by cases z⟩
  have : r = .bool t := by
    obtain ⟨p1, e1, ev⟩ := ibind ev
    obtain ⟨p2, e2, ev⟩ := ibind ev
    obtain ⟨t1, e3, ev⟩ := ibind ev
    split at ev
    · obtain ⟨p3, e4, ev⟩ := ibind ev
      obtain ⟨t', e5, e6⟩ := imap ev
      cases e6
      cases tr
      rfl
    · cases ev
      cases tr
      rfl
  subst this
  cases rl
  exact ⟨t, rfl, k G' H' st sr⟩
theorem s_one {ea : Expr} {pos : Pos} {op : BoolOp} {a : Ex} (ha : Snd X pc Φ ea a) : Snd X pc Φ (.BoolOp op [ea] pos) (.one a) := by
  have w : PW X (.BoolOp op [ea] pos) (tB X.K pc Φ (.one a)) := by
    cases op with
    | And => exact pw_and1 ha.pt
    | Or => exact pw_or1 ha.pt
  exact ⟨pe_one ha.pe, w.pt, fun _ _ _ _ => w, fun z => by cases z⟩
theorem s_an {ea eb : Expr} {rest : List Expr} {pos : Pos} {a b : Ex} (ha : Snd X pc Φ ea a) (hb : Snd X pc Φ (.BoolOp .And (eb :: rest) pos) b) : Snd X pc Φ (.BoolOp .And (ea :: eb :: rest) pos) (.an a b) := by
  have w : PW X (.BoolOp .And (ea :: eb :: rest) pos) (tB X.K pc Φ (.an a b)) := (pw_and ha.pt (hb.pw _ _ _ rfl)).imp fun σ H Q ⟨G, ρ, S, r, S', t, p, ev, tr, k⟩ => by
    obtain ⟨p1, e1, ev⟩ := ibind ev
    obtain ⟨t1, e2, ev⟩ := ibind ev
    refine ⟨G, ρ, S, p1.1, p1.2, t1, p, e1, e2, fun G' H' st sr => ?_⟩
    cases t1 with
    | true =>
      rw [if_pos rfl] at ev ⊢
      exact ⟨G', ρ, p1.2, r, S', t, p.next st sr, ev, tr, fun G2 H2 st2 sr2 => k G2 H2 (st.trans st2) sr2⟩
    | false =>
      rw [if_neg (by decide)] at ev ⊢
      cases ev
      rw [e2] at tr
      cases tr
      exact k G' H' st sr
  refine ⟨(pe_andT ha.pe hb.pe).imp fun σ H Q ⟨G, ρ, S, r, S', p, ev, k⟩ => ?_, w.pt, fun _ _ _ _ => w, fun z => by cases z⟩
  obtain ⟨p1, e1, ev⟩ := ibind ev
  obtain ⟨t1, e2, ev⟩ := ibind ev
  refine ⟨G, ρ, S, p1.1, p1.2, p, e1, fun v G' H' st sr rl => ⟨t1, truth_v st.ok rl e2, ?_⟩⟩
  cases t1 with
  | true =>
    rw [if_pos rfl] at ev ⊢
    exact ⟨G', ρ, p1.2, r, S', p.next st sr, ev, fun v2 G2 H2 st2 sr2 r2 => k v2 G2 H2 (st.trans st2) sr2 r2⟩
  | false =>
    rw [if_neg (by decide)] at ev ⊢
    cases ev
    exact k v G' H' st sr rl
theorem s_or {ea eb : Expr} {rest : List Expr} {pos : Pos} {a b : Ex} (ha : Snd X pc Φ ea a) (hb : Snd X pc Φ (.BoolOp .Or (eb :: rest) pos) b) : Snd X pc Φ (.BoolOp .Or (ea :: eb :: rest) pos) (.or a b) := by
  have w : PW X (.BoolOp .Or (ea :: eb :: rest) pos) (tB X.K pc Φ (.or a b)) := (pw_or ha.pt (hb.pw _ _ _ rfl)).imp fun σ H Q ⟨G, ρ, S, r, S', t, p, ev, tr, k⟩ => by
    obtain ⟨p1, e1, ev⟩ := ibind ev
    obtain ⟨t1, e2, ev⟩ := ibind ev
    refine ⟨G, ρ, S, p1.1, p1.2, t1, p, e1, e2, fun G' H' st sr => ?_⟩
    cases t1 with
    | true =>
      rw [if_pos rfl] at ev ⊢
      cases ev
      rw [e2] at tr
      cases tr
      exact k G' H' st sr
    | false =>
      rw [if_neg (by decide)] at ev ⊢
      exact ⟨G', ρ, p1.2, r, S', t, p.next st sr, ev, tr, fun G2 H2 st2 sr2 => k G2 H2 (st.trans st2) sr2⟩
  refine ⟨(pe_orT ha.pe hb.pe).imp fun σ H Q ⟨G, ρ, S, r, S', p, ev, k⟩ => ?_, w.pt, fun _ _ _ _ => w, fun z => by cases z⟩
  obtain ⟨p1, e1, ev⟩ := ibind ev
  obtain ⟨t1, e2, ev⟩ := ibind ev
  refine ⟨G, ρ, S, p1.1, p1.2, p, e1, fun v G' H' st sr rl => ⟨t1, truth_v st.ok rl e2, ?_⟩⟩
  cases t1 with
  | true =>
    rw [if_pos rfl] at ev ⊢
    cases ev
    exact k v G' H' st sr rl
  | false =>
    rw [if_neg (by decide)] at ev ⊢
    exact ⟨G', ρ, p1.2, r, S', p.next st sr, ev, fun v2 G2 H2 st2 sr2 r2 => k v2 G2 H2 (st.trans st2) sr2 r2⟩
theorem pt_ifE {ec ea eb : Expr} {pos : Pos} {tc ta tb : TT} (hc : PT X ec tc) (ha : PT X ea ta) (hb : PT X eb tb) : PT X (.IfExp ec ea eb pos) (fun σ H Q => tc σ H fun c H1 => if c = true then ta σ H1 Q else tb σ H1 Q) := by
  refine ⟨fun pins s σ H Q I h => ?_⟩
  show wpAny _ _ (do if ← isTrue ec X.env (eval ec X.env) then isTrue ea X.env (eval ea X.env) else isTrue eb X.env (eval eb X.env)) _ _ s
  refine wpAny_bind (thn (hc.run pins s σ H _ I h) fun c s1 ⟨H1, I1, q1⟩ => ?_)
  cases c with
  | true => exact ha.run pins s1 σ H1 Q I1 q1
  | false => exact hb.run pins s1 σ H1 Q I1 q1
theorem s_ite {ec ea eb : Expr} {pos : Pos} {c a b : Ex} (hc : Snd X pc Φ ec c) (ha : Snd X pc Φ ea a) (hb : Snd X pc Φ eb b) : Snd X pc Φ (.IfExp ec ea eb pos) (.ite c a b) := by
  refine ⟨(pe_ifExp hc.pt ha.pe hb.pe).imp fun σ H Q ⟨G, ρ, S, r, S', p, ev, k⟩ => ?_, (pt_ifE hc.pt ha.pt hb.pt).imp fun σ H Q ⟨G, ρ, S, r, S', t, p, ev, tr, k⟩ => ?_, fun _ _ _ => nofun, fun z => by cases z⟩
  · obtain ⟨p1, e1, ev⟩ := ibind ev
    obtain ⟨t1, e2, ev⟩ := ibind ev
    refine ⟨G, ρ, S, p1.1, p1.2, t1, p, e1, e2, fun G' H' st sr => ?_⟩
    cases t1 with
    | true =>
      rw [if_pos rfl] at ev ⊢
      exact ⟨G', ρ, p1.2, r, S', p.next st sr, ev, fun v2 G2 H2 st2 sr2 r2 => k v2 G2 H2 (st.trans st2) sr2 r2⟩
    | false =>
      rw [if_neg (by decide)] at ev ⊢
      exact ⟨G', ρ, p1.2, r, S', p.next st sr, ev, fun v2 G2 H2 st2 sr2 r2 => k v2 G2 H2 (st.trans st2) sr2 r2⟩
  · obtain ⟨p1, e1, ev⟩ := ibind ev
    obtain ⟨t1, e2, ev⟩ := ibind ev
    refine ⟨G, ρ, S, p1.1, p1.2, t1, p, e1, e2, fun G' H' st sr => ?_⟩
    cases t1 with
    | true =>
      rw [if_pos rfl] at ev ⊢
      exact ⟨G', ρ, p1.2, r, S', t, p.next st sr, ev, tr, fun G2 H2 st2 sr2 => k G2 H2 (st.trans st2) sr2⟩
    | false =>
      rw [if_neg (by decide)] at ev ⊢
      exact ⟨G', ρ, p1.2, r, S', t, p.next st sr, ev, tr, fun G2 H2 st2 sr2 => k G2 H2 (st.trans st2) sr2⟩
end
end Pyl

/-! Pyl10: displays, calls, items, slices, the source. -/
namespace Pyl
open PySem PySem.Spec PyProof.Rows L2

section
variable {X : Cx} {pc : PC} {Φ : Sem1} {T : List Fd} {sc : Scope}
theorem star_of {e : Expr} {es : List Expr} {env : Env} (h : plainE e = true) : starEach (e :: es) env = (false, eval e env) :: starEach es env := by
  cases e <;> first | rfl | cases h
theorem plains {es : List Expr} {env : Env} {pos : Pos} (h : es.all plainE = true) : (backTo pos (starEach es env)).any (·.1) = false := by
  induction es with
  | nil => rfl
  | cons e es ih =>
    rw [List.all_cons, Bool.and_eq_true] at h
    rw [star_of h.1]
    show (false || (backTo pos (starEach es env)).any (·.1)) = false
    rw [ih h.2]
    rfl
theorem plain_ix {e : Expr} (h : plainE e = true) : PlainIx e := by
  intro o i
  cases e <;> first | rfl | cases h

/-! ### lists of expressions -/
theorem es_nil : PA X [] (tIs X.K pc Φ .nil) := pa_nil.imp fun σ H Q ⟨G, ρ, S, r, S', p, ev, k⟩ => by
  cases ev
  exact k [] G H (EStep.refl p.sub) p.src .nil
theorem es_cons {e : Expr} {es : List Expr} {x : Ex} {xs : Exs} (pe : plainE e = true) (h : PE X e (tI X.K pc Φ x)) (t : PA X es (tIs X.K pc Φ xs)) : PA X (e :: es) (tIs X.K pc Φ (.cons false x xs)) :=
  (pa_cons h t (star_of pe)).imp fun σ H Q ⟨G, ρ, S, r, S', p, ev, k⟩ => by
    obtain ⟨p1, e1, ev⟩ := ibind ev
    obtain ⟨p2, e2, e3⟩ := imap ev
    cases e3
    exact ⟨G, ρ, S, p1.1, p1.2, p, e1, fun v G1 H1 st1 s1 r1 => ⟨G1, ρ, p1.2, p2.1, p2.2, p.next st1 s1, e2, fun vs G2 H2 st2 s2 r2 => k _ G2 H2 (st1.trans st2) s2 (.cons (r1.mono st2.le) r2)⟩⟩
theorem es_star {e : Expr} {es : List Expr} {pos : Pos} {x : Ex} {xs : Exs} (h : PE X e (tI X.K pc Φ x)) (t : PA X es (tIs X.K pc Φ xs)) : PA X (.Starred e pos :: es) (tIs X.K pc Φ (.cons true x xs)) :=
  (_root_.StX.pa_star h t).imp fun σ H Q ⟨G, ρ, S, r, S', p, ev, k⟩ => by
    obtain ⟨p1, e1, ev⟩ := ibind ev
    obtain ⟨ys, e0, ev⟩ := ibind ev
    obtain ⟨p2, e2, e3⟩ := imap ev
    cases e3
    refine ⟨G, ρ, S, p1.1, p1.2, p, e1, fun v G1 H1 st1 s1 r1 => ?_⟩
    have go : ∀ vs, RelAll X.K G1 vs ys → tIs X.K pc Φ xs σ H1 fun ws H2 => Q (vs ++ ws) H2 := fun vs rv => ⟨G1, ρ, p1.2, p2.1, p2.2, p.next st1 s1, e2, fun ws G2 H2 st2 s2 r2 => k _ G2 H2 (st1.trans st2) s2 ((rv.mono st2.le).append r2)⟩
    cases q : p1.1 with
    | list zs =>
      rw [q] at r1 e0
      cases e0
      cases r1 with
      | lst ea la ra => exact ⟨_, _, rfl, .inr (.inl (.inl (st1.ok.ex ea rfl))), go _ ra⟩
    | tuple zs =>
      rw [q] at r1 e0
      cases e0
      cases r1 with
      | tup ea la ra => exact ⟨_, _, rfl, .inl (.inl (.inl (st1.ok.ex ea rfl))), go _ ra⟩
    | _ => rw [q] at e0; cases e0
theorem as_nil : PA X [] (tAs X.K pc Φ .nil) := pa_nil.imp fun σ H Q ⟨G, ρ, S, r, S', p, ev, k⟩ => by
  cases ev
  exact k [] G H (EStep.refl p.sub) p.src .nil
theorem evAs_case (b : Bool) (x : Ex) (xs : Exs) (ρ : List Vw) (S : Src) (r : List Vw) (S' : Src) (h : evAs Φ (.cons b x xs) ρ S = some (r, S')) :
    (∃ d S1 r', evE Φ x ρ S = some (d, S1) ∧ evAs Φ xs ρ S1 = some (r', S') ∧ r = .d d :: r') ∨ (∃ i r', x = .vr i ∧ ρ[i]? = some .src ∧ evAs Φ xs ρ S = some (r', S') ∧ r = .src :: r') := by
  have gen : ∀ (y : Ex), ((evE Φ y ρ S).bind fun p => (evAs Φ xs ρ p.2).map fun q => (Vw.d p.1 :: q.1, q.2)) = some (r, S') → ∃ d S1 r', evE Φ y ρ S = some (d, S1) ∧ evAs Φ xs ρ S1 = some (r', S') ∧ r = .d d :: r' := fun y h => by
    obtain ⟨p1, e1, h⟩ := ibind h
    obtain ⟨p2, e2, e3⟩ := imap h
    cases e3
    exact ⟨p1.1, p1.2, p2.1, e1, e2, rfl⟩
  cases x with
  | vr i =>
    simp only [evAs] at h
    split at h
    · rename_i y q
      obtain ⟨p2, e2, e3⟩ := imap h
      cases e3
      exact .inl ⟨y, S, p2.1, by simp only [evE, q, vwD, Option.map_some], e2, rfl⟩
    · rename_i q
      obtain ⟨p2, e2, e3⟩ := imap h
      cases e3
      exact .inr ⟨i, p2.1, rfl, q, e2, rfl⟩
    · cases h
  | _ => exact .inl (gen _ h)
/-- the name of the source, handed on as it is -/
def tSrc (K : PySem.W.Frag) (pc : PC) (x : Ex) : TE := fun σ H Q => ∃ (ρ : List Vw) (G : Hp) (i : Nat), VwOk K pc G ρ σ ∧ x = .vr i ∧ ρ[i]? = some .src ∧ ∀ p c, pc = some (p, c) → Q (.ref p) H
theorem as_cons {e : Expr} {es : List Expr} {b : Bool} {x : Ex} {xs : Exs} (pe : plainE e = true) (h : PE X e (tI X.K pc Φ x)) (h' : PE X e (tSrc X.K pc x)) (t : PA X es (tAs X.K pc Φ xs)) : PA X (e :: es) (tAs X.K pc Φ (.cons b x xs)) := by
  have one : PE X e (fun σ H Q => tI X.K pc Φ x σ H Q ∨ tSrc X.K pc x σ H Q) := ⟨fun pins s σ H Q I q => q.elim (h.run pins s σ H Q I) (h'.run pins s σ H Q I)⟩
  refine (pa_cons one t (star_of pe)).imp fun σ H Q ⟨G, ρ, S, r, S', p, ev, k⟩ => ?_
  rcases evAs_case b x xs ρ S r S' ev with ⟨d, S1, r', e1, e2, rfl⟩ | ⟨i, r', rfl, e1, e2, rfl⟩
  · exact .inl ⟨G, ρ, S, d, S1, p, e1, fun v G1 H1 st1 s1 r1 => ⟨G1, ρ, S1, r', S', p.next st1 s1, e2, fun vs G2 H2 st2 s2 r2 => k _ G2 H2 (st1.trans st2) s2 (.cons (r1.mono st2.le) r2)⟩⟩
  · exact .inr ⟨ρ, G, i, p.vw, rfl, e1, fun q c hq => ⟨G, ρ, S, r', S', p, e2, fun vs G2 H2 st2 s2 r2 => k _ G2 H2 st2 s2 (.cons ⟨q, c, hq, rfl⟩ r2)⟩⟩
theorem src_no {e : Expr} {x : Ex} (h : ∀ i, x ≠ .vr i) : PE X e (tSrc X.K pc x) := ⟨fun pins s σ H Q I ⟨_, _, i, _, q, _⟩ => absurd q (h i)⟩
theorem src_vr {x : Str} {pos : Pos} {i : Nat} (ok : XOk X T Φ sc) (h : slotB X.N sc x i = true) : PE X (.Name x pos) (tSrc X.K pc (.vr i)) := by
  unfold slotB at h
  simp only [Bool.and_eq_true] at h
  obtain ⟨⟨h1, h2⟩, h3⟩ := h
  obtain ⟨d1, d2⟩ := nm_of h3
  refine (pe_var (by simpa using h1) (ok.ag.vis h2) d1 d2).imp fun σ H Q ⟨ρ, G, j, vw, e, e2, k⟩ => ?_
  cases e
  obtain ⟨p, c, q1, q2⟩ := vw i .src e2
  exact ⟨_, q2, k p c q1⟩
theorem ts_nil : PTs X [] (tTs X.K pc Φ .nil) := pts_nil.imp fun σ H Q ⟨G, ρ, S, t, S', p, ev, k⟩ => by
  cases ev
  exact k G H (EStep.refl p.sub) p.src

/-! ### displays -/
theorem s_tup {es : List Expr} {k0 : Nat} {pos : Pos} {xs : Exs} (h : PA X es (tIs X.K pc Φ xs)) : Snd X pc Φ (.Tuple es k0 pos) (.tup xs) := by
  refine snd_plain ((pe_tup h).imp fun σ H Q ⟨G, ρ, S, r, S', p, ev, k⟩ => ?_) (fun _ => rfl) (fun _ _ _ => nofun) (fun z => by cases z)
  obtain ⟨p1, e1, ev⟩ := ibind ev
  split at ev
  · rename_i hl
    cases ev
    refine ⟨G, ρ, S, p1.1, p1.2, p, e1, fun vs G' H' st sr rl => ?_⟩
    have l := okLen_le hl
    rw [← rl.length] at l
    exact ⟨l, fun q n => (kt_of st sr k).new st.ok n (Rel.newT st.ok n l rl)⟩
  · cases ev
theorem s_lst {es : List Expr} {pos : Pos} {xs : Exs} (h : PA X es (tIs X.K pc Φ xs)) : Snd X pc Φ (.List es pos) (.lst xs) := by
  have fr : PE X (.List es pos) (tF X.K pc Φ (.lst xs)) := (pe_lst h).imp fun σ H Q ⟨G, ρ, S, r, S', p, ev, io, k⟩ => by
    obtain ⟨p1, e1, ev⟩ := ibind ev
    split at ev
    · rename_i hl
      cases ev
      refine ⟨G, ρ, S, p1.1, p1.2, p, e1, fun vs G' H' st sr rl => ?_⟩
      have l := okLen_le hl
      rw [← rl.length] at l
      exact ⟨l, fun q n => (kf_of st sr k).new st.ok n (.lst l rl)⟩
    · cases ev
  refine snd_plain (fresh_i fr fun ρ S r S' ev => ?_) (fun _ => rfl) (fun _ _ _ => nofun) (fun _ => fr)
  obtain ⟨p1, e1, ev⟩ := ibind ev
  split at ev
  · cases ev; rfl
  · cases ev
theorem s_dsp {pos : Pos} {vs : Exs} : Snd X pc Φ (.Dict [] [] pos) (.dsp .nil vs) := by
  have fr : PE X (.Dict [] [] pos) (tF X.K pc Φ (.dsp .nil vs)) := pe_dnewK.imp fun σ H Q ⟨G, ρ, S, r, S', p, ev, io, k⟩ => by
    cases ev
    exact fun q n => (kf_of (EStep.refl p.sub) p.src k).new p.sub n (.dk (Nat.zero_le _) .nil)
  exact snd_plain (fresh_i fr fun ρ S r S' ev => by cases ev; rfl) (fun _ => rfl) (fun _ _ _ => nofun) (fun _ => fr)

/-! ### calls -/
theorem boot_bi : ∀ b : Bi, bootBuiltins b.nm = some b.val
  | .len => by decide +kernel
  | .tuple => by decide +kernel
  | .list => by decide +kernel
  | .sorted => by decide +kernel
  | .sum => by decide +kernel
  | .min => by decide +kernel
  | .max => by decide +kernel
  | .any => by decide +kernel
  | .all => by decide +kernel
  | .int => by decide +kernel
  | .abs => by decide +kernel
  | .repr => by decide +kernel
  | .str => by decide +kernel
  | .dict => by decide +kernel
  | .bool => by decide +kernel
theorem bi_mem (b : Bi) : b.nm ∈ bltNames := by cases b <;> decide +kernel
theorem bi_names (b : Bi) : b.nm ≠ "__name__" ∧ (b.nm == ("__debug__" : Str)) = false := by cases b <;> decide +kernel
/-- b(e, ..) by values -/
theorem pe_bi {b : Bi} {r : List V → Hp → VK → Prop} {e : Expr} {es : List Expr} {p pos : Pos} {t : TA} (ok : XOk X T Φ sc) (hg : gloB sc b.nm = true) (pl : (e :: es).all plainE = true) (hc : CallR X b.val r) (ha : PA X (e :: es) t) : PE X (.Call (.Name b.nm p) (e :: es) [] pos) (tCB r t) := by
  have hm := ok.blt _ (bi_mem b)
  have hv := boot_bi b
  obtain ⟨n1, n2⟩ := bi_names b
  rw [List.all_cons, Bool.and_eq_true] at pl
  have g : Gl X b.nm := ok.ag.glo hg
  have hs : starEach (e :: es) X.env = (false, eval e X.env) :: starEach es X.env := star_of pl.1
  have hp : (backTo pos (starEach es X.env)).any (·.1) = false := plains pl.2
  cases b <;> first
    | exact pe_callB hc g hm hv ha n1 n2 hs hp
    | exact pe_callTy hc g hm hv ha n1 n2 hs hp
theorem s_bi {b : Bi} {e : Expr} {es : List Expr} {p pos : Pos} {xs : Exs} (ok : XOk X T Φ sc) (hg : gloB sc b.nm = true) (pl : (e :: es).all plainE = true) (h : PA X (e :: es) (tIs X.K pc Φ xs)) : Snd X pc Φ (.Call (.Name b.nm p) (e :: es) [] pos) (.bi b xs) := by
  have hu := ok.hu
  refine snd_plain ((pe_bi ok hg pl (bi_all_of (pc := pc) ok.calm (by omega) ok.gd b) h).imp fun σ H Q ⟨G, ρ, S, r, S', p, ev, k⟩ => ?_) (fun _ => rfl) (fun _ _ _ => nofun) (fun z => ?_)
  · obtain ⟨p1, e1, ev⟩ := ibind ev
    obtain ⟨r', e2, e3⟩ := imap ev
    cases e3
    exact ⟨G, ρ, S, p1.1, p1.2, p, e1, fun vs G' H' st sr rl => ⟨G', _, _, st.ok, rl, e2, kt_of st sr k⟩⟩
  · have fr : CallR X b.val (relN WF X.K pc (biD b)) → PE X (.Call (.Name b.nm p) (e :: es) [] pos) (tF X.K pc Φ (.bi b xs)) := fun hc =>
      (pe_bi ok hg pl hc h).imp fun σ H Q ⟨G, ρ, S, r, S', p, ev, io, k⟩ => by
        obtain ⟨p1, e1, ev⟩ := ibind ev
        obtain ⟨r', e2, e3⟩ := imap ev
        cases e3
        exact ⟨G, ρ, S, p1.1, p1.2, p, e1, fun vs G' H' st sr rl => ⟨G', _, _, st.ok, rl, e2, io, kf_of st sr k⟩⟩
    cases b with
    | list => exact fr (bif_list ok.calm)
    | sorted => exact fr (bif_sorted ok.calm (by omega))
    | _ => cases z
/-- f(e, ..) of a def told -/
theorem s_call {x : Str} {e : Expr} {es : List Expr} {p pos : Pos} {xs : Exs} {f : Nat} (ok : XOk X T Φ sc) (hf : (T.map Fd.name)[f]? = some x) (hg : gloB sc x = true) (hn : nameOk x = true) (pl : (e :: es).all plainE = true) (h : PA X (e :: es) (tAs X.K pc Φ xs)) :
    Snd X pc Φ (.Call (.Name x p) (e :: es) [] pos) (.call f xs) := by
  obtain ⟨fd, hfd, hx⟩ : ∃ fd, T[f]? = some fd ∧ fd.name = x := by
    rw [List.getElem?_map] at hf
    exact Option.map_eq_some_iff.mp hf
  obtain ⟨a, fdt, ps, k, g1, g2, g3, g4, F⟩ := ok.fns f fd hfd
  rw [hx] at g1
  rw [List.all_cons, Bool.and_eq_true] at pl
  have core : PE X (.Call (.Name x p) (e :: es) [] pos) (tI X.K pc Φ (.call f xs)) := by
    constructor
    intro pins s σ H Q I ⟨G, ρ, S, r, S', pr, ev, kk⟩
    obtain ⟨p1, e1, ev⟩ := ibind ev
    refine wpAny_Call_Name_kw (ld_glob I (ok.ag.glo hg) g1 (PySem.W.callWith_K (h₀ := X.base) I.ok.mod.kin g2 (thn (h.run pos pins s σ H
      (fun vs H1 => spF X.K Φ f fd.np vs H1 Q fun _ _ _ => False) I ⟨G, ρ, S, p1.1, p1.2, pr, e1, fun vs G' H' st sr rl => ?_⟩) fun us s1 ⟨vs, H1, I1, r1, q1⟩ => ⟨I1.kIn, ?_⟩) (star_of pl.1) (plains pl.2)) (nm_of hn).1)
    · exact ⟨by rw [rl.length]; exact ok.arity f fd _ _ _ hfd ev, pc, G', p1.1, p1.2, r, S', st.ok, sr, fun b z => (pr.next st sr).npc b z, rl, ev, fun v G2 H2 st2 sr2 rl2 => kk v G2 H2 (st.trans st2) sr2 rl2⟩
    · have hl : (us ++ []).length = ps.length := by rw [List.append_nil, ← r1.length]; exact F.len _ _ _ _ q1
      have hb := g3 s1 us I1.kIn hl
      rw [List.append_nil] at hb
      refine wpAny_call (codeAny_mono (F.run X.A X.stack s1 H1 ⟨us, []⟩ us vs Q _ ok.gd g4 I1.env0 hb r1 q1) fun res s' hq => ?_)
      cases res with
      | error e => exact hq.elim
      | ok fl =>
        cases fl with
        | ret u => exact I1.after hq
        | _ => exact hq.elim
  exact snd_plain core (fun _ => rfl) (fun _ _ _ => nofun) (fun z => by cases z)

/-! ### items, slices -/
theorem rel_at {K : PySem.W.Frag} {G : Hp} {vs : List V} {ds : List PyData} {i : Int} {d : PyData} (h : RelAll K G vs ds) (e : atD ds i = some d) : ∃ v, L2.atI vs i = some v ∧ Rel K G v d := by
  unfold atD at e
  unfold L2.atI at e ⊢
  rw [h.length]
  obtain ⟨j, e1, e2⟩ := ibind e
  obtain ⟨v, h1, h2⟩ := h.get e2
  exact ⟨v, by rw [e1]; exact h1, h2⟩
theorem ask_some {H : Hp} {a : Addr} {y v : V} (h : DAsk H a y (some v)) : DGet H a y (some v) := by
  rcases h with h | ⟨h, _⟩
  · exact h
  · cases h
theorem s_ix {ea ei : Expr} {pos : Pos} {a i : Ex} (ok : XOk X T Φ sc) (pi : plainE ei = true) (ha : Snd X pc Φ ea a) (hi : Snd X pc Φ ei i) : Snd X pc Φ (.Subscript ea ei pos) (.ix a i) := by
  have hu := ok.hu
  have nos : NoSl ei := by first | exact plain_ix pi | (intro o i; exact plain_ix pi o i)
  have one : PE X (.Subscript ea ei pos) (fun σ H Q => tOp (fun x y H Q => rIxL X.K x y H Q ∨ rIxT X.K x y H Q) (tI X.K pc Φ a) (tI X.K pc Φ i) σ H Q ∨ tDGet (tI X.K pc Φ a) (tI X.K pc Φ i) σ H Q) :=
    ⟨fun pins s σ H Q I q => q.elim ((pe_ix (IxR.or ix_list ix_tup) ha.pe hi.pe (plain_ix pi)).run pins s σ H Q I) ((pe_dget (by omega) ha.pe hi.pe nos).run pins s σ H Q I)⟩
  refine snd_plain (one.imp fun σ H Q ⟨G, ρ, S, r, S', p, ev, k⟩ => ?_) (fun _ => rfl) (fun _ _ _ => nofun) (fun z => by cases z)
  obtain ⟨p1, e1, ev⟩ := ibind ev
  obtain ⟨p2, e2, ev⟩ := ibind ev
  obtain ⟨r', e3, e4⟩ := imap ev
  cases e4
  cases q1 : p1.1 with
  | list ds =>
    rw [q1] at e3
    cases q2 : p2.1 with
    | int j =>
      rw [q2] at e3
      refine .inl (two p e1 e2 fun v w G' H' st sr r1 r2 => ?_)
      rw [q1] at r1
      rw [q2] at r2
      cases r1 with
      | lst ea la ra =>
        cases r2
        obtain ⟨v, h1, h2⟩ := rel_at ra e3
        exact .inl ⟨_, _, j, v, rfl, rfl, .inl (.inl (st.ok.ex ea rfl)), h1, k v G' H' st sr h2⟩
    | _ => rw [q2] at e3; cases e3
  | tuple ds =>
    rw [q1] at e3
    cases q2 : p2.1 with
    | int j =>
      rw [q2] at e3
      refine .inl (two p e1 e2 fun v w G' H' st sr r1 r2 => ?_)
      rw [q1] at r1
      rw [q2] at r2
      cases r1 with
      | tup ea la ra =>
        cases r2
        obtain ⟨v, h1, h2⟩ := rel_at ra e3
        exact .inr ⟨_, _, j, v, rfl, rfl, .inl (.inl (st.ok.ex ea rfl)), h1, k v G' H' st sr h2⟩
    | _ => rw [q2] at e3; cases e3
  | dict kvs =>
    rw [q1] at e3
    simp only [ixD] at e3
    split at e3
    · rename_i ok'
      refine .inr (two p e1 e2 fun v w G' H' st sr r1 r2 => ?_)
      rw [q1] at r1
      have dref : ∃ a, v = .ref a := by cases r1 <;> exact ⟨_, rfl⟩
      obtain ⟨b, rfl⟩ := dref
      obtain ⟨o, g1, _, g3, _⟩ := ask_of st.ok r1 r2 ok'
      obtain ⟨x, rfl, rx⟩ := g3 _ e3
      exact ⟨b, x, rfl, ask_some g1, k x G' H' st sr rx⟩
    · cases e3
  | _ => rw [q1] at e3; cases e3
/-- a part of a slice -/
def tO (K : PySem.W.Frag) (pc : PC) (Φ : Sem1) (x : Exs) : TO := fun σ H Q => ∃ (G : Hp) (ρ : List Vw) (S : Src) (r : List PyData) (S' : Src) (o : Option Int), Pre K pc G H S ρ σ ∧ evEs Φ x ρ S = some (r, S') ∧ oneInt (some r) = some o ∧
  ∀ G' H', EStep pc G H G' H' → SrcOk pc H' S' → Q o H'
theorem _root_.L2.PO.imp {X : Cx} {e : Option Expr} {t t' : TO} (h : PO X e t) (i : ∀ σ H Q, t' σ H Q → t σ H Q) : PO X e t' := ⟨fun pins s σ H Q I q => h.run pins s σ H Q I (i σ H Q q)⟩
theorem o_none : PO X none (tO X.K pc Φ .nil) := po_none.imp fun σ H Q ⟨G, ρ, S, r, S', o, p, ev, oe, k⟩ => by
  cases ev
  cases oe
  exact k G H (EStep.refl p.sub) p.src
theorem o_some {e : Expr} {b : Bool} {x : Ex} (h : PE X e (tI X.K pc Φ x)) (hb : b = false) : PO X (some e) (tO X.K pc Φ (.cons b x .nil)) := (po_some h).imp fun σ H Q ⟨G, ρ, S, r, S', o, p, ev, oe, k⟩ => by
  subst hb
  obtain ⟨p1, e1, ev⟩ := ibind ev
  obtain ⟨p2, e2, e3⟩ := imap ev
  cases e2
  cases e3
  refine ⟨G, ρ, S, p1.1, p1.2, p, e1, fun v G' H' st sr rl => ?_⟩
  cases q : p1.1 with
  | int i =>
    rw [q] at oe rl
    cases oe
    cases rl
    exact ⟨i, rfl, k G' H' st sr⟩
  | _ => rw [q] at oe; cases oe
theorem cut_rel {K : PySem.W.Frag} {G : Hp} {vs : List V} {ds : List PyData} (h : RelAll K G vs ds) (lo hi : Option Int) : RelAll K G (cutV vs lo hi) (cutD ds lo hi) := by
  unfold cutV cutD
  rw [h.length]
  exact (h.drop _).take _
theorem cut_len {vs : List V} {lo hi : Option Int} (h : vs.length ≤ sizeLine) : (cutV vs lo hi).length ≤ sizeLine := Nat.le_trans (cutV_length vs lo hi) h
theorem cut_all {ds : List PyData} {lo hi : Option Int} (h : HT.sIx ds.length 0 lo = 0 ∧ HT.sIx ds.length ds.length hi = ds.length) : cutD ds lo hi = ds := by
  unfold cutD
  rw [h.1, h.2, List.drop_zero, Nat.sub_zero, List.take_length]
theorem s_sl {ea : Expr} {lo hi : Option Expr} {p2 pos : Pos} {a : Ex} {l h : Exs} (ok : XOk X T Φ sc) (ha : Snd X pc Φ ea a) (hl : PO X lo (tO X.K pc Φ l)) (hh : PO X hi (tO X.K pc Φ h)) : Snd X pc Φ (.Subscript ea (.Slice lo hi none p2) pos) (.sl a l h) := by
  have core : ∀ σ H Q G ρ S r S', Pre X.K pc G H S ρ σ → evE Φ (.sl a l h) ρ S = some (r, S') → (∀ x lo hi G' H' ds, EStep pc G H G' H' → SrcOk pc H' S' → Rel X.K G' x ds → slD ds lo hi = some r → (rSlL X.K x lo hi H' Q ∨ rSlA X.K x lo hi H' Q)) →
      tSl (fun x lo hi H Q => rSlL X.K x lo hi H Q ∨ rSlA X.K x lo hi H Q) (tI X.K pc Φ a) (tO X.K pc Φ l) (tO X.K pc Φ h) σ H Q := fun σ H Q G ρ S r S' p ev k => by
    obtain ⟨p1, e1, ev⟩ := ibind ev
    obtain ⟨p2, e2, ev⟩ := ibind ev
    obtain ⟨p3, e3, ev⟩ := ibind ev
    obtain ⟨lo, e4, ev⟩ := ibind ev
    obtain ⟨hi, e5, ev⟩ := ibind ev
    obtain ⟨r', e6, e7⟩ := imap ev
    cases e7
    exact ⟨G, ρ, S, p1.1, p1.2, p, e1, fun v G1 H1 st1 s1 r1 => ⟨G1, ρ, p1.2, p2.1, p2.2, lo, p.next st1 s1, e2, e4, fun G2 H2 st2 s2 => ⟨G2, ρ, p2.2, p3.1, p3.2, hi, (p.next st1 s1).next st2 s2, e3, e5, fun G3 H3 st3 s3 =>
      k v lo hi G3 H3 _ ((st1.trans st2).trans st3) s3 ((r1.mono st2.le).mono st3.le) e6⟩⟩⟩
  have fr : PE X (.Subscript ea (.Slice lo hi none p2) pos) (tF X.K pc Φ (.sl a l h)) := (pe_slice (SlR.or sl_list sl_tupA) ha.pe hl hh).imp fun σ H Q ⟨G, ρ, S, r, S', p, ev, io, k⟩ => core σ H Q G ρ S r S' p ev fun x lo hi G' H' ds st sr rl sd => by
    cases rl with
    | lst ea la ra =>
      cases sd
      exact .inl ⟨_, _, rfl, .inl (.inl (st.ok.ex ea rfl)), fun q n => (kf_of st sr k).new st.ok n (.lst (cut_len la) (cut_rel ra lo hi))⟩
    | tup ea la ra => cases sd; cases io
    | _ => cases sd
  refine snd_plain ((pe_slice (SlR.or sl_list sl_tupA) ha.pe hl hh).imp fun σ H Q ⟨G, ρ, S, r, S', p, ev, k⟩ => core σ H Q G ρ S r S' p ev fun x lo hi G' H' ds st sr rl sd => ?_) (fun _ => rfl) (fun _ _ _ => nofun) (fun _ => fr)
  cases rl with
  | lst ea la ra =>
    cases sd
    exact .inl ⟨_, _, rfl, .inl (.inl (st.ok.ex ea rfl)), fun q n => (kt_of st sr k).new st.ok n (Rel.newL st.ok n (cut_len la) (cut_rel ra lo hi))⟩
  | tup ea la ra =>
    cases sd
    refine .inr ⟨_, _, rfl, .inl (.inl (st.ok.ex ea rfl)), fun z => ?_, fun _ q n => (kt_of st sr k).new st.ok n (Rel.newT st.ok n (cut_len la) (cut_rel ra lo hi))⟩
    rw [ra.length] at z
    rw [cut_all z] at k
    exact k _ G' H' st sr (.tup ea la ra)
  | _ => cases sd
theorem s_rv {ea : Expr} {k0 : Nat} {p1 p2 p3 pos : Pos} {a : Ex} (ha : Snd X pc Φ ea a) : Snd X pc Φ (.Subscript ea (.Slice none none (some (.UnaryOp .USub (.Constant (.int 1) k0 p1) p2)) p3) pos) (.rv a) := by
  have fr : PE X (.Subscript ea (.Slice none none (some (.UnaryOp .USub (.Constant (.int 1) k0 p1) p2)) p3) pos) (tF X.K pc Φ (.rv a)) := (pe_revL ha.pe).imp fun σ H Q ⟨G, ρ, S, r, S', p, ev, io, k⟩ => by
    obtain ⟨q1, e1, ev⟩ := ibind ev
    refine ⟨G, ρ, S, q1.1, q1.2, p, e1, fun v G' H' st sr rl => ?_⟩
    split at ev
    · rename_i xs q
      cases ev
      rw [q] at rl
      cases rl with
      | lst ea la ra => exact ⟨_, _, rfl, .inl (.inl (st.ok.ex ea rfl)), fun q n => (kf_of st sr k).new st.ok n (.lst (by rw [List.length_reverse]; exact la) ra.reverse)⟩
    · cases ev
  refine snd_plain (fresh_i fr fun ρ S r S' ev => ?_) (fun _ => rfl) (fun _ _ _ => nofun) (fun _ => fr)
  obtain ⟨q1, e1, ev⟩ := ibind ev
  split at ev
  · cases ev; rfl
  · cases ev

/-! ### the source -/
theorem src_upd {G H : Hp} {S : Src} {p c : Addr} (n : ∀ a, isPc (some (p, c)) a → G a = none) (sb : Sub G H) (sr : SrcOk (some (p, c)) H S) {q : Addr} (hq : q = p ∨ q = c) (u : HO) : EStep (some (p, c)) G H G (L2.upd H q u) := by
  have g : G q = none := n q hq
  refine ⟨Le.refl G, fun a w e => ?_, fun a _ z => upd_ne fun e => z (e ▸ hq), fun a z => ?_, fun a w e => .inl (by rw [e]; simp)⟩
  · by_cases z : a = q
    · rw [z, g] at e; cases e
    · rw [upd_ne z]; exact sb a w e
  · by_cases y : a = q
    · rw [y, upd_same]; simp
    · rw [upd_ne y]; exact z
theorem fld_val (S : Src) (c : Addr) (f : Fld) : valV [((.inr "cells" : Key), V.ref c), (.inr "left", .int S.left), (.inr "mixed", .int S.mixed), (.inr "turn", .int S.turn)] (.inr f.nm) = some (.int (match f with | .left => S.left | .mixed => S.mixed | .turn => S.turn)) := by
  cases f <;> rfl
theorem s_sget {x : Str} {px p2 pos : Pos} {k0 : Nat} {j : Nat} {f : Fld} (ok : XOk X T Φ sc) (h : slotB X.N sc x j = true) : Snd X pc Φ (.Subscript (.Name x px) (.Constant (.str f.nm) k0 p2) pos) (.sget j f) := by
  have hu := ok.hu
  have sv := src_vr (pc := pc) (pos := px) ok h
  refine snd_plain ((pe_dget (by omega) sv (pe_str (x := f.nm) (j := k0) (pos := p2)) (fun _ _ => rfl)).imp fun σ H Q ⟨G, ρ, S, r, S', p, ev, k⟩ => ?_) (fun _ => rfl) (fun _ _ _ => nofun) (fun z => by cases z)
  simp only [evE] at ev
  split at ev
  · rename_i q
    cases ev
    have hv : ρ[j]? = some .src := by
      cases e : ρ[j]? with
      | none => rw [e] at q; cases q
      | some w => rw [e] at q; cases w <;> first | rfl | cases q
    refine ⟨ρ, G, j, p.vw, rfl, hv, fun q c e => ?_⟩
    subst e
    obtain ⟨_, h1, _⟩ := p.src
    have g := DGet.k (k := .inr f.nm) h1
    rw [fld_val] at g
    exact ⟨q, _, rfl, g, k _ G H (EStep.refl p.sub) p.src (.int _)⟩
  · cases ev
end
end Pyl

/-! Pyl11: what is walked; comprehensions. -/
namespace Pyl
open PySem PySem.Spec PyProof.Rows L2

section
variable {X : Cx} {pc : PC} {Φ : Sem1} {T : List Fd} {sc : Scope}
/-! ### the source's cells -/
def tCe (K : PySem.W.Frag) (pc : PC) (j : Nat) (b : Bool) : TE := fun σ H Q => ∃ (ρ : List Vw) (G : Hp) (S : Src), Pre K pc G H S ρ σ ∧ cOk ρ j b = true ∧ ∀ p c, pc = some (p, c) → Q (.ref c) H
theorem isSrc_of {w : Option Vw} (h : isSrc w = true) : w = some .src := by
  cases w with
  | none => cases h
  | some w => cases w <;> first | rfl | cases h
theorem isCel_of {w : Option Vw} (h : isCel w = true) : w = some .cel := by
  cases w with
  | none => cases h
  | some w => cases w <;> first | rfl | cases h
theorem cells_ok {o : Expr} {j : Nat} {b : Bool} (ok : XOk X T Φ sc) (h : chkE.chkC X.N sc o j b = true) : PE X o (tCe X.K pc j b) ∧ plainE o = true ∧ ∀ n, attributeBase o n X.env (eval o X.env) = eval o X.env := by
  have hu := ok.hu
  unfold chkE.chkC at h
  split at h
  · rename_i x px
    unfold slotB at h
    simp only [Bool.and_eq_true] at h
    obtain ⟨⟨h1, h2⟩, h3⟩ := h
    obtain ⟨d1, d2⟩ := nm_of h3
    refine ⟨(pe_var (by simpa using h1) (ok.ag.vis h2) d1 d2).imp fun σ H Q ⟨ρ, G, S, p, e, k⟩ => ?_, rfl, fun _ => rfl⟩
    have e : isCel ρ[j]? = true := e
    obtain ⟨q, c, q1, q2⟩ := p.vw _ .cel (isCel_of e)
    exact ⟨_, q2, k q c q1⟩
  · rename_i x px k0 kk p2 pos
    rw [Bool.and_eq_true] at h
    have := eq_of_beq h.2
    subst this
    have sv := src_vr (pc := pc) (pos := px) ok h.1
    refine ⟨(pe_dget (by omega) sv (pe_str (x := ("cells" : Str)) (j := kk) (pos := p2)) (fun _ _ => rfl)).imp fun σ H Q ⟨ρ, G, S, p, e, k⟩ => ?_, rfl, fun _ => rfl⟩
    have e : isSrc ρ[j]? = true := e
    refine ⟨ρ, G, _, p.vw, rfl, isSrc_of e, fun q c ee => ?_⟩
    subst ee
    obtain ⟨_, h1, _⟩ := p.src
    exact ⟨q, .ref c, rfl, DGet.k (k := .inr ("cells" : Str)) h1, k q c rfl⟩
  · cases h
theorem s_slen {o : Expr} {p0 pos : Pos} {j : Nat} {b : Bool} (ok : XOk X T Φ sc) (hg : gloB sc ("len" : Str) = true) (h : chkE.chkC X.N sc o j b = true) : Snd X pc Φ (.Call (.Name "len" p0) [o] [] pos) (.slen j b) := by
  obtain ⟨ho, hp, _⟩ := cells_ok (pc := pc) ok h
  refine snd_plain ((pe_callB call_len_seq (ok.ag.glo hg) (ok.blt _ (by decide +kernel)) boot_len (pa_cons ho pa_nil (star_of hp)) (by decide +kernel) (by decide +kernel) (star_of hp) rfl).imp fun σ H Q ⟨G, ρ, S, r, S', p, ev, k⟩ => ?_) (fun _ => rfl) (fun _ _ _ => nofun) (fun z => by cases z)
  simp only [evE] at ev
  split at ev
  · rename_i q
    cases ev
    refine ⟨ρ, G, _, p, q, fun a c e => ?_⟩
    subst e
    obtain ⟨_, _, h2⟩ := p.src
    refine ⟨c, _, rfl, .inl (.inl (.inl h2)), ?_⟩
    rw [List.length_map]
    exact k _ G H (EStep.refl p.sub) p.src (.int _)
  · cases ev
theorem last_map (l : List Int) {c : Int} (h : l.getLast? = some c) : (l.map V.int)[(l.map V.int).length - 1]? = some (.int c) := by
  rw [List.getLast?_eq_getElem?] at h
  rw [List.getElem?_map, List.length_map, h]
  rfl
theorem s_spop {o : Expr} {ap cp : Pos} {j : Nat} {b : Bool} (ok : XOk X T Φ sc) (hl : (ap.endLine == cp.line) = true) (h : chkE.chkC X.N sc o j b = true) : Snd X pc Φ (.Call (.Attribute o "pop" ap) [] [] cp) (.spop j b) := by
  obtain ⟨ho, hp, hb⟩ := cells_ok (pc := pc) ok h
  refine snd_plain ((pe_bm0 PySem.F.plainAttrs_list PySem.F.slot_list_pop PySem.F.type_list_pop mt_pop ho (hb _) hl).imp fun σ H Q ⟨G, ρ, S, r, S', p, ev, k⟩ => ?_) (fun _ => rfl) (fun _ _ _ => nofun) (fun z => by cases z)
  simp only [evE] at ev
  split at ev
  · rename_i q
    obtain ⟨d, e1, e2⟩ := imap ev
    cases e2
    refine ⟨ρ, G, _, p, q, fun a c e => ?_⟩
    subst e
    obtain ⟨h0, h1, h2⟩ := p.src
    refine ⟨.inl ⟨rfl, _, .inl (.inl h2)⟩, c, _, .int d, rfl, rfl, h2, last_map _ e1, ?_⟩
    refine k _ G _ (src_upd p.npc p.sub p.src (.inr rfl) _) ⟨h0, ?_, ?_⟩ (.int _)
    · rw [upd_ne h0]; exact h1
    · rw [upd_same, List.dropLast_eq_take, List.dropLast_eq_take, List.length_map, List.map_take]
  · cases ev

/-! ### ghosts: a dict is locked, or let go again -/
def Nf (H0 : Hp) (d : Addr) : Prop := ∀ o u, H0 d ≠ some (.frz o u)
theorem mu_of {u : HO} (h : isDct u = true) : Mut (some u) := by cases u <;> first | trivial | cases h
theorem pe_gl {e : Expr} {t : TE} (h : PE X e t) : PE X e (fun σ H Q => t σ H fun x H1 => Q x H1 ∨ ∃ d u, H1 d = some u ∧ isDct u = true ∧ ∀ od, Nf X.H_0 d → Q x (L2.upd H1 d (.frz od u))) := by
  constructor
  intro pins s σ H Q I hw
  refine thn (h.run pins s σ H _ I hw) fun v s1 ⟨x, H1, I1, r1, q1⟩ => ?_
  rcases q1 with q1 | ⟨d, u, hd, hu, q1⟩
  · exact ⟨x, H1, I1, r1, q1⟩
  · obtain ⟨od, I2⟩ := I1.lock hd (mu_of hu)
    exact ⟨x, _, I2, r1, q1 od (I1.nofrz hd (mu_of hu))⟩
theorem pe_un' {e : Expr} {t : TE} (h : PE X e t) : PE X e (fun σ H Q => t σ H fun x H1 => Q x H1 ∨ ∃ d od u, H1 d = some (.frz od u) ∧ Nf X.H_0 d ∧ Q x (L2.upd H1 d u)) := by
  constructor
  intro pins s σ H Q I hw
  refine thn (h.run pins s σ H _ I hw) fun v s1 ⟨x, H1, I1, r1, q1⟩ => ?_
  rcases q1 with q1 | ⟨d, od, u, hd, nf, q1⟩
  · exact ⟨x, H1, I1, r1, q1⟩
  · exact ⟨x, _, I1.unlock hd nf, r1, q1⟩

/-! ### what is walked -/
/-- what a loop may have done: G has grown, what it told stands -/
structure FSt (G H G' H' : Hp) : Prop where
  le : Le G G'
  ok : Sub G' H'
  keep : ∀ a, G a ≠ none → H' a = H a
theorem FSt.refl {G H : Hp} (h : Sub G H) : FSt G H G H := ⟨Le.refl G, h, fun _ _ => rfl⟩
theorem FSt.trans {G H G1 H1 G2 H2 : Hp} (h : FSt G H G1 H1) (k : FSt G1 H1 G2 H2) : FSt G H G2 H2 := ⟨h.le.trans k.le, k.ok, fun a e => (k.keep a (by
  cases q : G a with
  | none => exact absurd q e
  | some u => rw [h.le a u q]; simp)).trans (h.keep a e)⟩
theorem EStep.fst {G H G' H' : Hp} (h : EStep pc G H G' H') (sb : Sub G H) (n : ∀ a, isPc pc a → G a = none) : FSt G H G' H' := ⟨h.le, h.ok, fun a e => h.keep a (sb.live e) fun z => e (n a z)⟩
def ItOk (K : PySem.W.Frag) (pc : PC) (G H : Hp) (J : It) (ds : List PyData) : Prop := ∀ G1 H1, FSt G H G1 H1 → ∀ i,
  (∀ d, ds[i]? = some d → J.go i H1 ∧ ∀ x H2, J.yld i H1 x H2 → ∃ G2, EStep pc G1 H1 G2 H2 ∧ (∀ S, SrcOk pc H1 S → SrcOk pc H2 S) ∧ Rel K G2 x d) ∧ (ds.length ≤ i → J.stop i H1)
/-- a lock -/
inductive Lk | no | at (d : Addr) (o : Obj) (u : HO)
def lk : Lk → Hp → Hp
  | .no, H => H
  | .at d o u, H => L2.upd H d (.frz o u)
def LkOk (H0 G H : Hp) : Lk → Prop
  | .no => True
  | .at d o u => G d = some u ∧ H d = some u ∧ isDct u = true ∧ Nf H0 d
theorem lk_sub {H0 G H : Hp} {L : Lk} (sb : Sub G H) (h : LkOk H0 G H L) : Sub G (lk L H) := by
  cases L with
  | no => exact sb
  | «at» d o u =>
    intro a w e
    show L2.upd H d (.frz o u) a = _ ∨ _ ∧ ∃ o', L2.upd H d (.frz o u) a = _
    by_cases z : a = d
    · rw [z, h.1] at e
      cases e
      exact .inr ⟨h.2.2.1, o, by rw [z, upd_same]⟩
    · rw [upd_ne z]; exact sb a w e
theorem lk_src {H0 G H : Hp} {L : Lk} {S : Src} (n : ∀ a, isPc pc a → G a = none) (h : LkOk H0 G H L) (sr : SrcOk pc H S) : SrcOk pc (lk L H) S := by
  cases L with
  | no => exact sr
  | «at» d o u =>
    refine sr.keep fun a q => upd_ne fun e => ?_
    have := n a q
    rw [e, h.1] at this
    cases this
/-- let go at the end -/
theorem lk_end {H0 G H Gn Hn : Hp} {d : Addr} {o : Obj} {u : HO} (h : LkOk H0 G H (.at d o u)) (st : EStep pc G (lk (.at d o u) H) Gn Hn) (n : ∀ a, isPc pc a → G a = none) :
    Hn d = some (.frz o u) ∧ EStep pc G H Gn (L2.upd Hn d u) ∧ ∀ S, SrcOk pc Hn S → SrcOk pc (L2.upd Hn d u) S := by
  have npd : ¬ isPc pc d := fun z => by have := n d z; rw [h.1] at this; cases this
  have e1 : lk (.at d o u) H d = some (.frz o u) := upd_same
  have e2 : Hn d = some (.frz o u) := (st.keep d (by rw [e1]; simp) npd).trans e1
  have ne : ∀ a, a ≠ d → lk (.at d o u) H a = H a := fun a z => upd_ne z
  refine ⟨e2, ⟨st.le, fun a w e => ?_, fun a z np => ?_, fun a z => ?_, fun a w e => ?_⟩, fun S sr => sr.keep fun a q => upd_ne fun e => npd (e ▸ q)⟩
  · by_cases z : a = d
    · have := st.le d u h.1
      rw [z, this] at e
      cases e
      rw [z]
      exact .inl upd_same
    · rw [upd_ne z]; exact st.ok a w e
  · by_cases y : a = d
    · rw [y, upd_same, h.2.1]
    · rw [upd_ne y, st.keep a (by rw [ne a y]; exact z) np, ne a y]
  · by_cases y : a = d
    · rw [y, upd_same]; simp
    · rw [upd_ne y]; exact st.live a (by rw [ne a y]; exact z)
  · rcases st.new a w e with q | q | q
    · exact .inl q
    · by_cases y : a = d
      · rw [y, e1] at q; cases q
      · rw [ne a y] at q; exact .inr (.inl q)
    · exact .inr (.inr q)
def dctI (Φ : Sem1) (it : Itx) (ρ : List Vw) (S : Src) : Bool := match it with
  | .ex x => (match evE Φ x ρ S with | some (.dict _, _) => true | _ => false)
  | _ => false
def tW (K : PySem.W.Frag) (pc : PC) (Φ : Sem1) (H0 : Hp) (it : Itx) : TI := fun σ H R => ∃ (G : Hp) (ρ : List Vw) (S : Src) (ds : List PyData) (S' : Src), Pre K pc G H S ρ σ ∧ evI Φ it ρ S = some (ds, S') ∧
  ∀ J G' H' L, EStep pc G H G' H' → SrcOk pc H' S' → LkOk H0 G' H' L → ds.length ≤ sizeLine → ItOk K pc G' (lk L H') J ds → (dctI Φ it ρ S = false → L = .no) → R J (lk L H')

theorem it_list {K : PySem.W.Frag} {G H : Hp} {a : Addr} {xs : List V} {ds : List PyData} (sb : Sub G H) (e : G a = some (.lst xs)) (r : RelAll K G xs ds) : ItOk K pc G H (Itl K a) ds := fun G1 H1 f i => by
  have e1 : H1 a = some (.lst xs) := (f.keep a (by rw [e]; simp)).trans (sb.ex e rfl)
  have sq : SqL K H1 a xs := .inl (.inl e1)
  refine ⟨fun d hd => ?_, fun hl => ⟨xs, sq, by rw [r.length]; exact hl⟩⟩
  obtain ⟨v, hv, rv⟩ := r.get hd
  refine ⟨⟨xs, v, sq, hv⟩, fun x H2 ⟨h1, h2⟩ => ?_⟩
  subst h1
  have := h2 xs sq
  rw [hv] at this
  cases this
  exact ⟨G1, EStep.refl f.ok, fun _ h => h, rv.mono f.le⟩
theorem it_tup {K : PySem.W.Frag} {G H : Hp} {a : Addr} {xs : List V} {ds : List PyData} (sb : Sub G H) (e : G a = some (.tup xs)) (r : RelAll K G xs ds) : ItOk K pc G H (Itt K a) ds := fun G1 H1 f i => by
  have e1 : H1 a = some (.tup xs) := (f.keep a (by rw [e]; simp)).trans (sb.ex e rfl)
  have sq : SqT K H1 a xs := .inl (.inl e1)
  refine ⟨fun d hd => ?_, fun hl => ⟨xs, sq, by rw [r.length]; exact hl⟩⟩
  obtain ⟨v, hv, rv⟩ := r.get hd
  refine ⟨⟨xs, v, sq, hv⟩, fun x H2 ⟨h1, h2⟩ => ?_⟩
  subst h1
  have := h2 xs sq
  rw [hv] at this
  cases this
  exact ⟨G1, EStep.refl f.ok, fun _ h => h, rv.mono f.le⟩
theorem RelK.at {K : PySem.W.Frag} {G : Hp} : ∀ {kvs : List (Key × V)} {ds : List (PyData × PyData)} {i : Nat} {k : Key} {v : V}, RelK K G kvs ds → kvs[i]? = some (k, v) → ∃ d, ds[i]? = some (kD k, d) ∧ Rel K G v d
  | _, _, 0, _, _, .cons a _, e => by cases e; exact ⟨_, rfl, a⟩
  | _, _, i + 1, _, _, .cons _ b, e => RelK.at (i := i) b e
  | _, _, _, _, _, .nil, e => by simp at e
theorem RelT.at {K : PySem.W.Frag} {G : Hp} : ∀ {kvs : List (List Key × V)} {ds : List (PyData × PyData)} {i : Nat} {k : List Key} {v : V}, RelT K G kvs ds → kvs[i]? = some (k, v) → ∃ d, ds[i]? = some (.tuple (k.map kD), d) ∧ Rel K G v d ∧ (k.map kV).length ≤ sizeLine
  | _, _, 0, _, _, .cons z a _, e => by cases e; exact ⟨_, rfl, a, z⟩
  | _, _, i + 1, _, _, .cons _ _ b, e => RelT.at (i := i) b e
  | _, _, _, _, _, .nil, e => by simp at e
theorem kV_rel {K : PySem.W.Frag} {G : Hp} (k : Key) : Rel K G (kV k) (kD k) := by cases k; exact .int _; exact .str _
theorem it_dk {K : PySem.W.Frag} {G H : Hp} {a : Addr} {o : Obj} {kvs : List (Key × V)} {ds : List (PyData × PyData)} (e : G a = some (.dK kvs)) (eH : H a = some (.frz o (.dK kvs))) (r : RelK K G kvs ds) : ItOk K pc G H (Itk a o kvs) (ds.map (·.1)) := fun G1 H1 f i => by
  have e1 : H1 a = some (.frz o (.dK kvs)) := (f.keep a (by rw [e]; simp)).trans eH
  refine ⟨fun d hd => ?_, fun hl => ⟨e1, by rw [r.length]; rwa [List.length_map] at hl⟩⟩
  have hi : i < kvs.length := by
    rw [r.length]
    have := (List.getElem?_eq_some_iff.mp hd).1
    rwa [List.length_map] at this
  refine ⟨⟨e1, hi⟩, fun x H2 ⟨h1, k, v, h2, h3⟩ => ?_⟩
  subst h1 h3
  obtain ⟨d', q, _⟩ := RelK.at r h2
  rw [List.getElem?_map, q] at hd
  cases hd
  exact ⟨G1, EStep.refl f.ok, fun _ h => h, kV_rel k⟩
theorem it_dt {K : PySem.W.Frag} {G H : Hp} {a : Addr} {o : Obj} {kvs : List (List Key × V)} {ds : List (PyData × PyData)} (e : G a = some (.dT kvs)) (eH : H a = some (.frz o (.dT kvs))) (r : RelT K G kvs ds) : ItOk K pc G H (Itkt a o kvs) (ds.map (·.1)) := fun G1 H1 f i => by
  have e1 : H1 a = some (.frz o (.dT kvs)) := (f.keep a (by rw [e]; simp)).trans eH
  refine ⟨fun d hd => ?_, fun hl => ⟨e1, by rw [r.length]; rwa [List.length_map] at hl⟩⟩
  have hi : i < kvs.length := by
    rw [r.length]
    have := (List.getElem?_eq_some_iff.mp hd).1
    rwa [List.length_map] at this
  refine ⟨⟨e1, hi⟩, fun x H2 ⟨h1, k, v, q, h2, h3, h4⟩ => ?_⟩
  subst h1 h3
  obtain ⟨d', q', _, hz⟩ := RelT.at r h2
  rw [List.getElem?_map, q'] at hd
  cases hd
  exact ⟨tupG G1 H2, tupG_step f.ok, fun _ h => h, .tup (tupG_of f.ok h4) hz (kVs_rel _)⟩
end
end Pyl

/-! Pyl12: the walks' rules, targets, comprehensions. -/
namespace Pyl
open PySem PySem.Spec PyProof.Rows L2

section
variable {X : Cx} {pc : PC} {Φ : Sem1} {T : List Fd} {sc : Scope}
theorem pi_or {tg e : Expr} {w1 w2 : TI} (h1 : PI X tg e w1) (h2 : PI X tg e w2) : PI X tg e (fun σ H R => w1 σ H R ∨ w2 σ H R) := ⟨fun pins s σ H R I q => q.elim (h1.run pins s σ H R I) (h2.run pins s σ H R I)⟩
theorem noLk {H0 G H : Hp} : LkOk H0 G H .no := trivial
theorem rel_len {K : PySem.W.Frag} {G : Hp} {v : V} {d : PyData} {ds : List PyData} (h : Rel K G v d) (e : itemsD d = some ds) : ds.length ≤ sizeLine := by
  cases h with
  | lst _ l r => cases e; rw [← r.length]; exact l
  | tup _ l r => cases e; rw [← r.length]; exact l
  | dk _ l r => cases e; rw [List.length_map, ← r.length]; exact l
  | dt _ l r => cases e; rw [List.length_map, ← r.length]; exact l
  | _ => cases e
theorem w_ex {tg e : Expr} {x : Ex} (h : PE X e (tI X.K pc Φ x)) : PI X tg e (tW X.K pc Φ X.H_0 (.ex x)) := by
  refine (pi_or (pi_list h) (pi_or (pi_tup h) (pi_keys (pe_gl h)))).imp fun σ H R ⟨G, ρ, S, ds, S', p, ev, k⟩ => ?_
  obtain ⟨p1, e1, ev⟩ := ibind ev
  obtain ⟨ds', e2, e3⟩ := imap ev
  cases e3
  cases q : p1.1 with
  | list xs =>
    rw [q] at e2
    refine .inl ⟨G, ρ, S, p1.1, p1.2, p, e1, fun v G' H' st sr rl => ?_⟩
    rw [q] at rl
    have hl := rel_len rl e2
    cases e2
    cases rl with
    | lst ea la ra => exact ⟨_, rfl, ⟨_, .inl (.inl (st.ok.ex ea rfl))⟩, k _ G' H' .no st sr noLk hl (it_list st.ok ea ra) (fun _ => rfl)⟩
  | tuple xs =>
    rw [q] at e2
    refine .inr (.inl ⟨G, ρ, S, p1.1, p1.2, p, e1, fun v G' H' st sr rl => ?_⟩)
    rw [q] at rl
    have hl := rel_len rl e2
    cases e2
    cases rl with
    | tup ea la ra => exact ⟨_, rfl, ⟨_, .inl (.inl (st.ok.ex ea rfl))⟩, k _ G' H' .no st sr noLk hl (it_tup st.ok ea ra) (fun _ => rfl)⟩
  | dict kvs =>
    rw [q] at e2
    refine .inr (.inr ⟨G, ρ, S, p1.1, p1.2, p, e1, fun v G' H' st sr rl => ?_⟩)
    rw [q] at rl
    have hl := rel_len rl e2
    cases e2
    cases rl with
    | dk ea la ra =>
      rename_i a vs
      rcases st.ok a _ ea with z | ⟨_, o, z⟩
      · exact .inr ⟨a, .dK vs, z, rfl, fun od nf => ⟨a, od, rfl, .inl ⟨vs, upd_same, k _ G' H' (.at a od (.dK vs)) st sr ⟨ea, z, rfl, nf⟩ hl (it_dk ea upd_same ra) (fun z => absurd z (by simp only [dctI, e1]; rw [show p1 = (PyData.dict kvs, p1.2) from by rw [← q]]; simp))⟩⟩⟩
      · exact .inl ⟨a, o, rfl, .inl ⟨vs, z, k _ G' H' .no st sr noLk hl (it_dk ea z ra) (fun _ => rfl)⟩⟩
    | dt ea la ra =>
      rename_i a vs
      rcases st.ok a _ ea with z | ⟨_, o, z⟩
      · exact .inr ⟨a, .dT vs, z, rfl, fun od nf => ⟨a, od, rfl, .inr ⟨vs, upd_same, k _ G' H' (.at a od (.dT vs)) st sr ⟨ea, z, rfl, nf⟩ hl (it_dt ea upd_same ra) (fun z => absurd z (by simp only [dctI, e1]; rw [show p1 = (PyData.dict kvs, p1.2) from by rw [← q]]; simp))⟩⟩⟩
      · exact .inl ⟨a, o, rfl, .inr ⟨vs, z, k _ G' H' .no st sr noLk hl (it_dt ea z ra) (fun _ => rfl)⟩⟩
  | _ => rw [q] at e2; cases e2
theorem upTo_len (lo : Int) (n : Nat) : (upTo lo n).length = n := by unfold upTo; rw [List.length_map, List.length_range]
theorem upTo_get {lo : Int} {n i : Nat} {d : PyData} (h : (upTo lo n)[i]? = some d) : i < n ∧ d = .int (lo + i) := by
  unfold upTo at h
  have hi : i < n := by
    have := (List.getElem?_eq_some_iff.mp h).1
    rwa [List.length_map, List.length_range] at this
  rw [List.getElem?_map, List.getElem?_range hi] at h
  cases h
  exact ⟨hi, rfl⟩
theorem it_rng {K : PySem.W.Frag} {G H : Hp} {lo : Int} {n : Nat} : ItOk K pc G H (Itr lo n) (upTo lo n) := fun G1 H1 f i => by
  refine ⟨fun d hd => ?_, fun hl => by rw [upTo_len] at hl; exact hl⟩
  obtain ⟨hi, rfl⟩ := upTo_get hd
  exact ⟨hi, fun x H2 ⟨h1, h2⟩ => by subst h1 h2; exact ⟨G1, EStep.refl f.ok, fun _ h => h, .int _⟩⟩
theorem small_of {i : Int} (h : small62 i = true) : -(2 ^ 62) ≤ i ∧ i < 2 ^ 62 := by
  unfold small62 at h
  rw [Bool.and_eq_true] at h
  exact ⟨of_decide_eq_true h.1, of_decide_eq_true h.2⟩
theorem w_rng1 {tg ea : Expr} {p0 pos : Pos} {x : Ex} (ok : XOk X T Φ sc) (hg : gloB sc ("range" : Str) = true) (pa : plainE ea = true) (h : PE X ea (tI X.K pc Φ x)) : PI X tg (.Call (.Name "range" p0) [ea] [] pos) (tW X.K pc Φ X.H_0 (.rng1 x)) := by
  refine (pi_range1 (ok.ag.glo hg) (ok.blt _ (by decide +kernel)) (pa_cons h pa_nil (star_of pa)) (by rw [star_of pa]; rfl)).imp fun σ H R ⟨G, ρ, S, ds, S', p, ev, k⟩ => ?_
  obtain ⟨p1, e1, ev⟩ := ibind ev
  obtain ⟨ds', e2, e3⟩ := imap ev
  cases e3
  refine ⟨G, ρ, S, p1.1, p1.2, p, e1, fun v G' H' st sr rl => ?_⟩
  cases q : p1.1 with
  | int j =>
    rw [q] at e2 rl
    simp only [rngD] at e2
    split at e2
    · rename_i c
      cases e2
      rw [Bool.and_eq_true] at c
      cases rl
      exact ⟨j, rfl, (small_of c.1).1, (small_of c.1).2, k _ G' H' .no st sr noLk (by rw [upTo_len]; exact okLen_le c.2) it_rng (fun _ => rfl)⟩
    · cases e2
  | _ => rw [q] at e2; cases e2
theorem w_rng2 {tg ea eb : Expr} {p0 pos : Pos} {x y : Ex} (ok : XOk X T Φ sc) (hg : gloB sc ("range" : Str) = true) (pa : plainE ea = true) (pb : plainE eb = true) (h : PE X ea (tI X.K pc Φ x)) (h2 : PE X eb (tI X.K pc Φ y)) : PI X tg (.Call (.Name "range" p0) [ea, eb] [] pos) (tW X.K pc Φ X.H_0 (.rng2 x y)) := by
  refine (pi_range2 (ok.ag.glo hg) (ok.blt _ (by decide +kernel)) (pa_cons h (pa_cons h2 pa_nil (star_of pb)) (star_of pa)) (by rw [star_of pa, star_of pb]; rfl) (by rw [star_of pb]; rfl)).imp fun σ H R ⟨G, ρ, S, ds, S', p, ev, k⟩ => ?_
  obtain ⟨p1, e1, ev⟩ := ibind ev
  obtain ⟨p2, e2, ev⟩ := ibind ev
  obtain ⟨ds', e3, e4⟩ := imap ev
  cases e4
  refine two p e1 e2 fun v w G' H' st sr r1 r2 => ?_
  cases q1 : p1.1 with
  | int i =>
    rw [q1] at e3 r1
    cases q2 : p2.1 with
    | int j =>
      rw [q2] at e3 r2
      simp only [rngD] at e3
      split at e3
      · rename_i c
        cases e3
        simp only [Bool.and_eq_true] at c
        cases r1
        cases r2
        exact ⟨i, j, rfl, ⟨(small_of c.1.1).1, (small_of c.1.1).2, (small_of c.1.2).1, (small_of c.1.2).2⟩, k _ G' H' .no st sr noLk (by rw [upTo_len]; exact okLen_le c.2) it_rng (fun _ => rfl)⟩
      · cases e3
    | _ => rw [q2] at e3; cases e3
  | _ => rw [q1] at e3; cases e3
theorem enum_get {xs : List PyData} {i : Nat} {d : PyData} (h : (enumD xs)[i]? = some d) : ∃ e, xs[i]? = some e ∧ d = .tuple [.int (i : Nat), e] := by
  unfold enumD at h
  rw [List.getElem?_map, List.getElem?_zipIdx] at h
  cases q : xs[i]? with
  | none => rw [q] at h; cases h
  | some e => rw [q] at h; cases h; exact ⟨e, rfl, by simp⟩
theorem enum_len (xs : List PyData) : (enumD xs).length = xs.length := by unfold enumD; rw [List.length_map, List.length_zipIdx]
theorem it_enm {K : PySem.W.Frag} {G H : Hp} {a : Addr} {xs : List V} {ds : List PyData} (sb : Sub G H) (e : G a = some (.lst xs)) (r : RelAll K G xs ds) : ItOk K pc G H (Ite K a) (enumD ds) := fun G1 H1 f i => by
  have e1 : H1 a = some (.lst xs) := (f.keep a (by rw [e]; simp)).trans (sb.ex e rfl)
  have sq : SqL K H1 a xs := .inl (.inl e1)
  refine ⟨fun d hd => ?_, fun hl => ⟨xs, sq, by rw [r.length]; rwa [enum_len] at hl⟩⟩
  obtain ⟨d', hd', rfl⟩ := enum_get hd
  obtain ⟨v, hv, rv⟩ := r.get hd'
  refine ⟨⟨xs, v, sq, hv⟩, fun x H2 ⟨t, y, h1, h2, h3, h4⟩ => ?_⟩
  subst h1 h3
  have := h4 xs sq
  rw [hv] at this
  cases this
  exact ⟨_, EStep.laid f.ok h2 _, fun S sr => sr.upd h2 _, Rel.newT f.ok h2 (by show 2 ≤ sizeLine; decide) (.cons (.int _) (.cons (rv.mono f.le) .nil))⟩
theorem w_enm {ets : List Expr} {k0 : Nat} {tpos : Pos} {ea : Expr} {p0 pos : Pos} {x : Ex} (ok : XOk X T Φ sc) (hg : gloB sc ("enumerate" : Str) = true) (pa : plainE ea = true) (h : PE X ea (tI X.K pc Φ x)) : PI X (.Tuple ets k0 tpos) (.Call (.Name "enumerate" p0) [ea] [] pos) (tW X.K pc Φ X.H_0 (.enm x)) := by
  refine (pi_enum (ok.ag.glo hg) (ok.blt _ (by decide +kernel)) (pa_cons h pa_nil (star_of pa)) (by rw [star_of pa]; rfl)).imp fun σ H R ⟨G, ρ, S, ds, S', p, ev, k⟩ => ?_
  obtain ⟨p1, e1, ev⟩ := ibind ev
  refine ⟨G, ρ, S, p1.1, p1.2, p, e1, fun v G' H' st sr rl => ?_⟩
  split at ev
  · rename_i xs q
    cases ev
    rw [q] at rl
    cases rl with
    | lst ea la ra => exact ⟨_, _, rfl, .inl (.inl (st.ok.ex ea rfl)), k _ G' H' .no st sr noLk (by rw [enum_len, ← ra.length]; exact la) (it_enm st.ok ea ra) (fun _ => rfl)⟩
  · cases ev
theorem zip_get {xs ys : List PyData} {i : Nat} {d : PyData} (h : (zipD xs ys)[i]? = some d) : ∃ e f, xs[i]? = some e ∧ ys[i]? = some f ∧ d = .tuple [e, f] := by
  unfold zipD at h
  rw [List.getElem?_map] at h
  obtain ⟨q, h1, h2⟩ := Option.map_eq_some_iff.mp h
  rw [List.getElem?_zip_eq_some] at h1
  exact ⟨q.1, q.2, h1.1, h1.2, h2.symm⟩
theorem zip_len (xs ys : List PyData) : (zipD xs ys).length = min xs.length ys.length := by unfold zipD; rw [List.length_map, List.length_zip]
theorem it_zipL {K : PySem.W.Frag} {G H : Hp} {a b : Addr} {xs ys : List V} {ds es : List PyData} (sb : Sub G H) (ea : G a = some (.lst xs)) (eb : G b = some (.lst ys)) (r : RelAll K G xs ds) (r' : RelAll K G ys es) : ItOk K pc G H (Itz K a b) (zipD ds es) := fun G1 H1 f i => by
  have sq : SqL K H1 a xs := .inl (.inl ((f.keep a (by rw [ea]; simp)).trans (sb.ex ea rfl)))
  have sq' : SqL K H1 b ys := .inl (.inl ((f.keep b (by rw [eb]; simp)).trans (sb.ex eb rfl)))
  refine ⟨fun d hd => ?_, fun hl => ⟨xs, ys, sq, sq', by rw [r.length, r'.length]; rw [zip_len] at hl; omega⟩⟩
  obtain ⟨d1, d2, h1, h2, rfl⟩ := zip_get hd
  obtain ⟨v, hv, rv⟩ := r.get h1
  obtain ⟨w, hw, rw'⟩ := r'.get h2
  refine ⟨⟨xs, ys, v, w, sq, sq', hv, hw⟩, fun x H2 ⟨t, y, z, z1, z2, z3, z4, z5⟩ => ?_⟩
  subst z1 z3
  have := z4 xs sq
  rw [hv] at this
  cases this
  have := z5 ys sq'
  rw [hw] at this
  cases this
  exact ⟨_, EStep.laid f.ok z2 _, fun S sr => sr.upd z2 _, Rel.newT f.ok z2 (by show 2 ≤ sizeLine; decide) (.cons (rv.mono f.le) (.cons (rw'.mono f.le) .nil))⟩
theorem it_zipT {K : PySem.W.Frag} {G H : Hp} {a b : Addr} {xs ys : List V} {ds es : List PyData} (sb : Sub G H) (ea : G a = some (.tup xs)) (eb : G b = some (.tup ys)) (r : RelAll K G xs ds) (r' : RelAll K G ys es) : ItOk K pc G H (_root_.RZ.ItzT K a b) (zipD ds es) := fun G1 H1 f i => by
  have sq : SqT K H1 a xs := .inl (.inl ((f.keep a (by rw [ea]; simp)).trans (sb.ex ea rfl)))
  have sq' : SqT K H1 b ys := .inl (.inl ((f.keep b (by rw [eb]; simp)).trans (sb.ex eb rfl)))
  refine ⟨fun d hd => ?_, fun hl => ⟨xs, ys, sq, sq', by rw [r.length, r'.length]; rw [zip_len] at hl; omega⟩⟩
  obtain ⟨d1, d2, h1, h2, rfl⟩ := zip_get hd
  obtain ⟨v, hv, rv⟩ := r.get h1
  obtain ⟨w, hw, rw'⟩ := r'.get h2
  refine ⟨⟨xs, ys, v, w, sq, sq', hv, hw⟩, fun x H2 ⟨t, y, z, z1, z2, z3, z4, z5⟩ => ?_⟩
  subst z1 z3
  have := z4 xs sq
  rw [hv] at this
  cases this
  have := z5 ys sq'
  rw [hw] at this
  cases this
  exact ⟨_, EStep.laid f.ok z2 _, fun S sr => sr.upd z2 _, Rel.newT f.ok z2 (by show 2 ≤ sizeLine; decide) (.cons (rv.mono f.le) (.cons (rw'.mono f.le) .nil))⟩
theorem w_zip {ets : List Expr} {k0 : Nat} {tpos : Pos} {ea eb : Expr} {p0 pos : Pos} {x y : Ex} (ok : XOk X T Φ sc) (hg : gloB sc ("zip" : Str) = true) (pa : plainE ea = true) (pb : plainE eb = true) (h : PE X ea (tI X.K pc Φ x)) (h' : PE X eb (tI X.K pc Φ y)) : PI X (.Tuple ets k0 tpos) (.Call (.Name "zip" p0) [ea, eb] [] pos) (tW X.K pc Φ X.H_0 (.zip x y)) := by
  refine (_root_.RZ.pi_zipA (ok.ag.glo hg) (ok.blt _ (by decide +kernel)) (pa_cons h (pa_cons h' pa_nil (star_of pb)) (star_of pa)) (star_of pa) (by rw [star_of pb]; rfl)).imp fun σ H R ⟨G, ρ, S, ds, S', p, ev, k⟩ => ?_
  obtain ⟨p1, e1, ev⟩ := ibind ev
  obtain ⟨p2, e2, ev⟩ := ibind ev
  refine two p e1 e2 fun v w G' H' st sr r1 r2 => ?_
  split at ev
  · rename_i xs ys q1 q2
    cases ev
    rw [q1] at r1
    rw [q2] at r2
    cases r1 with
    | lst ea la ra =>
      cases r2 with
      | lst eb lb rb => exact ⟨_, _, _, _, rfl, .inl ⟨.inl (.inl (st.ok.ex ea rfl)), .inl (.inl (st.ok.ex eb rfl)), k _ G' H' .no st sr noLk (by rw [zip_len, ← ra.length]; exact Nat.le_trans (Nat.min_le_left _ _) la) (it_zipL st.ok ea eb ra rb) (fun _ => rfl)⟩⟩
  · rename_i xs ys q1 q2
    cases ev
    rw [q1] at r1
    rw [q2] at r2
    cases r1 with
    | tup ea la ra =>
      cases r2 with
      | tup eb lb rb => exact ⟨_, _, _, _, rfl, .inr ⟨.inl (.inl (st.ok.ex ea rfl)), .inl (.inl (st.ok.ex eb rfl)), k _ G' H' .no st sr noLk (by rw [zip_len, ← ra.length]; exact Nat.le_trans (Nat.min_le_left _ _) la) (it_zipT st.ok ea eb ra rb) (fun _ => rfl)⟩⟩
  · cases ev
theorem it_scr {K : PySem.W.Frag} {G H : Hp} {a : Addr} {ns : List Int} (sb : Sub G H) (e : SqL K G a (ns.map V.int)) : ItOk K pc G H (Itl K a) (ns.map .int) := fun G1 H1 f i => by
  have sq : SqL K H1 a (ns.map V.int) := f.ok.sqL (f.le.sqL e)
  refine ⟨fun d hd => ?_, fun hl => ⟨_, sq, by rw [List.length_map] at hl ⊢; exact hl⟩⟩
  rw [List.getElem?_map] at hd
  obtain ⟨n, h1, h2⟩ := Option.map_eq_some_iff.mp hd
  refine ⟨⟨_, .int n, sq, by rw [List.getElem?_map, h1]; rfl⟩, fun x H2 ⟨z1, z2⟩ => ?_⟩
  subst z1 h2
  have := z2 _ sq
  rw [List.getElem?_map, h1] at this
  cases this
  exact ⟨G1, EStep.refl f.ok, fun _ h => h, .int _⟩
theorem w_scr {tg : Expr} {x : Str} {pos : Pos} {j : Nat} (ok : XOk X T Φ sc) (h : slotB X.N sc x j = true) : PI X tg (.Name x pos) (tW X.K pc Φ X.H_0 (.scr j)) := by
  unfold slotB at h
  simp only [Bool.and_eq_true] at h
  obtain ⟨⟨h1, h2⟩, h3⟩ := h
  obtain ⟨d1, d2⟩ := nm_of h3
  refine (pi_list (pe_var (by simpa using h1) (ok.ag.vis h2) d1 d2)).imp fun σ H R ⟨G, ρ, S, ds, S', p, ev, k⟩ => ?_
  simp only [evI] at ev
  split at ev
  · rename_i ns q
    cases ev
    obtain ⟨a, q1, q2, q3⟩ := p.vw _ _ q
    exact ⟨_, q1, a, rfl, ⟨_, p.sub.sqL q2⟩, k _ G H .no (EStep.refl p.sub) p.src noLk (by rw [List.length_map]; exact q3) (it_scr p.sub q2) (fun _ => rfl)⟩
  · cases ev

/-! ### targets -/
def setV (σ : L2.St) : List Nat → List V → L2.St
  | i :: is, v :: vs => setV (σ.set i (some v)) is vs
  | _, _ => σ
theorem setV_app : ∀ {is js : List Nat} {vs ws : List V} {σ : L2.St}, is.length = vs.length → setV σ (is ++ js) (vs ++ ws) = setV (setV σ is vs) js ws
  | [], _, [], _, _, _ => rfl
  | i :: is, js, v :: vs, ws, σ, h => setV_app (is := is) (σ := σ.set i (some v)) (by simpa using h)
  | [], _, _ :: _, _, _, h => by cases h
  | _ :: _, _, [], _, _, h => by cases h
def tG (K : PySem.W.Frag) (tg : Tg) : TG := fun v σ H Q => ∃ (G : Hp) (d : PyData) (as : List (Nat × PyData)), Sub G H ∧ Rel K G v d ∧ bindTg tg d = some as ∧ ∀ ws, RelAll K G ws (as.map (·.2)) → Q (setV σ (as.map (·.1)) ws) H
def tGs (K : PySem.W.Frag) (ts : List Tg) : TGs := fun vs σ H Q => ∃ (G : Hp) (ds : List PyData) (as : List (Nat × PyData)), Sub G H ∧ RelAll K G vs ds ∧ bindTg.go ts ds = some as ∧ ∀ ws, RelAll K G ws (as.map (·.2)) → Q (setV σ (as.map (·.1)) ws) H
theorem _root_.L2.PG.imp {X : Cx} {e : Expr} {t t' : TG} (h : PG X e t) (i : ∀ v σ H Q, t' v σ H Q → t v σ H Q) : PG X e t' := ⟨fun pins s σ H v u Q I r q => h.run pins s σ H v u Q I r (i v σ H Q q)⟩
theorem _root_.L2.PGs.imp {X : Cx} {e : List Expr} {t t' : TGs} (h : PGs X e t) (i : ∀ v σ H Q, t' v σ H Q → t v σ H Q) : PGs X e t' := ⟨fun pins s σ H v u Q I r q => h.run pins s σ H v u Q I r (i v σ H Q q)⟩
theorem asg_each {e : Expr} {es : List Expr} {env : Env} (h : plainE e = true) : assignEach (e :: es) env = (false, assign e env) :: assignEach es env := by
  cases e <;> first | rfl | cases h
theorem asg_len {N : List Str} : ∀ {es : List Expr} {ts : List Tg} {env : Env}, chkGs N sc es ts = true → (assignEach es env).length = ts.length ∧ (assignEach es env).findIdx? (·.1) = none
  | [], [], _, _ => ⟨rfl, rfl⟩
  | e :: es, t :: ts, env, h => by
    simp only [chkGs, Bool.and_eq_true] at h
    obtain ⟨q1, q2⟩ := asg_len (env := env) h.2
    rw [asg_each h.1.1]
    refine ⟨by rw [List.length_cons, q1, List.length_cons], ?_⟩
    rw [List.findIdx?_cons]
    simp [q2]
  | [], _ :: _, _, h => by cases h
  | _ :: _, [], _, h => by cases h
theorem go_len : ∀ {ts : List Tg} {ds : List PyData} {as : List (Nat × PyData)}, bindTg.go ts ds = some as → ds.length = ts.length
  | [], [], _, _ => rfl
  | t :: ts, d :: ds, as, h => by
    simp only [bindTg.go] at h
    obtain ⟨a, _, h⟩ := ibind h
    obtain ⟨b, h2, _⟩ := imap h
    rw [List.length_cons, List.length_cons, go_len h2]
  | [], _ :: _, _, h => by cases h
  | _ :: _, [], _, h => by cases h
theorem loc_of (ok : XOk X T Φ sc) {x : Str} (h : locB sc x = true) : Loc X.env.scope x ∧ (X.fn x = true ∨ X.env.scope.names.lookup x = some .local) := by
  unfold locB at h
  split at h
  · rename_i q
    rcases ok.ag x _ q with z | ⟨z, _⟩
    · exact ⟨.inl z, .inr z⟩
    · cases z
  · rename_i q
    rcases ok.ag x _ q with z | ⟨z, _⟩
    · exact ⟨.inr z, .inl (ok.fn x q)⟩
    · cases z
  · cases h
mutual
theorem s_tg (ok : XOk X T Φ sc) : ∀ (tg : Tg) {e : Expr}, chkG X.N sc e tg = true → PG X e (tG X.K tg)
  | .nm i, e, h => by
    cases e with
    | Name x pos =>
      simp only [chkG, Bool.and_eq_true] at h
      obtain ⟨l, f⟩ := loc_of ok h.2
      refine (pg_name ok.nd (by simpa using h.1) l f).imp fun v σ H Q ⟨G, d, as, sb, r, b, k⟩ => ?_
      simp only [bindTg] at b
      cases b
      exact k [v] (.cons r .nil)
    | _ => simp [chkG] at h
  | .tp ts, e, h => by
    cases e with
    | Tuple es k0 pos =>
      simp only [chkG] at h
      have hs := s_tgs ok ts h
      obtain ⟨a1, a2⟩ := asg_len (env := X.env) h
      refine (pg_tup ok.calm hs a1 a2).imp fun v σ H Q ⟨G, d, as, sb, r, b, k⟩ => ?_
      cases r with
      | tup ea la ra =>
        simp only [bindTg] at b
        exact ⟨_, _, rfl, .inl (.inl (sb.ex ea rfl)), by rw [ra.length]; exact go_len b, G, _, as, sb, ra, b, k⟩
      | _ => simp [bindTg] at b
    | _ => simp [chkG] at h
theorem s_tgs (ok : XOk X T Φ sc) : ∀ (ts : List Tg) {es : List Expr}, chkGs X.N sc es ts = true → PGs X es (tGs X.K ts)
  | [], es, h => by
    cases es with
    | nil =>
      refine pgs_nil.imp fun v σ H Q ⟨G, d, as, sb, r, b, k⟩ => ?_
      cases r with
      | nil =>
        cases b
        exact ⟨rfl, k [] .nil⟩
      | cons _ _ => cases b
    | cons _ _ => simp [chkGs] at h
  | t :: ts, es, h => by
    cases es with
    | nil => simp [chkGs] at h
    | cons e es =>
      simp only [chkGs, Bool.and_eq_true] at h
      refine (pgs_cons (s_tg ok t h.1.2) (s_tgs ok ts h.2) (by rw [asg_each h.1.1]; rfl)).imp fun v σ H Q ⟨G, d, as, sb, r, b, k⟩ => ?_
      cases r with
      | nil => cases b
      | cons r1 r2 =>
        simp only [bindTg.go] at b
        obtain ⟨a1, b1, b⟩ := ibind b
        obtain ⟨a2, b2, b3⟩ := imap b
        cases b3
        refine ⟨_, _, rfl, G, _, a1, sb, r1, b1, fun ws q1 => ⟨G, _, a2, sb, r2, b2, fun ws2 q2 => ?_⟩⟩
        have := k (ws ++ ws2) (by rw [List.map_append]; exact q1.append q2)
        rw [List.map_append, setV_app (by have := q1.length; simp only [List.length_map] at this ⊢; omega)] at this
        exact this
end
end
end Pyl

/-! Pyl13: comprehensions; every expression told. -/
namespace Pyl
open PySem PySem.Spec PyProof.Rows L2

section
variable {X : Cx} {pc : PC} {Φ : Sem1} {T : List Fd} {sc : Scope}
/-! ### slots -/
theorem VwOk.lt {K : PySem.W.Frag} {G : Hp} {ρ : List Vw} {σ : L2.St} (h : VwOk K pc G ρ σ) {i : Nat} (hi : i < ρ.length) : i < σ.length := by
  have q := h i _ (List.getElem?_eq_getElem hi)
  cases e : ρ[i] with
  | no => rw [e] at q; exact q
  | d x => rw [e] at q; obtain ⟨v, q, _⟩ := q; exact (List.getElem?_eq_some_iff.mp q).1
  | src => rw [e] at q; obtain ⟨p, c, _, q⟩ := q; exact (List.getElem?_eq_some_iff.mp q).1
  | cel => rw [e] at q; obtain ⟨p, c, _, q⟩ := q; exact (List.getElem?_eq_some_iff.mp q).1
  | scr ns => rw [e] at q; obtain ⟨a, q, _⟩ := q; exact (List.getElem?_eq_some_iff.mp q).1
theorem VwOk.set {K : PySem.W.Frag} {G : Hp} {ρ : List Vw} {σ : L2.St} (h : VwOk K pc G ρ σ) {i : Nat} {v : V} {x : PyData} (r : Rel K G v x) : VwOk K pc G (ρ.set i (.d x)) (σ.set i (some v)) := fun j w e => by
  by_cases z : i = j
  · subst z
    have hi : i < ρ.length := by
      have := (List.getElem?_eq_some_iff.mp e).1
      rwa [List.length_set] at this
    rw [List.getElem?_set_self hi] at e
    cases e
    exact ⟨v, List.getElem?_set_self (h.lt hi), r⟩
  · rw [List.getElem?_set_ne z] at e
    have q := h j w e
    cases w with
    | no => exact (show j < (σ.set i (some v)).length from by rw [List.length_set]; exact q)
    | d x => obtain ⟨u, q1, q2⟩ := q; exact ⟨u, by rw [List.getElem?_set_ne z]; exact q1, q2⟩
    | src => obtain ⟨p, c, q1, q2⟩ := q; exact ⟨p, c, q1, by rw [List.getElem?_set_ne z]; exact q2⟩
    | cel => obtain ⟨p, c, q1, q2⟩ := q; exact ⟨p, c, q1, by rw [List.getElem?_set_ne z]; exact q2⟩
    | scr ns => obtain ⟨a, q1, q2⟩ := q; exact ⟨a, by rw [List.getElem?_set_ne z]; exact q1, q2⟩
theorem VwOk.bind {K : PySem.W.Frag} {G : Hp} : ∀ {as : List (Nat × PyData)} {ρ : List Vw} {σ : L2.St} {ws : List V}, VwOk K pc G ρ σ → RelAll K G ws (as.map (·.2)) → VwOk K pc G (setAllV ρ as) (setV σ (as.map (·.1)) ws)
  | [], ρ, σ, ws, h, r => by cases r; exact h
  | a :: as, ρ, σ, _, h, .cons r rr => VwOk.bind (as := as) (h.set r) rr
theorem wipe_get {σ : L2.St} {i : Nat} : ∀ {is : List Nat}, (wipe σ is)[i]? = if i ∈ is then (σ[i]?).map fun _ => none else σ[i]?
  | [] => by simp [wipe]
  | v :: vs => by
    unfold wipe
    by_cases z : v = i
    · subst z
      simp only [List.mem_cons, true_or, if_true]
      rw [List.getElem?_set]
      simp only [if_true]
      rw [wipe_length]
      by_cases hi : v < σ.length
      · rw [if_pos hi, List.getElem?_eq_getElem hi]; rfl
      · rw [if_neg hi, List.getElem?_eq_none (by omega)]; rfl
    · rw [List.getElem?_set_ne z, wipe_get (is := vs)]
      have : (i ∈ v :: vs) ↔ i ∈ vs := by simp [Ne.symm z]
      simp only [this]
theorem wipeV_get {i : Nat} {w : Vw} : ∀ {is : List Nat} {ρ : List Vw}, (wipeV ρ is)[i]? = some w → (i ∈ is ∧ w = .no ∧ i < ρ.length) ∨ (i ∉ is ∧ ρ[i]? = some w)
  | [], ρ, h => .inr ⟨by simp, h⟩
  | v :: vs, ρ, h => by
    have h : (wipeV (ρ.set v .no) vs)[i]? = some w := h
    rcases wipeV_get h with ⟨h1, h2, h3⟩ | ⟨h1, h2⟩
    · exact .inl ⟨List.mem_cons_of_mem _ h1, h2, by rwa [List.length_set] at h3⟩
    · by_cases z : v = i
      · subst z
        have hi : v < ρ.length := by
          have := (List.getElem?_eq_some_iff.mp h2).1
          rwa [List.length_set] at this
        rw [List.getElem?_set_self hi] at h2
        cases h2
        exact .inl ⟨by simp, rfl, hi⟩
      · rw [List.getElem?_set_ne z] at h2
        exact .inr ⟨by simp only [List.mem_cons, not_or]; exact ⟨Ne.symm z, h1⟩, h2⟩
theorem VwOk.wipe {K : PySem.W.Frag} {G : Hp} {ρ : List Vw} {σ : L2.St} (h : VwOk K pc G ρ σ) (is : List Nat) : VwOk K pc G (wipeV ρ is) (L2.wipe σ is) := fun i w e => by
  rcases wipeV_get e with ⟨h1, h2, h3⟩ | ⟨h1, h2⟩
  · subst h2
    show i < (L2.wipe σ is).length
    rw [wipe_length]
    exact h.lt h3
  · have q := h i w h2
    have g : (L2.wipe σ is)[i]? = σ[i]? := by rw [wipe_get, if_neg h1]
    cases w with
    | no => exact (show i < (L2.wipe σ is).length from by rw [wipe_length]; exact q)
    | d x => obtain ⟨u, q1, q2⟩ := q; exact ⟨u, by rw [g]; exact q1, q2⟩
    | src => obtain ⟨p, c, q1, q2⟩ := q; exact ⟨p, c, q1, by rw [g]; exact q2⟩
    | cel => obtain ⟨p, c, q1, q2⟩ := q; exact ⟨p, c, q1, by rw [g]; exact q2⟩
    | scr ns => obtain ⟨a, q1, q2⟩ := q; exact ⟨a, by rw [g]; exact q1, q2⟩
theorem setV_get {i : Nat} : ∀ {is : List Nat} {vs : List V} {σ : L2.St}, i ∉ is → (setV σ is vs)[i]? = σ[i]?
  | [], _, _, _ => by cases ‹List V› <;> rfl
  | _ :: _, [], _, _ => rfl
  | j :: is, v :: vs, σ, h => by
    simp only [List.mem_cons, not_or] at h
    show (setV (σ.set j (some v)) is vs)[i]? = _
    rw [setV_get h.2, List.getElem?_set_ne (Ne.symm h.1)]
theorem setV_len : ∀ {is : List Nat} {vs : List V} {σ : L2.St}, (setV σ is vs).length = σ.length
  | [], _, _ => by cases ‹List V› <;> rfl
  | _ :: _, [], _ => rfl
  | j :: is, v :: vs, σ => by
    show (setV (σ.set j (some v)) is vs).length = _
    rw [setV_len, List.length_set]
theorem wipe_setV {σ : L2.St} {is js : List Nat} {vs : List V} (h : ∀ i ∈ js, i ∈ is) : wipe (setV (wipe σ is) js vs) is = wipe σ is := by
  apply List.ext_getElem?
  intro i
  rw [wipe_get]
  by_cases z : i ∈ is
  · rw [if_pos z, wipe_get, if_pos z]
    have l : (setV (wipe σ is) js vs).length = σ.length := by rw [setV_len, wipe_length]
    by_cases hi : i < σ.length
    · rw [List.getElem?_eq_getElem hi, List.getElem?_eq_getElem (by rw [l]; exact hi)]; rfl
    · rw [List.getElem?_eq_none (Nat.le_of_not_lt hi), List.getElem?_eq_none (by rw [l]; exact Nat.le_of_not_lt hi)]
  · rw [if_neg z, setV_get (fun m => z (h i m))]
mutual
theorem tg_in {is : List Nat} : ∀ {tg : Tg} {d : PyData} {as : List (Nat × PyData)}, tgIn is tg = true → bindTg tg d = some as → ∀ i ∈ as.map (·.1), i ∈ is
  | .nm j, d, as, h, b => by
    simp only [bindTg] at b
    cases b
    intro i hi
    simp only [tgIn, List.contains_iff_mem] at h
    simp only [List.map_cons, List.map_nil, List.mem_singleton] at hi
    rw [hi]; exact h
  | .tp ts, d, as, h, b => by
    cases d with
    | tuple ds =>
      simp only [bindTg] at b
      simp only [tgIn] at h
      exact tgs_in h b
    | _ => simp [bindTg] at b
theorem tgs_in {is : List Nat} : ∀ {ts : List Tg} {ds : List PyData} {as : List (Nat × PyData)}, tgsIn is ts = true → bindTg.go ts ds = some as → ∀ i ∈ as.map (·.1), i ∈ is
  | [], ds, as, _, b => by
    cases ds with
    | nil => cases b; intro i hi; simp at hi
    | cons _ _ => cases b
  | t :: ts, ds, as, h, b => by
    cases ds with
    | nil => cases b
    | cons d ds =>
      simp only [tgsIn, Bool.and_eq_true] at h
      simp only [bindTg.go] at b
      obtain ⟨a1, b1, b⟩ := ibind b
      obtain ⟨a2, b2, b3⟩ := imap b
      cases b3
      intro i hi
      rw [List.map_append, List.mem_append] at hi
      rcases hi with hi | hi
      · exact tg_in h.1 b1 i hi
      · exact tgs_in h.2 b2 i hi
end

/-! ### comprehensions -/
theorem EStep.put {G H G' H' : Hp} {D : Addr} (h : EStep pc G H G' H') (n : H D = none) (n' : G' D = none) (u : HO) : EStep pc G H G' (L2.upd H' D u) := by
  refine ⟨h.le, fun a w e => ?_, fun a z np => ?_, fun a z => ?_, h.new⟩
  · by_cases y : a = D
    · rw [y, n'] at e; cases e
    · rw [upd_ne y]; exact h.ok a w e
  · by_cases y : a = D
    · rw [y] at z; exact absurd n z
    · rw [upd_ne y]; exact h.keep a z np
  · by_cases y : a = D
    · rw [y, upd_same]; simp
    · rw [upd_ne y]; exact h.live a z
theorem SrcOk.put {H : Hp} {S : Src} {D : Addr} (h : SrcOk pc H S) (n : ¬ isPc pc D) (u : HO) : SrcOk pc (L2.upd H D u) S := h.keep fun a q => upd_ne fun e => n (e ▸ q)
/-- a list under way stays as it is -/
theorem EStep.mine {G H G' H' : Hp} {S' : Src} {D : Addr} {xs : List V} (st : EStep pc G H G' H') (hD : H D = some (.lst xs)) (n : G D = none) (np : ¬ isPc pc D) : H' D = some (.lst xs) ∧ G' D = none := by
  have e : H' D = some (.lst xs) := (st.keep D (by rw [hD]; simp) np).trans hD
  refine ⟨e, ?_⟩
  cases q : G' D with
  | none => rfl
  | some u =>
    rcases st.new D u q with z | z | z
    · exact absurd n z
    · rw [hD] at z; cases z
    · have := st.ok.ex q (by cases u <;> first | rfl | cases z)
      rw [e] at this
      cases this
      cases z
def turnC (Φ : Sem1) (elt : Ex) (tg : Tg) (ifs : Exs) (ρ : List Vw) : PyData → Src → Option (Option PyData × Src) := fun x S => (bindTg tg x).bind fun as =>
  (evTs Φ ifs (setAllV ρ as) S).bind fun t => if t.1 then (evE Φ elt (setAllV ρ as) t.2).map fun e => (some e.1, e.2) else some (none, t.2)
theorem EStep.npc {G H G' H' : Hp} {S S' : Src} (e : EStep pc G H G' H') (n : ∀ a, isPc pc a → G a = none) (s0 : SrcOk pc H S) (s : SrcOk pc H' S') : ∀ a, isPc pc a → G' a = none := fun a q => by
  cases z : G' a with
  | none => rfl
  | some u =>
    rcases e.new a u z with y | y | y
    · exact absurd (n a q) y
    · exact absurd y (s0.live q)
    · exact (s.noTup q (e.ok.ex z (by cases u <;> first | rfl | cases y)) y).elim
theorem src_live {H : Hp} {S : Src} {D : Addr} (sr : SrcOk pc H S) (n : H D = none) : ¬ isPc pc D := fun z => sr.live z n
theorem lc_pt {H_0 : Hp} {K : PySem.W.Frag} {elt : Ex} {tg : Tg} {it : Itx} {ifs : Exs} {own : List (Str × Nat)} (ht : tgIn (own.map (·.2)) tg = true) : ∀ σ H Q, tF K pc Φ (.lc elt tg it ifs own) σ H Q →
    tLc (tW K pc Φ H_0 it) (tG K tg) (tTs K pc Φ ifs) (tI K pc Φ elt) (own.map (·.2)) σ H fun x H1 => Q x H1 ∨ ∃ d od u, H1 d = some (.frz od u) ∧ Nf H_0 d ∧ Q x (L2.upd H1 d u) := by
  rintro σ H Q ⟨G, ρ, S, r, S', p, ev, io, k⟩
  obtain ⟨p1, e1, ev⟩ := ibind ev
  obtain ⟨q, e2, e3⟩ := imap ev
  cases e3
  have e2 : runC (turnC Φ elt tg ifs (wipeV ρ (own.map (·.2)))) p1.1 p1.2 = some q := e2
  refine ⟨G, ρ, S, p1.1, p1.2, p, e1, fun J G1 H1 L st1 s1 lo hl io' _ => ?_⟩
  have p1' := p.next st1 s1
  have sbL := lk_sub st1.ok lo
  have srL := lk_src p1'.npc lo s1
  refine fun D hD => ?_
  have npD : ¬ isPc pc D := src_live srL hD
  have n1 : G1 D = none := sbL.none hD
  have nH : H D = none := by
    cases z : H D with
    | none => rfl
    | some u =>
      exfalso
      have z1 := st1.live D (by rw [z]; simp)
      cases L with
      | no => exact z1 hD
      | «at» d o u =>
        by_cases y : D = d
        · have : lk (.at d o u) H1 D = some (.frz o u) := by rw [y]; exact upd_same
          rw [hD] at this
          cases this
        · have : lk (.at d o u) H1 D = H1 D := upd_ne y
          rw [hD] at this
          exact z1 this.symm
  let W : Nat → Nat → Hp → Prop := fun i m Hc => ∃ (Gc : Hp) (Sc : Src) (acc : List V) (accd rest : List PyData), m = p1.1.length - i ∧ i ≤ p1.1.length ∧ EStep pc G1 (lk L H1) Gc Hc ∧ Gc D = none ∧ Hc D = some (.lst acc) ∧
    RelAll K Gc acc accd ∧ acc.length ≤ i ∧ SrcOk pc Hc Sc ∧ (∀ a, isPc pc a → Gc a = none) ∧ runC (turnC Φ elt tg ifs (wipeV ρ (own.map (·.2)))) (p1.1.drop i) Sc = some (rest, q.2) ∧ accd ++ rest = q.1
  refine ⟨W, ⟨p1.1.length, G1, p1.2, [], [], q.1, by omega, by omega, (EStep.refl sbL).put hD n1 _, n1, upd_same, .nil, Nat.le_refl _, srL.put npD _, p1'.npc, by rw [List.drop_zero]; exact e2, rfl⟩, ?_⟩
  rintro i m Hc ⟨Gc, Sc, acc, accd, rest, hm, hi, stc, nc, hDc, rc, lc, src, npc, run, out⟩
  have fst := stc.fst sbL p1'.npc
  obtain ⟨io1, io2⟩ := io' Gc Hc fst i
  cases hx : p1.1[i]? with
  | none =>
    left
    have hlen : p1.1.length ≤ i := by simpa using hx
    refine ⟨io2 hlen, ?_⟩
    rw [List.drop_eq_nil_of_le hlen] at run
    cases run
    rw [List.append_nil] at out
    subst out
    have ro : RelO K Gc (.lst acc) (.list q.1) := .lst (by omega) rc
    cases L with
    | no => exact .inl (k D _ Gc Hc (st1.trans stc) src nH nc hDc ro)
    | «at» d o u =>
      obtain ⟨f1, f2, f3⟩ := lk_end lo stc p1'.npc
      have ne : D ≠ d := fun e => by rw [e, lo.1] at n1; cases n1
      exact .inr ⟨d, o, u, f1, lo.2.2.2, k D _ Gc _ (st1.trans f2) (f3 _ src) nH nc (by rw [upd_ne ne]; exact hDc) ro⟩
  | some x =>
    right
    have hi' : i < p1.1.length := (List.getElem?_eq_some_iff.mp hx).1
    obtain ⟨go, yl⟩ := io1 x hx
    refine ⟨go, fun Hn => W (i + 1) (p1.1.length - (i + 1)) Hn, fun Hn w => ⟨_, by omega, w⟩, fun v H2 y => ?_⟩
    obtain ⟨G2, st2, sr2, rv⟩ := yl v H2 y
    have hd : p1.1.drop i = x :: p1.1.drop (i + 1) := by
      rw [List.drop_eq_getElem_cons hi']
      congr 1
      rw [List.getElem?_eq_getElem hi'] at hx
      exact Option.some.inj hx
    rw [hd] at run
    simp only [runC] at run
    obtain ⟨t, f1, run⟩ := ibind run
    obtain ⟨q', f2, f3⟩ := imap run
    have g1 := congrArg Prod.fst f3
    have g2 := congrArg Prod.snd f3
    simp only at g1 g2
    obtain ⟨as, b1, f1⟩ := ibind f1
    obtain ⟨tt, t1, f1⟩ := ibind f1
    have st02 := stc.trans st2
    have sr2' := sr2 _ src
    have npc2 := st2.npc npc src sr2'
    have vw2 : VwOk K pc G2 (wipeV ρ (own.map (·.2))) (L2.wipe σ (own.map (·.2))) := (p.vw.mono (st1.le.trans st02.le)).wipe _
    refine ⟨G2, x, as, st2.ok, rv, b1, fun ws rw' => ⟨wipe_setV (tg_in ht b1), ?_⟩⟩
    have pre2 : Pre K pc G2 H2 Sc (setAllV (wipeV ρ (own.map (·.2))) as) (setV (L2.wipe σ (own.map (·.2))) (as.map (·.1)) ws) := ⟨st2.ok, sr2', npc2, vw2.bind rw'⟩
    refine ⟨G2, _, Sc, tt.1, tt.2, pre2, t1, fun G3 H3 st3 sr3 => ?_⟩
    have pre3 := pre2.next st3 sr3
    have st03 := st02.trans st3
    cases e0 : tt.1 with
    | true =>
      show tI K pc Φ elt _ _ _
      rw [e0, if_pos rfl] at f1
      obtain ⟨ee, e4, e5⟩ := imap f1
      subst e5
      refine ⟨G3, _, tt.2, ee.1, ee.2, pre3, e4, fun y G4 H4 st4 sr4 ry => ?_⟩
      have st04 := st03.trans st4
      obtain ⟨hD4, n4⟩ := ((st2.trans st3).trans st4).mine (S' := Sc) hDc nc npD
      refine ⟨acc, hD4, by omega, G4, ee.2, acc ++ [y], accd ++ [ee.1], q'.1, rfl, by omega, st04.put hD n4 _, n4, upd_same, (rc.mono ((st2.trans st3).trans st4).le).append (.cons ry .nil), by rw [List.length_append]; simp only [List.length_singleton]; omega, sr4.put npD _, (pre3.next st4 sr4).npc, ?_, ?_⟩
      · rw [g2]; exact f2
      · rw [← out, g1, List.append_assoc]; rfl
    | false =>
      show W (i + 1) _ _
      rw [e0, if_neg (by decide)] at f1
      cases f1
      obtain ⟨hD3, n3⟩ := (st2.trans st3).mine (S' := Sc) hDc nc npD
      refine ⟨G3, tt.2, acc, accd, q'.1, rfl, by omega, st03, n3, hD3, rc.mono (st2.trans st3).le, by omega, sr3, pre3.npc, ?_, ?_⟩
      · rw [g2]; exact f2
      · rw [← out, g1]; rfl
theorem s_lc {eelt etg eit : Expr} {eifs : List Expr} {scope : Scope} {own : List (Str × Nat)} {pos : Pos} {elt : Ex} {tg : Tg} {it : Itx} {ifs : Exs} (ok : XOk X T Φ sc) (hb : blkB X.N sc scope own = true) (ht : tgIn (own.map (·.2)) tg = true) (pi : plainE eit = true)
    (hi : PI X etg eit (tW X.K pc Φ X.H_0 it))
    (hg : ∀ (s : Shared) (H : Hp) (C : Addr) (cl : List (Str × Addr)) (fp : List Addr), PG (X.blk s H scope (compEnvC scope cl C X.env) fp) etg (tG X.K tg))
    (hts : ∀ (s : Shared) (H : Hp) (C : Addr) (cl : List (Str × Addr)) (fp : List Addr), PTs (X.blk s H scope (compEnvC scope cl C X.env) fp) eifs (tTs X.K pc Φ ifs))
    (he : ∀ (s : Shared) (H : Hp) (C : Addr) (cl : List (Str × Addr)) (fp : List Addr), PE (X.blk s H scope (compEnvC scope cl C X.env) fp) eelt (tI X.K pc Φ elt)) :
    Snd X pc Φ (.ListComp eelt [⟨etg, eit, eifs, 0⟩] scope pos) (.lc elt tg it ifs own) := by
  have fr : PE X (.ListComp eelt [⟨etg, eit, eifs, 0⟩] scope pos) (tF X.K pc Φ (.lc elt tg it ifs own)) :=
    (pe_un' (pe_lc ok.calm ok.nd hi (blk_of ok.ag hb) hg hts he (by intro x; cases eit <;> first | rfl | cases pi))).imp (lc_pt ht)
  refine snd_plain (fresh_i fr fun ρ S r S' ev => ?_) (fun _ => rfl) (fun _ _ _ => nofun) (fun _ => fr)
  obtain ⟨p1, e1, ev⟩ := ibind ev
  obtain ⟨q, e2, e3⟩ := imap ev
  cases e3
  rfl
theorem XOk.blk (ok : XOk X T Φ sc) (scope : Scope) (s : Shared) (H : Hp) (C : Addr) (cl : List (Str × Addr)) (fp : List Addr) : XOk (X.blk s H scope (compEnvC scope cl C X.env) fp) T Φ scope :=
  ⟨ok.calm, ok.nd, Agree.blk scope X.env.scope, fun x h => by show (scope.names.lookup x == some .cell) = true; rw [h]; rfl, ok.hu, ok.gd, ok.blt, ok.arity, fun f fd h => ok.fns f fd h⟩
theorem ts_one {e : Expr} {b : Bool} {x : Ex} (h : PT X e (tB X.K pc Φ x)) : PTs X [e] (tTs X.K pc Φ (.cons b x .nil)) := (pts_one h).imp fun σ H Q ⟨G, ρ, S, t, S', p, ev, k⟩ => by
  simp only [evTs] at ev
  obtain ⟨p1, e1, ev⟩ := ibind ev
  obtain ⟨t1, e2, ev⟩ := ibind ev
  cases t1 with
  | true => cases ev; exact ⟨G, ρ, S, p1.1, p1.2, true, p, e1, e2, k⟩
  | false => cases ev; exact ⟨G, ρ, S, p1.1, p1.2, false, p, e1, e2, k⟩
mutual
theorem sndE : ∀ (x : Ex) {X : Cx} {sc : Scope} {e : Expr}, XOk X T Φ sc → chkE (T.map Fd.name) X.N sc e x = true → Snd X pc Φ e x
  | .vr i, X, sc, e, ok, h => by
    simp only [chkE] at h
    split at h
    · exact s_vr ok h
    · cases h
  | .cn d, X, sc, e, ok, h => s_cn h
  | .bin o a b, X, sc, e, ok, h => by
    simp only [chkE] at h
    split at h
    · simp only [Bool.and_eq_true] at h
      obtain ⟨⟨h1, h2⟩, h3⟩ := h
      have := eq_of_beq h1
      subst this
      exact s_bin (sndE a ok h2) (sndE b ok h3)
    · cases h
  | .neg a, X, sc, e, ok, h => by
    simp only [chkE] at h
    split at h
    · exact s_neg (sndE a ok h)
    · cases h
  | .nt a, X, sc, e, ok, h => by
    simp only [chkE] at h
    split at h
    · exact s_nt (sndE a ok h)
    · cases h
  | .cmp o a b, X, sc, e, ok, h => by
    simp only [chkE] at h
    split at h
    · simp only [Bool.and_eq_true] at h
      obtain ⟨⟨⟨h1, h2⟩, h3⟩, h4⟩ := h
      have := eq_of_beq h1
      subst this
      exact s_cmp ok h2 (sndE a ok h3) (sndE b ok h4)
    · cases h
  | .cmp2 o o' a b c, X, sc, e, ok, h => by
    simp only [chkE] at h
    split at h
    · simp only [Bool.and_eq_true] at h
      obtain ⟨⟨⟨⟨⟨⟨h1, h2⟩, h3⟩, h4⟩, h5⟩, h6⟩, h7⟩ := h
      have := eq_of_beq h1
      subst this
      have := eq_of_beq h2
      subst this
      exact s_cmp2 ok h3 h4 (sndE a ok h5) (sndE b ok h6) (sndE c ok h7)
    · cases h
  | .an a b, X, sc, e, ok, h => by
    simp only [chkE] at h
    split at h
    · simp only [Bool.and_eq_true] at h
      exact s_an (sndE a ok h.1) (sndE b ok h.2)
    · cases h
  | .or a b, X, sc, e, ok, h => by
    simp only [chkE] at h
    split at h
    · simp only [Bool.and_eq_true] at h
      exact s_or (sndE a ok h.1) (sndE b ok h.2)
    · cases h
  | .one a, X, sc, e, ok, h => by
    simp only [chkE] at h
    split at h
    · exact s_one (sndE a ok h)
    · cases h
  | .ite c a b, X, sc, e, ok, h => by
    simp only [chkE] at h
    split at h
    · simp only [Bool.and_eq_true] at h
      exact s_ite (sndE c ok h.1.1) (sndE a ok h.1.2) (sndE b ok h.2)
    · cases h
  | .tup es, X, sc, e, ok, h => by
    simp only [chkE] at h
    split at h
    · exact s_tup (sndEs es ok h)
    · cases h
  | .lst es, X, sc, e, ok, h => by
    simp only [chkE] at h
    split at h
    · exact s_lst (sndEs es ok h)
    · cases h
  | .dsp ks vs, X, sc, e, ok, h => by
    simp only [chkE] at h
    split at h
    · exact s_dsp
    · cases h
  | .call f es, X, sc, e, ok, h => by
    simp only [chkE] at h
    split at h
    · simp only [Bool.and_eq_true] at h
      obtain ⟨⟨⟨⟨h1, h2⟩, h3⟩, h4⟩, h5⟩ := h
      exact s_call ok (by simpa using h1) h2 h3 h4 (sndAs es ok h4 h5)
    · cases h
  | .bi b es, X, sc, e, ok, h => by
    simp only [chkE] at h
    split at h
    · simp only [Bool.and_eq_true] at h
      obtain ⟨⟨⟨h1, h2⟩, h3⟩, h4⟩ := h
      have := eq_of_beq h1
      subst this
      exact s_bi ok h2 h3 (sndEs es ok h4)
    · cases h
  | .mt _ _ _, X, sc, e, ok, h => by
    simp only [chkE] at h
    cases h
  | .ix a i, X, sc, e, ok, h => by
    simp only [chkE] at h
    split at h
    · simp only [Bool.and_eq_true] at h
      exact s_ix ok h.1.1 (sndE a ok h.1.2) (sndE i ok h.2)
    · cases h
  | .sl a lo hi, X, sc, e, ok, h => by
    simp only [chkE] at h
    split at h
    · simp only [Bool.and_eq_true] at h
      exact s_sl ok (sndE a ok h.1.1) (sndO lo ok h.1.2) (sndO hi ok h.2)
    · cases h
  | .rv a, X, sc, e, ok, h => by
    simp only [chkE] at h
    split at h
    · exact s_rv (sndE a ok h)
    · cases h
  | .lc elt tg it ifs own, X, sc, e, ok, h => by
    simp only [chkE] at h
    split at h
    · simp only [Bool.and_eq_true] at h
      obtain ⟨⟨⟨⟨⟨⟨h1, h2⟩, h3⟩, h4⟩, h5⟩, h6⟩, h7⟩ := h
      exact s_lc ok h1 h2 h3 (sndI it ok h5) (fun s H C cl fp => s_tg (ok.blk _ s H C cl fp) tg h4) (fun s H C cl fp => sndTs ifs (ok.blk _ s H C cl fp) h6) (fun s H C cl fp => (sndE elt (ok.blk _ s H C cl fp) h7).pe)
    · cases h
  | .sget j f, X, sc, e, ok, h => by
    simp only [chkE] at h
    split at h
    · simp only [Bool.and_eq_true] at h
      have := eq_of_beq h.2
      subst this
      exact s_sget ok h.1
    · cases h
  | .slen j b, X, sc, e, ok, h => by
    simp only [chkE] at h
    split at h
    · simp only [Bool.and_eq_true] at h
      have := eq_of_beq h.1.1
      subst this
      exact s_slen ok h.1.2 h.2
    · cases h
  | .spop j b, X, sc, e, ok, h => by
    simp only [chkE] at h
    split at h
    · simp only [Bool.and_eq_true] at h
      have := eq_of_beq h.1.1
      subst this
      exact s_spop ok h.1.2 h.2
    · cases h
theorem sndEs : ∀ (x : Exs) {X : Cx} {sc : Scope} {es : List Expr}, XOk X T Φ sc → chkEs (T.map Fd.name) X.N sc es x = true → PA X es (tIs X.K pc Φ x)
  | .nil, X, sc, es, ok, h => by
    simp only [chkEs] at h
    cases es with
    | nil => exact es_nil
    | cons _ _ => cases h
  | .cons false e r, X, sc, es, ok, h => by
    simp only [chkEs] at h
    split at h
    · simp only [Bool.and_eq_true] at h
      exact es_cons h.1.1 (sndE e ok h.1.2).pe (sndEs r ok h.2)
    · cases h
  | .cons true e r, X, sc, es, ok, h => by
    simp only [chkEs] at h
    split at h
    · simp only [Bool.and_eq_true] at h
      exact es_star (sndE e ok h.1).pe (sndEs r ok h.2)
    · cases h
theorem sndAs : ∀ (x : Exs) {X : Cx} {sc : Scope} {es : List Expr}, XOk X T Φ sc → es.all plainE = true → chkAs (T.map Fd.name) X.N sc es x = true → PA X es (tAs X.K pc Φ x)
  | .nil, X, sc, es, ok, _, h => by
    simp only [chkAs] at h
    cases es with
    | nil => exact as_nil
    | cons _ _ => cases h
  | .cons b e r, X, sc, es, ok, hp, h => by
    simp only [chkAs] at h
    split at h
    · rename_i ee er
      simp only [Bool.and_eq_true] at h
      rw [List.all_cons, Bool.and_eq_true] at hp
      have hs : PE X ee (tSrc X.K pc e) := by
        have h1 := h.1
        cases e with
        | vr i =>
          simp only [chkE] at h1
          split at h1
          · exact src_vr ok h1
          · cases h1
        | _ => exact src_no (fun i => by simp)
      exact as_cons hp.1 (sndE e ok h.1).pe hs (sndAs r ok hp.2 h.2)
    · cases h
theorem sndTs : ∀ (x : Exs) {X : Cx} {sc : Scope} {es : List Expr}, XOk X T Φ sc → chkTs (T.map Fd.name) X.N sc es x = true → PTs X es (tTs X.K pc Φ x)
  | .nil, X, sc, es, ok, h => by
    simp only [chkTs] at h
    cases es with
    | nil => exact ts_nil
    | cons _ _ => cases h
  | .cons b e r, X, sc, es, ok, h => by
    simp only [chkTs] at h
    split at h
    · simp only [Bool.and_eq_true] at h
      cases r with
      | nil => exact ts_one (sndE e ok h.1).pt
      | cons _ _ _ => cases h.2
    · cases h
theorem sndO : ∀ (x : Exs) {X : Cx} {sc : Scope} {o : Option Expr}, XOk X T Φ sc → chkO (T.map Fd.name) X.N sc o x = true → PO X o (tO X.K pc Φ x)
  | .nil, X, sc, o, ok, h => by
    simp only [chkO] at h
    cases o with
    | none => exact o_none
    | some _ => cases h
  | .cons b e r, X, sc, o, ok, h => by
    simp only [chkO] at h
    split at h
    · simp only [Bool.and_eq_true] at h
      cases r with
      | nil => exact o_some (sndE e ok h.1.2).pe (by simpa using h.1.1.1)
      | cons _ _ _ => cases h.2
    · cases h
theorem sndI : ∀ (x : Itx) {X : Cx} {sc : Scope} {tg e : Expr}, XOk X T Φ sc → chkI (T.map Fd.name) X.N sc tg e x = true → PI X tg e (tW X.K pc Φ X.H_0 x)
  | .ex a, X, sc, tg, e, ok, h => by
    simp only [chkI] at h
    exact w_ex (sndE a ok h).pe
  | .rng1 a, X, sc, tg, e, ok, h => by
    simp only [chkI] at h
    split at h
    · simp only [Bool.and_eq_true] at h
      obtain ⟨⟨⟨h1, h2⟩, h3⟩, h4⟩ := h
      have := eq_of_beq h1
      subst this
      exact w_rng1 ok h2 h3 (sndE a ok h4).pe
    · cases h
  | .rng2 a b, X, sc, tg, e, ok, h => by
    simp only [chkI] at h
    split at h
    · simp only [Bool.and_eq_true] at h
      obtain ⟨⟨⟨⟨⟨h1, h2⟩, h3⟩, h4⟩, h5⟩, h6⟩ := h
      have := eq_of_beq h1
      subst this
      exact w_rng2 ok h2 h3 h4 (sndE a ok h5).pe (sndE b ok h6).pe
    · cases h
  | .enm a, X, sc, tg, e, ok, h => by
    simp only [chkI] at h
    split at h
    · simp only [Bool.and_eq_true] at h
      obtain ⟨⟨⟨⟨h1, h2⟩, h3⟩, h4⟩, h5⟩ := h
      have := eq_of_beq h1
      subst this
      cases tg with
      | Tuple _ _ _ => exact w_enm ok h2 h4 (sndE a ok h5).pe
      | _ => cases h3
    · cases h
  | .zip a b, X, sc, tg, e, ok, h => by
    simp only [chkI] at h
    split at h
    · simp only [Bool.and_eq_true] at h
      obtain ⟨⟨⟨⟨⟨⟨h1, h2⟩, h3⟩, h4⟩, h5⟩, h6⟩, h7⟩ := h
      have := eq_of_beq h1
      subst this
      cases tg with
      | Tuple _ _ _ => exact w_zip ok h2 h4 h5 (sndE a ok h6).pe (sndE b ok h7).pe
      | _ => cases h3
    · cases h
  | .itm a, X, sc, tg, e, ok, h => by
    simp only [chkI] at h
    cases h
  | .vls a, X, sc, tg, e, ok, h => by
    simp only [chkI] at h
    cases h
  | .scr j, X, sc, tg, e, ok, h => by
    simp only [chkI] at h
    split at h
    · exact w_scr ok h
    · cases h
end
end
end Pyl

/-! Pyl14: the state between statements. -/
namespace Pyl
open PySem PySem.Spec PyProof.Rows L2

def isO : HO → Bool
  | .lst _ => true
  | .dK _ => true
  | .dT _ => true
  | _ => false
inductive RowsO (K : PySem.W.Frag) (G H : Hp) : List Addr → List PyData → Prop
  | nil : RowsO K G H [] []
  | cons {b : Addr} {u : HO} {r : PyData} {bs : List Addr} {rs : List PyData} : H b = some u → RelO K G u r → RowsO K G H bs rs → RowsO K G H (b :: bs) (r :: rs)
def SlOk (K : PySem.W.Frag) (pc : PC) (G H : Hp) (w : Option V) (as : List Addr) : Sl → Prop
  | .no => as = []
  | .d x => as = [] ∧ ∃ v, w = some v ∧ Rel K G v x
  | .src => as = [] ∧ ∃ p c, pc = some (p, c) ∧ w = some (.ref p)
  | .cel => as = [] ∧ ∃ p c, pc = some (p, c) ∧ w = some (.ref c)
  | .scr ns => as = [] ∧ ∃ a, w = some (.ref a) ∧ SqL K G a (ns.map V.int) ∧ ns.length ≤ sizeLine
  | .ol xs => ∃ a u, as = [a] ∧ w = some (.ref a) ∧ H a = some u ∧ RelO K G u (.list xs)
  | .od kvs => ∃ a u, as = [a] ∧ w = some (.ref a) ∧ H a = some u ∧ RelO K G u (.dict kvs)
  | .oll rows => ∃ a bs, as = a :: bs ∧ w = some (.ref a) ∧ H a = some (.lst (bs.map .ref)) ∧ bs.length ≤ sizeLine ∧ RowsO K G H bs (rows.map .list)
  | .odl rows => ∃ a bs, as = a :: bs ∧ w = some (.ref a) ∧ H a = some (.lst (bs.map .ref)) ∧ bs.length ≤ sizeLine ∧ RowsO K G H bs (rows.map .dict)
theorem RelO.mono {K : PySem.W.Frag} {G G' : Hp} (l : Le G G') {u : HO} {r : PyData} (h : RelO K G u r) : RelO K G' u r := by
  cases h with
  | lst a b => exact .lst a (b.mono l)
  | dk a b => exact .dk a (b.mono l)
  | dt a b => exact .dt a (b.mono l)
theorem RelO.isO {K : PySem.W.Frag} {G : Hp} {u : HO} {r : PyData} (h : RelO K G u r) : isO u = true := by cases h <;> rfl
theorem RowsO.mono {K : PySem.W.Frag} {G H G' H' : Hp} (l : Le G G') : ∀ {bs : List Addr} {rs : List PyData}, (∀ a ∈ bs, H' a = H a) → RowsO K G H bs rs → RowsO K G' H' bs rs
  | _, _, _, .nil => .nil
  | _, _, k, .cons a b c => .cons ((k _ (by simp)).trans a) (b.mono l) (RowsO.mono l (fun a ha => k a (List.mem_cons_of_mem _ ha)) c)
theorem SlOk.mono {K : PySem.W.Frag} {pc : PC} {G H G' H' : Hp} {w : Option V} {as : List Addr} {s : Sl} (h : SlOk K pc G H w as s) (l : Le G G') (k : ∀ a ∈ as, H' a = H a) : SlOk K pc G' H' w as s := by
  cases s with
  | no => exact h
  | d x => obtain ⟨h1, v, h2, h3⟩ := h; exact ⟨h1, v, h2, h3.mono l⟩
  | src => exact h
  | cel => exact h
  | scr ns => obtain ⟨h1, a, h2, h3, h4⟩ := h; exact ⟨h1, a, h2, l.sqL h3, h4⟩
  | ol xs => obtain ⟨a, u, rfl, h2, h3, h4⟩ := h; exact ⟨a, u, rfl, h2, (k a (by simp)).trans h3, h4.mono l⟩
  | od xs => obtain ⟨a, u, rfl, h2, h3, h4⟩ := h; exact ⟨a, u, rfl, h2, (k a (by simp)).trans h3, h4.mono l⟩
  | oll xs => obtain ⟨a, bs, rfl, h2, h3, h4, h5⟩ := h; exact ⟨a, bs, rfl, h2, (k a (by simp)).trans h3, h4, h5.mono l fun a ha => k a (List.mem_cons_of_mem _ ha)⟩
  | odl xs => obtain ⟨a, bs, rfl, h2, h3, h4, h5⟩ := h; exact ⟨a, bs, rfl, h2, (k a (by simp)).trans h3, h4, h5.mono l fun a ha => k a (List.mem_cons_of_mem _ ha)⟩

structure StOk (K : PySem.W.Frag) (pc : PC) (G0 H0 G : Hp) (oa : Nat → List Addr) (ρ : List Sl) (S : Src) (σ : L2.St) (H : Hp) : Prop where
  len : ρ.length = σ.length
  st : EStep pc G0 H0 G H
  src : SrcOk pc H S
  npc : ∀ a, isPc pc a → G a = none
  sl : ∀ i s w, ρ[i]? = some s → σ[i]? = some w → SlOk K pc G H w (oa i) s
  out : ∀ i, ρ.length ≤ i → oa i = []
  nd : ∀ i, (oa i).Nodup
  dj : ∀ i j a, a ∈ oa i → a ∈ oa j → i = j
  ow : ∀ i a, a ∈ oa i → G a = none ∧ H0 a = none ∧ ¬ isPc pc a ∧ ∃ u, H a = some u ∧ isO u = true
section
variable {K : PySem.W.Frag} {pc : PC} {G0 H0 G : Hp} {oa : Nat → List Addr} {ρ : List Sl} {S : Src} {σ : L2.St} {H : Hp}
theorem isO_tup {u : HO} (h : isO u = true) : isTup u = false := by cases u <;> first | rfl | cases h
/-- frozen view of the heap stays apart from what a frame owns -/
theorem own_keep {G1 H1 : Hp} {a : Addr} (e : EStep pc G H G1 H1) (h : G a = none ∧ H0 a = none ∧ ¬ isPc pc a ∧ ∃ u, H a = some u ∧ isO u = true) : H1 a = H a ∧ G1 a = none := by
  obtain ⟨g, _, np, u, hu, io⟩ := h
  have k : H1 a = H a := e.keep a (by rw [hu]; simp) np
  refine ⟨k, ?_⟩
  cases q : G1 a with
  | none => rfl
  | some w =>
    rcases e.new a w q with z | z | z
    · exact absurd g z
    · rw [hu] at z; cases z
    · have := e.ok.ex q (by cases w <;> first | rfl | cases z)
      rw [k, hu] at this
      cases this
      rw [isO_tup io] at z
      cases z
theorem StOk.step {G1 H1 : Hp} {S1 : Src} (h : StOk K pc G0 H0 G oa ρ S σ H) (e : EStep pc G H G1 H1) (s : SrcOk pc H1 S1) : StOk K pc G0 H0 G1 oa ρ S1 σ H1 :=
  ⟨h.len, h.st.trans e, s, e.npc h.npc h.src s, fun i s w e1 e2 => (h.sl i s w e1 e2).mono e.le fun a ha => (own_keep e (h.ow i a ha)).1, h.out, h.nd, h.dj, fun i a ha => by
    obtain ⟨k1, k2⟩ := own_keep e (h.ow i a ha)
    obtain ⟨g, g2, np, u, hu, io⟩ := h.ow i a ha
    exact ⟨k2, g2, np, u, k1.trans hu, io⟩⟩
theorem StOk.fst_of {G1 H1 : Hp} (h : StOk K pc G0 H0 G oa ρ S σ H) (e : EStep pc G H G1 H1) : FSt G H G1 H1 := e.fst h.st.ok h.npc
theorem getσ (h : ρ.length = σ.length) {i : Nat} {s : Sl} (e : ρ[i]? = some s) : ∃ w, σ[i]? = some w := by
  have hi := (List.getElem?_eq_some_iff.mp e).1
  exact ⟨_, List.getElem?_eq_getElem (by omega)⟩
/-- frozen -/
theorem StOk.fz (h : StOk K pc G0 H0 G oa ρ S σ H) : VwOk K pc G (ρ.map Sl.fz) σ := fun i w e => by
  rw [List.getElem?_map] at e
  obtain ⟨s, e1, rfl⟩ := Option.map_eq_some_iff.mp e
  obtain ⟨w, e2⟩ := getσ h.len e1
  have q := h.sl i s w e1 e2
  have hi := (List.getElem?_eq_some_iff.mp e2).1
  cases s with
  | d x => obtain ⟨_, v, rfl, r⟩ := q; exact ⟨v, e2, r⟩
  | src => obtain ⟨_, p, c, r, rfl⟩ := q; exact ⟨p, c, r, e2⟩
  | cel => obtain ⟨_, p, c, r, rfl⟩ := q; exact ⟨p, c, r, e2⟩
  | scr ns => obtain ⟨_, a, rfl, r, l⟩ := q; exact ⟨a, e2, r, l⟩
  | _ => exact hi
open Classical in
/-- what the frame owns, told too -/
noncomputable def gv (oa : Nat → List Addr) (G H : Hp) : Hp := fun a => if ∃ i, a ∈ oa i then H a else G a
theorem gv_in {i : Nat} {a : Addr} (h : a ∈ oa i) : gv oa G H a = H a := by unfold gv; rw [if_pos ⟨i, h⟩]
theorem gv_out {a : Addr} (h : ¬ ∃ i, a ∈ oa i) : gv oa G H a = G a := by unfold gv; rw [if_neg h]
theorem StOk.gvLe (h : StOk K pc G0 H0 G oa ρ S σ H) : Le G (gv oa G H) := fun a u e => by
  by_cases q : ∃ i, a ∈ oa i
  · obtain ⟨i, q⟩ := q
    rw [(h.ow i a q).1] at e
    cases e
  · rw [gv_out q]; exact e
theorem StOk.gvSub (h : StOk K pc G0 H0 G oa ρ S σ H) : Sub (gv oa G H) H := fun a u e => by
  by_cases q : ∃ i, a ∈ oa i
  · obtain ⟨i, q⟩ := q
    rw [gv_in q] at e
    exact .inl e
  · rw [gv_out q] at e; exact h.st.ok a u e
theorem StOk.gvNpc (h : StOk K pc G0 H0 G oa ρ S σ H) : ∀ a, isPc pc a → gv oa G H a = none := fun a z => by
  by_cases q : ∃ i, a ∈ oa i
  · obtain ⟨i, q⟩ := q
    exact absurd z (h.ow i a q).2.2.1
  · rw [gv_out q]; exact h.npc a z
theorem rows_rel {G1 : Hp} (l : Le G G1) : ∀ {bs : List Addr} {rs : List PyData}, (∀ b ∈ bs, G1 b = H b) → RowsO K G H bs rs → RelAll K G1 (bs.map .ref) rs
  | _, _, _, .nil => .nil
  | b :: bs, _, k, .cons a r t => by
    refine .cons ?_ (rows_rel l (fun b hb => k b (List.mem_cons_of_mem _ hb)) t)
    have e := (k b (by simp)).trans a
    cases r with
    | lst x y => exact .lst e x (y.mono l)
    | dk x y => exact .dk e x (y.mono l)
    | dt x y => exact .dt e x (y.mono l)
theorem StOk.vw (h : StOk K pc G0 H0 G oa ρ S σ H) : VwOk K pc (gv oa G H) (ρ.map Sl.vw) σ := fun i w e => by
  rw [List.getElem?_map] at e
  obtain ⟨s, e1, rfl⟩ := Option.map_eq_some_iff.mp e
  obtain ⟨w, e2⟩ := getσ h.len e1
  have q := h.sl i s w e1 e2
  have hi := (List.getElem?_eq_some_iff.mp e2).1
  have l := h.gvLe
  have hg : ∀ a ∈ oa i, gv oa G H a = H a := fun a ha => gv_in ha
  cases s with
  | d x => obtain ⟨_, v, rfl, r⟩ := q; exact ⟨v, e2, r.mono l⟩
  | src => obtain ⟨_, p, c, r, rfl⟩ := q; exact ⟨p, c, r, e2⟩
  | cel => obtain ⟨_, p, c, r, rfl⟩ := q; exact ⟨p, c, r, e2⟩
  | scr ns => obtain ⟨_, a, rfl, r, z⟩ := q; exact ⟨a, e2, l.sqL r, z⟩
  | no => exact hi
  | ol xs =>
    obtain ⟨a, u, h1, rfl, h3, h4⟩ := q
    refine ⟨_, e2, ?_⟩
    have g : gv oa G H a = some u := (hg a (by rw [h1]; simp)).trans h3
    cases h4 with
    | lst x y => exact .lst g x (y.mono l)
  | od xs =>
    obtain ⟨a, u, h1, rfl, h3, h4⟩ := q
    refine ⟨_, e2, ?_⟩
    have g : gv oa G H a = some u := (hg a (by rw [h1]; simp)).trans h3
    cases h4 with
    | dk x y => exact .dk g x (y.mono l)
    | dt x y => exact .dt g x (y.mono l)
  | oll xs =>
    obtain ⟨a, bs, h1, rfl, h3, h4, h5⟩ := q
    exact ⟨_, e2, .lst ((hg a (by rw [h1]; simp)).trans h3) (by rw [List.length_map]; exact h4) (rows_rel l (fun b hb => hg b (by rw [h1]; exact List.mem_cons_of_mem _ hb)) h5)⟩
  | odl xs =>
    obtain ⟨a, bs, h1, rfl, h3, h4, h5⟩ := q
    exact ⟨_, e2, .lst ((hg a (by rw [h1]; simp)).trans h3) (by rw [List.length_map]; exact h4) (rows_rel l (fun b hb => hg b (by rw [h1]; exact List.mem_cons_of_mem _ hb)) h5)⟩
open Classical in
/-- what was borrowed is given back -/
noncomputable def gd (oa : Nat → List Addr) (G1 : Hp) : Hp := fun a => if ∃ i, a ∈ oa i then none else G1 a
theorem gd_in {i : Nat} {a : Addr} {G1 : Hp} (h : a ∈ oa i) : gd oa G1 a = none := by unfold gd; rw [if_pos ⟨i, h⟩]
theorem gd_out {a : Addr} {G1 : Hp} (h : ¬ ∃ i, a ∈ oa i) : gd oa G1 a = G1 a := by unfold gd; rw [if_neg h]
theorem gd_some {a : Addr} {G1 : Hp} {u : HO} (h : gd oa G1 a = some u) : G1 a = some u ∧ ¬ ∃ i, a ∈ oa i := by
  by_cases q : ∃ i, a ∈ oa i
  · obtain ⟨i, q⟩ := q
    rw [gd_in q] at h
    cases h
  · rw [gd_out q] at h; exact ⟨h, q⟩
theorem StOk.back {G1 H1 : Hp} (h : StOk K pc G0 H0 G oa ρ S σ H) (e : EStep pc (gv oa G H) H G1 H1) : EStep pc G H (gd oa G1) H1 := by
  refine ⟨fun a u z => ?_, fun a u z => e.ok a u (gd_some z).1, e.keep, e.live, fun a u z => ?_⟩
  · have q : ¬ ∃ i, a ∈ oa i := fun ⟨i, q⟩ => by rw [(h.ow i a q).1] at z; cases z
    rw [gd_out q]
    exact e.le a u (by rw [gv_out q]; exact z)
  · obtain ⟨z1, q⟩ := gd_some z
    rcases e.new a u z1 with y | y
    · rw [gv_out q] at y; exact .inl y
    · exact .inr y
mutual
theorem rel_back {G1 H1 : Hp} (h : StOk K pc G0 H0 G oa ρ S σ H) (e : EStep pc (gv oa G H) H G1 H1) : ∀ {v : V} {r : PyData}, lf r = true → Rel K G1 v r → Rel K (gd oa G1) v r
  | _, _, _, .non => .non
  | _, _, _, .bl b => .bl b
  | _, _, _, .int i => .int i
  | _, _, _, .str x => .str x
  | _, _, q, .lst s l r => by simp [lf] at q
  | _, _, q, .dk s l r => by simp [lf] at q
  | _, _, q, .dt s l r => by simp [lf] at q
  | _, _, q, .tup (a := a) s l r => by
    have n : ¬ ∃ i, a ∈ oa i := fun ⟨i, m⟩ => by
      obtain ⟨_, _, _, u, hu, io⟩ := h.ow i a m
      have := e.le a u (by rw [gv_in m]; exact hu)
      rw [s] at this
      cases this
      cases io
    simp only [lf] at q
    exact .tup (by rw [gd_out n]; exact s) l (relAll_back h e q r)
theorem relAll_back {G1 H1 : Hp} (h : StOk K pc G0 H0 G oa ρ S σ H) (e : EStep pc (gv oa G H) H G1 H1) : ∀ {v : List V} {r : List PyData}, lf.lfAll r = true → RelAll K G1 v r → RelAll K (gd oa G1) v r
  | _, _, _, .nil => .nil
  | _, _, q, .cons a b => by
    simp only [lf.lfAll, Bool.and_eq_true] at q
    exact .cons (rel_back h e q.1 a) (relAll_back h e q.2 b)
end
/-- the base, with what the frame owns -/
theorem StOk.gvSt (h : StOk K pc G0 H0 G oa ρ S σ H) : EStep pc G0 H0 (gv oa G H) H :=
  ⟨h.st.le.trans h.gvLe, h.gvSub, h.st.keep, h.st.live, fun a u e => by
    by_cases q : ∃ i, a ∈ oa i
    · obtain ⟨i, q⟩ := q
      exact .inr (.inl (h.ow i a q).2.1)
    · rw [gv_out q] at e; exact h.st.new a u e⟩
/-- another order of the slots -/
theorem StOk.re {ρ' : List Sl} {σ' : L2.St} (h : StOk K pc G0 H0 G oa ρ S σ H) (f : Nat → Nat) (len : ρ'.length = σ'.length) (inj : ∀ i j, i < ρ'.length → j < ρ'.length → f i = f j → i = j)
    (hρ : ∀ i, i < ρ'.length → ρ'[i]? = ρ[f i]?) (hσ : ∀ i, i < ρ'.length → σ'[i]? = σ[f i]?) : StOk K pc G0 H0 G (fun i => if i < ρ'.length then oa (f i) else []) ρ' S σ' H := by
  refine ⟨len, h.st, h.src, h.npc, fun i s w e1 e2 => ?_, fun i hi => ?_, fun i => ?_, fun i j a ha hb => ?_, fun i a ha => ?_⟩
  · have hi := (List.getElem?_eq_some_iff.mp e1).1
    rw [hρ i hi] at e1
    rw [hσ i hi] at e2
    simp only [if_pos hi]
    exact h.sl _ _ _ e1 e2
  · simp only [if_neg (Nat.not_lt.mpr hi)]
  · by_cases hi : i < ρ'.length
    · simp only [if_pos hi]; exact h.nd _
    · simp only [if_neg hi]; exact List.nodup_nil
  · by_cases hi : i < ρ'.length
    · by_cases hj : j < ρ'.length
      · simp only [if_pos hi] at ha
        simp only [if_pos hj] at hb
        exact inj i j hi hj (h.dj _ _ a ha hb)
      · simp only [if_neg hj] at hb; cases hb
    · simp only [if_neg hi] at ha; cases ha
  · by_cases hi : i < ρ'.length
    · simp only [if_pos hi] at ha; exact h.ow _ a ha
    · simp only [if_neg hi] at ha; cases ha
/-- the last value goes into slot i -/
theorem StOk.pop {s : Sl} {w : Option V} {i : Nat} (h : StOk K pc G0 H0 G oa (ρ ++ [s]) S (σ ++ [w]) H) (hi : i < ρ.length) : ∃ oa', StOk K pc G0 H0 G oa' (ρ.set i s) S (σ.set i w) H := by
  have len : ρ.length = σ.length := by have := h.len; simp only [List.length_append, List.length_singleton] at this; omega
  refine ⟨_, h.re (fun j => if j = i then ρ.length else j) (by rw [List.length_set, List.length_set]; exact len) (fun a b ha hb e => ?_) (fun j hj => ?_) fun j hj => ?_⟩
  · rw [List.length_set] at ha hb
    by_cases x : a = i
    · by_cases y : b = i
      · rw [x, y]
      · simp only [if_pos x, if_neg y] at e; omega
    · by_cases y : b = i
      · simp only [if_neg x, if_pos y] at e; omega
      · simp only [if_neg x, if_neg y] at e; exact e
  · rw [List.length_set] at hj
    by_cases x : j = i
    · simp only [if_pos x]
      rw [x, List.getElem?_set_self (by omega), List.getElem?_append_right (Nat.le_refl _), Nat.sub_self]
      rfl
    · simp only [if_neg x]
      rw [List.getElem?_set_ne (Ne.symm x), List.getElem?_append_left hj]
  · rw [List.length_set] at hj
    by_cases x : j = i
    · simp only [if_pos x]
      rw [x, List.getElem?_set_self (by omega), List.getElem?_append_right (by omega), len, Nat.sub_self]
      rfl
    · simp only [if_neg x]
      rw [List.getElem?_set_ne (Ne.symm x), List.getElem?_append_left (by omega)]
/-- one more, owning as -/
theorem StOk.more {s : Sl} {w : Option V} {as : List Addr} (h : StOk K pc G0 H0 G oa ρ S σ H) (hs : SlOk K pc G H w as s) (nd : as.Nodup) (ow : ∀ a ∈ as, G a = none ∧ H0 a = none ∧ ¬ isPc pc a ∧ ∃ u, H a = some u ∧ isO u = true)
    (dj : ∀ i a, a ∈ oa i → a ∉ as) : StOk K pc G0 H0 G (fun i => if i = ρ.length then as else oa i) (ρ ++ [s]) S (σ ++ [w]) H := by
  have len := h.len
  refine ⟨by simp only [List.length_append, List.length_singleton]; omega, h.st, h.src, h.npc, fun i s' w' e1 e2 => ?_, fun i hi => ?_, fun i => ?_, fun i j a ha hb => ?_, fun i a ha => ?_⟩
  · by_cases x : i = ρ.length
    · simp only [if_pos x]
      rw [x, List.getElem?_append_right (Nat.le_refl _), Nat.sub_self] at e1
      rw [x, List.getElem?_append_right (by omega), len, Nat.sub_self] at e2
      cases e1
      cases e2
      exact hs
    · simp only [if_neg x]
      have hi := (List.getElem?_eq_some_iff.mp e1).1
      simp only [List.length_append, List.length_singleton] at hi
      rw [List.getElem?_append_left (by omega)] at e1
      rw [List.getElem?_append_left (by omega)] at e2
      exact h.sl _ _ _ e1 e2
  · simp only [List.length_append, List.length_singleton] at hi
    simp only [if_neg (show ¬ i = ρ.length by omega)]
    exact h.out i (by omega)
  · by_cases x : i = ρ.length
    · simp only [if_pos x]; exact nd
    · simp only [if_neg x]; exact h.nd i
  · by_cases x : i = ρ.length
    · by_cases y : j = ρ.length
      · rw [x, y]
      · simp only [if_pos x] at ha
        simp only [if_neg y] at hb
        exact absurd ha (dj j a hb)
    · by_cases y : j = ρ.length
      · simp only [if_neg x] at ha
        simp only [if_pos y] at hb
        exact absurd hb (dj i a ha)
      · simp only [if_neg x] at ha
        simp only [if_neg y] at hb
        exact h.dj i j a ha hb
  · by_cases x : i = ρ.length
    · simp only [if_pos x] at ha; exact ow a ha
    · simp only [if_neg x] at ha; exact h.ow i a ha
theorem StOk.push {v : V} {x : PyData} (h : StOk K pc G0 H0 G oa ρ S σ H) (r : Rel K G v x) : ∃ oa', StOk K pc G0 H0 G oa' (ρ ++ [.d x]) S (σ ++ [some v]) H :=
  ⟨_, h.more (s := .d x) (as := []) ⟨rfl, v, rfl, r⟩ List.nodup_nil (fun a ha => by cases ha) fun i a _ => by simp⟩
theorem StOk.setd {v : V} {x : PyData} {i : Nat} (h : StOk K pc G0 H0 G oa ρ S σ H) (r : Rel K G v x) : ∃ oa', StOk K pc G0 H0 G oa' (ρ.set i (.d x)) S (σ.set i (some v)) H := by
  by_cases hi : i < ρ.length
  · obtain ⟨o1, h1⟩ := h.push r
    exact h1.pop hi
  · rw [List.set_eq_of_length_le (by omega), List.set_eq_of_length_le (by rw [← h.len]; omega)]
    exact ⟨_, h⟩
theorem StOk.binds : ∀ {as : List (Nat × PyData)} {oa : Nat → List Addr} {ρ : List Sl} {σ : L2.St} {ws : List V}, StOk K pc G0 H0 G oa ρ S σ H → RelAll K G ws (as.map (·.2)) → ∃ oa', StOk K pc G0 H0 G oa' (setS ρ as) S (setV σ (as.map (·.1)) ws) H
  | [], oa, ρ, σ, ws, h, r => by cases r; exact ⟨oa, h⟩
  | a :: as, oa, ρ, σ, _, h, .cons r rr => by
    obtain ⟨o1, h1⟩ := h.setd (i := a.1) r
    exact StOk.binds (as := as) h1 rr
/-- only the first slots -/
theorem StOk.cut {ρ' : List Sl} {σ' : L2.St} (h : StOk K pc G0 H0 G oa (ρ ++ ρ') S (σ ++ σ') H) (len : ρ.length = σ.length) : ∃ oa', StOk K pc G0 H0 G oa' ρ S σ H :=
  ⟨_, h.re id len (fun _ _ _ _ e => e) (fun i hi => by rw [id, List.getElem?_append_left hi]) fun i hi => by rw [id, List.getElem?_append_left (by omega)]⟩
end
end Pyl

/-! Pyl15: values of assignments; names, pairs. -/
namespace Pyl
open PySem PySem.Spec PyProof.Rows L2

def vwM (m : Md) : Sl → Vw := if isB m then Sl.vw else Sl.fz
/-- what may be laid by this mode -/
def mdOk : Md → Ex → Bool
  | .f, _ => true
  | .b, _ => true
  | .o, x => frs x
  | .ob, x => frs x
  | _, _ => false
section
variable (K : PySem.W.Frag) (pc : PC) (Φ : Sem1)
def tV (m : Md) (x : Ex) : TE := fun σ H Q => ∃ (G0 H0 G : Hp) (oa : Nat → List Addr) (ρ : List Sl) (S : Src) (ρp : List Sl) (σp : L2.St) (r : PyData) (S' : Src) (s : Sl),
  StOk K pc G0 H0 G oa (ρ ++ ρp) S (σ ++ σp) H ∧ ρ.length = σ.length ∧ evE Φ x (ρ.map (vwM m)) S = some (r, S') ∧ layS m r = some s ∧
  ∀ v G' oa' H', FSt G H G' H' → StOk K pc G0 H0 G' oa' (ρ ++ ρp ++ [s]) S' (σ ++ σp ++ [some v]) H' → Q v H'
end
section
variable {X : Cx} {pc : PC} {Φ : Sem1} {T : List Fd} {sc : Scope} {K : PySem.W.Frag}
theorem VwOk.cut {G : Hp} {a b : List Vw} {σ τ : L2.St} (h : VwOk K pc G (a ++ b) (σ ++ τ)) (l : a.length = σ.length) : VwOk K pc G a σ := fun i w e => by
  have hi := (List.getElem?_eq_some_iff.mp e).1
  have q := h i w (by rw [List.getElem?_append_left hi]; exact e)
  have g : (σ ++ τ)[i]? = σ[i]? := List.getElem?_append_left (by omega)
  cases w with
  | no => exact (show i < σ.length by omega)
  | d x => obtain ⟨u, q1, q2⟩ := q; exact ⟨u, by rw [← g]; exact q1, q2⟩
  | src => obtain ⟨p, c, q1, q2⟩ := q; exact ⟨p, c, q1, by rw [← g]; exact q2⟩
  | cel => obtain ⟨p, c, q1, q2⟩ := q; exact ⟨p, c, q1, by rw [← g]; exact q2⟩
  | scr ns => obtain ⟨a, q1, q2⟩ := q; exact ⟨a, by rw [← g]; exact q1, q2⟩
theorem ti_tf {x : Ex} (ho : ∀ ρ S r S', evE Φ x ρ S = some (r, S') → isOb r = true) : ∀ σ H Q, tI K pc Φ x σ H Q → tF K pc Φ x σ H Q := fun σ H Q ⟨G, ρ, S, r, S', p, ev, k⟩ => by
  refine ⟨G, ρ, S, r, S', p, ev, ho _ _ _ _ ev, fun a u G' H' st sr n n' hu ro => ?_⟩
  have l : Le G' (L2.upd G' a u) := fun b w e => by
    by_cases z : b = a
    · rw [z, n'] at e; cases e
    · rw [upd_ne z]; exact e
  refine k _ (L2.upd G' a u) H' ⟨st.le.trans l, fun b w z => ?_, st.keep, st.live, fun b w z => ?_⟩ sr (ro.rel n')
  · by_cases q : b = a
    · rw [q, upd_same] at z; cases z; rw [q]; exact .inl hu
    · rw [upd_ne q] at z; exact st.ok b w z
  · by_cases q : b = a
    · rw [q]; exact .inr (.inl n)
    · rw [upd_ne q] at z; exact st.new b w z
theorem StOk.preF {G0 H0 G H : Hp} {oa : Nat → List Addr} {ρ ρp : List Sl} {S : Src} {σ σp : L2.St} (h : StOk K pc G0 H0 G oa (ρ ++ ρp) S (σ ++ σp) H) (l : ρ.length = σ.length) : Pre K pc G H S (ρ.map Sl.fz) σ :=
  ⟨h.st.ok, h.src, h.npc, VwOk.cut (b := ρp.map Sl.fz) (τ := σp) (by rw [← List.map_append]; exact h.fz) (by rw [List.length_map]; exact l)⟩
theorem StOk.preB {G0 H0 G H : Hp} {oa : Nat → List Addr} {ρ ρp : List Sl} {S : Src} {σ σp : L2.St} (h : StOk K pc G0 H0 G oa (ρ ++ ρp) S (σ ++ σp) H) (l : ρ.length = σ.length) : Pre K pc (gv oa G H) H S (ρ.map Sl.vw) σ :=
  ⟨h.gvSub, h.src, h.gvNpc, VwOk.cut (b := ρp.map Sl.vw) (τ := σp) (by rw [← List.map_append]; exact h.vw) (by rw [List.length_map]; exact l)⟩
theorem fresh_own {G0 H0 G H G' H' : Hp} {oa : Nat → List Addr} {ρ : List Sl} {S S' : Src} {σ : L2.St} {a : Addr} {u : HO} {r : PyData} {s : Sl} (h : StOk K pc G0 H0 G oa ρ S σ H) (h' : StOk K pc G0 H0 G' oa ρ S' σ H') (n : H a = none) (n' : G' a = none) (hu : H' a = some u) (ro : RelO K G' u r)
    (hs : SlOk K pc G' H' (some (.ref a)) [a] s) : ∃ oa', StOk K pc G0 H0 G' oa' (ρ ++ [s]) S' (σ ++ [some (.ref a)]) H' :=
  ⟨_, h'.more hs (by simp) (fun b hb => by
    simp only [List.mem_singleton] at hb
    subst hb
    refine ⟨n', ?_, fun z => h.src.live z n, u, hu, ro.isO⟩
    cases q : H0 b with
    | none => rfl
    | some w => exact absurd n (h.st.live b (by rw [q]; simp))) fun i b hb hm => by
      simp only [List.mem_singleton] at hm
      subst hm
      obtain ⟨_, _, _, w, hw, _⟩ := h.ow i b hb
      rw [n] at hw
      cases hw⟩
theorem v_tI {m : Md} {x : Ex} (hm : m = .f ∨ m = .b) : ∀ σ H Q, tV K pc Φ m x σ H Q → tI K pc Φ x σ H Q := by
  rintro σ H Q ⟨G0, H0, G, oa, ρ, S, ρp, σp, r, S', s, h, l, ev, ls, k⟩
  rcases hm with rfl | rfl
  · refine ⟨G, _, S, r, S', h.preF l, ev, fun v G' H' st sr rl => ?_⟩
    cases ls
    obtain ⟨oa', h'⟩ := (h.step st sr).push rl
    exact k v G' oa' H' (h.fst_of st) h'
  · refine ⟨_, _, S, r, S', h.preB l, ev, fun v G' H' st sr rl => ?_⟩
    simp only [layS] at ls
    split at ls
    · rename_i lfr
      cases ls
      obtain ⟨oa', h'⟩ := (h.step (h.back st) sr).push (rel_back h st lfr rl)
      exact k v _ oa' H' (h.fst_of (h.back st)) h'
    · cases ls
theorem relO_back {G0 H0 G H G1 H1 : Hp} {oa : Nat → List Addr} {ρ : List Sl} {S : Src} {σ : L2.St} (h : StOk K pc G0 H0 G oa ρ S σ H) (e : EStep pc (gv oa G H) H G1 H1) {u : HO} {xs : List PyData} (q : lf.lfAll xs = true) (r : RelO K G1 u (.list xs)) : RelO K (gd oa G1) u (.list xs) := by
  cases r with
  | lst a b => exact .lst a (relAll_back h e q b)
theorem v_tF {m : Md} {x : Ex} (hm : m = .o ∨ m = .ob) : ∀ σ H Q, tV K pc Φ m x σ H Q → tF K pc Φ x σ H Q := by
  rintro σ H Q ⟨G0, H0, G, oa, ρ, S, ρp, σp, r, S', s, h, l, ev, ls, k⟩
  rcases hm with rfl | rfl
  · refine ⟨G, _, S, r, S', h.preF l, ev, ?_, fun a u G' H' st sr n n' hu ro => ?_⟩
    · cases r <;> first | rfl | cases ls
    · have hs : SlOk K pc G' H' (some (.ref a)) [a] s := by
        cases r with
        | list xs => cases ls; exact ⟨a, u, rfl, rfl, hu, ro⟩
        | dict xs => cases ls; exact ⟨a, u, rfl, rfl, hu, ro⟩
        | _ => cases ls
      obtain ⟨oa', h'⟩ := fresh_own h (h.step st sr) n n' hu ro hs
      exact k _ G' oa' H' (h.fst_of st) h'
  · refine ⟨_, _, S, r, S', h.preB l, ev, ?_, fun a u G' H' st sr n n' hu ro => ?_⟩
    · cases r <;> first | rfl | cases ls
    · cases r with
      | list xs =>
        simp only [layS] at ls
        split at ls
        · rename_i lfr
          cases ls
          have n2 : gd oa G' a = none := by
            by_cases q : ∃ i, a ∈ oa i
            · obtain ⟨i, q⟩ := q; exact gd_in q
            · rw [gd_out q]; exact n'
          have ro' := relO_back h st lfr ro
          obtain ⟨oa', h'⟩ := fresh_own (s := .ol xs) h (h.step (h.back st) sr) n n2 hu ro' ⟨a, u, rfl, rfl, hu, ro'⟩
          exact k _ _ oa' H' (h.fst_of (h.back st)) h'
        · cases ls
      | _ => cases ls
theorem s_val {m : Md} {e : Expr} {x : Ex} (h : Snd X pc Φ e x) (hm : mdOk m x = true) : PE X e (tV X.K pc Φ m x) := by
  cases m with
  | f => exact h.pe.imp (v_tI (.inl rfl))
  | b => exact h.pe.imp (v_tI (.inr rfl))
  | o => exact (h.pf hm).imp (v_tF (.inl rfl))
  | ob => exact (h.pf hm).imp (v_tF (.inr rfl))
  | _ => cases hm

/-! ### name = value -/
structure XSt (X : Cx) (T : List Fd) (Φ : Sem1) (sc : Scope) : Prop extends XOk X T Φ sc where
  kind : X.env.scope.kind = .function
  xe : X.xe = fun _ _ => False
theorem XSt.bk (ok : XSt X T Φ sc) : X.env.blockKind = .function := by
  unfold Env.blockKind
  rw [ok.kind]
  rfl
theorem ps_un {st : Stmt} {t : TS} (h : PS X st t) : PS X st (fun D σ H => t { D with nx := fun σ' H' => D.nx σ' H' ∨ ∃ d od u, H' d = some (.frz od u) ∧ Nf X.H_0 d ∧ D.nx σ' (L2.upd H' d u) } σ H) := by
  constructor
  intro pins s σ H D I hw
  refine thn (h.run pins s σ H _ I hw) fun f s1 q => ?_
  cases f with
  | next =>
    obtain ⟨σ', H', I', q⟩ := q
    rcases q with q | ⟨d, od, u, hd, nf, q⟩
    · exact ⟨σ', H', I', q⟩
    · exact ⟨σ', _, I'.unlock hd nf, q⟩
  | brk => exact q
  | cont => exact q
  | ret u => exact q
theorem _root_.L2.PS.imp {X : Cx} {e : Stmt} {t t' : TS} (h : PS X e t) (i : ∀ D σ H, t' D σ H → t D σ H) : PS X e t' := ⟨fun pins s σ H D I q => h.run pins s σ H D I (i D σ H q)⟩
theorem _root_.L2.PSs.imp {X : Cx} {e : List Stmt} {t t' : TS} (h : PSs X e t) (i : ∀ D σ H, t' D σ H → t D σ H) : PSs X e t' := ⟨fun pins s σ H D I q => h.run pins s σ H D I (i D σ H q)⟩
def isLC : Expr → Bool
  | .ListComp .. => true
  | _ => false
theorem lc_ob {elt : Ex} {tg : Tg} {it : Itx} {ifs : Exs} {own : List (Str × Nat)} : ∀ ρ S r S', evE Φ (.lc elt tg it ifs own) ρ S = some (r, S') → isOb r = true := fun ρ S r S' ev => by
  obtain ⟨p1, e1, ev⟩ := ibind ev
  obtain ⟨q, e2, e3⟩ := imap ev
  cases e3
  rfl
theorem v_lc {m : Md} {elt : Ex} {tg : Tg} {it : Itx} {ifs : Exs} {own : List (Str × Nat)} (hm : mdOk m (.lc elt tg it ifs own) = true) : ∀ σ H Q, tV K pc Φ m (.lc elt tg it ifs own) σ H Q → tF K pc Φ (.lc elt tg it ifs own) σ H Q := by
  cases m with
  | f => exact fun σ H Q q => ti_tf lc_ob _ _ _ (v_tI (.inl rfl) _ _ _ q)
  | b => exact fun σ H Q q => ti_tf lc_ob _ _ _ (v_tI (.inr rfl) _ _ _ q)
  | o => exact v_tF (.inl rfl)
  | ob => exact v_tF (.inr rfl)
  | _ => cases hm
/-- the model's other way for y = [..] -/
def swB (sc : Scope) (x : Str) (px : Pos) : Expr → Bool
  | .ListComp _ _ scope pos => sc.names.lookup x == some .local && px.line == pos.line && !(scope.names.any fun z => z.1 == x && (z.2 == .local || z.2 == .cell))
  | _ => false
def noComp : Expr → Bool
  | .ListComp .. => false
  | .SetComp .. => false
  | .DictComp .. => false
  | _ => true
theorem sw_no {e : Expr} {o : Option Expr} {n : Nat} {env : Env} (h : noComp e = true) : swapsWith e o n env = pure false := by
  cases e <;> first | rfl | cases h
theorem sw_lc {elt : Expr} {gens : List Comprehension} {scope : Scope} {pos py : Pos} {y : Str} {env : Env} {line : Nat} {b : Bool} (h : (env.blockKind == ScopeKind.function && env.kindOf y == some NameKind.local && py.line == pos.line && !(scope.names.any fun x => x.1 == y && (x.2 == .local || x.2 == .cell))) = b) :
    swapsWith (.ListComp elt gens scope pos) (some (.Name y py)) line env = pure b := by
  rw [← h]; rfl
theorem swB_eq (ok : XSt X T Φ sc) {x : Str} {px : Pos} {elt : Expr} {gens : List Comprehension} {scope : Scope} {pos : Pos} {line : Nat} (hl : locB sc x = true) : swapsWith (.ListComp elt gens scope pos) (some (.Name x px)) line X.env = pure (swB sc x px (.ListComp elt gens scope pos)) := by
  refine sw_lc ?_
  have h1 : (X.env.blockKind == ScopeKind.function) = true := by rw [ok.bk]; rfl
  have h2 : (X.env.kindOf x == some NameKind.local) = (sc.names.lookup x == some .local) := by
    unfold locB at hl
    split at hl
    · rename_i q
      rcases ok.ag x _ q with z | ⟨z, _⟩
      · show (X.env.scope.names.lookup x == some NameKind.local) = _; rw [z, q]
      · cases z
    · rename_i q
      rcases ok.ag x _ q with z | ⟨z, _⟩
      · show (X.env.scope.names.lookup x == some NameKind.local) = _; rw [z, q]
      · cases z
    · cases hl
  rw [h1, h2]
  rfl
theorem chk_noComp {nm N : List Str} {e : Expr} {x : Ex} (h : chkE nm N sc e x = true) : noComp e = true ∨ ∃ elt tg it ifs own, x = .lc elt tg it ifs own := by
  cases e with
  | SetComp _ _ _ _ => exfalso; cases x <;> simp [chkE] at h
  | DictComp _ _ _ _ _ => exfalso; cases x <;> simp [chkE] at h
  | ListComp _ _ _ _ =>
    cases x with
    | lc elt tg it ifs own => exact .inr ⟨_, _, _, _, _, rfl⟩
    | _ => simp [chkE] at h
  | _ => exact .inl rfl
theorem s_name {m : Md} {x : Str} {px pos : Pos} {i : Nat} {ee : Expr} {e : Ex} (ok : XSt X T Φ sc) (hi : X.N[i]? = some x) (hl : locB sc x = true) (hm : mdOk m e = true) (h : chkE (T.map Fd.name) X.N sc ee e = true) :
    PS X (.Assign [.Name x px] ee pos) (tAsg (tV X.K pc Φ m e) (gName i)) := by
  obtain ⟨hloc, hf⟩ := loc_of ok.toXOk hl
  have plain : (swapsWith ee (some (.Name x px)) pos.line X.env = pure false) → PS X (.Assign [.Name x px] ee pos) (tAsg (tV X.K pc Φ m e) (gName i)) := fun hs =>
    ps_set ok.nd hi hloc (s_val (sndE e ok.toXOk h) hm) hs hf
  rcases chk_noComp h with hn | ⟨elt, tg, it, ifs, own, rfl⟩
  · exact plain (sw_no hn)
  · have h' := h
    simp only [chkE] at h
    split at h
    · rename_i eelt etg eit eifs scope cpos
      simp only [Bool.and_eq_true] at h
      obtain ⟨⟨⟨⟨⟨⟨h1, h2⟩, h3⟩, h4⟩, h5⟩, h6⟩, h7⟩ := h
      cases hb : swB sc x px (.ListComp eelt [⟨etg, eit, eifs, 0⟩] scope cpos) with
      | false => exact plain (by rw [swB_eq ok hl, hb])
      | true =>
        have hy : X.env.scope.names.lookup x = some .local := by
          simp only [swB, Bool.and_eq_true] at hb
          have q : sc.names.lookup x = some .local := by simpa using hb.1.1
          rcases ok.ag x _ q with z | ⟨z, _⟩
          · exact z
          · cases z
        refine (ps_un (ps_setLc (g := tG X.K tg) (tt := tTs X.K pc Φ ifs) (te := tI X.K pc Φ elt) ok.calm ok.nd hi hy (by rw [swB_eq ok hl, hb]) (sndI (pc := pc) it ok.toXOk h5) (blk_of ok.ag h1) (fun s H C cl fp => s_tg (ok.toXOk.blk _ s H C cl fp) tg h4) (fun s H C cl fp => sndTs (pc := pc) ifs (ok.toXOk.blk _ s H C cl fp) h6) (fun s H C cl fp => (sndE (pc := pc) elt (ok.toXOk.blk _ s H C cl fp) h7).pe)
          (by intro z; cases eit <;> first | rfl | cases h3))).imp fun D σ H q => ?_
        exact lc_pt (H_0 := X.H_0) h2 σ H (fun v H1 => D.nx (σ.set i (some v)) H1) (v_lc hm _ _ _ q)
    · cases h

/-! ### a, b = x, y -/
def tP (K : PySem.W.Frag) (pc : PC) (Φ : Sem1) (ms : List Md) (es : Exs) : TA := fun σ H Q => ∃ (G0 H0 G : Hp) (oa : Nat → List Addr) (ρ : List Sl) (S : Src) (ρp : List Sl) (σp : L2.St) (ss : List Sl) (S' : Src),
  StOk K pc G0 H0 G oa (ρ ++ ρp) S (σ ++ σp) H ∧ ρ.length = σ.length ∧ evP Φ ms es ρ S = some (ss, S') ∧
  ∀ vs G' oa' H', FSt G H G' H' → StOk K pc G0 H0 G' oa' (ρ ++ ρp ++ ss) S' (σ ++ σp ++ vs.map some) H' → vs.length = ss.length → Q vs H'
theorem p_nil : PA X [] (tP X.K pc Φ [] .nil) := pa_nil.imp fun σ H Q ⟨G0, H0, G, oa, ρ, S, ρp, σp, ss, S', h, l, ev, k⟩ => by
  cases ev
  exact k [] G oa H (FSt.refl h.st.ok) (by simpa using h) rfl
theorem p_cons {m : Md} {ms : List Md} {e : Expr} {es : List Expr} {b : Bool} {x : Ex} {xs : Exs} (pe : plainE e = true) (h : PE X e (tV X.K pc Φ m x)) (t : PA X es (tP X.K pc Φ ms xs)) : PA X (e :: es) (tP X.K pc Φ (m :: ms) (.cons b x xs)) :=
  (pa_cons h t (star_of pe)).imp fun σ H Q ⟨G0, H0, G, oa, ρ, S, ρp, σp, ss, S', h, l, ev, k⟩ => by
    simp only [evP] at ev
    obtain ⟨p1, e1, ev⟩ := ibind ev
    obtain ⟨s, e2, ev⟩ := ibind ev
    obtain ⟨p2, e3, e4⟩ := imap ev
    cases e4
    refine ⟨G0, H0, G, oa, ρ, S, ρp, σp, p1.1, p1.2, s, h, l, e1, e2, fun v G1 o1 H1 f1 h1 => ?_⟩
    refine ⟨G0, H0, G1, o1, ρ, p1.2, ρp ++ [s], σp ++ [some v], p2.1, p2.2, by rw [← List.append_assoc, ← List.append_assoc]; exact h1, l, e3, fun vs G2 o2 H2 f2 h2 hl => ?_⟩
    refine k (v :: vs) G2 o2 H2 (f1.trans f2) ?_ (by rw [List.length_cons, List.length_cons, hl])
    have a1 : ρ ++ (ρp ++ [s]) ++ p2.1 = ρ ++ ρp ++ s :: p2.1 := by simp
    have a2 : σ ++ (σp ++ [some v]) ++ vs.map some = σ ++ σp ++ (v :: vs).map some := by simp
    rw [a1, a2] at h2
    exact h2
def swSome (sc : Scope) (ets vs : List Expr) : Bool :=
  match ets with
  | [.Name x px, .Name y py] => vs.length == 2 && sc.names.lookup x == some .local && sc.names.lookup y == some .local && py.line == px.line && x != y && vs.all plainE && !(vs.all (foldedForSure 8)) && !(vs.all (constantsAlone 8))
  | [.Name x px, .Name y py, .Name z pz] => vs.length == 3 && sc.names.lookup x == some .local && sc.names.lookup y == some .local && sc.names.lookup z == some .local && py.line == px.line && pz.line == px.line && x != y && x != z && y != z && vs.all plainE && !(vs.all (foldedForSure 8)) && !(vs.all (constantsAlone 8))
  | _ => false
theorem plain_nostar {vs : List Expr} (h : vs.all plainE = true) : (vs.any fun | .Starred .. => true | _ => false) = false := by
  induction vs with
  | nil => rfl
  | cons v vs ih =>
    rw [List.all_cons, Bool.and_eq_true] at h
    rw [List.any_cons, ih h.2]
    cases v <;> first | rfl | (cases h.1)
theorem loc_kind (ok : XSt X T Φ sc) {x : Str} (h : (sc.names.lookup x == some .local) = true) : X.env.kindOf x = some .local := by
  have q : sc.names.lookup x = some .local := by simpa using h
  rcases ok.ag x _ q with z | ⟨z, _⟩
  · exact z
  · cases z
theorem sw_some2 (ok : XSt X T Φ sc) {x y : Str} {px py pt pt2 : Pos} {kt k2 : Nat} {vs : List Expr} (h : swSome sc [.Name x px, .Name y py] vs = true) : swappedStores [.Tuple [.Name x px, .Name y py] kt pt] (.Tuple vs k2 pt2) X.env = pure (some [x, y]) := by
  simp only [swSome, Bool.and_eq_true, Bool.not_eq_true'] at h
  obtain ⟨⟨⟨⟨⟨⟨⟨h1, h2⟩, h3⟩, h4⟩, h5⟩, h6⟩, h7⟩, h8⟩ := h
  have k1 := loc_kind ok h2
  have k2 := loc_kind ok h3
  have hb : (X.env.blockKind != ScopeKind.function) = false := by rw [ok.bk]; rfl
  have l2 : vs.length = 2 := by simpa using h1
  have ly : py.line = px.line := by simpa using h4
  have n1 : ¬ x = y := by simpa using h5
  unfold swappedStores
  simp only [List.length_cons, List.length_nil, l2, hb, plain_nostar h6, List.head?_cons, Option.map_some, Option.getD_some, List.filterMap_cons, List.filterMap_nil, k1, k2, Expr.pos, ly, h7, h8]
  simp [List.eraseDups_cons, n1, Ne.symm n1, ly]
  intro v hv hm
  have := List.all_eq_true.mp h6 v hv
  cases v <;> first | (cases this; done) | (cases hm; done)
theorem sw_some3 (ok : XSt X T Φ sc) {x y z : Str} {px py pz pt pt2 : Pos} {kt k2 : Nat} {vs : List Expr} (h : swSome sc [.Name x px, .Name y py, .Name z pz] vs = true) : swappedStores [.Tuple [.Name x px, .Name y py, .Name z pz] kt pt] (.Tuple vs k2 pt2) X.env = pure (some [x, y, z]) := by
  simp only [swSome, Bool.and_eq_true, Bool.not_eq_true'] at h
  obtain ⟨⟨⟨⟨⟨⟨⟨⟨⟨⟨⟨h1, h2⟩, h3⟩, h3'⟩, h4⟩, h4'⟩, h5⟩, h5'⟩, h5''⟩, h6⟩, h7⟩, h8⟩ := h
  have k1 := loc_kind ok h2
  have k2 := loc_kind ok h3
  have k3 := loc_kind ok h3'
  have hb : (X.env.blockKind != ScopeKind.function) = false := by rw [ok.bk]; rfl
  have l2 : vs.length = 3 := by simpa using h1
  have ly : py.line = px.line := by simpa using h4
  have lz : pz.line = px.line := by simpa using h4'
  have n1 : ¬ x = y := by simpa using h5
  have n2 : ¬ x = z := by simpa using h5'
  have n3 : ¬ y = z := by simpa using h5''
  unfold swappedStores
  simp only [List.length_cons, List.length_nil, l2, hb, plain_nostar h6, List.head?_cons, Option.map_some, Option.getD_some, List.filterMap_cons, List.filterMap_nil, k1, k2, k3, Expr.pos, ly, lz, h7, h8]
  simp [List.eraseDups_cons, n1, Ne.symm n1, n2, Ne.symm n2, n3, Ne.symm n3, ly, lz]
  intro v hv hm
  have := List.all_eq_true.mp h6 v hv
  cases v <;> first | (cases this; done) | (cases hm; done)
/-- the general way: no swapped stores -/
def swNone (ets : List Expr) : Expr → Bool
  | .Tuple vs _ _ => !(ets.length == 2 || ets.length == 3) || vs.length != ets.length || ets.any (fun | .Name .. => false | _ => true) || vs.all (foldedForSure 8)
  | _ => true
theorem names_short {env : Env} {line : Nat} : ∀ {ets : List Expr}, ((ets.filterMap fun | .Name id pos => if env.kindOf id == some .local && pos.line == line then some id else none | _ => none).length ≤ ets.length) ∧ (ets.any (fun | .Name .. => false | _ => true) = true → (ets.filterMap fun | .Name id pos => if env.kindOf id == some .local && pos.line == line then some id else none | _ => none).length < ets.length)
  | [] => ⟨Nat.le_refl _, fun h => by cases h⟩
  | e :: es => by
    obtain ⟨h1, h2⟩ := names_short (env := env) (line := line) (ets := es)
    rw [List.filterMap_cons, List.any_cons]
    refine ⟨?_, fun h => ?_⟩
    · split
      · rw [List.length_cons]; exact Nat.le_succ_of_le h1
      · rw [List.length_cons, List.length_cons]; exact Nat.succ_le_succ h1
    · cases e with
      | Name id pos =>
        have h2 := h2 (by simpa using h)
        split
        · rw [List.length_cons]; exact Nat.lt_succ_of_lt h2
        · rw [List.length_cons, List.length_cons]; exact Nat.succ_lt_succ h2
      | _ => rw [List.length_cons]; exact Nat.lt_succ_of_le h1
theorem sw_none {ets : List Expr} {v : Expr} {k : Nat} {p : Pos} (ok : XSt X T Φ sc) (h : swNone ets v = true) : swappedStores [.Tuple ets k p] v X.env = pure none := by
  cases v with
  | Tuple vs k2 p2 =>
    have hb : (X.env.blockKind != ScopeKind.function) = false := by rw [ok.bk]; rfl
    simp only [swNone, Bool.or_eq_true] at h
    unfold swappedStores
    simp only [hb, Bool.or_false]
    split
    · rfl
    · rename_i c1
      split
      · rfl
      · split
        · rfl
        · rename_i c3
          have h4 : vs.all (foldedForSure 8) = true := by
            rcases h with ((h | h) | h) | h
            · exact absurd (by simp [h]) c1
            · exact absurd (by simp [h]) c1
            · exfalso
              have := (names_short (env := X.env) (line := ((ets.head?.map (·.pos.line)).getD 0)) (ets := ets)).2 h
              refine c3 ?_
              simp only [Bool.or_eq_true]
              left
              simp only [bne_iff_ne, ne_eq]
              exact Nat.ne_of_lt this
            · exact h
          rw [if_pos h4]
  | _ => rfl
theorem s_tgs2 {b : Bool} {ets : List Expr} {k : Nat} {pt pos : Pos} {ee : Expr} {ts : List Tg} {e : Ex} (ok : XSt X T Φ sc) (hg : chkG X.N sc (.Tuple ets k pt) (.tp ts) = true) (hw : swNone ets ee = true) (h : chkE (T.map Fd.name) X.N sc ee e = true) :
    PS X (.Assign [.Tuple ets k pt] ee pos) (tAsg (tV X.K pc Φ (if b then .b else .f) e) (tG X.K (.tp ts))) :=
  ps_asg (s_val (sndE e ok.toXOk h) (by cases b <;> rfl)) (s_tg ok.toXOk _ hg) (by cases ee <;> rfl) (sw_none ok hw) rfl
end
end Pyl

/-! Pyl16: what a frame owns changes. -/
namespace Pyl
open PySem PySem.Spec PyProof.Rows L2

section
variable {K : PySem.W.Frag} {G : Hp}
theorem RelK.any (k : Key) : ∀ {kvs : List (Key × V)} {ds : List (PyData × PyData)}, RelK K G kvs ds → (kvs.any fun kv => decide (kv.1 = k)) = hasK ds (kD k)
  | kvs, ds, h => by rw [valV_any, (RelK.look k h).1]
theorem RelT.any (k : List Key) : ∀ {kvs : List (List Key × V)} {ds : List (PyData × PyData)}, RelT K G kvs ds → (kvs.any fun kv => decide (kv.1 = k)) = hasK ds (.tuple (k.map kD))
  | kvs, ds, h => by rw [valV_any, (RelT.look k h).1]
theorem RelK.app (k : Key) {v : V} {x : PyData} (r : Rel K G v x) : ∀ {kvs : List (Key × V)} {ds : List (PyData × PyData)}, RelK K G kvs ds → RelK K G (kvs ++ [(k, v)]) (ds ++ [(kD k, x)])
  | _, _, .nil => .cons r .nil
  | _, _, .cons a b => .cons a (RelK.app k r b)
theorem RelT.app (k : List Key) (z : (k.map kV).length ≤ sizeLine) {v : V} {x : PyData} (r : Rel K G v x) : ∀ {kvs : List (List Key × V)} {ds : List (PyData × PyData)}, RelT K G kvs ds → RelT K G (kvs ++ [(k, v)]) (ds ++ [(.tuple (k.map kD), x)])
  | _, _, .nil => .cons z r .nil
  | _, _, .cons y a b => .cons y a (RelT.app k z r b)
theorem RelK.rep (k : Key) {v : V} {x : PyData} (r : Rel K G v x) : ∀ {kvs : List (Key × V)} {ds : List (PyData × PyData)}, RelK K G kvs ds → RelK K G (kvs.map fun kv => if kv.1 = k then (kv.1, v) else kv) (ds.map fun p => if PyData.eqv p.1 (kD k) then (p.1, x) else p)
  | _, _, .nil => .nil
  | _, _, .cons (k := k') a b => by
    rw [List.map_cons, List.map_cons]
    simp only [eqv_kD]
    by_cases e : k' = k
    · subst e
      simp only [decide_true, if_true]
      exact .cons r (RelK.rep k' r b)
    · simp only [e, decide_false, if_false, Bool.false_eq_true]
      exact .cons a (RelK.rep k r b)
theorem RelT.rep (k : List Key) {v : V} {x : PyData} (r : Rel K G v x) : ∀ {kvs : List (List Key × V)} {ds : List (PyData × PyData)}, RelT K G kvs ds → RelT K G (kvs.map fun kv => if kv.1 = k then (kv.1, v) else kv) (ds.map fun p => if PyData.eqv p.1 (.tuple (k.map kD)) then (p.1, x) else p)
  | _, _, .nil => .nil
  | _, _, .cons (k := k') z a b => by
    rw [List.map_cons, List.map_cons]
    simp only [eqv_kT]
    by_cases e : k' = k
    · subst e
      simp only [decide_true, if_true]
      exact .cons z r (RelT.rep k' r b)
    · simp only [e, decide_false, if_false, Bool.false_eq_true]
      exact .cons z a (RelT.rep k r b)
theorem RelK.put (k : Key) {v : V} {x : PyData} (r : Rel K G v x) {kvs : List (Key × V)} {ds : List (PyData × PyData)} (h : RelK K G kvs ds) : RelK K G (putK kvs k v) (putD ds (kD k) x) := by
  unfold putK putD
  rw [RelK.any k h]
  split
  · exact h.rep k r
  · exact h.app k r
theorem RelT.put (k : List Key) (z : (k.map kV).length ≤ sizeLine) {v : V} {x : PyData} (r : Rel K G v x) {kvs : List (List Key × V)} {ds : List (PyData × PyData)} (h : RelT K G kvs ds) : RelT K G (putK kvs k v) (putD ds (.tuple (k.map kD)) x) := by
  unfold putK putD
  rw [RelT.any k h]
  split
  · exact h.rep k r
  · exact h.app k z r
theorem putD_len (ds : List (PyData × PyData)) (k v : PyData) : (putD ds k v).length ≤ ds.length + 1 := by
  unfold putD
  split
  · rw [List.length_map]; exact Nat.le_succ _
  · rw [List.length_append]; exact Nat.le_refl _
end

section
variable {K : PySem.W.Frag} {pc : PC} {G0 H0 G : Hp} {oa : Nat → List Addr} {ρ : List Sl} {S : Src} {σ : L2.St} {H : Hp}
theorem FSt.put {a : Addr} (sb : Sub G H) (n : G a = none) (u : HO) : FSt G H G (L2.upd H a u) :=
  ⟨Le.refl G, fun b w e => by
    by_cases y : b = a
    · rw [y, n] at e; cases e
    · rw [upd_ne y]; exact sb b w e, fun b e => upd_ne fun y => e (by rw [y]; exact n)⟩
theorem StOk.mut {s : Sl} {w : Option V} {i : Nat} {a : Addr} {u' : HO} (h : StOk K pc G0 H0 G oa ρ S σ H) (hw : σ[i]? = some w) (ha : a ∈ oa i) (io : isO u' = true) (hs : SlOk K pc G (L2.upd H a u') w (oa i) s) :
    FSt G H G (L2.upd H a u') ∧ StOk K pc G0 H0 G oa (ρ.set i s) S σ (L2.upd H a u') := by
  obtain ⟨g, g0, np, u, hu, _⟩ := h.ow i a ha
  refine ⟨FSt.put h.st.ok g u', by rw [List.length_set]; exact h.len, h.st.put g0 g u', h.src.put np u', h.npc, fun j s' w' e1 e2 => ?_, fun j hj => h.out j (by rwa [List.length_set] at hj), h.nd, h.dj, fun j b hb => ?_⟩
  · by_cases x : i = j
    · subst x
      have hi : i < ρ.length := by
        have := (List.getElem?_eq_some_iff.mp e1).1
        rwa [List.length_set] at this
      rw [List.getElem?_set_self hi] at e1
      cases e1
      rw [hw] at e2
      cases e2
      exact hs
    · rw [List.getElem?_set_ne x] at e1
      exact (h.sl j s' w' e1 e2).mono (Le.refl G) fun b hb => upd_ne fun e => x (h.dj i j a ha (e ▸ hb))
  · obtain ⟨q1, q2, q3, v, q4, q5⟩ := h.ow j b hb
    refine ⟨q1, q2, q3, ?_⟩
    by_cases y : b = a
    · exact ⟨u', by rw [y]; exact upd_same, io⟩
    · exact ⟨v, by rw [upd_ne y]; exact q4, q5⟩
theorem StOk.slot {s : Sl} {i : Nat} (h : StOk K pc G0 H0 G oa ρ S σ H) (e : ρ[i]? = some s) : ∃ w, σ[i]? = some w ∧ SlOk K pc G H w (oa i) s := by
  obtain ⟨w, e2⟩ := getσ h.len e
  exact ⟨w, e2, h.sl i s w e e2⟩
/-- x.append(v) -/
theorem StOk.append {xs : List PyData} {i : Nat} {v : V} {x : PyData} (h : StOk K pc G0 H0 G oa ρ S σ H) (e : ρ[i]? = some (.ol xs)) (r : Rel K G v x) (l : okLen (xs.length + 1) = true) :
    ∃ a vs, σ[i]? = some (some (.ref a)) ∧ H a = some (.lst vs) ∧ vs.length < sizeLine ∧ FSt G H G (L2.upd H a (.lst (vs ++ [v]))) ∧ ∃ oa', StOk K pc G0 H0 G oa' (ρ.set i (.ol (xs ++ [x]))) S σ (L2.upd H a (.lst (vs ++ [v]))) := by
  obtain ⟨w, e2, q⟩ := h.slot e
  obtain ⟨a, u, h1, rfl, h3, h4⟩ := q
  have l := okLen_le l
  cases h4 with
  | lst lz ra =>
    have lv := ra.length
    obtain ⟨f, st⟩ := h.mut (s := .ol (xs ++ [x])) (a := a) (u' := .lst (_ ++ [v])) e2 (by rw [h1]; simp) rfl ⟨a, _, h1, rfl, upd_same, .lst (by rw [List.length_append, List.length_singleton]; omega) (ra.append (.cons r .nil))⟩
    exact ⟨a, _, e2, h3, by omega, f, oa, st⟩
theorem StOk.extend {xs ys : List PyData} {i : Nat} {v : V} (h : StOk K pc G0 H0 G oa ρ S σ H) (e : ρ[i]? = some (.ol xs)) (r : Rel K G v (.list ys)) (l : okLen (xs.length + ys.length) = true) :
    ∃ a vs b zs, σ[i]? = some (some (.ref a)) ∧ v = .ref b ∧ H a = some (.lst vs) ∧ H b = some (.lst zs) ∧ vs.length + zs.length ≤ sizeLine ∧ FSt G H G (L2.upd H a (.lst (vs ++ zs))) ∧ ∃ oa', StOk K pc G0 H0 G oa' (ρ.set i (.ol (xs ++ ys))) S σ (L2.upd H a (.lst (vs ++ zs))) := by
  obtain ⟨w, e2, q⟩ := h.slot e
  obtain ⟨a, u, h1, rfl, h3, h4⟩ := q
  have l := okLen_le l
  cases h4 with
  | lst lz ra =>
    cases r with
    | lst eb lb rb =>
      have lv := ra.length
      have lw := rb.length
      rename_i vs b zs
      obtain ⟨f, st⟩ := h.mut (s := .ol (xs ++ ys)) (a := a) (u' := .lst (vs ++ zs)) e2 (by rw [h1]; simp) rfl ⟨a, _, h1, rfl, upd_same, .lst (by rw [List.length_append]; omega) (ra.append rb)⟩
      exact ⟨a, _, b, zs, e2, rfl, h3, h.st.ok.ex eb rfl, by omega, f, oa, st⟩
/-- x[j] = v -/
theorem StOk.setItem {xs ys : List PyData} {i : Nat} {j : Int} {v : V} {x : PyData} (h : StOk K pc G0 H0 G oa ρ S σ H) (e : ρ[i]? = some (.ol xs)) (r : Rel K G v x) (p : putAt xs j x = some ys) :
    ∃ a vs n, σ[i]? = some (some (.ref a)) ∧ H a = some (.lst vs) ∧ ixN vs.length j = some n ∧ FSt G H G (L2.upd H a (.lst (vs.set n v))) ∧ ∃ oa', StOk K pc G0 H0 G oa' (ρ.set i (.ol ys)) S σ (L2.upd H a (.lst (vs.set n v))) := by
  obtain ⟨w, e2, q⟩ := h.slot e
  obtain ⟨a, u, h1, rfl, h3, h4⟩ := q
  obtain ⟨n, p1, p2⟩ := imap p
  subst p2
  cases h4 with
  | lst lz ra =>
    obtain ⟨f, st⟩ := h.mut (s := .ol (xs.set n x)) (a := a) (u' := .lst (_)) e2 (by rw [h1]; simp) rfl ⟨a, _, h1, rfl, upd_same, .lst (by rw [List.length_set]; exact lz) (ra.set r n)⟩
    exact ⟨a, _, n, e2, h3, by rw [ra.length]; exact p1, f, oa, st⟩
/-- an empty dict's keys may be of either sort -/
inductive Cv (H : Hp) : Hp → Prop
  | no : Cv H H
  | k {a : Addr} : H a = some (.dT []) → Cv H (L2.upd H a (.dK []))
  | t {a : Addr} : H a = some (.dK []) → Cv H (L2.upd H a (.dT []))
theorem Inv.cv {X : Cx} {pins : List (Addr × Obj)} {σ : L2.St} {H H' : Hp} {s : Shared} (I : Inv X pins σ H s) (c : Cv H H') : Inv X pins σ H' s := by
  cases c with
  | no => exact I
  | k e =>
    obtain ⟨hd, dd⟩ := dt_nil I (.inl e)
    exact I.write (h' := s.heap) (t' := s.toks) (by rw [e]; trivial) (.inl rfl) (fun b u _ q => q) (by obtain ⟨o, _, _, q, _⟩ := dd; exact ⟨o, q⟩) ⟨Nat.zero_le _, hd, [], .nil, dd⟩
  | t e =>
    obtain ⟨hd, dd⟩ := dk_nil I (.inl e)
    exact I.write (h' := s.heap) (t' := s.toks) (by rw [e]; trivial) (.inl rfl) (fun b u _ q => q) (by obtain ⟨o, _, _, q, _⟩ := dd; exact ⟨o, q⟩) ⟨Nat.zero_le _, hd, [], .nil, by obtain ⟨o, es, ep, h1, h2, h3, h4, _, h6⟩ := dd; exact ⟨o, es, ep, h1, h2, h3, h4, h6⟩⟩
theorem pe_cv {X : Cx} {e : Expr} {t : TE} (h : PE X e t) : PE X e (fun σ H Q => t σ H fun x H1 => ∃ H2, Cv H1 H2 ∧ Q x H2) := by
  constructor
  intro pins s σ H Q I hw
  refine thn (h.run pins s σ H _ I hw) fun v s1 ⟨x, H1, I1, r1, H2, c, q1⟩ => ?_
  exact ⟨x, H2, Inv.cv I1 c, r1, q1⟩
theorem FSt.two {a : Addr} (sb : Sub G H) (n : G a = none) (u v : HO) : FSt G H G (L2.upd (L2.upd H a v) a u) := by
  have := FSt.put (a := a) sb n v
  exact this.trans (FSt.put this.ok n u)
theorem upd_two {H : Hp} {a : Addr} {u v : HO} : L2.upd (L2.upd H a v) a u = L2.upd H a u := by
  funext b
  by_cases y : b = a
  · rw [y, upd_same, upd_same]
  · rw [upd_ne y, upd_ne y, upd_ne y]
theorem all_eqL {kvs : List (PyData × PyData)} {f : PyData → Bool} (h : (kvs.all fun p => f p.1) = true) {p : PyData × PyData} (m : p ∈ kvs) : f p.1 = true := List.all_eq_true.mp h p m
theorem StOk.setKey {kvs : List (PyData × PyData)} {i : Nat} {v y : V} {x k : PyData} (h : StOk K pc G0 H0 G oa ρ S σ H) (e : ρ[i]? = some (.od kvs)) (r : Rel K G v x) (rk : Rel K G y k) (ok : keyOk kvs k = true) (l : okLen (kvs.length + 1) = true) :
    ∃ a H1 H2, σ[i]? = some (some (.ref a)) ∧ Cv H H1 ∧ DPut H1 a y v H2 ∧ FSt G H G H2 ∧ ∃ oa', StOk K pc G0 H0 G oa' (ρ.set i (.od (putD kvs k x))) S σ H2 := by
  obtain ⟨w, e2, q⟩ := h.slot e
  obtain ⟨a, u, h1, rfl, h3, h4⟩ := q
  have l := okLen_le l
  have g : G a = none := (h.ow i a (by rw [h1]; simp)).1
  have pl := putD_len kvs k x
  -- the end, by the pairs as they stand
  have finK : ∀ (vs : List (Key × V)) (k' : Key) (H1 : Hp), k = kD k' → y = kV k' → RelK K G vs kvs → H1 a = some (.dK vs) → Cv H H1 → (∀ u, L2.upd H1 a u = L2.upd H a u) → ∃ a H1 H2, σ[i]? = some (some (.ref a)) ∧ Cv H H1 ∧ DPut H1 a y v H2 ∧ FSt G H G H2 ∧ ∃ oa', StOk K pc G0 H0 G oa' (ρ.set i (.od (putD kvs k x))) S σ H2 := fun vs k' H1 ek ey rv e1 c up => by
    subst ek ey
    have rp := RelK.put k' r rv
    have lp := rp.length
    obtain ⟨f, st⟩ := h.mut (s := .od (putD kvs (kD k') x)) (a := a) (u' := .dK (putK vs k' v)) e2 (by rw [h1]; simp) rfl ⟨a, _, h1, rfl, upd_same, .dk (by omega) rp⟩
    have lv := rv.length
    refine ⟨a, H1, _, e2, c, DPut.k e1 (by omega), ?_, oa, ?_⟩
    · rw [up]; exact f
    · rw [up]; exact st
  have finT : ∀ (vs : List (List Key × V)) (k' : List Key) (H1 : Hp) (b : Addr), k = .tuple (k'.map kD) → y = .ref b → G b = some (.tup (k'.map kV)) → (k'.map kV).length ≤ sizeLine → RelT K G vs kvs → H1 a = some (.dT vs) → Cv H H1 → (∀ u, L2.upd H1 a u = L2.upd H a u) → (∀ b, b ≠ a → H1 b = H b) → ∃ a H1 H2, σ[i]? = some (some (.ref a)) ∧ Cv H H1 ∧ DPut H1 a y v H2 ∧ FSt G H G H2 ∧ ∃ oa', StOk K pc G0 H0 G oa' (ρ.set i (.od (putD kvs k x))) S σ H2 := fun vs k' H1 b ek ey eb lk rv e1 c up ne => by
    subst ek ey
    have rp := RelT.put k' lk r rv
    have lp := rp.length
    obtain ⟨f, st⟩ := h.mut (s := .od (putD kvs (.tuple (k'.map kD)) x)) (a := a) (u' := .dT (putK vs k' v)) e2 (by rw [h1]; simp) rfl ⟨a, _, h1, rfl, upd_same, .dt (by omega) rp⟩
    have lv := rv.length
    have nb : b ≠ a := fun e => by rw [e, g] at eb; cases eb
    refine ⟨a, H1, _, e2, c, DPut.t e1 ((ne b nb).trans (h.st.ok.ex eb rfl)) (by omega), ?_, oa, ?_⟩
    · rw [up]; exact f
    · rw [up]; exact st
  unfold keyOk at ok
  rw [Bool.or_eq_true, Bool.and_eq_true, Bool.and_eq_true] at ok
  rcases ok with ⟨o1, o2⟩ | ⟨o1, o2⟩
  · obtain ⟨k', rfl⟩ := keyB_kD o1
    have ey := Rel.key rk
    cases h4 with
    | dk _ rv => exact finK _ k' H rfl ey rv h3 .no fun _ => rfl
    | dt lz rv =>
      rcases RelT.keysB rv with rfl | ⟨p, m, z⟩
      · cases rv
        exact finK [] k' _ rfl ey .nil upd_same (.k h3) fun u => upd_two
      · rw [all_eqL (f := keyB) o2 m] at z; cases z
  · obtain ⟨k', rfl⟩ := keyT_kD o1
    obtain ⟨b, ey, eb⟩ := Rel.tkey rk
    have lk : (k'.map kV).length ≤ sizeLine := by
      cases rk with
      | tup ea la ra => 
        have := ra.length
        rw [List.length_map] at this ⊢
        omega
    cases h4 with
    | dt _ rv => exact finT _ k' H b rfl ey eb lk rv h3 .no (fun _ => rfl) fun _ _ => rfl
    | dk lz rv =>
      rcases RelK.keysB rv with rfl | ⟨p, m, z⟩
      · cases rv
        exact finT [] k' _ b rfl ey eb lk .nil upd_same (.t h3) (fun u => upd_two) fun c nc => upd_ne nc
      · rw [all_eqL (f := keyT) o2 m] at z; cases z
/-- the source's numbers -/
def Src.put (S : Src) (f : Fld) (n : Int) : Src := match f with
  | .left => { S with left := n }
  | .mixed => { S with mixed := n }
  | .turn => { S with turn := n }
theorem StOk.setFld {p c : Addr} {f : Fld} {n : Int} (hp : pc = some (p, c)) (h : StOk K pc G0 H0 G oa ρ S σ H) : ∃ H2, DPut H p (.str f.nm) (.int n) H2 ∧ FSt G H G H2 ∧ StOk K pc G0 H0 G oa ρ (S.put f n) σ H2 := by
  subst hp
  obtain ⟨h0, h1, h2⟩ := h.src
  have g : G p = none := h.npc p (.inl rfl)
  refine ⟨_, DPut.k (k := .inr f.nm) h1 (by show 4 < sizeLine; decide), FSt.put h.st.ok g _, h.len, ?_, ⟨h0, ?_, ?_⟩, h.npc, fun i s w e1 e2 => (h.sl i s w e1 e2).mono (Le.refl G) fun a ha => upd_ne fun e => (h.ow i a ha).2.2.1 (by rw [e]; exact .inl rfl), h.out, h.nd, h.dj, fun i a ha => ?_⟩
  · exact h.st.trans (src_upd h.npc h.st.ok h.src (.inl rfl) _)
  · rw [upd_same]
    cases f <;> rfl
  · rw [upd_ne (Ne.symm h0)]
    cases f <;> exact h2
  · obtain ⟨q1, q2, q3, u, q4, q5⟩ := h.ow i a ha
    exact ⟨q1, q2, q3, u, by rw [upd_ne (fun e => q3 (by rw [e]; exact .inl rfl))]; exact q4, q5⟩
open Classical in
/-- frozen: nothing changes it any more -/
theorem StOk.freeze {i : Nat} {s : Sl} {x : PyData} (h : StOk K pc G0 H0 G oa ρ S σ H) (e : ρ[i]? = some s) (ev : s.vw = .d x) : ∃ G' oa', FSt G H G' H ∧ StOk K pc G0 H0 G' oa' (ρ.set i (.d x)) S σ H := by
  let G' : Hp := fun a => if a ∈ oa i then H a else G a
  have gin : ∀ a, a ∈ oa i → G' a = H a := fun a ha => if_pos ha
  have gout : ∀ a, a ∉ oa i → G' a = G a := fun a ha => if_neg ha
  have le : Le G G' := fun a u z => by
    by_cases q : a ∈ oa i
    · rw [(h.ow i a q).1] at z; cases z
    · rw [gout a q]; exact z
  have sb : Sub G' H := fun a u z => by
    by_cases q : a ∈ oa i
    · rw [gin a q] at z; exact .inl z
    · rw [gout a q] at z; exact h.st.ok a u z
  refine ⟨G', fun j => if j = i then [] else oa j, ⟨le, sb, fun _ _ => rfl⟩, by rw [List.length_set]; exact h.len, ⟨h.st.le.trans le, sb, h.st.keep, h.st.live, fun a u z => ?_⟩, h.src, fun a z => ?_, fun j s' w e1 e2 => ?_, fun j hj => ?_, fun j => ?_, fun j k a ha hb => ?_, fun j a ha => ?_⟩
  · by_cases q : a ∈ oa i
    · exact .inr (.inl (h.ow i a q).2.1)
    · rw [gout a q] at z; exact h.st.new a u z
  · by_cases q : a ∈ oa i
    · exact absurd z (h.ow i a q).2.2.1
    · rw [gout a q]; exact h.npc a z
  · by_cases y : i = j
    · subst y
      have hi : i < ρ.length := by
        have := (List.getElem?_eq_some_iff.mp e1).1
        rwa [List.length_set] at this
      rw [List.getElem?_set_self hi] at e1
      cases e1
      simp only [if_true]
      refine ⟨rfl, ?_⟩
      have q := h.sl i s w e e2
      cases s with
      | d z => cases ev; obtain ⟨_, v, r1, r2⟩ := q; exact ⟨v, r1, r2.mono le⟩
      | ol xs =>
        cases ev
        obtain ⟨a, u, h1, rfl, h3, h4⟩ := q
        have g : G' a = some u := (gin a (by rw [h1]; simp)).trans h3
        cases h4 with
        | lst x y => exact ⟨_, rfl, .lst g x (y.mono le)⟩
      | od xs =>
        cases ev
        obtain ⟨a, u, h1, rfl, h3, h4⟩ := q
        have g : G' a = some u := (gin a (by rw [h1]; simp)).trans h3
        cases h4 with
        | dk x y => exact ⟨_, rfl, .dk g x (y.mono le)⟩
        | dt x y => exact ⟨_, rfl, .dt g x (y.mono le)⟩
      | oll xs =>
        cases ev
        obtain ⟨a, bs, h1, rfl, h3, h4, h5⟩ := q
        exact ⟨_, rfl, .lst ((gin a (by rw [h1]; simp)).trans h3) (by rw [List.length_map]; exact h4) (rows_rel le (fun b hb => gin b (by rw [h1]; exact List.mem_cons_of_mem _ hb)) h5)⟩
      | odl xs =>
        cases ev
        obtain ⟨a, bs, h1, rfl, h3, h4, h5⟩ := q
        exact ⟨_, rfl, .lst ((gin a (by rw [h1]; simp)).trans h3) (by rw [List.length_map]; exact h4) (rows_rel le (fun b hb => gin b (by rw [h1]; exact List.mem_cons_of_mem _ hb)) h5)⟩
      | _ => cases ev
    · rw [List.getElem?_set_ne y] at e1
      simp only [if_neg (Ne.symm y)]
      exact (h.sl j s' w e1 e2).mono le fun _ _ => rfl
  · rw [List.length_set] at hj
    by_cases y : j = i
    · simp only [if_pos y]
    · simp only [if_neg y]; exact h.out j hj
  · by_cases y : j = i
    · simp only [if_pos y]; exact List.nodup_nil
    · simp only [if_neg y]; exact h.nd j
  · by_cases y : j = i
    · simp only [if_pos y] at ha; cases ha
    · by_cases z : k = i
      · simp only [if_pos z] at hb; cases hb
      · simp only [if_neg y] at ha
        simp only [if_neg z] at hb
        exact h.dj j k a ha hb
  · by_cases y : j = i
    · simp only [if_pos y] at ha; cases ha
    · simp only [if_neg y] at ha
      obtain ⟨q1, q2⟩ := h.ow j a ha
      exact ⟨by rw [gout a fun m => y (h.dj j i a ha m)]; exact q1, q2⟩
theorem StOk.popAll {s : Sl} {w : Option V} {i : Nat} (h : StOk K pc G0 H0 G oa (ρ ++ [s]) S (σ ++ [w]) H) : ∃ oa', StOk K pc G0 H0 G oa' (ρ.set i s) S (σ.set i w) H := by
  have len : ρ.length = σ.length := by have := h.len; simp only [List.length_append, List.length_singleton] at this; omega
  by_cases hi : i < ρ.length
  · exact h.pop hi
  · rw [List.set_eq_of_length_le (by omega), List.set_eq_of_length_le (by omega)]
    exact h.cut len
end
end Pyl

/-! Pyl17: every statement told. -/
namespace Pyl
open PySem PySem.Spec PyProof.Rows L2

/-! ### what is told by what -/
section
variable (nm : List Str) (N : List Str)
def chkP (sc : Scope) : List Md → List Expr → Exs → Bool
  | [], [], .nil => true
  | m :: ms, e :: es, .cons _ x xs => plainE e && mdOk m x && chkE nm N sc e x && chkP sc ms es xs
  | _, _, _ => false
mutual
def chkS (sc : Scope) : Stmt → Stm → Bool
  | st, .asg b tg e => match tg with
    | .nm i => match st with
      | .Assign [.Name x _] ee _ => N[i]? == some x && locB sc x && chkE nm N sc ee e
      | _ => false
    | .tp ts => match st with
      | .Assign [.Tuple ets k pt] ee _ => chkG N sc (.Tuple ets k pt) (.tp ts) && swNone ets ee && chkE nm N sc ee e
      | _ => false
  | st, .own i m e => match st with
    | .Assign [.Name x _] ee _ => N[i]? == some x && locB sc x && mdOk m e && chkE nm N sc ee e
    | _ => false
  | st, .par is ms es => match st with
    | .Assign [.Tuple [.Name x px, .Name y py] _ _] (.Tuple vs _ _) _ => match is with
      | [i, j] => N[i]? == some x && N[j]? == some y && i != j && swSome sc [.Name x px, .Name y py] vs && chkP nm N sc ms vs es
      | _ => false
    | .Assign [.Tuple [.Name x px, .Name y py, .Name z pz] _ _] (.Tuple vs _ _) _ => match is with
      | [i, j, l] => N[i]? == some x && N[j]? == some y && N[l]? == some z && i != j && i != l && j != l && swSome sc [.Name x px, .Name y py, .Name z pz] vs && chkP nm N sc ms vs es
      | _ => false
    | _ => false
  | _, .frz _ => false
  | st, .app i b e => match st with
    | .Expr (.Call (.Attribute (.Name x _) m ap) [ee] [] cp) _ => m == ("append" : Str) && ap.endLine == cp.line && slotB N sc x i && plainE ee && chkE nm N sc ee e
    | _ => false
  | st, .ext i b e => match st with
    | .Expr (.Call (.Attribute (.Name x _) m ap) [ee] [] cp) _ => m == ("extend" : Str) && ap.endLine == cp.line && slotB N sc x i && plainE ee && chkE nm N sc ee e
    | _ => false
  | _, .app2 _ _ _ _ => false
  | st, .set1 i k b e => match st with
    | .Assign [.Subscript (.Name x _) ek _] ee _ => slotB N sc x i && plainE ek && chkE nm N sc ek k && chkE nm N sc ee e
    | _ => false
  | _, .set2 _ _ _ _ _ => false
  | st, .sset j f e => match st with
    | .Assign [.Subscript (.Name x _) (.Constant (.str k) _ _) _] ee _ => slotB N sc x j && k == f.nm && chkE nm N sc ee e
    | _ => false
  | st, .cels i j => match st with
    | .Assign [.Name x _] ee _ => N[i]? == some x && locB sc x && chkE.chkC N sc ee j true
    | _ => false
  | st, .ifs c a b => match st with
    | .If ec ea eb _ => chkE nm N sc ec c && chkSs sc ea a && chkSs sc eb b
    | _ => false
  | st, .frs tg it b => match st with
    | .For etg eit body [] _ => plainE eit && chkG N sc etg tg && chkI nm N sc etg eit it && chkSs sc body b
    | _ => false
  | st, .whl c b => match st with
    | .While ec body [] _ => chkE nm N sc ec c && chkSs sc body b
    | _ => false
  | st, .ret e => match st with
    | .Return (some ee) _ => chkE nm N sc ee e
    | .Return none _ => match e with
      | .cn .none => true
      | _ => false
    | _ => false
  | st, .exs e => match st with
    | .Expr ee _ => noComp ee && chkE nm N sc ee e
    | _ => false
  | st, .pas => match st with
    | .Pass _ => true
    | _ => false
  | st, .brk => match st with
    | .Break _ => true
    | _ => false
  | st, .cnt => match st with
    | .Continue _ => true
    | _ => false
def chkSs (sc : Scope) : List Stmt → Sts → Bool
  | l, .nil => l.isEmpty
  | l, .cons s r => match s with
    | .frz _ => chkSs sc l r
    | s => match l with
      | st :: sts => chkS sc st s && chkSs sc sts r
      | [] => false
end
end

/-! ### readings -/
section
variable (K : PySem.W.Frag) (pc : PC) (Φ : Sem1)
def EndOk (G0 H0 G H : Hp) (ρ' : List Sl) (S' : Src) (D : Ends) : Fl → Prop
  | .nx => ∀ σ' H' G' oa', FSt G H G' H' → StOk K pc G0 H0 G' oa' ρ' S' σ' H' → D.nx σ' H'
  | .bk => ∀ σ' H' G' oa', FSt G H G' H' → StOk K pc G0 H0 G' oa' ρ' S' σ' H' → D.bk σ' H'
  | .ct => ∀ σ' H' G' oa', FSt G H G' H' → StOk K pc G0 H0 G' oa' ρ' S' σ' H' → D.ct σ' H'
  | .rt v => ∀ u G' H', FSt G H G' H' → EStep pc G0 H0 G' H' → SrcOk pc H' S' → Rel K G' u v → D.rt u H'
def tS (s : Stm) : TS := fun D σ H => ∃ (G0 H0 G : Hp) (oa : Nat → List Addr) (ρ : List Sl) (S : Src) (f : Fl) (ρ' : List Sl) (S' : Src), StOk K pc G0 H0 G oa ρ S σ H ∧ exS Φ s ρ S = some (f, ρ', S') ∧ EndOk K pc G0 H0 G H ρ' S' D f
def tSs (s : Sts) : TS := fun D σ H => ∃ (G0 H0 G : Hp) (oa : Nat → List Addr) (ρ : List Sl) (S : Src) (f : Fl) (ρ' : List Sl) (S' : Src), StOk K pc G0 H0 G oa ρ S σ H ∧ exSs Φ s ρ S = some (f, ρ', S') ∧ EndOk K pc G0 H0 G H ρ' S' D f
end
section
variable {X : Cx} {pc : PC} {Φ : Sem1} {T : List Fd} {sc : Scope} {K : PySem.W.Frag}
theorem EndOk.from {G0 H0 G H G1 H1 : Hp} {ρ' : List Sl} {S' : Src} {D : Ends} {f : Fl} (h : EndOk K pc G0 H0 G H ρ' S' D f) (e : FSt G H G1 H1) : EndOk K pc G0 H0 G1 H1 ρ' S' D f := by
  cases f with
  | nx => exact fun σ' H' G' oa' k st => h σ' H' G' oa' (e.trans k) st
  | bk => exact fun σ' H' G' oa' k st => h σ' H' G' oa' (e.trans k) st
  | ct => exact fun σ' H' G' oa' k st => h σ' H' G' oa' (e.trans k) st
  | rt v => exact fun u G' H' k st sr rl => h u G' H' (e.trans k) st sr rl
def md (b : Bool) : Md := if b then .b else .f
theorem md_ok (b : Bool) (e : Ex) : mdOk (md b) e = true := by cases b <;> rfl
theorem evB_md {b : Bool} {e : Ex} {ρ : List Sl} {S : Src} {p : PyData × Src} (h : evB Φ b e ρ S = some p) : evE Φ e (ρ.map (vwM (md b))) S = some p ∧ layS (md b) p.1 = some (.d p.1) := by
  unfold evB at h
  cases b with
  | true =>
    rw [if_pos rfl] at h
    obtain ⟨q, h1, h2⟩ := ibind h
    split at h2
    · rename_i l
      cases h2
      exact ⟨h1, by simp only [md, if_true, layS]; rw [if_pos l]⟩
    · cases h2
  | false =>
    rw [if_neg (by decide)] at h
    exact ⟨h, rfl⟩
/-- a value behind: told, the slots as they were -/
theorem StOk.val {G0 H0 G H : Hp} {oa : Nat → List Addr} {ρ : List Sl} {S : Src} {σ : L2.St} {x : PyData} {v : V} (h : StOk K pc G0 H0 G oa (ρ ++ [] ++ [.d x]) S (σ ++ [] ++ [some v]) H) (l : ρ.length = σ.length) : Rel K G v x ∧ ∃ oa', StOk K pc G0 H0 G oa' ρ S σ H := by
  rw [List.append_nil, List.append_nil] at h
  refine ⟨?_, h.cut l⟩
  obtain ⟨_, v', e, r⟩ := h.sl ρ.length (.d x) (some v) (by rw [List.getElem?_append_right (Nat.le_refl _), Nat.sub_self]; rfl) (by rw [List.getElem?_append_right (by omega), l, Nat.sub_self]; rfl)
  cases e
  exact r
theorem StOk.nil {G0 H0 G H : Hp} {oa : Nat → List Addr} {ρ : List Sl} {S : Src} {σ : L2.St} (h : StOk K pc G0 H0 G oa ρ S σ H) : StOk K pc G0 H0 G oa (ρ ++ []) S (σ ++ []) H := by
  rw [List.append_nil, List.append_nil]; exact h
theorem ss_nil : PSs X [] (tSs X.K pc Φ .nil) := pss_nil.imp fun D σ H ⟨G0, H0, G, oa, ρ, S, f, ρ', S', st, ev, k⟩ => by
  simp only [exSs] at ev
  cases ev
  exact k σ H G oa (FSt.refl st.st.ok) st
theorem ss_cons {st : Stmt} {sts : List Stmt} {s : Stm} {r : Sts} (h : PS X st (tS X.K pc Φ s)) (t : PSs X sts (tSs X.K pc Φ r)) : PSs X (st :: sts) (tSs X.K pc Φ (.cons s r)) :=
  (pss_cons h t).imp fun D σ H ⟨G0, H0, G, oa, ρ, S, f, ρ', S', st, ev, k⟩ => by
    simp only [exSs] at ev
    obtain ⟨⟨f1, ρ1, S1⟩, e1, ev⟩ := ibind ev
    refine ⟨G0, H0, G, oa, ρ, S, f1, ρ1, S1, st, e1, ?_⟩
    cases f1 with
    | nx => exact fun σ1 H1 G1 o1 f1 st1 => ⟨G0, H0, G1, o1, ρ1, S1, f, ρ', S', st1, ev, k.from f1⟩
    | rt v => cases ev; exact k
    | bk => cases ev; exact k
    | ct => cases ev; exact k
theorem ss_frz {sts : List Stmt} {i : Nat} {r : Sts} (t : PSs X sts (tSs X.K pc Φ r)) : PSs X sts (tSs X.K pc Φ (.cons (.frz i) r)) :=
  t.imp fun D σ H ⟨G0, H0, G, oa, ρ, S, f, ρ', S', st, ev, k⟩ => by
    simp only [exSs, exS] at ev
    obtain ⟨⟨f1, ρ1, S1⟩, e1, ev⟩ := ibind ev
    split at e1
    · rename_i s q
      cases e1
      cases hv : s.vw with
      | d x =>
        obtain ⟨G1, o1, f1, st1⟩ := st.freeze q hv
        refine ⟨G0, H0, G1, o1, _, S, f, ρ', S', st1, ?_, k.from f1⟩
        simp only [hv] at ev
        exact ev
      | _ =>
        simp only [hv] at ev
        have : ρ.set i s = ρ := by
          have hi := (List.getElem?_eq_some_iff.mp q).1
          apply List.ext_getElem?
          intro j
          by_cases y : i = j
          · subst y; rw [List.getElem?_set_self hi, q]
          · rw [List.getElem?_set_ne y]
        rw [this] at ev
        exact ⟨G0, H0, G, oa, ρ, S, f, ρ', S', st, ev, k⟩
    · cases e1
theorem s_asg1 {b : Bool} {x : Str} {px pos : Pos} {i : Nat} {ee : Expr} {e : Ex} (ok : XSt X T Φ sc) (hi : X.N[i]? = some x) (hl : locB sc x = true) (h : chkE (T.map Fd.name) X.N sc ee e = true) :
    PS X (.Assign [.Name x px] ee pos) (tS X.K pc Φ (.asg b (.nm i) e)) :=
  (s_name (m := md b) ok hi hl (md_ok b e) h).imp fun D σ H ⟨G0, H0, G, oa, ρ, S, f, ρ', S', st, ev, k⟩ => by
    simp only [exS] at ev
    obtain ⟨p, e1, ev⟩ := ibind ev
    obtain ⟨as, e2, e3⟩ := imap ev
    simp only [bindTg] at e2
    cases e2
    cases e3
    obtain ⟨e1, e4⟩ := evB_md e1
    refine ⟨G0, H0, G, oa, ρ, S, [], [], p.1, p.2, _, st.nil, st.len, e1, e4, fun v G1 o1 H1 f1 h1 => ?_⟩
    rw [List.append_nil, List.append_nil] at h1
    obtain ⟨o2, h2⟩ := h1.popAll (i := i)
    exact k _ H1 G1 o2 f1 h2
theorem s_own {m : Md} {x : Str} {px pos : Pos} {i : Nat} {ee : Expr} {e : Ex} (ok : XSt X T Φ sc) (hi : X.N[i]? = some x) (hl : locB sc x = true) (hm : mdOk m e = true) (h : chkE (T.map Fd.name) X.N sc ee e = true) :
    PS X (.Assign [.Name x px] ee pos) (tS X.K pc Φ (.own i m e)) :=
  (s_name ok hi hl hm h).imp fun D σ H ⟨G0, H0, G, oa, ρ, S, f, ρ', S', st, ev, k⟩ => by
    simp only [exS] at ev
    obtain ⟨p, e1, ev⟩ := ibind ev
    obtain ⟨s, e2, e3⟩ := imap ev
    cases e3
    refine ⟨G0, H0, G, oa, ρ, S, [], [], p.1, p.2, s, st.nil, st.len, e1, e2, fun v G1 o1 H1 f1 h1 => ?_⟩
    rw [List.append_nil, List.append_nil] at h1
    obtain ⟨o2, h2⟩ := h1.popAll (i := i)
    exact k _ H1 G1 o2 f1 h2
theorem s_asgT {b : Bool} {ets : List Expr} {k0 : Nat} {pt pos : Pos} {ee : Expr} {ts : List Tg} {e : Ex} (ok : XSt X T Φ sc) (hg : chkG X.N sc (.Tuple ets k0 pt) (.tp ts) = true) (hw : swNone ets ee = true) (h : chkE (T.map Fd.name) X.N sc ee e = true) :
    PS X (.Assign [.Tuple ets k0 pt] ee pos) (tS X.K pc Φ (.asg b (.tp ts) e)) :=
  (s_tgs2 (b := b) ok hg hw h).imp fun D σ H ⟨G0, H0, G, oa, ρ, S, f, ρ', S', st, ev, k⟩ => by
    simp only [exS] at ev
    obtain ⟨p, e1, ev⟩ := ibind ev
    obtain ⟨as, e2, e3⟩ := imap ev
    cases e3
    obtain ⟨e1, e4⟩ := evB_md e1
    refine ⟨G0, H0, G, oa, ρ, S, [], [], p.1, p.2, _, st.nil, st.len, e1, e4, fun v G1 o1 H1 f1 h1 => ?_⟩
    obtain ⟨rv, o2, h2⟩ := h1.val st.len
    refine ⟨G1, p.1, as, h2.st.ok, rv, e2, fun ws rw' => ?_⟩
    obtain ⟨o3, h3⟩ := h2.binds rw'
    exact k _ H1 G1 o3 f1 h3
theorem p_all : ∀ {ms : List Md} {es : List Expr} {xs : Exs}, XSt X T Φ sc → chkP (T.map Fd.name) X.N sc ms es xs = true → PA X es (tP X.K pc Φ ms xs)
  | [], [], .nil, ok, _ => p_nil
  | m :: ms, e :: es, .cons b x xs, ok, h => by
    simp only [chkP, Bool.and_eq_true] at h
    exact p_cons h.1.1.1 (s_val (sndE x ok.toXOk h.1.2) h.1.1.2) (p_all ok h.2)
  | [], [], .cons _ _ _, _, h => by simp [chkP] at h
  | [], _ :: _, .nil, _, h => by simp [chkP] at h
  | [], _ :: _, .cons _ _ _, _, h => by simp [chkP] at h
  | _ :: _, [], .nil, _, h => by simp [chkP] at h
  | _ :: _, [], .cons _ _ _, _, h => by simp [chkP] at h
  | _ :: _, _ :: _, .nil, _, h => by simp [chkP] at h
theorem evP_len : ∀ {ms : List Md} {xs : Exs} {ρ : List Sl} {S : Src} {p : List Sl × Src}, evP Φ ms xs ρ S = some p → p.1.length = ms.length
  | [], .nil, _, _, _, h => by cases h; rfl
  | m :: ms, .cons b x xs, ρ, S, p, h => by
    simp only [evP] at h
    obtain ⟨p1, e1, h⟩ := ibind h
    obtain ⟨s, e2, h⟩ := ibind h
    obtain ⟨p2, e3, e4⟩ := imap h
    cases e4
    rw [List.length_cons, evP_len e3, List.length_cons]
  | [], .cons _ _ _, _, _, _, h => by simp [evP] at h
  | _ :: _, .nil, _, _, _, h => by simp [evP] at h
theorem chkP_len {nm N : List Str} : ∀ {ms : List Md} {es : List Expr} {xs : Exs}, chkP nm N sc ms es xs = true → ms.length = es.length
  | [], [], .nil, _ => rfl
  | m :: ms, e :: es, .cons b x xs, h => by
    simp only [chkP, Bool.and_eq_true] at h
    rw [List.length_cons, List.length_cons, chkP_len h.2]
  | [], [], .cons _ _ _, h => by simp [chkP] at h
  | [], _ :: _, .nil, h => by simp [chkP] at h
  | [], _ :: _, .cons _ _ _, h => by simp [chkP] at h
  | _ :: _, [], .nil, h => by simp [chkP] at h
  | _ :: _, [], .cons _ _ _, h => by simp [chkP] at h
  | _ :: _, _ :: _, .nil, h => by simp [chkP] at h
theorem StOk.pop2 {G0 H0 G H : Hp} {oa : Nat → List Addr} {ρ : List Sl} {S : Src} {σ : L2.St} {s1 s2 : Sl} {v1 v2 : V} {i j : Nat} (h : StOk K pc G0 H0 G oa (ρ ++ [] ++ [s1, s2]) S (σ ++ [] ++ [some v1, some v2]) H) (l : ρ.length = σ.length) (hi : i < ρ.length) (hj : j < ρ.length) (ij : i ≠ j) :
    ∃ oa', StOk K pc G0 H0 G oa' ((ρ.set i s1).set j s2) S ((σ.set i (some v1)).set j (some v2)) H := by
  have h1 : StOk K pc G0 H0 G oa ((ρ ++ [s1]) ++ [s2]) S ((σ ++ [some v1]) ++ [some v2]) H := by simpa using h
  obtain ⟨o1, h2⟩ := h1.pop (i := j) (by rw [List.length_append]; omega)
  rw [List.set_append_left _ _ hj, List.set_append_left _ _ (by omega)] at h2
  obtain ⟨o2, h3⟩ := h2.pop (i := i) (by rw [List.length_set]; exact hi)
  rw [List.set_comm _ _ ij.symm, List.set_comm _ _ ij.symm] at h3
  exact ⟨o2, h3⟩
theorem StOk.pop3 {G0 H0 G H : Hp} {oa : Nat → List Addr} {ρ : List Sl} {S : Src} {σ : L2.St} {s1 s2 s3 : Sl} {v1 v2 v3 : V} {i j k : Nat} (h : StOk K pc G0 H0 G oa (ρ ++ [] ++ [s1, s2, s3]) S (σ ++ [] ++ [some v1, some v2, some v3]) H) (l : ρ.length = σ.length) (hi : i < ρ.length) (hj : j < ρ.length) (hk : k < ρ.length) (ij : i ≠ j) (ik : i ≠ k) (jk : j ≠ k) :
    ∃ oa', StOk K pc G0 H0 G oa' (((ρ.set i s1).set j s2).set k s3) S (((σ.set i (some v1)).set j (some v2)).set k (some v3)) H := by
  have h1 : StOk K pc G0 H0 G oa ((ρ ++ [s1] ++ [s2]) ++ [s3]) S ((σ ++ [some v1] ++ [some v2]) ++ [some v3]) H := by simpa using h
  obtain ⟨o1, h2⟩ := h1.pop (i := k) (by simp only [List.length_append]; omega)
  rw [List.set_append_left _ _ (by rw [List.length_append]; omega), List.set_append_left _ _ hk, List.set_append_left _ _ (by rw [List.length_append]; omega), List.set_append_left _ _ (by omega)] at h2
  have h2' : StOk K pc G0 H0 G o1 ((ρ.set k s3) ++ [] ++ [s1, s2]) S ((σ.set k (some v3)) ++ [] ++ [some v1, some v2]) H := by simpa using h2
  obtain ⟨o2, h3⟩ := h2'.pop2 (i := i) (j := j) (by rw [List.length_set, List.length_set]; exact l) (by rw [List.length_set]; exact hi) (by rw [List.length_set]; exact hj) ij
  rw [List.set_comm s3 s1 ik.symm, List.set_comm s3 s2 jk.symm, List.set_comm (some v3) (some v1) ik.symm, List.set_comm (some v3) (some v2) jk.symm] at h3
  exact ⟨o2, h3⟩
theorem par_ev {is : List Nat} {ms : List Md} {es : Exs} {ρ ρ' : List Sl} {S S' : Src} {f : Fl} (ev : exS Φ (.par is ms es) ρ S = some (f, ρ', S')) : (∀ i ∈ is, i < ρ.length) ∧ f = .nx ∧ ∃ ss, evP Φ ms es ρ S = some (ss, S') ∧ ρ' = setSl ρ is ss := by
  simp only [exS] at ev
  split at ev
  · rename_i c
    obtain ⟨p, e1, ev⟩ := ibind ev
    cases ev
    exact ⟨fun i hi => of_decide_eq_true (List.all_eq_true.mp c i hi), rfl, p.1, e1, rfl⟩
  · cases ev
theorem s_par2 {x y : Str} {px py pt pt2 pos : Pos} {kt k2 : Nat} {vs : List Expr} {i j : Nat} {ms : List Md} {es : Exs} (ok : XSt X T Φ sc) (hi : X.N[i]? = some x) (hj : X.N[j]? = some y) (ij : i ≠ j) (hw : swSome sc [.Name x px, .Name y py] vs = true) (h : chkP (T.map Fd.name) X.N sc ms vs es = true) :
    PS X (.Assign [.Tuple [.Name x px, .Name y py] kt pt] (.Tuple vs k2 pt2) pos) (tS X.K pc Φ (.par [i, j] ms es)) := by
  have hw' := hw
  simp only [swSome, Bool.and_eq_true] at hw'
  obtain ⟨⟨⟨⟨⟨⟨⟨l2, lx⟩, ly⟩, _⟩, _⟩, _⟩, _⟩, _⟩ := hw'
  have hm := chkP_len h
  obtain ⟨a, b, rfl⟩ : ∃ a b, vs = [a, b] := by
    match vs, l2 with
    | [a, b], _ => exact ⟨a, b, rfl⟩
  refine (ps_par ok.calm ok.nd hi hj ij (loc_kind ok lx) (loc_kind ok ly) (p_all (pc := pc) ok h) (sw_some2 ok hw)).imp fun D σ H ⟨G0, H0, G, oa, ρ, S, f, ρ', S', st, ev, k⟩ => ?_
  obtain ⟨lt, rfl, ss, e1, rfl⟩ := par_ev ev
  have hl := evP_len e1
  rw [hm] at hl
  refine ⟨G0, H0, G, oa, ρ, S, [], [], ss, S', st.nil, st.len, e1, fun ws G1 o1 H1 f1 h1 hl2 => ?_⟩
  match ss, hl with
  | [s1, s2], _ =>
    match ws, hl2 with
    | [w1, w2], _ =>
      obtain ⟨o2, h2⟩ := h1.pop2 st.len (lt i (by simp)) (lt j (by simp)) ij
      exact ⟨w1, w2, rfl, k _ H1 G1 o2 f1 h2⟩
theorem s_par3 {x y z : Str} {px py pz pt pt2 pos : Pos} {kt k2 : Nat} {vs : List Expr} {i j l : Nat} {ms : List Md} {es : Exs} (ok : XSt X T Φ sc) (hi : X.N[i]? = some x) (hj : X.N[j]? = some y) (hl : X.N[l]? = some z) (ij : i ≠ j) (il : i ≠ l) (jl : j ≠ l) (hw : swSome sc [.Name x px, .Name y py, .Name z pz] vs = true) (h : chkP (T.map Fd.name) X.N sc ms vs es = true) :
    PS X (.Assign [.Tuple [.Name x px, .Name y py, .Name z pz] kt pt] (.Tuple vs k2 pt2) pos) (tS X.K pc Φ (.par [i, j, l] ms es)) := by
  have hw' := hw
  simp only [swSome, Bool.and_eq_true] at hw'
  obtain ⟨⟨⟨⟨⟨⟨⟨⟨⟨⟨⟨l2, lx⟩, ly⟩, lz⟩, _⟩, _⟩, _⟩, _⟩, _⟩, _⟩, _⟩, _⟩ := hw'
  have hm := chkP_len h
  obtain ⟨a, b, c, rfl⟩ : ∃ a b c, vs = [a, b, c] := by
    match vs, l2 with
    | [a, b, c], _ => exact ⟨a, b, c, rfl⟩
  refine (ps_par3 ok.calm ok.nd hi hj hl ij il jl (loc_kind ok lx) (loc_kind ok ly) (loc_kind ok lz) (p_all (pc := pc) ok h) (sw_some3 ok hw)).imp fun D σ H ⟨G0, H0, G, oa, ρ, S, f, ρ', S', st, ev, k⟩ => ?_
  obtain ⟨lt, rfl, ss, e1, rfl⟩ := par_ev ev
  have hl := evP_len e1
  rw [hm] at hl
  refine ⟨G0, H0, G, oa, ρ, S, [], [], ss, S', st.nil, st.len, e1, fun ws G1 o1 H1 f1 h1 hl2 => ?_⟩
  match ss, hl with
  | [s1, s2, s3], _ =>
    match ws, hl2 with
    | [w1, w2, w3], _ =>
      obtain ⟨o2, h2⟩ := h1.pop3 st.len (lt i (by simp)) (lt j (by simp)) (lt l (by simp)) ij il jl
      exact ⟨w1, w2, w3, rfl, k _ H1 G1 o2 f1 h2⟩
end
end Pyl

/-! Pyl18: every statement told, the rest. -/
namespace Pyl
open PySem PySem.Spec PyProof.Rows L2

section
variable {X : Cx} {pc : PC} {Φ : Sem1} {T : List Fd} {sc : Scope} {K : PySem.W.Frag}
theorem var_of {x : Str} {px : Pos} {i : Nat} (ok : XSt X T Φ sc) (h : slotB X.N sc x i = true) : PE X (.Name x px) (tVar i) := by
  unfold slotB at h
  simp only [Bool.and_eq_true] at h
  obtain ⟨⟨h1, h2⟩, h3⟩ := h
  obtain ⟨d1, d2⟩ := nm_of h3
  exact pe_var (by simpa using h1) (ok.ag.vis h2) d1 d2
theorem few1 {e : Expr} {env : Env} {cpos : Pos} (pe : plainE e = true) : ((backTo cpos (starEach [e] env)).all (fun x => !x.1) && (backToKw cpos (keywordEach [] env)).all (fun x => x.1.isSome)
      && decide (([e] : List Expr).length + ([] : List Keyword).length + (if ([] : List Keyword).isEmpty then 0 else 1) < 30)) = true := by
  rw [star_of pe]
  rfl
theorem s_app {x : Str} {px ap cp pos : Pos} {i : Nat} {b : Bool} {ee : Expr} {e : Ex} (ok : XSt X T Φ sc) (hl : (ap.endLine == cp.line) = true) (hs : slotB X.N sc x i = true) (pe : plainE ee = true) (h : chkE (T.map Fd.name) X.N sc ee e = true) :
    PS X (.Expr (.Call (.Attribute (.Name x px) "append" ap) [ee] [] cp) pos) (tS X.K pc Φ (.app i b e)) :=
  (ps_expr (pe_bm PySem.F.plainAttrs_list PySem.F.slot_list_append PySem.F.type_list_append mt_append (var_of ok hs) (pa_cons (s_val (pc := pc) (sndE e ok.toXOk h) (md_ok b e)) pa_nil (star_of pe)) rfl (few1 pe) hl (star_of pe) rfl)).imp fun D σ H ⟨G0, H0, G, oa, ρ, S, f, ρ', S', st, ev, k⟩ => by
    simp only [exS] at ev
    obtain ⟨p, e1, ev⟩ := ibind ev
    obtain ⟨e1, e4⟩ := evB_md e1
    split at ev
    · rename_i xs q
      split at ev
      · rename_i l
        cases ev
        obtain ⟨w, w1, w2⟩ := st.slot q
        obtain ⟨a, u, h1, rfl, h3, h4⟩ := w2
        refine ⟨_, w1, ⟨.inl ⟨rfl, by cases h4; exact ⟨_, .inl (.inl h3)⟩⟩, G0, H0, G, oa, ρ, S, [], [], p.1, p.2, _, st.nil, st.len, e1, e4, fun v G1 o1 H1 f1 st1 => ?_⟩⟩
        obtain ⟨rv, o2, st2⟩ := st1.val st.len
        obtain ⟨a', vs, y1, y2, y3, y4, o3, y5⟩ := st2.append q rv l
        rw [w1] at y1
        cases y1
        exact ⟨a, vs, v, rfl, rfl, y2, y3, k σ _ G1 o3 (f1.trans y4) y5⟩
      · cases ev
    · cases ev
theorem s_ext {x : Str} {px ap cp pos : Pos} {i : Nat} {b : Bool} {ee : Expr} {e : Ex} (ok : XSt X T Φ sc) (hl : (ap.endLine == cp.line) = true) (hs : slotB X.N sc x i = true) (pe : plainE ee = true) (h : chkE (T.map Fd.name) X.N sc ee e = true) :
    PS X (.Expr (.Call (.Attribute (.Name x px) "extend" ap) [ee] [] cp) pos) (tS X.K pc Φ (.ext i b e)) :=
  (ps_expr (pe_bm PySem.F.plainAttrs_list PySem.F.slot_list_extend PySem.F.type_list_extend mt_extend (var_of ok hs) (pa_cons (s_val (pc := pc) (sndE e ok.toXOk h) (md_ok b e)) pa_nil (star_of pe)) rfl (few1 pe) hl (star_of pe) rfl)).imp fun D σ H ⟨G0, H0, G, oa, ρ, S, f, ρ', S', st, ev, k⟩ => by
    simp only [exS] at ev
    obtain ⟨p, e1, ev⟩ := ibind ev
    obtain ⟨e1, e4⟩ := evB_md e1
    split at ev
    · rename_i xs ys q qy
      split at ev
      · rename_i l
        cases ev
        obtain ⟨w, w1, w2⟩ := st.slot q
        obtain ⟨a, u, h1, rfl, h3, h4⟩ := w2
        refine ⟨_, w1, ⟨.inl ⟨rfl, by cases h4; exact ⟨_, .inl (.inl h3)⟩⟩, G0, H0, G, oa, ρ, S, [], [], p.1, p.2, _, st.nil, st.len, e1, e4, fun v G1 o1 H1 f1 st1 => ?_⟩⟩
        obtain ⟨rv, o2, st2⟩ := st1.val st.len
        rw [qy] at rv
        obtain ⟨a', vs, c, zs, y1, yb, y2, yz, y3, y4, o3, y5⟩ := st2.extend q rv l
        rw [w1] at y1
        cases y1
        exact ⟨a, c, vs, zs, rfl, by rw [yb], y2, yz, y3, k σ _ G1 o3 (f1.trans y4) y5⟩
      · cases ev
    · cases ev
theorem ps_or {st : Stmt} {t u : TS} (h1 : PS X st t) (h2 : PS X st u) : PS X st (fun D σ H => t D σ H ∨ u D σ H) := ⟨fun pins s σ H D I q => q.elim (h1.run pins s σ H D I) (h2.run pins s σ H D I)⟩
theorem s_set1 {x : Str} {px tp pos : Pos} {i : Nat} {b : Bool} {ek ee : Expr} {kx e : Ex} (ok : XSt X T Φ sc) (hs : slotB X.N sc x i = true) (pk : plainE ek = true) (hk : chkE (T.map Fd.name) X.N sc ek kx = true) (h : chkE (T.map Fd.name) X.N sc ee e = true) :
    PS X (.Assign [.Subscript (.Name x px) ek tp] ee pos) (tS X.K pc Φ (.set1 i kx b e)) := by
  have hu := ok.hu
  have hv := s_val (pc := pc) (sndE e ok.toXOk h) (md_ok b e)
  have hy := s_val (pc := pc) (m := .b) (sndE kx ok.toXOk hk) rfl
  refine (ps_or (ps_asg hv (pg_sub (pos := tp) (var_of (px := px) ok hs) hy set_list (by intro v; cases ek <;> first | rfl | cases pk)) (by cases ee <;> rfl) rfl rfl)
    (ps_dput (by omega) (var_of ok hs) (pe_cv hy) hv (by cases ee <;> rfl))).imp fun D σ H ⟨G0, H0, G, oa, ρ, S, f, ρ', S', st, ev, k⟩ => ?_
  simp only [exS] at ev
  obtain ⟨p, e1, ev⟩ := ibind ev
  obtain ⟨e1, e4⟩ := evB_md e1
  obtain ⟨q, e2, ev⟩ := ibind ev
  obtain ⟨s, e3, ev⟩ := ibind ev
  split at ev
  · rename_i lk
    obtain ⟨s', e5, e6⟩ := imap ev
    cases e6
    obtain ⟨w, w1, w2⟩ := st.slot e3
    -- the value, then the key
    have core : ∀ {R : V → V → V → Hp → Prop} {a : Addr}, w = some (.ref a) → (∀ v y G1 o1 H1, FSt G H G1 H1 → StOk X.K pc G0 H0 G1 o1 ρ q.2 σ H1 → Rel X.K G1 v p.1 → Rel X.K G1 y q.1 → R v (.ref a) y H1) →
        tV X.K pc Φ (md b) e σ H fun v H1 => tVar i σ H1 fun o H2 => tV X.K pc Φ .b kx σ H2 fun y H3 => R v o y H3 := fun {R a} ew kk => by
      subst ew
      refine ⟨G0, H0, G, oa, ρ, S, [], [], p.1, p.2, _, st.nil, st.len, e1, e4, fun v G1 o1 H1 f1 st1 => ⟨_, w1, ?_⟩⟩
      have st1' : StOk X.K pc G0 H0 G1 o1 (ρ ++ [.d p.1]) p.2 (σ ++ [some v]) H1 := by simpa using st1
      refine ⟨G0, H0, G1, o1, ρ, p.2, [.d p.1], [some v], q.1, q.2, .d q.1, st1', st.len, e2, by simp only [layS]; rw [if_pos lk], fun y G2 o2 H2 f2 st2 => ?_⟩
      have g2 := st2.sl ρ.length (.d p.1) (some v) (by simp) (by rw [st.len]; simp)
      have g3 := st2.sl (ρ.length + 1) (.d q.1) (some y) (by rw [List.getElem?_append_right (by simp)]; simp) (by rw [st.len, List.getElem?_append_right (by simp)]; simp)
      obtain ⟨_, _, z1, r1⟩ := g2
      cases z1
      obtain ⟨_, _, z2, r2⟩ := g3
      cases z2
      have st2' : StOk X.K pc G0 H0 G2 o2 (ρ ++ ([.d p.1] ++ [.d q.1])) q.2 (σ ++ ([some v] ++ [some y])) H2 := by rw [← List.append_assoc, ← List.append_assoc]; exact st2
      obtain ⟨o3, st3⟩ := st2'.cut st.len
      exact kk v y G2 o3 H2 (f1.trans f2) st3 r1 r2
    cases s with
    | ol xs =>
      obtain ⟨a, u, h1, ew, h3, h4⟩ := w2
      cases hq : q.1 with
      | int j =>
        rw [hq] at e5
        obtain ⟨ys, g1, g2⟩ := imap e5
        cases g2
        refine .inl (core ew fun v y G1 o1 H1 f1 st1 r1 r2 => ?_)
        rw [hq] at r2
        cases r2
        obtain ⟨a', vs, n, y1, y2, y3, y4, o3, y5⟩ := st1.setItem e3 r1 g1
        rw [w1, ew] at y1
        cases y1
        exact ⟨a, vs, j, n, rfl, rfl, y2, y3, k σ _ G1 o3 (f1.trans y4) y5⟩
      | _ => rw [hq] at e5; cases e5
    | od kvs =>
      obtain ⟨a, u, h1, ew, h3, h4⟩ := w2
      simp only [put1] at e5
      split at e5
      · rename_i c
        cases e5
        rw [Bool.and_eq_true] at c
        refine .inr (core ew fun v y G1 o1 H1 f1 st1 r1 r2 => ?_)
        obtain ⟨a', H2, H3, y1, y2, y3, y4, o3, y5⟩ := st1.setKey e3 r1 r2 c.1 c.2
        rw [w1, ew] at y1
        cases y1
        exact ⟨H2, y2, a, H3, rfl, y3, k σ _ G1 o3 (f1.trans y4) y5⟩
      · cases e5
    | _ => cases e5
  · cases ev
theorem s_sset {x : Str} {px p2 tp pos : Pos} {k0 : Nat} {j : Nat} {f : Fld} {ee : Expr} {e : Ex} (ok : XSt X T Φ sc) (hs : slotB X.N sc x j = true) (h : chkE (T.map Fd.name) X.N sc ee e = true) :
    PS X (.Assign [.Subscript (.Name x px) (.Constant (.str f.nm) k0 p2) tp] ee pos) (tS X.K pc Φ (.sset j f e)) := by
  have hu := ok.hu
  refine (ps_dput (by omega) (var_of ok hs) pe_str (s_val (pc := pc) (m := .b) (sndE e ok.toXOk h) rfl) (by cases ee <;> rfl)).imp fun D σ H ⟨G0, H0, G, oa, ρ, S, fl, ρ', S', st, ev, k⟩ => ?_
  simp only [exS] at ev
  obtain ⟨p, e1, ev⟩ := ibind ev
  split at ev
  · rename_i n q qn
    cases ev
    obtain ⟨w, w1, w2⟩ := st.slot q
    obtain ⟨_, pp, c, hp, rfl⟩ := w2
    refine ⟨G0, H0, G, oa, ρ, S, [], [], p.1, p.2, .d p.1, st.nil, st.len, e1, by rw [qn]; rfl, fun v G1 o1 H1 f1 st1 => ⟨_, w1, ?_⟩⟩
    obtain ⟨rv, o2, st2⟩ := st1.val st.len
    rw [qn] at rv
    cases rv
    obtain ⟨H2, y1, y2, y3⟩ := st2.setFld (f := f) (n := n) hp
    refine ⟨pp, H2, rfl, y1, k σ H2 G1 o2 (f1.trans y2) ?_⟩
    cases f <;> exact y3
  · cases ev
theorem chkC_true {N : List Str} {ee : Expr} {j : Nat} (h : chkE.chkC N sc ee j true = true) : noComp ee = true := by
  cases ee <;> first | rfl | (simp [chkE.chkC] at h)
theorem s_cels {x : Str} {px pos : Pos} {i j : Nat} {ee : Expr} (ok : XSt X T Φ sc) (hi : X.N[i]? = some x) (hl : locB sc x = true) (h : chkE.chkC X.N sc ee j true = true) : PS X (.Assign [.Name x px] ee pos) (tS X.K pc Φ (.cels i j)) := by
  obtain ⟨ho, _, _⟩ := cells_ok (pc := pc) ok.toXOk h
  obtain ⟨hloc, hf⟩ := loc_of ok.toXOk hl
  refine (ps_set ok.nd hi hloc ho (sw_no (chkC_true h)) hf).imp fun D σ H ⟨G0, H0, G, oa, ρ, S, fl, ρ', S', st, ev, k⟩ => ?_
  simp only [exS] at ev
  split at ev
  · rename_i q
    cases ev
    have pr := st.nil.preF st.len
    refine ⟨_, G, S, pr, ?_, fun p c e => ?_⟩
    · show isSrc (ρ.map Sl.fz)[j]? = true
      rw [List.getElem?_map, q]
      rfl
    · obtain ⟨o2, h2⟩ := (st.more (s := .cel) (w := some (.ref c)) (as := []) ⟨rfl, p, c, e, rfl⟩ List.nodup_nil (fun a ha => by cases ha) fun i a _ => by simp).popAll (i := i)
      exact k _ H G o2 (FSt.refl st.st.ok) h2
  · cases ev

/-! ### tests, values -/
theorem tst {c : Ex} {ρ : List Sl} {S : Src} {σ : L2.St} {H : Hp} {G0 H0 G : Hp} {oa : Nat → List Addr} {p : PyData × Src} {t : Bool} {Q : Bool → Hp → Prop} (st : StOk K pc G0 H0 G oa ρ S σ H) (e1 : evE Φ c (ρ.map Sl.vw) S = some p) (e2 : truth p.1 = some t)
    (k : ∀ G1 H1, FSt G H G1 H1 → StOk K pc G0 H0 G1 oa ρ p.2 σ H1 → Q t H1) : tB K pc Φ c σ H Q :=
  ⟨_, _, S, p.1, p.2, t, st.nil.preB st.len, e1, e2, fun G1 H1 s1 sr => k _ H1 (st.fst_of (st.back s1)) (st.step (st.back s1) sr)⟩
theorem s_ifs {ec : Expr} {ea eb : List Stmt} {pos : Pos} {c : Ex} {a b : Sts} (ok : XSt X T Φ sc) (h : chkE (T.map Fd.name) X.N sc ec c = true) (ha : PSs X ea (tSs X.K pc Φ a)) (hb : PSs X eb (tSs X.K pc Φ b)) : PS X (.If ec ea eb pos) (tS X.K pc Φ (.ifs c a b)) :=
  (ps_if (sndE (pc := pc) c ok.toXOk h).pt ha hb).imp fun D σ H ⟨G0, H0, G, oa, ρ, S, f, ρ', S', st, ev, k⟩ => by
    simp only [exS] at ev
    obtain ⟨p, e1, ev⟩ := ibind ev
    obtain ⟨t, e2, ev⟩ := ibind ev
    refine tst st e1 e2 fun G1 H1 f1 st1 => ?_
    cases t with
    | true => exact ⟨G0, H0, G1, oa, ρ, p.2, f, ρ', S', st1, ev, k.from f1⟩
    | false => exact ⟨G0, H0, G1, oa, ρ, p.2, f, ρ', S', st1, ev, k.from f1⟩
theorem s_ret {ee : Expr} {pos : Pos} {e : Ex} (ok : XSt X T Φ sc) (h : chkE (T.map Fd.name) X.N sc ee e = true) : PS X (.Return (some ee) pos) (tS X.K pc Φ (.ret e)) :=
  (ps_ret (sndE (pc := pc) e ok.toXOk h).pe).imp fun D σ H ⟨G0, H0, G, oa, ρ, S, f, ρ', S', st, ev, k⟩ => by
    simp only [exS] at ev
    obtain ⟨p, e1, e2⟩ := imap ev
    cases e2
    refine ⟨_, _, S, p.1, p.2, st.nil.preB st.len, e1, fun v G1 H1 s1 sr rl => k v G1 H1 ?_ (st.gvSt.trans s1) sr rl⟩
    exact ⟨st.gvLe.trans s1.le, s1.ok, fun a e => (st.fst_of (st.back s1)).keep a e⟩
theorem s_retN {pos : Pos} : PS X (.Return none pos) (tS X.K pc Φ (.ret (.cn .none))) :=
  ps_retN.imp fun D σ H ⟨G0, H0, G, oa, ρ, S, f, ρ', S', st, ev, k⟩ => by
    cases ev
    exact k .non G H (FSt.refl st.st.ok) st.st st.src .non
theorem s_exs {ee : Expr} {pos : Pos} {e : Ex} (ok : XSt X T Φ sc) (hn : noComp ee = true) (h : chkE (T.map Fd.name) X.N sc ee e = true) : PS X (.Expr ee pos) (tS X.K pc Φ (.exs e)) :=
  (ps_expr (sndE (pc := pc) e ok.toXOk h).pe (sw_no hn)).imp fun D σ H ⟨G0, H0, G, oa, ρ, S, f, ρ', S', st, ev, k⟩ => by
    simp only [exS] at ev
    obtain ⟨p, e1, e2⟩ := imap ev
    cases e2
    exact ⟨_, _, S, p.1, p.2, st.nil.preB st.len, e1, fun v G1 H1 s1 sr rl => k σ H1 _ oa (st.fst_of (st.back s1)) (st.step (st.back s1) sr)⟩

/-! ### loops -/
theorem hpass (ok : XSt X T Φ sc) : PassesOwn (model X.prog X.w) X.A X.env X.xe := by rw [ok.xe]; exact PassesOwn.never
theorem s_whl {ec : Expr} {body : List Stmt} {pos : Pos} {c : Ex} {b : Sts} (ok : XSt X T Φ sc) (h : chkE (T.map Fd.name) X.N sc ec c = true) (hb : PSs X body (tSs X.K pc Φ b)) : PS X (.While ec body [] pos) (tS X.K pc Φ (.whl c b)) :=
  (ps_while (hpass ok) (sndE (pc := pc) c ok.toXOk h).pt hb).imp fun D σ H ⟨G0, H0, G, oa, ρ, S, f, ρ', S', st, ev, k⟩ => by
    simp only [exS] at ev
    let W : Nat → L2.St → Hp → Prop := fun m σ1 H1 => ∃ (G1 : Hp) (o1 : Nat → List Addr) (ρ1 : List Sl) (S1 : Src), StOk X.K pc G0 H0 G1 o1 ρ1 S1 σ1 H1 ∧ FSt G H G1 H1 ∧
      loopW (fun ρ S => (evE Φ c (ρ.map Sl.vw) S).bind fun p => (truth p.1).map (·, p.2)) (fun ρ S => exSs Φ b ρ S) m ρ1 S1 = some (f, ρ', S')
    refine ⟨W, ⟨whileFuel, G, oa, ρ, S, st, FSt.refl st.st.ok, ev⟩, ?_⟩
    rintro m σ1 H1 ⟨G1, o1, ρ1, S1, st1, f1, ev1⟩
    cases m with
    | zero => simp only [loopW] at ev1; cases ev1
    | succ m =>
      simp only [loopW] at ev1
      obtain ⟨t, e1, ev1⟩ := ibind ev1
      obtain ⟨p, e2, e3⟩ := ibind e1
      obtain ⟨tt, e4, e5⟩ := imap e3
      subst e5
      refine tst st1 e2 e4 fun G2 H2 f2 st2 => ?_
      cases tt with
      | false =>
        simp only [Bool.false_eq_true, if_false] at ev1 ⊢
        cases ev1
        exact k σ1 H2 G2 o1 (f1.trans f2) st2
      | true =>
        simp only [if_true] at ev1 ⊢
        obtain ⟨⟨rf, ρr, Sr⟩, e6, ev1⟩ := ibind ev1
        refine ⟨fun σ2 H2 => W m σ2 H2, fun σ2 H2 w => ⟨m, by omega, w⟩, G0, H0, G2, o1, ρ1, p.2, rf, ρr, Sr, st2, e6, ?_⟩
        cases rf with
        | nx => exact fun σ3 H3 G3 o3 f3 st3 => ⟨G3, o3, ρr, Sr, st3, (f1.trans f2).trans f3, ev1⟩
        | ct => exact fun σ3 H3 G3 o3 f3 st3 => ⟨G3, o3, ρr, Sr, st3, (f1.trans f2).trans f3, ev1⟩
        | bk =>
          cases ev1
          exact fun σ3 H3 G3 o3 f3 st3 => k σ3 H3 G3 o3 ((f1.trans f2).trans f3) st3
        | rt v =>
          cases ev1
          exact fun u G3 H3 f3 s3 sr rl => k u G3 H3 ((f1.trans f2).trans f3) s3 sr rl
theorem evJ_ok {it : Itx} {ρ : List Vw} {S : Src} {p : List PyData × Src} (h : evJ Φ it ρ S = some p) : evI Φ it ρ S = some p ∧ dctI Φ it ρ S = false := by
  cases it with
  | ex e =>
    simp only [evJ] at h
    obtain ⟨⟨d, S1⟩, e1, h⟩ := ibind h
    obtain ⟨xs, e2, e3⟩ := imap h
    subst e3
    cases d with
    | list ys => cases e2; exact ⟨by simp only [evI, e1, Option.bind_some, itemsD, Option.map_some], by simp only [dctI, e1]⟩
    | tuple ys => cases e2; exact ⟨by simp only [evI, e1, Option.bind_some, itemsD, Option.map_some], by simp only [dctI, e1]⟩
    | _ => cases e2
  | _ => exact ⟨h, rfl⟩
theorem s_frs {etg eit : Expr} {body : List Stmt} {pos : Pos} {tg : Tg} {it : Itx} {b : Sts} (ok : XSt X T Φ sc) (pi : plainE eit = true) (hg : chkG X.N sc etg tg = true) (hi : chkI (T.map Fd.name) X.N sc etg eit it = true) (hb : PSs X body (tSs X.K pc Φ b)) : PS X (.For etg eit body [] pos) (tS X.K pc Φ (.frs tg it b)) :=
  (ps_for (hpass ok) ok.calm (sndI (pc := pc) it ok.toXOk hi) (s_tg ok.toXOk tg hg) hb (by intro x; cases eit <;> first | rfl | cases pi)).imp fun D σ H ⟨G0, H0, G, oa, ρ, S, f, ρ', S', st, ev, k⟩ => by
    simp only [exS] at ev
    obtain ⟨p, e1, ev⟩ := ibind ev
    obtain ⟨e1, e2⟩ := evJ_ok e1
    refine ⟨G, _, S, p.1, p.2, st.nil.preF st.len, e1, fun J G1 H1 L s1 sr1 lo hl io hL => ?_⟩
    have := hL e2
    subst this
    have st1 := st.step s1 sr1
    have f1 := st.fst_of s1
    let F : PyData → List Sl → Src → RS := fun x ρ S => (bindTg tg x).bind fun as => exSs Φ b (setS ρ as) S
    let W : Nat → Nat → L2.St → Hp → Prop := fun i m σ2 H2 => ∃ (G2 : Hp) (o2 : Nat → List Addr) (ρ2 : List Sl) (S2 : Src), m = p.1.length - i ∧ StOk X.K pc G0 H0 G2 o2 ρ2 S2 σ2 H2 ∧ FSt G1 H1 G2 H2 ∧ loopF F (p.1.drop i) ρ2 S2 = some (f, ρ', S')
    refine ⟨W, ⟨_, G1, oa, ρ, p.2, rfl, st1, FSt.refl st1.st.ok, by rw [List.drop_zero]; exact ev⟩, ?_⟩
    rintro i m σ2 H2 ⟨G2, o2, ρ2, S2, hm, st2, f2, ev2⟩
    obtain ⟨io1, io2⟩ := io G2 H2 f2 i
    cases hx : p.1[i]? with
    | none =>
      left
      have hlen : p.1.length ≤ i := by simpa using hx
      refine ⟨io2 hlen, ?_⟩
      rw [List.drop_eq_nil_of_le hlen] at ev2
      simp only [loopF] at ev2
      cases ev2
      exact k σ2 H2 G2 o2 (f1.trans f2) st2
    | some x =>
      right
      have hi' : i < p.1.length := (List.getElem?_eq_some_iff.mp hx).1
      obtain ⟨go, yl⟩ := io1 x hx
      refine ⟨go, fun σ3 H3 => W (i + 1) (p.1.length - (i + 1)) σ3 H3, fun σ3 H3 w => ⟨_, by omega, w⟩, fun v H3 y => ?_⟩
      obtain ⟨G3, s3, sr3, rv⟩ := yl v H3 y
      have hd : p.1.drop i = x :: p.1.drop (i + 1) := by
        rw [List.drop_eq_getElem_cons hi']
        congr 1
        rw [List.getElem?_eq_getElem hi'] at hx
        exact Option.some.inj hx
      rw [hd] at ev2
      simp only [loopF] at ev2
      obtain ⟨⟨rf, ρr, Sr⟩, e3, ev2⟩ := ibind ev2
      obtain ⟨as, e4, e5⟩ := ibind e3
      have st3 := st2.step s3 (sr3 _ st2.src)
      have f3 := st2.fst_of s3
      refine ⟨G3, x, as, s3.ok, rv, e4, fun ws rw' => ?_⟩
      obtain ⟨o4, st4⟩ := st3.binds rw'
      refine ⟨G0, H0, G3, o4, _, S2, rf, ρr, Sr, st4, e5, ?_⟩
      cases rf with
      | nx => exact fun σ5 H5 G5 o5 f5 st5 => ⟨G5, o5, ρr, Sr, rfl, st5, (f2.trans f3).trans f5, ev2⟩
      | ct => exact fun σ5 H5 G5 o5 f5 st5 => ⟨G5, o5, ρr, Sr, rfl, st5, (f2.trans f3).trans f5, ev2⟩
      | bk =>
        cases ev2
        exact fun σ5 H5 G5 o5 f5 st5 => k σ5 H5 G5 o5 ((f1.trans (f2.trans f3)).trans f5) st5
      | rt v =>
        cases ev2
        exact fun u G5 H5 f5 s5 sr rl => k u G5 H5 ((f1.trans (f2.trans f3)).trans f5) s5 sr rl
theorem chkSs_cons {nm N : List Str} {l : List Stmt} {s : Stm} {r : Sts} (h : chkSs nm N sc l (.cons s r) = true) : (∃ i, s = .frz i ∧ chkSs nm N sc l r = true) ∨ ∃ a b, l = a :: b ∧ chkS nm N sc a s = true ∧ chkSs nm N sc b r = true := by
  cases s with
  | frz i => exact .inl ⟨i, rfl, by simpa only [chkSs] using h⟩
  | _ =>
    cases l with
    | nil => simp [chkSs] at h
    | cons a b =>
      simp only [chkSs, Bool.and_eq_true] at h
      exact .inr ⟨a, b, rfl, h.1, h.2⟩
mutual
theorem sndS (ok : XSt X T Φ sc) : ∀ (s : Stm) {st : Stmt}, chkS (T.map Fd.name) X.N sc st s = true → PS X st (tS X.K pc Φ s)
  | .asg b (.nm i) e, st, h => by
    simp only [chkS] at h
    split at h
    · simp only [Bool.and_eq_true] at h
      exact s_asg1 ok (by simpa using h.1.1) h.1.2 h.2
    · cases h
  | .asg b (.tp ts) e, st, h => by
    simp only [chkS] at h
    split at h
    · simp only [Bool.and_eq_true] at h
      exact s_asgT ok h.1.1 h.1.2 h.2
    · cases h
  | .own i m e, st, h => by
    simp only [chkS] at h
    split at h
    · simp only [Bool.and_eq_true] at h
      exact s_own ok (by simpa using h.1.1.1) h.1.1.2 h.1.2 h.2
    · cases h
  | .par is ms es, st, h => by
    simp only [chkS] at h
    split at h
    · split at h
      · simp only [Bool.and_eq_true] at h
        obtain ⟨⟨⟨⟨h1, h2⟩, h3⟩, h4⟩, h5⟩ := h
        exact s_par2 ok (by simpa using h1) (by simpa using h2) (by simpa using h3) h4 h5
      · cases h
    · split at h
      · simp only [Bool.and_eq_true] at h
        obtain ⟨⟨⟨⟨⟨⟨⟨h1, h2⟩, h3⟩, h4⟩, h5⟩, h6⟩, h7⟩, h8⟩ := h
        exact s_par3 ok (by simpa using h1) (by simpa using h2) (by simpa using h3) (by simpa using h4) (by simpa using h5) (by simpa using h6) h7 h8
      · cases h
    · cases h
  | .frz _, st, h => by simp only [chkS] at h; cases h
  | .app i b e, st, h => by
    simp only [chkS] at h
    split at h
    · simp only [Bool.and_eq_true] at h
      obtain ⟨⟨⟨⟨h1, h2⟩, h3⟩, h4⟩, h5⟩ := h
      have := eq_of_beq h1
      subst this
      exact s_app ok h2 h3 h4 h5
    · cases h
  | .ext i b e, st, h => by
    simp only [chkS] at h
    split at h
    · simp only [Bool.and_eq_true] at h
      obtain ⟨⟨⟨⟨h1, h2⟩, h3⟩, h4⟩, h5⟩ := h
      have := eq_of_beq h1
      subst this
      exact s_ext ok h2 h3 h4 h5
    · cases h
  | .app2 _ _ _ _, st, h => by simp only [chkS] at h; cases h
  | .set1 i kx b e, st, h => by
    simp only [chkS] at h
    split at h
    · simp only [Bool.and_eq_true] at h
      exact s_set1 ok h.1.1.1 h.1.1.2 h.1.2 h.2
    · cases h
  | .set2 _ _ _ _ _, st, h => by simp only [chkS] at h; cases h
  | .sset j f e, st, h => by
    simp only [chkS] at h
    split at h
    · simp only [Bool.and_eq_true] at h
      have := eq_of_beq h.1.2
      subst this
      exact s_sset ok h.1.1 h.2
    · cases h
  | .cels i j, st, h => by
    simp only [chkS] at h
    split at h
    · simp only [Bool.and_eq_true] at h
      exact s_cels ok (by simpa using h.1.1) h.1.2 h.2
    · cases h
  | .ifs c a b, st, h => by
    simp only [chkS] at h
    split at h
    · simp only [Bool.and_eq_true] at h
      exact s_ifs ok h.1.1 (sndSs ok a h.1.2) (sndSs ok b h.2)
    · cases h
  | .frs tg it b, st, h => by
    simp only [chkS] at h
    split at h
    · simp only [Bool.and_eq_true] at h
      exact s_frs ok h.1.1.1 h.1.1.2 h.1.2 (sndSs ok b h.2)
    · cases h
  | .whl c b, st, h => by
    simp only [chkS] at h
    split at h
    · simp only [Bool.and_eq_true] at h
      exact s_whl ok h.1 (sndSs ok b h.2)
    · cases h
  | .ret e, st, h => by
    simp only [chkS] at h
    split at h
    · exact s_ret ok h
    · split at h
      · exact s_retN
      · cases h
    · cases h
  | .exs e, st, h => by
    simp only [chkS] at h
    split at h
    · simp only [Bool.and_eq_true] at h
      exact s_exs ok h.1 h.2
    · cases h
  | .pas, st, h => by
    simp only [chkS] at h
    split at h
    · exact ps_pass.imp fun D σ H ⟨G0, H0, G, oa, ρ, S, f, ρ', S', st, ev, k⟩ => by
        cases ev
        exact k σ H G oa (FSt.refl st.st.ok) st
    · cases h
  | .brk, st, h => by
    simp only [chkS] at h
    split at h
    · exact ps_break.imp fun D σ H ⟨G0, H0, G, oa, ρ, S, f, ρ', S', st, ev, k⟩ => by
        cases ev
        exact k σ H G oa (FSt.refl st.st.ok) st
    · cases h
  | .cnt, st, h => by
    simp only [chkS] at h
    split at h
    · exact ps_continue.imp fun D σ H ⟨G0, H0, G, oa, ρ, S, f, ρ', S', st, ev, k⟩ => by
        cases ev
        exact k σ H G oa (FSt.refl st.st.ok) st
    · cases h
theorem sndSs (ok : XSt X T Φ sc) : ∀ (s : Sts) {st : List Stmt}, chkSs (T.map Fd.name) X.N sc st s = true → PSs X st (tSs X.K pc Φ s)
  | .nil, st, h => by
    simp only [chkSs] at h
    cases st with
    | nil => exact ss_nil
    | cons _ _ => cases h
  | .cons s r, st, h => by
    rcases chkSs_cons h with ⟨i, rfl, h1⟩ | ⟨a, b, rfl, h1, h2⟩
    · exact ss_frz (sndSs ok r h1)
    · exact ss_cons (sndS ok s h1) (sndSs ok r h2)
end
end
end Pyl

/-! Pyl19: defs told; calls of them. -/
namespace Pyl
open PySem PySem.Spec PyProof.Rows L2

/-! ### a def's entry -/
theorem vw_slot {K : PySem.W.Frag} {pc : PC} {G H : Hp} {v : V} {w : Vw} (h : ArgOk K pc G v w) : SlOk K pc G H (some v) [] w.sl := by
  cases w with
  | d x => exact ⟨rfl, v, rfl, h⟩
  | src => obtain ⟨p, c, e1, rfl⟩ := h; exact ⟨rfl, p, c, e1, rfl⟩
  | _ => exact h.elim
theorem VwAll.get {K : PySem.W.Frag} {pc : PC} {G : Hp} : ∀ {vs : List V} {ws : List Vw} {i : Nat} {v : V} {w : Vw}, VwAll K pc G vs ws → vs[i]? = some v → ws[i]? = some w → ArgOk K pc G v w
  | _, _, 0, _, _, .cons a _, e1, e2 => by cases e1; cases e2; exact a
  | _, _, i + 1, _, _, .cons _ b, e1, e2 => VwAll.get (i := i) b e1 e2
  | _, _, _, _, _, .nil, e1, _ => by simp at e1
theorem slots_of {α β γ : Type} {as : List α} {bs : List β} {f : α → γ} {g : β → Option γ} {n : Nat} : True := trivial
theorem StOk.enter {K : PySem.W.Frag} {pc : PC} {G H : Hp} {S : Src} {N : List Str} {vs : List V} {args : List Vw} (sb : Sub G H) (sr : SrcOk pc H S) (np : ∀ a, isPc pc a → G a = none) (va : VwAll K pc G vs args) :
    StOk K pc G H G (fun _ => []) (startS N.length args) S (L2.start N vs) H := by
  have l := va.length
  refine ⟨?_, EStep.refl sb, sr, np, fun i s w e1 e2 => ?_, fun _ _ => rfl, fun _ => List.nodup_nil, fun i j a ha _ => (by cases ha), fun i a ha => (by cases ha)⟩
  · unfold startS L2.start
    rw [List.length_append, List.length_append, List.length_map, List.length_map, List.length_replicate, List.length_replicate, l]
  · unfold startS at e1
    unfold L2.start at e2
    by_cases hi : i < args.length
    · rw [List.getElem?_append_left (by rw [List.length_map]; exact hi), List.getElem?_map] at e1
      rw [List.getElem?_append_left (by rw [List.length_map, l]; exact hi), List.getElem?_map] at e2
      obtain ⟨x, h1, rfl⟩ := Option.map_eq_some_iff.mp e1
      obtain ⟨v, h2, rfl⟩ := Option.map_eq_some_iff.mp e2
      exact vw_slot (va.get h2 h1)
    · rw [List.getElem?_append_right (by rw [List.length_map]; omega), List.getElem?_replicate] at e1
      split at e1
      · cases e1; exact rfl
      · cases e1

/-- how a def lies in the module, all of it decided by looking -/
def chkF (nms : List Str) (sc : Scope) (ps : List Str) (body : List Stmt) (fd : Fd) : Bool :=
  sc.kind == .function && !sc.isCoroutine && !sc.isGenerator && decide fd.names.Nodup && fd.names.take ps.length == ps && ps.all (fun x => sc.names.lookup x == some .local || sc.names.lookup x == some .cell) && sc.names.all (fun y => y.2 != .free) &&
  ps.length == fd.np && chkSs nms fd.names sc body fd.body
theorem fnScope_of {nms : List Str} {sc : Scope} {ps : List Str} {body : List Stmt} {fd : Fd} (h : chkF nms sc ps body fd = true) : FnScope fd.names ps sc ∧ ps.length = fd.np ∧ chkSs nms fd.names sc body fd.body = true := by
  unfold chkF at h
  simp only [Bool.and_eq_true] at h
  obtain ⟨⟨⟨⟨⟨⟨⟨⟨h1, h2⟩, h3⟩, h4⟩, h5⟩, h6⟩, h7⟩, h8⟩, h9⟩ := h
  refine ⟨⟨by simpa using h1, by simpa using h2, by simpa using h3, of_decide_eq_true h4, by simpa using h5, fun x hx => ?_, fun y hy => ?_⟩, by simpa using h8, h9⟩
  · have := List.all_eq_true.mp h6 x hx
    simpa using this
  · have := List.all_eq_true.mp h7 y hy
    simpa using this
section
variable {P : Program} {w : World} {K : PySem.W.Frag} {mg : Str → Option Value} {base : Heap}
/-- a def's body told: the def keeps its promise -/
theorem fnG_of {k : Nat} {f : Addr} {x qual : Str} {params : Arguments} {body : List Stmt} {scope : Scope} {dvs : List V} {kws : List (Str × V)} {fdt : FuncData} {N ps : List Str} {sp : Sp} (F : FunD K x qual params body scope dvs kws f fdt) (S : FnScope N ps scope) (len : ∀ vs H Q E, sp vs H Q E → vs.length = ps.length)
    (hbody : ∀ (cdv : Value) (A : Around) (outer : List Env) (s : Shared) (H : Hp) (vs : List V) (Q : VK) (E : XK), A.guards = some [] → Room k (A.deeper (envOfC qual scope s.heap.objs.size f cdv)) → sp vs H Q E →
      ∃ t, PSs (cxOf CX0 P w K mg base N qual scope f cdv A outer s H E) body t ∧ t { nx := fun _ H' => Q .non H', rt := Q } (L2.start N vs) H) : FnG P w K mg base (k + 1) f fdt ps sp := by
  obtain ⟨oc, od, dV, kV, doc, pm, an, cdv, ct, osl, rfl, lk, hcd, _, _⟩ := F.ex
  refine ⟨len, fun A outer s H args us vs Q E gd hr e0 hb r hsp => ?_⟩
  have inK : K.In s.heap := e0.mod.kin.keeps fun b o e => (e0.bs b o e).1
  have noL : s.heap.NoLimit := e0.mod.nolimit.keeps fun b o e => (e0.bs b o e).1
  have pk : ∀ y ∈ ps.zip us, scope.names.lookup y.1 = some .local ∨ (scope.names.lookup y.1 = some .cell ∧ ((cellsFrom (s.heap.objs.size + 1) scope.names []).lookup y.1).isSome = true) := by
    rintro ⟨n, v⟩ hy
    cases S.par n (List.of_mem_zip hy).1 with
    | inl q => exact .inl q
    | inr q => exact .inr ⟨q, PySem.W.cellsFrom_some _ _ _ (.inl q)⟩
  refine codeAny_call_function hr.depth (inK _ _ lk) rfl S.co S.gen rfl (PySem.W.codeRec_of inK hcd) (hb _ _ _ _ (wpAny_newFunctionEnv_cells S.kind pk fun env he s1 x => ?_))
  subst he
  refine ⟨noL.keeps x.toInCall.keep, codeAny_func ?_⟩
  obtain ⟨t, ht, hq⟩ := hbody cdv A outer s H vs Q E gd (hr.deeper _) hsp
  have I := inv_start (CX := CX0) (P := P) (E := E) (cd := cdv) (qual := qual) (f := f) S hr.hd e0 (len _ _ _ _ hsp) r x
  refine wpAny_mono (ht.run [] s1 (L2.start N vs) H _ I hq) (fun fl s' hs => ?_) fun _ _ hs => hs
  cases fl with
  | ret u => obtain ⟨v, σ', H', J, rv, q⟩ := hs; exact ⟨v, H', J.os, J.bare, J.base, J.hok, rv, q⟩
  | next => obtain ⟨σ', H', J, q⟩ := hs; exact ⟨V.non, H', J.os, J.bare, J.base, J.hok, rfl, q⟩
  | brk => obtain ⟨_, _, _, q⟩ := hs; exact q.elim
  | cont => obtain ⟨_, _, _, q⟩ := hs; exact q.elim
/-- where each def of the table stands -/
structure Std (K : PySem.W.Frag) (mg : Str → Option Value) (T : List Fd) (f : Nat) (fd : Fd) (a : Addr) (fdt : FuncData) (ps : List Str) : Prop where
  gl : mg fd.name = some (.ref a)
  kp : PySem.W.keepIn K (.ref a) = true
  bd : Binds K fdt ps []
  ok : ∃ x qual params body scope dvs kws, FunD K x qual params body scope dvs kws a fdt ∧ chkF (T.map Fd.name) scope ps body fd = true
theorem callT_arity {T : List Fd} {d f : Nat} {fd : Fd} {args : List Vw} {S : Src} {r : PyData × Src} (hf : T[f]? = some fd) (h : callT T d f args S = some r) : args.length = fd.np := by
  cases d with
  | zero => cases h
  | succ d =>
    simp only [callT, hf, Option.bind_some] at h
    split at h
    · assumption
    · cases h
theorem xok_of {T : List Fd} {d : Nat} {N ps : List Str} {qual : Str} {scope : Scope} {f : Addr} {cdv : Value} {A : Around} {outer : List Env} {s : Shared} {H : Hp} {E : XK} (S : FnScope N ps scope) (gd : A.guards = some []) (hr : Room d (A.deeper (envOfC qual scope s.heap.objs.size f cdv))) (blt : ∀ x ∈ bltNames, mg x = none)
    (fns : ∀ f fd, T[f]? = some fd → ∃ (a : Addr) (fdt : FuncData) (ps : List Str) (k : Nat), mg fd.name = some (.ref a) ∧ PySem.W.keepIn K (.ref a) = true ∧ Binds K fdt ps [] ∧ k ≤ d ∧ FnG P w K mg base k a fdt ps (spF K (callT T d) f fd.np)) :
    XSt (cxOf CX0 P w K mg base N qual scope f cdv A outer s H E).nox T (callT T d) scope where
  calm := rfl
  nd := S.nd
  ag := Agree.refl scope
  fn := fun _ _ => rfl
  hu := by have := hr.un; show (A.deeper (envOfC qual scope s.heap.objs.size f cdv)).units + 200 < cLine; omega
  gd := gd
  blt := blt
  arity := fun f fd args S r hf h => callT_arity hf h
  fns := fun f fd h => by
    obtain ⟨a, fdt, ps, k, h1, h2, h3, h4, h5⟩ := fns f fd h
    exact ⟨a, fdt, ps, k, h1, h2, h3, hr.mono h4, h5⟩
  kind := S.kind
  xe := rfl
theorem fns_ok {T : List Fd} (blt : ∀ x ∈ bltNames, mg x = none) (std : ∀ f fd, T[f]? = some fd → ∃ a fdt ps, Std K mg T f fd a fdt ps) : ∀ (d : Nat) (f : Nat) (fd : Fd), T[f]? = some fd →
    ∃ (a : Addr) (fdt : FuncData) (ps : List Str) (k : Nat), mg fd.name = some (.ref a) ∧ PySem.W.keepIn K (.ref a) = true ∧ Binds K fdt ps [] ∧ k ≤ d ∧ FnG P w K mg base k a fdt ps (spF K (callT T d) f fd.np)
  | 0, f, fd, h => by
    obtain ⟨a, fdt, ps, st⟩ := std f fd h
    obtain ⟨x, qual, params, body, scope, dvs, kws, F, c⟩ := st.ok
    have hl := (fnScope_of c).2.1
    refine ⟨a, fdt, ps, 0, st.gl, st.kp, st.bd, Nat.le_refl _, ⟨fun vs H Q E q => by rw [hl]; exact q.1, fun A outer s H args us vs Q E gd hr e0 hb r hsp => ?_⟩⟩
    obtain ⟨_, _, _, _, _, _, _, _, _, _, _, z, _⟩ := hsp
    cases z
  | d + 1, f, fd, h => by
    obtain ⟨a, fdt, ps, st⟩ := std f fd h
    obtain ⟨x, qual, params, body, scope, dvs, kws, F, c⟩ := st.ok
    obtain ⟨S, hl, cs⟩ := fnScope_of c
    refine ⟨a, fdt, ps, d + 1, st.gl, st.kp, st.bd, Nat.le_refl _, fnG_of F S (fun vs H Q E q => by rw [hl]; exact q.1) fun cdv A outer s H vs Q E gd hr hsp => ?_⟩
    obtain ⟨lv, pc, G, args, S0, r, S', sb, sr, np, va, ev, k⟩ := hsp
    have xs := xok_of (P := P) (w := w) (base := base) (K := K) (mg := mg) (outer := outer) (H := H) (E := E) (cdv := cdv) (f := a) (qual := qual) (s := s) S gd hr blt (fns_ok blt std d)
    refine ⟨tSs K pc (callT T d) fd.body, (PSs.nox (sndSs (pc := pc) xs fd.body cs)), ?_⟩
    simp only [callT, h, Option.bind_some] at ev
    split at ev
    · generalize hx : exSs (callT T d) fd.body (startS fd.names.length args) S0 = rs at ev
      obtain ⟨⟨fl, ρ', S2⟩, rfl⟩ : ∃ q, rs = some q := by
        cases rs with
        | none => cases ev
        | some q => exact ⟨q, rfl⟩
      refine ⟨G, H, G, _, _, S0, fl, ρ', S2, StOk.enter sb sr np va, hx, ?_⟩
      cases fl with
      | rt v =>
        cases ev
        exact fun u G' H' _ st' sr' rl => k u G' H' st' sr' rl
      | nx =>
        cases ev
        exact fun σ' H' G' oa' _ st' => k .non G' H' st'.st st'.src .non
      | bk => cases ev
      | ct => cases ev
    · cases ev
end
end Pyl

/-! Pyl20: the maker of the source; the law's def; its call. -/
namespace Pyl
open PySem PySem.Spec PyProof.Rows L2

/-- the maker: statements, then {"cells": cells, "left": 1, "mixed": mixed, "turn": 0} -/
structure Mk where
  name : Str
  names : List Str
  pre : Sts
  cells : Ex
  mixed : Ex
def S00 : Src := ⟨[], 0, 0, 0⟩
def listD : PyData → Option (List PyData)
  | .list xs => some xs
  | _ => none
def intO : PyData → Option Int
  | .int i => some i
  | _ => none
def mkT (Φ : Sem1) (mk : Mk) (ns : List Int) : Option Src :=
  (exSs Φ mk.pre (Sl.scr ns :: List.replicate (mk.names.length - 1) .no) S00).bind fun r => match r.1 with
    | .nx => (evE Φ mk.cells (r.2.1.map Sl.vw) r.2.2).bind fun c => (listD c.1).bind fun xs => (ints? xs).bind fun cs =>
        (evE Φ mk.mixed (r.2.1.map Sl.vw) c.2).bind fun m => (intO m.1).map fun i => ⟨cs, 1, i, 0⟩
    | _ => none
/-- the law: the maker's source, then the rest -/
def lawT (T : List Fd) (d : Nat) (mk : Mk) (N : Nat) (i : Nat) (body : Sts) (ns : List Int) : Option PyData :=
  (mkT (callT T d) mk ns).bind fun S => match exSs (callT T d) body ((Sl.scr ns :: List.replicate (N - 1) .no).set i .src) S with
    | some (.rt v, _, _) => some v
    | _ => none

section
variable {X : Cx} {pc : PC} {Φ : Sem1} {T : List Fd} {sc : Scope} {K : PySem.W.Frag}
/-- statements, then something of another kind -/
def tK (K : PySem.W.Frag) (pc : PC) (Φ : Sem1) (ss : Sts) (k : TS) : TS := fun D σ H => ∃ (G0 H0 G : Hp) (oa : Nat → List Addr) (ρ : List Sl) (S : Src) (ρ' : List Sl) (S' : Src), StOk K pc G0 H0 G oa ρ S σ H ∧ exSs Φ ss ρ S = some (.nx, ρ', S') ∧
  ∀ σ' H' G' oa', FSt G H G' H' → StOk K pc G0 H0 G' oa' ρ' S' σ' H' → k D σ' H'
theorem ss_then {last : List Stmt} {k : TS} (ok : XSt X T Φ sc) (hk : PSs X last k) : ∀ (ss : Sts) {pre : List Stmt}, chkSs (T.map Fd.name) X.N sc pre ss = true → PSs X (pre ++ last) (tK X.K pc Φ ss k)
  | .nil, pre, h => by
    simp only [chkSs] at h
    cases pre with
    | nil =>
      refine hk.imp fun D σ H ⟨G0, H0, G, oa, ρ, S, ρ', S', st, ev, kk⟩ => ?_
      simp only [exSs] at ev
      cases ev
      exact kk σ H G oa (FSt.refl st.st.ok) st
    | cons _ _ => cases h
  | .cons s r, pre, h => by
    rcases chkSs_cons h with ⟨i, rfl, h1⟩ | ⟨a, b, rfl, h1, h2⟩
    · refine (ss_then ok hk r h1).imp fun D σ H ⟨G0, H0, G, oa, ρ, S, ρ', S', st, ev, kk⟩ => ?_
      simp only [exSs, exS] at ev
      obtain ⟨⟨f1, ρ1, S1⟩, e1, ev⟩ := ibind ev
      split at e1
      · rename_i s q
        cases e1
        cases hv : s.vw with
        | d x =>
          obtain ⟨G1, o1, f1, st1⟩ := st.freeze q hv
          refine ⟨G0, H0, G1, o1, _, S, ρ', S', st1, ?_, fun σ' H' G' oa' f st' => kk σ' H' G' oa' (f1.trans f) st'⟩
          simp only [hv] at ev
          exact ev
        | _ =>
          simp only [hv] at ev
          have : ρ.set i s = ρ := by
            have hi := (List.getElem?_eq_some_iff.mp q).1
            apply List.ext_getElem?
            intro j
            by_cases y : i = j
            · subst y; rw [List.getElem?_set_self hi, q]
            · rw [List.getElem?_set_ne y]
          rw [this] at ev
          exact ⟨G0, H0, G, oa, ρ, S, ρ', S', st, ev, kk⟩
      · cases e1
    · refine (pss_cons (sndS (pc := pc) ok s h1) (ss_then ok hk r h2)).imp fun D σ H ⟨G0, H0, G, oa, ρ, S, ρ', S', st, ev, kk⟩ => ?_
      simp only [exSs] at ev
      obtain ⟨⟨f1, ρ1, S1⟩, e1, ev⟩ := ibind ev
      refine ⟨G0, H0, G, oa, ρ, S, f1, ρ1, S1, st, e1, ?_⟩
      cases f1 with
      | nx => exact fun σ1 H1 G1 o1 f1 st1 => ⟨G0, H0, G1, o1, ρ1, S1, ρ', S', st1, ev, fun σ' H' G' oa' f st' => kk σ' H' G' oa' (f1.trans f) st'⟩
      | _ => cases ev

/-! ### the maker -/
def chkDsp (nms N : List Str) (sc : Scope) (cells mixed : Ex) : Stmt → Bool
  | .Return (some (.Dict [some (.Constant (.str a) _ _), some (.Constant (.str b) _ _), some (.Constant (.str c) _ _), some (.Constant (.str d) _ _)] [e1, .Constant (.int x) _ _, e2, .Constant (.int y) _ _] _)) _ =>
      a == ("cells" : Str) && b == ("left" : Str) && c == ("mixed" : Str) && d == ("turn" : Str) && x == 1 && y == 0 && chkE nms N sc e1 cells && chkE nms N sc e2 mixed
  | _ => false
def chkMk (nms : List Str) (sc : Scope) (ps : List Str) (body : List Stmt) (mk : Mk) : Bool :=
  sc.kind == .function && !sc.isCoroutine && !sc.isGenerator && decide mk.names.Nodup && mk.names.take ps.length == ps && ps.all (fun x => sc.names.lookup x == some .local || sc.names.lookup x == some .cell) && sc.names.all (fun y => y.2 != .free) &&
  ps.length == 1 && chkSs nms mk.names sc body.dropLast mk.pre && frs mk.cells && (match body.getLast? with
    | some st => chkDsp nms mk.names sc mk.cells mk.mixed st
    | _ => false)
def spMk (K : PySem.W.Frag) (Φ : Sem1) (mk : Mk) : Sp := fun vs H Q _ => vs.length = 1 ∧ ∃ (G : Hp) (a : Addr) (ns : List Int) (S' : Src), vs = [.ref a] ∧ Sub G H ∧ SqL K G a (ns.map V.int) ∧ ns.length ≤ sizeLine ∧ mkT Φ mk ns = some S' ∧
  ∀ p c G' H', EStep none G H G' H' → H p = none → H c = none → G' p = none → G' c = none → SrcOk (some (p, c)) H' S' → Q (.ref p) H'
/-- the display's reading -/
def tDsp (K : PySem.W.Frag) (Φ : Sem1) (cells mixed : Ex) : TE := fun σ H Q => ∃ (G0 H0 G : Hp) (oa : Nat → List Addr) (ρ : List Sl) (S : Src) (xs : List PyData) (cs : List Int) (S1 : Src) (i : Int) (S2 : Src), StOk K none G0 H0 G oa ρ S σ H ∧
  evE Φ cells (ρ.map Sl.vw) S = some (.list xs, S1) ∧ ints? xs = some cs ∧ evE Φ mixed (ρ.map Sl.vw) S1 = some (.int i, S2) ∧
  ∀ p c G' H', EStep none G H G' H' → H p = none → H c = none → G' p = none → G' c = none → SrcOk (some (p, c)) H' ⟨cs, 1, i, 0⟩ → Q (.ref p) H'
theorem s_disp {a b c d : Nat} {k0 k1 : Nat} {p1 p2 p3 p4 p5 p6 pos : Pos} {e1 e2 : Expr} {cells mixed : Ex} (ok : XSt X T Φ sc) (fr : frs cells = true) (h1 : chkE (T.map Fd.name) X.N sc e1 cells = true) (h2 : chkE (T.map Fd.name) X.N sc e2 mixed = true) :
    PE X (.Dict [some (.Constant (.str "cells") a p1), some (.Constant (.str "left") b p2), some (.Constant (.str "mixed") c p3), some (.Constant (.str "turn") d p4)] [e1, .Constant (.int 1) k0 p5, e2, .Constant (.int 0) k1 p6] pos) (tDsp X.K Φ cells mixed) := by
  have he1 := (sndE (pc := none) cells ok.toXOk h1).pf fr
  have he2 := (sndE (pc := none) mixed ok.toXOk h2).pe
  refine (pe_disp (pps_cons pe_str he1 (pps_cons pe_str pe_int (pps_cons pe_str he2 (pps_cons pe_str pe_int pps_nil)))) rfl rfl (by simp) (by show 4 ≤ 15; decide)).imp fun σ H Q ⟨G0, H0, G, oa, ρ, S, xs, cs, S1, i, S2, st, v1, v2, v3, k⟩ => ?_
  intro p hp
  have gp : G p = none := st.st.ok.none hp
  have hid := EStep.hid (pc := none) st.st.ok hp (.dK [])
  have st1 := st.step (S1 := S) hid trivial
  have op : G p = none ∧ H p = none ∧ ¬ isPc none p ∧ ∃ u, (L2.upd H p (.dK [])) p = some u ∧ isO u = true := ⟨gp, hp, fun z => z, _, upd_same, rfl⟩
  refine ⟨_, _, S, .list xs, S1, st1.nil.preB st1.len, v1, rfl, fun q u G1 H1 s1 _ n n' hu ro => ?_⟩
  have b1 := st1.back s1
  have st2 := st1.step (S1 := S1) b1 trivial
  obtain ⟨kp1, gp1⟩ := own_keep (H0 := H) b1 op
  have nq : q ≠ p := fun e => by rw [e, upd_same] at n; cases n
  have gq : gd oa G1 q = none := by
    by_cases z : ∃ i, q ∈ oa i
    · obtain ⟨i, z⟩ := z; exact gd_in z
    · rw [gd_out z]; exact n'
  have hu : H1 q = some (.lst (cs.map V.int)) := by
    cases ro with
    | lst l r => rw [hu, r.ints v2]
  refine ⟨_, _, S1, .int i, S2, st2.nil.preB st2.len, v3, fun v G2 H2 s2 _ rv => ?_⟩
  cases rv
  have b2 := st2.back s2
  have st3 := st2.step (S1 := S2) b2 trivial
  obtain ⟨kp2, gp2⟩ := own_keep (H0 := H) b2 ⟨gp1, hp, fun z => z, .dK [], kp1.trans upd_same, rfl⟩
  obtain ⟨kq2, gq2⟩ := own_keep (H0 := L2.upd H p (.dK [])) b2 ⟨gq, n, fun z => z, .lst (cs.map V.int), hu, rfl⟩
  refine ⟨kp2.trans (kp1.trans upd_same), [(.inr "cells", .ref q), (.inr "left", .int 1), (.inr "mixed", .int i), (.inr "turn", .int 0)], rfl, by show 4 ≤ 15; decide, ?_⟩
  have st' : EStep none G H (gd oa G2) H2 := (hid.trans b1).trans b2
  refine k p q _ _ (st'.put hp gp2 _) hp (by rw [upd_ne nq] at n; exact n) gp2 gq2 ⟨Ne.symm nq, upd_same, ?_⟩
  rw [upd_ne nq]
  exact kq2.trans hu
theorem s_dsp_ret {st : Stmt} {cells mixed : Ex} (ok : XSt X T Φ sc) (fr : frs cells = true) (h : chkDsp (T.map Fd.name) X.N sc cells mixed st = true) : PS X st (fun D σ H => tDsp X.K Φ cells mixed σ H D.rt) := by
  unfold chkDsp at h
  split at h
  · simp only [Bool.and_eq_true] at h
    obtain ⟨⟨⟨⟨⟨⟨⟨h1, h2⟩, h3⟩, h4⟩, h5⟩, h6⟩, h7⟩, h8⟩ := h
    have := eq_of_beq h1
    subst this
    have := eq_of_beq h2
    subst this
    have := eq_of_beq h3
    subst this
    have := eq_of_beq h4
    subst this
    have := eq_of_beq h5
    subst this
    have := eq_of_beq h6
    subst this
    exact ps_ret (s_disp ok fr h7 h8)
  · cases h
theorem scr_start {K : PySem.W.Frag} {G H : Hp} {S : Src} {N : List Str} {a : Addr} {ns : List Int} (hN : 1 ≤ N.length) (sb : Sub G H) (sr : SrcOk pc H S) (np : ∀ a, isPc pc a → G a = none) (sq : SqL K G a (ns.map V.int)) (l : ns.length ≤ sizeLine) :
    StOk K pc G H G (fun _ => []) (Sl.scr ns :: List.replicate (N.length - 1) .no) S (L2.start N [.ref a]) H := by
  refine ⟨?_, EStep.refl sb, sr, np, fun i s w e1 e2 => ?_, fun _ _ => rfl, fun _ => List.nodup_nil, fun i j a ha _ => (by cases ha), fun i a ha => (by cases ha)⟩
  · unfold L2.start
    simp only [List.length_cons, List.length_replicate, List.map_cons, List.map_nil, List.length_append, List.length_nil]
    omega
  · cases i with
    | zero =>
      cases e1
      cases e2
      exact ⟨rfl, a, rfl, sq, l⟩
    | succ i =>
      rw [List.getElem?_cons_succ, List.getElem?_replicate] at e1
      split at e1
      · cases e1; exact rfl
      · cases e1
section
variable {P : Program} {w : World} {mg : Str → Option Value} {base : Heap}
theorem mkG_of {d : Nat} {f : Addr} {x qual : Str} {params : Arguments} {body : List Stmt} {scope : Scope} {dvs : List V} {kws : List (Str × V)} {fdt : FuncData} {ps : List Str} {mk : Mk} (F : FunD K x qual params body scope dvs kws f fdt) (c : chkMk (T.map Fd.name) scope ps body mk = true) (blt : ∀ x ∈ bltNames, mg x = none)
    (std : ∀ f fd, T[f]? = some fd → ∃ a fdt ps, Std K mg T f fd a fdt ps) : FnG P w K mg base (d + 1) f fdt ps (spMk K (callT T d) mk) := by
  unfold chkMk at c
  simp only [Bool.and_eq_true] at c
  obtain ⟨⟨⟨⟨⟨⟨⟨⟨⟨⟨h1, h2⟩, h3⟩, h4⟩, h5⟩, h6⟩, h7⟩, h8⟩, h9⟩, h10⟩, h11⟩ := c
  have hl : ps.length = 1 := by simpa using h8
  have S : FnScope mk.names ps scope := ⟨by simpa using h1, by simpa using h2, by simpa using h3, of_decide_eq_true h4, by simpa using h5, fun x hx => by simpa using List.all_eq_true.mp h6 x hx, fun y hy => by simpa using List.all_eq_true.mp h7 y hy⟩
  refine fnG_of F S (fun vs H Q E q => by rw [hl]; exact q.1) fun cdv A outer s H vs Q E gd hr hsp => ?_
  obtain ⟨lv, G, a, ns, S', rfl, sb, sq, ln, ev, k⟩ := hsp
  have xs := xok_of (P := P) (w := w) (base := base) (K := K) (mg := mg) (outer := outer) (H := H) (E := E) (cdv := cdv) (f := f) (qual := qual) (s := s) S gd hr blt (fns_ok blt std d)
  split at h11
  · rename_i st hst
    have hb : body = body.dropLast ++ [st] := by
      have hne : body ≠ [] := fun e => by rw [e] at hst; cases hst
      rw [List.getLast?_eq_some_getLast hne] at hst
      cases hst
      exact (List.dropLast_concat_getLast hne).symm
    have hp := ss_then (pc := none) xs (pss_one (s_dsp_ret xs h10 h11)) mk.pre h9
    rw [← hb] at hp
    refine ⟨_, PSs.nox hp, ?_⟩
    unfold mkT at ev
    obtain ⟨⟨f1, ρ1, S1⟩, v1, ev⟩ := ibind ev
    have hN : 1 ≤ mk.names.length := by
      have := congrArg List.length S.pre
      rw [List.length_take, hl] at this
      omega
    cases f1 with
    | nx =>
      obtain ⟨⟨cd, S2⟩, v2, ev⟩ := ibind ev
      obtain ⟨xs', v3, ev⟩ := ibind ev
      obtain ⟨cs, v4, ev⟩ := ibind ev
      obtain ⟨⟨md, S3⟩, v5, ev⟩ := ibind ev
      obtain ⟨i, v6, v7⟩ := imap ev
      subst v7
      have e3 : cd = .list xs' := by cases cd <;> first | (cases v3; rfl) | cases v3
      have e6 : md = .int i := by cases md <;> first | (cases v6; rfl) | cases v6
      subst e3 e6
      refine ⟨G, H, G, _, _, S00, ρ1, S1, scr_start (pc := none) hN sb trivial (fun _ z => z.elim) sq ln, v1, fun σ' H' G' oa' f' st' => ?_⟩
      refine ⟨G, H, G', oa', ρ1, S1, xs', cs, S2, i, S3, st', v2, v4, v5, fun p c G2 H2 s2 np nc n1 n2 sr => ?_⟩
      have fresh : ∀ q, H' q = none → H q = none := fun q nq => by
        cases z : H q with
        | none => rfl
        | some u => exact absurd nq (st'.st.live q (by rw [z]; simp))
      exact k p c G2 H2 (st'.st.trans s2) (fresh p np) (fresh c nc) n1 n2 sr
    | _ => cases ev
  · cases h11
/-! ### the law's def -/
def chkLaw (nms : List Str) (sc : Scope) (ps : List Str) (body : List Stmt) (mk : Mk) (names : List Str) (i : Nat) (rest : Sts) : Bool :=
  sc.kind == .function && !sc.isCoroutine && !sc.isGenerator && decide names.Nodup && names.take ps.length == ps && ps.all (fun x => sc.names.lookup x == some .local || sc.names.lookup x == some .cell) && sc.names.all (fun y => y.2 != .free) &&
  ps.length == 1 && (match body with
    | .Assign [.Name x _] (.Call (.Name m _) [.Name y _] [] _) _ :: r => names[i]? == some x && locB sc x && m == mk.name && gloB sc m && nameOk m && slotB names sc y 0 && chkSs nms names sc r rest
    | _ => false)
def tMk (K : PySem.W.Frag) (Φ : Sem1) (mk : Mk) : TE := fun σ H Q => ∃ (G : Hp) (a : Addr) (ns : List Int) (S' : Src), σ[0]? = some (some (.ref a)) ∧ Sub G H ∧ SqL K G a (ns.map V.int) ∧ ns.length ≤ sizeLine ∧ mkT Φ mk ns = some S' ∧
  ∀ p c G' H', EStep none G H G' H' → H p = none → H c = none → G' p = none → G' c = none → SrcOk (some (p, c)) H' S' → Q (.ref p) H'
theorem s_mkcall {m y : Str} {pm py pos : Pos} {mk : Mk} {a : Addr} {fdt : FuncData} {ps : List Str} {k : Nat} (ok : XSt X T Φ sc) (hm : m = mk.name) (hg : gloB sc m = true) (hn : nameOk m = true) (hs : slotB X.N sc y 0 = true) (g1 : X.mg mk.name = some (.ref a)) (g2 : PySem.W.keepIn X.K (.ref a) = true) (g3 : Binds X.K fdt ps []) (g4 : Room k X.A)
    (F : FnG X.prog X.w X.K X.mg X.base k a fdt ps (spMk X.K Φ mk)) : PE X (.Call (.Name m pm) [.Name y py] [] pos) (tMk X.K Φ mk) := by
  subst hm
  constructor
  intro pins s σ H Q I ⟨G, b, ns, S', e1, sb, sq, ln, ev, kk⟩
  refine wpAny_Call_Name_kw (ld_glob I (ok.ag.glo hg) g1 (PySem.W.callWith_K (h₀ := X.base) I.ok.mod.kin g2 (thn ((pa_cons (var_of (px := py) ok hs) pa_nil).run pos pins s σ H
    (fun vs H1 => spMk X.K Φ mk vs H1 Q fun _ _ _ => False) I ⟨_, e1, ⟨rfl, G, b, ns, S', rfl, sb, sq, ln, ev, kk⟩⟩) fun us s1 ⟨vs, H1, I1, r1, q1⟩ => ⟨I1.kIn, ?_⟩) rfl rfl) (nm_of hn).1)
  have hl : (us ++ []).length = ps.length := by rw [List.append_nil, ← r1.length]; exact F.len _ _ _ _ q1
  have hb := g3 s1 us I1.kIn hl
  rw [List.append_nil] at hb
  refine wpAny_call (codeAny_mono (F.run X.A X.stack s1 H1 ⟨us, []⟩ us vs Q _ ok.gd g4 I1.env0 hb r1 q1) fun res s' hq => ?_)
  cases res with
  | error e => exact hq.elim
  | ok fl =>
    cases fl with
    | ret u => exact I1.after hq
    | _ => exact hq.elim
def spL (K : PySem.W.Frag) (n : Nat) : Sp := fun vs H Q _ => ∃ (a : Addr) (ns : List Int), vs = [.ref a] ∧ SqL K H a (ns.map V.int) ∧ ns.length ≤ n ∧ ∀ H', Q (.bl true) H'
theorem lawG_of {d : Nat} {f fm : Addr} {x qual xm qualm : Str} {params paramsm : Arguments} {body bodym : List Stmt} {scope scopem : Scope} {dvs dvsm : List V} {kws kwsm : List (Str × V)} {fdt fdtm : FuncData} {ps psm : List Str} {mk : Mk} {names : List Str} {i : Nat} {rest : Sts} {n : Nat}
    (F : FunD K x qual params body scope dvs kws f fdt) (c : chkLaw (T.map Fd.name) scope ps body mk names i rest = true) (Fm : FunD K xm qualm paramsm bodym scopem dvsm kwsm fm fdtm) (cm : chkMk (T.map Fd.name) scopem psm bodym mk = true) (gm : mg mk.name = some (.ref fm)) (bm : Binds K fdtm psm [])
    (blt : ∀ x ∈ bltNames, mg x = none) (std : ∀ f fd, T[f]? = some fd → ∃ a fdt ps, Std K mg T f fd a fdt ps) (hn : n ≤ sizeLine) (law : ∀ ns : List Int, ns.length ≤ n → lawT T d mk names.length i rest ns = some (.bool true)) : FnG P w K mg base (d + 2) f fdt ps (spL K n) := by
  unfold chkLaw at c
  simp only [Bool.and_eq_true] at c
  obtain ⟨⟨⟨⟨⟨⟨⟨⟨h1, h2⟩, h3⟩, h4⟩, h5⟩, h6⟩, h7⟩, h8⟩, h9⟩ := c
  have hl : ps.length = 1 := by simpa using h8
  have S : FnScope names ps scope := ⟨by simpa using h1, by simpa using h2, by simpa using h3, of_decide_eq_true h4, by simpa using h5, fun x hx => by simpa using List.all_eq_true.mp h6 x hx, fun y hy => by simpa using List.all_eq_true.mp h7 y hy⟩
  have hN : 1 ≤ names.length := by
    have := congrArg List.length S.pre
    rw [List.length_take, hl] at this
    omega
  refine fnG_of F S (fun vs H Q E q => by obtain ⟨a, ns, rfl, _⟩ := q; rw [hl]; rfl) fun cdv A outer s H vs Q E gd hr hsp => ?_
  obtain ⟨a, ns, rfl, sq, ln, kQ⟩ := hsp
  have xs := xok_of (P := P) (w := w) (base := base) (K := K) (mg := mg) (outer := outer) (H := H) (E := E) (cdv := cdv) (f := f) (qual := qual) (s := s) S gd (hr.mono (Nat.le_succ d)) blt (fns_ok blt std d)
  have ev := law ns ln
  unfold lawT at ev
  obtain ⟨S1, v1, ev⟩ := ibind ev
  have GM : FnG P w K mg base (d + 1) fm fdtm psm (spMk K (callT T d) mk) := mkG_of Fm cm blt std
  split at h9
  · rename_i x0 p1 m0 p2 y0 p3 p4 p5 r0
    simp only [Bool.and_eq_true] at h9
    obtain ⟨⟨⟨⟨⟨⟨q1, q2⟩, q3⟩, q4⟩, q5⟩, q6⟩, q7⟩ := h9
    obtain ⟨hloc, hf⟩ := loc_of xs.toXOk q2
    have e0 : names[i]? = some x0 := by simpa using q1
    have first := ps_set (pos := p5) (pos' := p1) (i := i) (e := .Call (.Name m0 p2) [.Name y0 p3] [] p4) xs.nd e0 hloc (s_mkcall xs (eq_of_beq q3) q4 q5 q6 gm Fm.kp bm hr GM) rfl hf
    have rst : PSs (cxOf CX0 P w K mg base names qual scope f cdv A outer s H E).nox r0 (fun D σ H => ∃ pc, tSs K pc (callT T d) rest D σ H) := ⟨fun pins s σ H D I ⟨pc, h⟩ => (sndSs (pc := pc) xs rest q7).run pins s σ H D I h⟩
    refine ⟨_, PSs.nox (pss_cons first rst), ?_⟩
    refine ⟨H, a, ns, S1, rfl, fun a u z => .inl z, sq, Nat.le_trans ln hn, v1, fun p c G' H' st np nc n1 n2 sr => ?_⟩
    refine ⟨some (p, c), ?_⟩
    split at ev
    · rename_i v ρ2 S2 hx
      cases ev
      have npc : ∀ b, isPc (some (p, c)) b → G' b = none := fun b z => by
        rcases z with z | z
        · rw [z]; exact n1
        · rw [z]; exact n2
      have st0 := scr_start (pc := some (p, c)) (N := names) hN st.ok sr npc (st.le.sqL sq) (Nat.le_trans ln hn)
      obtain ⟨o1, st1⟩ := (st0.more (s := .src) (w := some (.ref p)) (as := []) ⟨rfl, p, c, rfl, rfl⟩ List.nodup_nil (fun a ha => by cases ha) fun i a _ => by simp).popAll (i := i)
      exact ⟨G', H', G', o1, _, S1, .rt (.bool true), ρ2, S2, st1, hx, fun u G2 H2 _ _ _ rl => by cases rl; exact kQ H2⟩
    · cases ev
  · cases h9
end
end
end Pyl

/-! Pyl21: from the law's def to the law's row. -/
namespace Pyl
open PySem PySem.Spec PyProof.Rows L2

/-- the script alone is told, and only where it is none of the module's own -/
noncomputable def scrH (K : PySem.W.Frag) (a : Addr) (vs : List Value) (ns : List Int) : Hp := fun b =>
  if K.lookup a = none ∧ b = a then some (.frz { cls := .type "list", data := .seq vs.toArray } (.lst (ns.map V.int))) else none
section
variable {K : PySem.W.Frag} {a : Addr} {vs : List Value} {ns : List Int}
theorem scrH_some {b : Addr} {u : HO} (h : scrH K a vs ns b = some u) : K.lookup a = none ∧ b = a ∧ u = .frz { cls := .type "list", data := .seq vs.toArray } (.lst (ns.map V.int)) := by
  unfold scrH at h
  split at h
  · rename_i c
    cases h
    exact ⟨c.1, c.2, rfl⟩
  · cases h
theorem scrH_none {b : Addr} (h : b = a → K.lookup a ≠ none) : scrH K a vs ns b = none := by
  unfold scrH
  rw [if_neg fun c => h c.2 c.1]
theorem scrH_sq {h : Heap} (KX : K.In h) (ha : h.get? a = some { cls := .type "list", data := .seq vs.toArray }) (hi : IntsAre vs ns) (hl : ns.length ≤ sizeLine) : SqL K (scrH K a vs ns) a (ns.map V.int) := by
  cases q : K.lookup a with
  | none => exact .inl (.inr ⟨_, by unfold scrH; rw [if_pos ⟨q, rfl⟩]⟩)
  | some o =>
    have e := KX a o q
    rw [ha] at e
    cases e
    exact .inr ⟨_, vs.toArray, _, q, rfl, rfl, rfl, by rw [List.size_toArray, hi.length]; exact hl, by simpa using vals_ints hi⟩
end
/-- the call of the law's def, the heap behind the top -/
theorem callG {P : Program} {w : World} {K : PySem.W.Frag} {mg mb : Str → Option Value} {k n : Nat} {fa a : Addr} {fd : FuncData} {x : Str} {s : Shared} {vs : List Value} {ns : List Int}
    (KX : K.In s.heap) (hns : s.heap.Ns mainGlobals mg) (hb : s.heap.Ns builtinsNs mb) (hbb : ∀ x : Str, x ≠ "__name__" → mb x = bootBuiltins x) (hlim : s.heap.NoLimit) (hg : s.gens = #[])
    (ha : s.heap.get? a = some { cls := .type "list", data := .seq vs.toArray }) (hi : IntsAre vs ns) (hl : ns.length ≤ n) (hn : n ≤ sizeLine) (hr : Room k callerA)
    (F : ∀ base : Heap, K.In base → base.Ns mainGlobals mg → FnG P w K mg base k fa fd [x] (spL K n)) (hbind : ∀ (s : Shared) (u : Value), BindsTo s fd ⟨[u], []⟩ [(x, u)]) :
    codeAny (model P w) callerA (.call (.ref fa) ⟨[.ref a], []⟩) (fun r s' => r = .ok (.ret (.bool true)) ∧ OldK s.heap s'.heap ∧ s'.os = s.os ∧ AllBare s'.gens) s := by
  have see : ∀ {b : Addr} {o : Obj}, s.heap.get? b = some o → (b = a → K.lookup a ≠ none) → (hidT s.heap (scrH K a vs ns)).get? b = some o := fun e q => hidT_get e (scrH_none q)
  -- the namespaces are dicts, the script is none
  have ns' : ∀ {b : Addr} {m : Str → Option Value}, s.heap.Ns b m → (hidT s.heap (scrH K a vs ns)).Ns b m := fun {b m} ⟨o, es, ep, e, d, r⟩ =>
    ⟨o, es, ep, see e (fun z => by rw [z, ha] at e; cases e; cases (show Data.seq vs.toArray _ = Data.dict es ep from d)), d, r⟩
  have kb : K.In (hidT s.heap (scrH K a vs ns)) := fun b o e => see (KX b o e) fun z q => by rw [z, q] at e; cases e
  have ok : HOk P w (scrH K a vs ns) s.heap := fun b u e => by
    obtain ⟨_, rfl, rfl⟩ := scrH_some e
    exact ⟨ha, by rw [List.length_map]; exact Nat.le_trans hl hn, vs, _, vals_ints hi, ha⟩
  have e0 : Env0 P w K mg (hidT s.heap (scrH K a vs ns)) callerA [] s (scrH K a vs ns) :=
    ⟨rfl, ⟨kb, ns' hns, ⟨mb, ns' hb, hbb⟩, by obtain ⟨mc, h1, h2⟩ := hlim; exact ⟨mc, ns' h1, h2⟩⟩, fun b o e => of_hidT e, Nat.le_of_eq (hidT_size _ _), trivial, fun b z => (by cases z), ok, .of_eq hg⟩
  refine codeAny_mono ((F _ kb (ns' hns)).run callerA [] s (scrH K a vs ns) ⟨[.ref a], []⟩ [.ref a] [.ref a] (fun v _ => v = .bl true) (fun _ _ _ => False) rfl hr e0 (hbind s (.ref a)) (.cons rfl .nil) ⟨a, ns, rfl, scrH_sq KX ha hi (Nat.le_trans hl hn), hl, fun _ => rfl⟩) fun r s' h => ?_
  cases r with
  | error e => exact h.elim
  | ok fl =>
    cases fl with
    | ret u =>
      obtain ⟨v, H', os, bare, un, ok', r', rfl⟩ := h
      cases (show u = Value.bool true from r')
      refine ⟨rfl, OldK.of_keep fun b o e => ?_, os, bare⟩
      cases q : scrH K a vs ns b with
      | none => exact un.keep b o e q (fun z => (by cases z)) (by simp)
      | some u =>
        obtain ⟨_, rfl, rfl⟩ := scrH_some q
        obtain ⟨e1, _⟩ := ok' _ _ (un.frzs _ _ _ q)
        rw [ha] at e
        cases e
        exact e1
    | _ => exact False.elim h
/-- a law's row from the promise of its def -/
theorem walkG {l : PySem.W.OpenLaw} {n k : Nat} {q : Program} {loose : List Str} {XP : (Str → Option Value) → Heap → Prop} {YP : World → Heap → Prop} {d : DefRec} {x : Str}
    (hn : l.most = some n) (hn2 : n ≤ sizeLine) (hdf : d.params.defaults = []) (hr : Room k callerA)
    (F : ∀ (w : World) (mg : Str → Option Value) (fa : Addr) (h : Heap), YP w h → h.Ns mainGlobals mg → mg d.name = some (.ref fa) →
      ∃ (K : PySem.W.Frag) (fd : FuncData), K.In h ∧ (∀ (s : Shared) (u : Value), BindsTo s fd ⟨[u], []⟩ [(x, u)]) ∧
        ∀ base : Heap, K.In base → base.Ns mainGlobals mg → FnG l.prog w K mg base k fa fd [x] (spL K n)) :
    PySem.W.WalkO q loose XP YP l.row.toRowW d [] (fun f vs => PySem.call f vs) := by
  refine Att.attach_call hn hdf fun w s₀ s₁ mg mb fa o pm cd doc a vs ns G Y ho hd hcd hmg hobj hints hlen hg => ?_
  obtain ⟨K, fd, KX, hb, hF⟩ := F w mg fa _ Y G.T.g hmg
  exact callG KX G.T.g G.T.b G.T.builtins G.T.nolimit hg hobj hints hlen hn2 hr hF hb

/-! ### a law's defs, told -/
structure Row where
  fd : Fd
  st : Stmt
  ps : List Str
def dOf (nm : Str) (st : Stmt) : He.DefD := ⟨(nm, none), nm, nm, defArgs st, defBody st, defScope st, [], []⟩
def BindOk (nm : Str) (st : Stmt) (ps : List Str) : Prop := ∀ (kV doc pm : Value) (an : Option Addr) (cdv ct : Value) (us : List Value), us.length = ps.length →
  bindArgs (PySem.W.fnOf nm nm (defArgs st) (defBody st) (defScope st) .none kV doc pm an cdv ct) ⟨us, []⟩ = pure (ps.zip us)
/-- all that a law is told by -/
structure Told where
  rows : List Row
  mkr : Mk
  mst : Stmt
  mps : List Str
  lst : Stmt
  x : Str
  names : List Str
  i : Nat
  rest : Sts
def Told.T (t : Told) : List Fd := t.rows.map (·.fd)
def Told.fn (t : Told) : List He.DefD := dOf "law" t.lst :: dOf t.mkr.name t.mst :: t.rows.map fun r => dOf r.fd.name r.st
def Told.fa (t : Told) : List He.Fa := .glo "law" :: .glo t.mkr.name :: (t.rows.map fun r => .glo r.fd.name) ++ bltNames.map .free
def Told.nms (t : Told) : List Str := t.T.map Fd.name
def Told.ok (t : Told) : Bool := t.rows.all (fun r => chkF t.nms (defScope r.st) r.ps (defBody r.st) r.fd) && chkMk t.nms (defScope t.mst) t.mps (defBody t.mst) t.mkr && chkLaw t.nms (defScope t.lst) [t.x] (defBody t.lst) t.mkr t.names t.i t.rest
structure Told.Bd (t : Told) : Prop where
  rows : ∀ r ∈ t.rows, BindOk r.fd.name r.st r.ps
  bmk : BindOk t.mkr.name t.mst t.mps
  law : BindOk "law" t.lst [t.x]
theorem toldG {t : Told} {d n : Nat} (hok : t.ok = true) (hb : t.Bd) (hn : n ≤ sizeLine) (law : ∀ ns : List Int, ns.length ≤ n → lawT t.T d t.mkr t.names.length t.i t.rest ns = some (.bool true))
    {K : PySem.W.Frag} {h : Heap} {mg : Str → Option Value} {f : Addr} (X : K.In h) (G : h.Ns mainGlobals mg) (hfa : mg ("law" : Str) = some (.ref f)) (c : He.SaysD t.fa t.fn K) :
    ∃ fd : FuncData, (∀ (s : Shared) (u : Value), BindsTo s fd ⟨[u], []⟩ [(t.x, u)]) ∧ ∀ (P : Program) (w : World) (base : Heap), FnG P w K mg base (d + 2) f fd [t.x] (spL K n) := by
  unfold Told.ok at hok
  simp only [Bool.and_eq_true] at hok
  obtain ⟨⟨o1, o2⟩, o3⟩ := hok
  obtain ⟨fdl, FL⟩ := c.def_ 0 rfl
  obtain ⟨fdm, FM⟩ := c.def_ 1 rfl
  have gl := He.glo_ok X G (c.fact 0 (f := .glo "law") rfl)
  have gm := He.glo_ok X G (c.fact 1 (f := .glo t.mkr.name) rfl)
  have e := hfa.symm.trans gl
  cases e
  have blt : ∀ x ∈ bltNames, mg x = none := fun x hx => by
    obtain ⟨i, hi⟩ := List.getElem?_of_mem (show He.Fa.free x ∈ t.fa from List.mem_append_right _ (List.mem_map.mpr ⟨x, hx, rfl⟩))
    exact He.free_ok X G (c.fact i hi)
  have std : ∀ f fd, t.T[f]? = some fd → ∃ a fdt ps, Std K mg t.T f fd a fdt ps := fun f fd hf => by
    unfold Told.T at hf
    rw [List.getElem?_map] at hf
    obtain ⟨r, hr, rfl⟩ := Option.map_eq_some_iff.mp hf
    have hm := List.mem_of_getElem? hr
    obtain ⟨fdt, F⟩ := c.def_ (f + 2) (d := dOf r.fd.name r.st) (by
      show (dOf "law" t.lst :: dOf t.mkr.name t.mst :: t.rows.map fun r => dOf r.fd.name r.st)[f + 2]? = _
      rw [List.getElem?_cons_succ, List.getElem?_cons_succ, List.getElem?_map, hr]; rfl)
    obtain ⟨i, hi⟩ := List.getElem?_of_mem (show He.Fa.glo r.fd.name ∈ t.fa from List.mem_append_left _ (List.mem_cons_of_mem _ (List.mem_cons_of_mem _ (List.mem_map.mpr ⟨r, hm, rfl⟩))))
    exact ⟨_, fdt, r.ps, He.glo_ok X G (c.fact i hi), F.kp, F.bindsN (hb.rows r hm), _, _, _, _, _, _, _, F, List.all_eq_true.mp o1 r hm⟩
  refine ⟨fdl, fun s u => ?_, fun P w base => lawG_of FL o3 FM o2 gm (FM.bindsN hb.bmk) blt std hn law⟩
  exact FunD.bindsA (ps := [t.x]) FL hb.law s [u] rfl
end Pyl

/-! Pyl22: plain laws: what must come of it. -/
namespace Pyl
open PySem

/-- it ends, and so -/
def Er {α : Type} (x : Option (α × Src)) (P : α → Src → Prop) : Prop := ∃ a S, x = some (a, S) ∧ P a S
def Eo {α : Type} (x : Option α) (P : α → Prop) : Prop := ∃ a, x = some a ∧ P a
def Rs (x : RS) (P : Fl → List Sl → Src → Prop) : Prop := ∃ f ρ S, x = some (f, ρ, S) ∧ P f ρ S
theorem er_some {α : Type} {a : α} {S : Src} {P : α → Src → Prop} : Er (some (a, S)) P ↔ P a S := ⟨fun ⟨_, _, e, p⟩ => by cases e; exact p, fun p => ⟨a, S, rfl, p⟩⟩
theorem eo_some {α : Type} {a : α} {P : α → Prop} : Eo (some a) P ↔ P a := ⟨fun ⟨_, e, p⟩ => by cases e; exact p, fun p => ⟨a, rfl, p⟩⟩
theorem eo_map {α β : Type} {x : Option α} {f : α → β} {P : β → Prop} : Eo (x.map f) P ↔ Eo x fun a => P (f a) := ⟨fun ⟨b, e, p⟩ => by
  obtain ⟨a, e1, rfl⟩ := Option.map_eq_some_iff.mp e
  exact ⟨a, e1, p⟩, fun ⟨a, e, p⟩ => ⟨f a, by rw [e]; rfl, p⟩⟩
theorem eo_bind {α β : Type} {x : Option α} {f : α → Option β} {P : β → Prop} : Eo (x.bind f) P ↔ Eo x fun a => Eo (f a) P := ⟨fun ⟨b, e, p⟩ => by
  obtain ⟨a, e1, e2⟩ := Option.bind_eq_some_iff.mp e
  exact ⟨a, e1, b, e2, p⟩, fun ⟨a, e, b, e2, p⟩ => ⟨b, by rw [e]; exact e2, p⟩⟩
theorem er_bind {α β : Type} {x : Option (α × Src)} {f : α × Src → Option (β × Src)} {P : β → Src → Prop} : Er (x.bind f) P ↔ Er x fun a S => Er (f (a, S)) P := ⟨fun ⟨b, S, e, p⟩ => by
  obtain ⟨⟨a, S1⟩, e1, e2⟩ := Option.bind_eq_some_iff.mp e
  exact ⟨a, S1, e1, b, S, e2, p⟩, fun ⟨a, S, e, b, S2, e2, p⟩ => ⟨b, S2, by rw [e]; exact e2, p⟩⟩
theorem er_obind {α β : Type} {x : Option α} {f : α → Option (β × Src)} {P : β → Src → Prop} : Er (x.bind f) P ↔ Eo x fun a => Er (f a) P := ⟨fun ⟨b, S, e, p⟩ => by
  obtain ⟨a, e1, e2⟩ := Option.bind_eq_some_iff.mp e
  exact ⟨a, e1, b, S, e2, p⟩, fun ⟨a, e, b, S2, e2, p⟩ => ⟨b, S2, by rw [e]; exact e2, p⟩⟩
theorem er_map {α β : Type} {x : Option (α × Src)} {f : α × Src → β × Src} {P : β → Src → Prop} : Er (x.map f) P ↔ Er x fun a S => P (f (a, S)).1 (f (a, S)).2 := ⟨fun ⟨b, S, e, p⟩ => by
  obtain ⟨⟨a, S1⟩, e1, e2⟩ := Option.map_eq_some_iff.mp e
  exact ⟨a, S1, e1, by show P (f (a, S1)).1 (f (a, S1)).2; rw [e2]; exact p⟩, fun ⟨a, S, e, p⟩ => ⟨_, _, by rw [e]; rfl, p⟩⟩
theorem er_omap {α β : Type} {x : Option α} {f : α → β × Src} {P : β → Src → Prop} : Er (x.map f) P ↔ Eo x fun a => P (f a).1 (f a).2 := ⟨fun ⟨b, S, e, p⟩ => by
  obtain ⟨a, e1, e2⟩ := Option.map_eq_some_iff.mp e
  exact ⟨a, e1, by show P (f a).1 (f a).2; rw [e2]; exact p⟩, fun ⟨a, e, p⟩ => ⟨_, _, by rw [e]; rfl, p⟩⟩
theorem er_if {α : Type} {c : Prop} [Decidable c] {x y : Option (α × Src)} {P : α → Src → Prop} : Er (if c then x else y) P ↔ if c then Er x P else Er y P := by split <;> exact Iff.rfl
theorem eo_if {α : Type} {c : Prop} [Decidable c] {x y : Option α} {P : α → Prop} : Eo (if c then x else y) P ↔ if c then Eo x P else Eo y P := by split <;> exact Iff.rfl
theorem er_none {α : Type} {P : α → Src → Prop} : Er (none : Option (α × Src)) P ↔ False := ⟨fun ⟨_, _, e, _⟩ => (by cases e), fun h => False.elim h⟩
theorem eo_none {α : Type} {P : α → Prop} : Eo (none : Option α) P ↔ False := ⟨fun ⟨_, e, _⟩ => (by cases e), fun h => False.elim h⟩
theorem eo_pair {α : Type} {x : Option (α × Src)} {P : α × Src → Prop} : Eo x P ↔ Er x fun a S => P (a, S) := ⟨fun ⟨⟨a, S⟩, e, p⟩ => ⟨a, S, e, p⟩, fun ⟨a, S, e, p⟩ => ⟨(a, S), e, p⟩⟩
theorem Er.imp {α : Type} {x : Option (α × Src)} {P Q : α → Src → Prop} (h : Er x P) (i : ∀ a S, P a S → Q a S) : Er x Q := let ⟨a, S, e, p⟩ := h; ⟨a, S, e, i a S p⟩
theorem Rs.imp {x : RS} {P Q : Fl → List Sl → Src → Prop} (h : Rs x P) (i : ∀ a ρ S, P a ρ S → Q a ρ S) : Rs x Q := let ⟨a, ρ, S, e, p⟩ := h; ⟨a, ρ, S, e, i a ρ S p⟩
theorem Er.of {α : Type} {x : Option (α × Src)} {a : α} {S : Src} {P : α → Src → Prop} (h : x = some (a, S)) (p : P a S) : Er x P := ⟨a, S, h, p⟩

section
variable {Φ : Nat → List Vw → Src → R PyData}
/-! ### expressions -/
section
variable {ρ : List Vw} {S : Src} {P : PyData → Src → Prop}
theorem w_vr {i : Nat} : Er (evE Φ (.vr i) ρ S) P ↔ Eo (vwD ρ[i]?) fun x => P x S := by simp only [evE, er_omap, eo_pair]
theorem w_cn {x : PyData} : Er (evE Φ (.cn x) ρ S) P ↔ P x S := by simp only [evE, er_some]
theorem w_bin {o : Bop} {a b : Ex} : Er (evE Φ (.bin o a b) ρ S) P ↔ Er (evE Φ a ρ S) fun x S1 => Er (evE Φ b ρ S1) fun y S2 => Eo (binD o x y) fun r => P r S2 := by simp only [evE, er_bind, er_omap, eo_pair]
def negO : PyData → Option PyData
  | .int i => some (.int (-i))
  | _ => none
theorem w_neg {a : Ex} : Er (evE Φ (.neg a) ρ S) P ↔ Er (evE Φ a ρ S) fun x S1 => Eo (negO x) fun r => P r S1 := by
  simp only [evE, er_bind]
  constructor
  · rintro ⟨x, S1, e, h⟩
    refine ⟨x, S1, e, ?_⟩
    cases x <;> first | exact (er_none.mp h).elim | exact ⟨_, rfl, er_some.mp h⟩
  · rintro ⟨x, S1, e, r, e2, h⟩
    refine ⟨x, S1, e, ?_⟩
    cases x <;> first | (cases e2; exact er_some.mpr h) | cases e2
theorem w_nt {a : Ex} : Er (evE Φ (.nt a) ρ S) P ↔ Er (evE Φ a ρ S) fun x S1 => Eo (truth x) fun t => P (.bool (!t)) S1 := by simp only [evE, er_bind, er_omap, eo_pair]
theorem w_cmp {o : Cop} {a b : Ex} : Er (evE Φ (.cmp o a b) ρ S) P ↔ Er (evE Φ a ρ S) fun x S1 => Er (evE Φ b ρ S1) fun y S2 => Eo (cmpD o x y) fun r => P (.bool r) S2 := by simp only [evE, er_bind, er_omap, eo_pair]
theorem w_cmp2 {o o' : Cop} {a b c : Ex} : Er (evE Φ (.cmp2 o o' a b c) ρ S) P ↔ Er (evE Φ a ρ S) fun x S1 => Er (evE Φ b ρ S1) fun y S2 => Eo (cmpD o x y) fun r => if r = true then Er (evE Φ c ρ S2) fun z S3 => Eo (cmpD o' y z) fun r' => P (.bool r') S3 else P (.bool false) S2 := by
  simp only [evE, er_bind, er_obind, er_if, er_omap, er_some, eo_pair]
theorem w_an {a b : Ex} : Er (evE Φ (.an a b) ρ S) P ↔ Er (evE Φ a ρ S) fun x S1 => Eo (truth x) fun t => if t = true then Er (evE Φ b ρ S1) P else P x S1 := by simp only [evE, er_bind, er_obind, er_if, er_some, eo_pair]
theorem w_or {a b : Ex} : Er (evE Φ (.or a b) ρ S) P ↔ Er (evE Φ a ρ S) fun x S1 => Eo (truth x) fun t => if t = true then P x S1 else Er (evE Φ b ρ S1) P := by simp only [evE, er_bind, er_obind, er_if, er_some, eo_pair]
theorem w_one {a : Ex} : Er (evE Φ (.one a) ρ S) P ↔ Er (evE Φ a ρ S) P := by simp only [evE]
theorem w_ite {c a b : Ex} : Er (evE Φ (.ite c a b) ρ S) P ↔ Er (evE Φ c ρ S) fun x S1 => Eo (truth x) fun t => if t = true then Er (evE Φ a ρ S1) P else Er (evE Φ b ρ S1) P := by simp only [evE, er_bind, er_obind, er_if, eo_pair]
theorem w_tup {es : Exs} : Er (evE Φ (.tup es) ρ S) P ↔ Er (evEs Φ es ρ S) fun xs S1 => okLen xs.length = true ∧ P (.tuple xs) S1 := by
  simp only [evE, er_bind, er_if, er_some, er_none]
  constructor <;> rintro ⟨x, S1, e, h⟩ <;> refine ⟨x, S1, e, ?_⟩ <;> simpa using h
theorem w_lst {es : Exs} : Er (evE Φ (.lst es) ρ S) P ↔ Er (evEs Φ es ρ S) fun xs S1 => okLen xs.length = true ∧ P (.list xs) S1 := by
  simp only [evE, er_bind, er_if, er_some, er_none]
  constructor <;> rintro ⟨x, S1, e, h⟩ <;> refine ⟨x, S1, e, ?_⟩ <;> simpa using h
theorem w_call {f : Nat} {es : Exs} : Er (evE Φ (.call f es) ρ S) P ↔ Er (evAs Φ es ρ S) fun xs S1 => Er (Φ f xs S1) P := by simp only [evE, er_bind]
theorem w_bi {b : Bi} {es : Exs} : Er (evE Φ (.bi b es) ρ S) P ↔ Er (evEs Φ es ρ S) fun xs S1 => Eo (biD b xs) fun r => P r S1 := by simp only [evE, er_bind, er_omap, eo_pair]
theorem w_ix {a i : Ex} : Er (evE Φ (.ix a i) ρ S) P ↔ Er (evE Φ a ρ S) fun x S1 => Er (evE Φ i ρ S1) fun y S2 => Eo (ixD x y) fun r => P r S2 := by simp only [evE, er_bind, er_omap, eo_pair]
theorem w_sl {a : Ex} {lo hi : Exs} : Er (evE Φ (.sl a lo hi) ρ S) P ↔ Er (evE Φ a ρ S) fun x S1 => Er (evEs Φ lo ρ S1) fun l S2 => Er (evEs Φ hi ρ S2) fun h S3 => Eo (oneInt (some l)) fun l => Eo (oneInt (some h)) fun h => Eo (slD x l h) fun r => P r S3 := by
  simp only [evE, er_bind, er_obind, er_omap, eo_pair]
def revO : PyData → Option PyData
  | .list xs => some (.list xs.reverse)
  | _ => none
theorem w_rv {a : Ex} : Er (evE Φ (.rv a) ρ S) P ↔ Er (evE Φ a ρ S) fun x S1 => Eo (revO x) fun r => P r S1 := by
  simp only [evE, er_bind]
  constructor
  · rintro ⟨x, S1, e, h⟩
    refine ⟨x, S1, e, ?_⟩
    cases x <;> first | exact (er_none.mp h).elim | exact ⟨_, rfl, er_some.mp h⟩
  · rintro ⟨x, S1, e, r, e2, h⟩
    refine ⟨x, S1, e, ?_⟩
    cases x <;> first | (cases e2; exact er_some.mpr h) | cases e2
theorem w_dsp {vs : Exs} : Er (evE Φ (.dsp .nil vs) ρ S) P ↔ P (.dict []) S := by simp only [evE, er_some]
theorem w_lc {elt : Ex} {tg : Tg} {it : Itx} {ifs : Exs} {own : List (Str × Nat)} : Er (evE Φ (.lc elt tg it ifs own) ρ S) P ↔ Er (evI Φ it ρ S) fun xs S1 => Er (runC (turnC Φ elt tg ifs (wipeV ρ (own.map (·.2)))) xs S1) fun ys S2 => P (.list ys) S2 := by
  simp only [evE, er_bind, er_map, eo_pair]
  exact Iff.rfl
def Src.get (S : Src) : Fld → Int
  | .left => S.left
  | .mixed => S.mixed
  | .turn => S.turn
theorem w_sget {j : Nat} {f : Fld} : Er (evE Φ (.sget j f) ρ S) P ↔ isSrc ρ[j]? = true ∧ P (.int (S.get f)) S := by
  simp only [evE, er_if, er_some, er_none]
  cases f <;> simp [Src.get]
theorem w_slen {j : Nat} {b : Bool} : Er (evE Φ (.slen j b) ρ S) P ↔ cOk ρ j b = true ∧ P (.int S.cells.length) S := by
  simp only [evE, er_if, er_some, er_none]
  simp
theorem w_spop {j : Nat} {b : Bool} : Er (evE Φ (.spop j b) ρ S) P ↔ cOk ρ j b = true ∧ Eo S.cells.getLast? fun c => P (.int c) { S with cells := S.cells.dropLast } := by
  simp only [evE, er_if, er_omap, er_none, eo_pair]
  simp
theorem w_nil {P : List PyData → Src → Prop} : Er (evEs Φ .nil ρ S) P ↔ P [] S := by simp only [evEs, er_some]
theorem w_cons {e : Ex} {r : Exs} {P : List PyData → Src → Prop} : Er (evEs Φ (.cons false e r) ρ S) P ↔ Er (evE Φ e ρ S) fun x S1 => Er (evEs Φ r ρ S1) fun xs S2 => P (x :: xs) S2 := by simp only [evEs, er_bind, er_map, eo_pair]
theorem w_star {e : Ex} {r : Exs} {P : List PyData → Src → Prop} : Er (evEs Φ (.cons true e r) ρ S) P ↔ Er (evE Φ e ρ S) fun x S1 => Eo (seqD x) fun ys => Er (evEs Φ r ρ S1) fun xs S2 => P (ys ++ xs) S2 := by simp only [evEs, er_bind, er_obind, er_map, eo_pair]
theorem w_anil {P : List Vw → Src → Prop} : Er (evAs Φ .nil ρ S) P ↔ P [] S := by simp only [evAs, er_some]
/-- an argument by name -/
def argO : Option Vw → Option Vw
  | some (.d x) => some (.d x)
  | some .src => some .src
  | _ => none
theorem w_avr {b : Bool} {i : Nat} {r : Exs} {P : List Vw → Src → Prop} : Er (evAs Φ (.cons b (.vr i) r) ρ S) P ↔ Eo (argO ρ[i]?) fun w => Er (evAs Φ r ρ S) fun ws S2 => P (w :: ws) S2 := by
  simp only [evAs]
  cases h : ρ[i]? with
  | none => simp only [argO, eo_none, er_none]
  | some w => cases w <;> simp only [argO, eo_none, er_none, eo_some, er_map, eo_pair]
theorem w_aex {b : Bool} {e : Ex} {r : Exs} {P : List Vw → Src → Prop} (h : ∀ i, e ≠ .vr i) : Er (evAs Φ (.cons b e r) ρ S) P ↔ Er (evE Φ e ρ S) fun x S1 => Er (evAs Φ r ρ S1) fun ws S2 => P (.d x :: ws) S2 := by
  cases e <;> first | exact absurd rfl (h _) | simp only [evAs, er_bind, er_map, eo_pair]
theorem w_tnil {P : Bool → Src → Prop} : Er (evTs Φ .nil ρ S) P ↔ P true S := by simp only [evTs, er_some]
theorem w_tcons {b : Bool} {e : Ex} {r : Exs} {P : Bool → Src → Prop} : Er (evTs Φ (.cons b e r) ρ S) P ↔ Er (evE Φ e ρ S) fun x S1 => Eo (truth x) fun t => if t = true then Er (evTs Φ r ρ S1) P else P false S1 := by simp only [evTs, er_bind, er_obind, er_if, er_some, eo_pair]
theorem w_iex {e : Ex} {P : List PyData → Src → Prop} : Er (evI Φ (.ex e) ρ S) P ↔ Er (evE Φ e ρ S) fun x S1 => Eo (itemsD x) fun xs => P xs S1 := by simp only [evI, er_bind, er_omap, eo_pair]
theorem w_irng1 {a : Ex} {P : List PyData → Src → Prop} : Er (evI Φ (.rng1 a) ρ S) P ↔ Er (evE Φ a ρ S) fun x S1 => Eo (rngD [x]) fun xs => P xs S1 := by simp only [evI, er_bind, er_omap, eo_pair]
theorem w_irng2 {a b : Ex} {P : List PyData → Src → Prop} : Er (evI Φ (.rng2 a b) ρ S) P ↔ Er (evE Φ a ρ S) fun x S1 => Er (evE Φ b ρ S1) fun y S2 => Eo (rngD [x, y]) fun xs => P xs S2 := by simp only [evI, er_bind, er_omap, eo_pair]
def enumO : PyData → Option (List PyData)
  | .list xs => some (enumD xs)
  | _ => none
theorem w_ienm {a : Ex} {P : List PyData → Src → Prop} : Er (evI Φ (.enm a) ρ S) P ↔ Er (evE Φ a ρ S) fun x S1 => Eo (enumO x) fun xs => P xs S1 := by
  simp only [evI, er_bind]
  constructor
  · rintro ⟨x, S1, e, h⟩
    refine ⟨x, S1, e, ?_⟩
    cases x <;> first | exact (er_none.mp h).elim | exact ⟨_, rfl, er_some.mp h⟩
  · rintro ⟨x, S1, e, r, e2, h⟩
    refine ⟨x, S1, e, ?_⟩
    cases x <;> first | (cases e2; exact er_some.mpr h) | cases e2
def zipO : PyData → PyData → Option (List PyData)
  | .list xs, .list ys => some (zipD xs ys)
  | .tuple xs, .tuple ys => some (zipD xs ys)
  | _, _ => none
theorem w_izip {a b : Ex} {P : List PyData → Src → Prop} : Er (evI Φ (.zip a b) ρ S) P ↔ Er (evE Φ a ρ S) fun x S1 => Er (evE Φ b ρ S1) fun y S2 => Eo (zipO x y) fun xs => P xs S2 := by
  simp only [evI, er_bind]
  constructor
  · rintro ⟨x, S1, e, y, S2, e1, h⟩
    refine ⟨x, S1, e, y, S2, e1, ?_⟩
    cases x <;> cases y <;> first | exact (er_none.mp h).elim | exact ⟨_, rfl, er_some.mp h⟩
  · rintro ⟨x, S1, e, y, S2, e1, r, e2, h⟩
    refine ⟨x, S1, e, y, S2, e1, ?_⟩
    cases x <;> cases y <;> first | (cases e2; exact er_some.mpr h) | cases e2
def scrO : Option Vw → Option (List PyData)
  | some (.scr ns) => some (ns.map .int)
  | _ => none
theorem w_iscr {j : Nat} {P : List PyData → Src → Prop} : Er (evI Φ (.scr j) ρ S) P ↔ Eo (scrO ρ[j]?) fun xs => P xs S := by
  simp only [evI]
  cases h : ρ[j]? with
  | none => simp only [scrO, eo_none, er_none]
  | some w => cases w <;> simp only [scrO, eo_none, er_none, eo_some, er_some]
theorem w_rnil {f : PyData → Src → Option (Option PyData × Src)} {P : List PyData → Src → Prop} : Er (runC f [] S) P ↔ P [] S := by simp only [runC, er_some]
theorem w_rcons {f : PyData → Src → Option (Option PyData × Src)} {x : PyData} {xs : List PyData} {P : List PyData → Src → Prop} : Er (runC f (x :: xs) S) P ↔ Er (f x S) fun o S1 => Er (runC f xs S1) fun ys S2 => P (o.toList ++ ys) S2 := by simp only [runC, er_bind, er_map, eo_pair]
theorem w_turn {elt : Ex} {tg : Tg} {ifs : Exs} {x : PyData} {P : Option PyData → Src → Prop} : Er (turnC Φ elt tg ifs ρ x S) P ↔ Eo (bindTg tg x) fun as => Er (evTs Φ ifs (setAllV ρ as) S) fun t S1 => if t = true then Er (evE Φ elt (setAllV ρ as) S1) fun e S2 => P (some e) S2 else P none S1 := by
  simp only [turnC, er_obind, er_bind, er_if, er_map, er_some, eo_pair]
end

/-! ### tests -/
def Te (Φ : Nat → List Vw → Src → R PyData) (c : Ex) (ρ : List Vw) (S : Src) (P : Bool → Src → Prop) : Prop := Er (evE Φ c ρ S) fun x S1 => Eo (truth x) fun t => P t S1
section
variable {ρ : List Vw} {S : Src} {P : Bool → Src → Prop}
theorem te_cmp {o : Cop} {a b : Ex} : Te Φ (.cmp o a b) ρ S P ↔ Er (evE Φ a ρ S) fun x S1 => Er (evE Φ b ρ S1) fun y S2 => Eo (cmpD o x y) fun r => P r S2 := by
  unfold Te
  rw [w_cmp]
  exact Iff.of_eq (by congr; funext x S1; congr; funext y S2; congr; funext r; exact propext eo_some)
theorem te_cmp2 {o o' : Cop} {a b c : Ex} : Te Φ (.cmp2 o o' a b c) ρ S P ↔ Er (evE Φ a ρ S) fun x S1 => Er (evE Φ b ρ S1) fun y S2 => Eo (cmpD o x y) fun r => if r = true then Er (evE Φ c ρ S2) fun z S3 => Eo (cmpD o' y z) fun r' => P r' S3 else P false S2 := by
  unfold Te
  rw [w_cmp2]
  exact Iff.of_eq (by
    congr; funext x S1; congr; funext y S2; congr; funext r
    cases r
    · simp only [Bool.false_eq_true, if_false]; exact propext eo_some
    · simp only [if_true]; congr; funext z S3; congr; funext r'; exact propext eo_some)
theorem te_nt {a : Ex} : Te Φ (.nt a) ρ S P ↔ Te Φ a ρ S fun t S1 => P (!t) S1 := by
  unfold Te
  rw [w_nt]
  exact Iff.of_eq (by congr; funext x S1; congr; funext t; exact propext eo_some)
theorem te_one {a : Ex} : Te Φ (.one a) ρ S P ↔ Te Φ a ρ S P := by unfold Te; rw [w_one]
theorem te_an {a b : Ex} : Te Φ (.an a b) ρ S P ↔ Te Φ a ρ S fun t S1 => if t = true then Te Φ b ρ S1 P else P false S1 := by
  unfold Te
  rw [w_an]
  constructor
  · rintro ⟨x, S1, e, t, e2, h⟩
    refine ⟨x, S1, e, t, e2, ?_⟩
    cases t with
    | true => exact h
    | false =>
      obtain ⟨t', e3, h⟩ := (show Eo (truth x) fun t => P t S1 from by simpa using h)
      rw [e2] at e3
      cases e3
      simpa using h
  · rintro ⟨x, S1, e, t, e2, h⟩
    refine ⟨x, S1, e, t, e2, ?_⟩
    cases t with
    | true => exact h
    | false =>
      simp only [Bool.false_eq_true, if_false] at h ⊢
      exact ⟨false, e2, h⟩
theorem te_or {a b : Ex} : Te Φ (.or a b) ρ S P ↔ Te Φ a ρ S fun t S1 => if t = true then P true S1 else Te Φ b ρ S1 P := by
  unfold Te
  rw [w_or]
  constructor
  · rintro ⟨x, S1, e, t, e2, h⟩
    refine ⟨x, S1, e, t, e2, ?_⟩
    cases t with
    | false => exact h
    | true =>
      obtain ⟨t', e3, h⟩ := (show Eo (truth x) fun t => P t S1 from by simpa using h)
      rw [e2] at e3
      cases e3
      simpa using h
  · rintro ⟨x, S1, e, t, e2, h⟩
    refine ⟨x, S1, e, t, e2, ?_⟩
    cases t with
    | false => exact h
    | true =>
      simp only [if_true] at h ⊢
      exact ⟨true, e2, h⟩
theorem te_ite {c a b : Ex} : Te Φ (.ite c a b) ρ S P ↔ Te Φ c ρ S fun t S1 => if t = true then Te Φ a ρ S1 P else Te Φ b ρ S1 P := by unfold Te; rw [w_ite]
theorem te_vr {i : Nat} : Te Φ (.vr i) ρ S P ↔ Eo (vwD ρ[i]?) fun x => Eo (truth x) fun t => P t S := by unfold Te; rw [w_vr]
theorem te_cn {x : PyData} : Te Φ (.cn x) ρ S P ↔ Eo (truth x) fun t => P t S := by unfold Te; rw [w_cn]
theorem te_call {f : Nat} {es : Exs} : Te Φ (.call f es) ρ S P ↔ Er (evAs Φ es ρ S) fun xs S1 => Er (Φ f xs S1) fun x S2 => Eo (truth x) fun t => P t S2 := by unfold Te; rw [w_call]
theorem te_bi {b : Bi} {es : Exs} : Te Φ (.bi b es) ρ S P ↔ Er (evEs Φ es ρ S) fun xs S1 => Eo (biD b xs) fun x => Eo (truth x) fun t => P t S1 := by unfold Te; rw [w_bi]
theorem te_ix {a i : Ex} : Te Φ (.ix a i) ρ S P ↔ Er (evE Φ a ρ S) fun x S1 => Er (evE Φ i ρ S1) fun y S2 => Eo (ixD x y) fun r => Eo (truth r) fun t => P t S2 := by unfold Te; rw [w_ix]
theorem te_slen {j : Nat} {b : Bool} : Te Φ (.slen j b) ρ S P ↔ cOk ρ j b = true ∧ Eo (truth (.int S.cells.length)) fun t => P t S := by unfold Te; rw [w_slen]
theorem te_bin {o : Bop} {a b : Ex} : Te Φ (.bin o a b) ρ S P ↔ Er (evE Φ a ρ S) fun x S1 => Er (evE Φ b ρ S1) fun y S2 => Eo (binD o x y) fun r => Eo (truth r) fun t => P t S2 := by unfold Te; rw [w_bin]
theorem v_ite {c a b : Ex} {P : PyData → Src → Prop} : Er (evE Φ (.ite c a b) ρ S) P ↔ Te Φ c ρ S fun t S1 => if t = true then Er (evE Φ a ρ S1) P else Er (evE Φ b ρ S1) P := by unfold Te; rw [w_ite]
theorem v_nt {a : Ex} {P : PyData → Src → Prop} : Er (evE Φ (.nt a) ρ S) P ↔ Te Φ a ρ S fun t S1 => P (.bool (!t)) S1 := by unfold Te; rw [w_nt]
theorem v_tcons {b : Bool} {e : Ex} {r : Exs} : Er (evTs Φ (.cons b e r) ρ S) P ↔ Te Φ e ρ S fun t S1 => if t = true then Er (evTs Φ r ρ S1) P else P false S1 := by unfold Te; rw [w_tcons]
end
/-! ### statements -/
section
variable {ρ : List Sl} {S : Src} {P : Fl → List Sl → Src → Prop}
theorem rs_some {f : Fl} {ρ' : List Sl} {S' : Src} : Rs (some (f, ρ', S')) P ↔ P f ρ' S' := ⟨fun ⟨_, _, _, e, p⟩ => by cases e; exact p, fun p => ⟨f, ρ', S', rfl, p⟩⟩
theorem rs_none : Rs none P ↔ False := ⟨fun ⟨_, _, _, e, _⟩ => (by cases e), fun h => False.elim h⟩
theorem rs_bind {α : Type} {x : Option (α × Src)} {f : α × Src → RS} : Rs (x.bind f) P ↔ Er x fun a S => Rs (f (a, S)) P := ⟨fun ⟨b, ρ, S, e, p⟩ => by
  obtain ⟨⟨a, S1⟩, e1, e2⟩ := Option.bind_eq_some_iff.mp e
  exact ⟨a, S1, e1, b, ρ, S, e2, p⟩, fun ⟨a, S, e, b, ρ, S2, e2, p⟩ => ⟨b, ρ, S2, by rw [e]; exact e2, p⟩⟩
theorem rs_obind {α : Type} {x : Option α} {f : α → RS} : Rs (x.bind f) P ↔ Eo x fun a => Rs (f a) P := ⟨fun ⟨b, ρ, S, e, p⟩ => by
  obtain ⟨a, e1, e2⟩ := Option.bind_eq_some_iff.mp e
  exact ⟨a, e1, b, ρ, S, e2, p⟩, fun ⟨a, e, b, ρ, S2, e2, p⟩ => ⟨b, ρ, S2, by rw [e]; exact e2, p⟩⟩
theorem rs_map {α : Type} {x : Option (α × Src)} {f : α × Src → Fl × List Sl × Src} : Rs (x.map f) P ↔ Er x fun a S => P (f (a, S)).1 (f (a, S)).2.1 (f (a, S)).2.2 := ⟨fun ⟨b, ρ, S, e, p⟩ => by
  obtain ⟨⟨a, S1⟩, e1, e2⟩ := Option.map_eq_some_iff.mp e
  exact ⟨a, S1, e1, by show P (f (a, S1)).1 (f (a, S1)).2.1 (f (a, S1)).2.2; rw [e2]; exact p⟩, fun ⟨a, S, e, p⟩ => ⟨_, _, _, by rw [e]; rfl, p⟩⟩
theorem rs_omap {α : Type} {x : Option α} {f : α → Fl × List Sl × Src} : Rs (x.map f) P ↔ Eo x fun a => P (f a).1 (f a).2.1 (f a).2.2 := ⟨fun ⟨b, ρ, S, e, p⟩ => by
  obtain ⟨a, e1, e2⟩ := Option.map_eq_some_iff.mp e
  exact ⟨a, e1, by show P (f a).1 (f a).2.1 (f a).2.2; rw [e2]; exact p⟩, fun ⟨a, e, p⟩ => ⟨_, _, _, by rw [e]; rfl, p⟩⟩
theorem rs_if {c : Prop} [Decidable c] {x y : RS} : Rs (if c then x else y) P ↔ if c then Rs x P else Rs y P := by split <;> exact Iff.rfl
/-- what is left to do -/
def Kn (Φ : Nat → List Vw → Src → R PyData) (r : Sts) (P : Fl → List Sl → Src → Prop) : Fl → List Sl → Src → Prop
  | .nx, ρ, S => Rs (exSs Φ r ρ S) P
  | f, ρ, S => P f ρ S
theorem rs_cons {s : Stm} {r : Sts} : Rs (exSs Φ (.cons s r) ρ S) P ↔ Rs (exS Φ s ρ S) (Kn Φ r P) := by
  simp only [exSs]
  constructor
  · rintro ⟨f, ρ', S', e, p⟩
    obtain ⟨⟨f1, ρ1, S1⟩, e1, e2⟩ := Option.bind_eq_some_iff.mp e
    refine ⟨f1, ρ1, S1, e1, ?_⟩
    cases f1 with
    | nx => exact ⟨f, ρ', S', e2, p⟩
    | _ => cases e2; exact p
  · rintro ⟨f1, ρ1, S1, e1, p⟩
    cases f1 with
    | nx =>
      obtain ⟨f, ρ', S', e2, p⟩ := p
      exact ⟨f, ρ', S', by rw [e1]; exact e2, p⟩
    | _ => exact ⟨_, ρ1, S1, by rw [e1]; rfl, p⟩
theorem rs_nil : Rs (exSs Φ .nil ρ S) P ↔ P .nx ρ S := by simp only [exSs, rs_some]
theorem w_evB {b : Bool} {e : Ex} {P : PyData → Src → Prop} : Er (evB Φ b e ρ S) P ↔ if b = true then Er (evE Φ e (ρ.map Sl.vw) S) fun x S1 => lf x = true ∧ P x S1 else Er (evE Φ e (ρ.map Sl.fz) S) P := by
  cases b with
  | true =>
    simp only [evB, if_true, er_bind, er_if, er_some, er_none]
    constructor <;> rintro ⟨x, S1, e, h⟩ <;> refine ⟨x, S1, e, ?_⟩ <;> simpa using h
  | false => simp only [evB, Bool.false_eq_true, if_false]
theorem w_asg {b : Bool} {tg : Tg} {e : Ex} : Rs (exS Φ (.asg b tg e) ρ S) P ↔ Er (evB Φ b e ρ S) fun x S1 => Eo (bindTg tg x) fun as => P .nx (setS ρ as) S1 := by simp only [exS, rs_bind, rs_omap, eo_pair]
theorem w_own {i : Nat} {m : Md} {e : Ex} : Rs (exS Φ (.own i m e) ρ S) P ↔ Er (evE Φ e (ρ.map (if isB m then Sl.vw else Sl.fz)) S) fun x S1 => Eo (layS m x) fun s => P .nx (ρ.set i s) S1 := by simp only [exS, rs_bind, rs_omap, eo_pair]
theorem w_par {is : List Nat} {ms : List Md} {es : Exs} : Rs (exS Φ (.par is ms es) ρ S) P ↔ (is.all (fun i => decide (i < ρ.length))) = true ∧ Er (evP Φ ms es ρ S) fun ss S1 => P .nx (setSl ρ is ss) S1 := by
  simp only [exS, rs_if, rs_bind, rs_some, rs_none]
  simp
theorem w_pnil {P : List Sl → Src → Prop} : Er (evP Φ [] .nil ρ S) P ↔ P [] S := by simp only [evP, er_some]
theorem w_pcons {m : Md} {ms : List Md} {b : Bool} {e : Ex} {r : Exs} {P : List Sl → Src → Prop} : Er (evP Φ (m :: ms) (.cons b e r) ρ S) P ↔ Er (evE Φ e (ρ.map (if isB m then Sl.vw else Sl.fz)) S) fun x S1 => Eo (layS m x) fun s => Er (evP Φ ms r ρ S1) fun ss S2 => P (s :: ss) S2 := by simp only [evP, er_bind, er_obind, er_map, eo_pair]
theorem w_app {i : Nat} {b : Bool} {e : Ex} {xs : List PyData} (h : ρ[i]? = some (.ol xs)) : Rs (exS Φ (.app i b e) ρ S) P ↔ Er (evB Φ b e ρ S) fun x S1 => okLen (xs.length + 1) = true ∧ P .nx (ρ.set i (.ol (xs ++ [x]))) S1 := by
  simp only [exS, rs_bind, h, rs_if, rs_some, rs_none]
  constructor <;> rintro ⟨x, S1, e, h⟩ <;> refine ⟨x, S1, e, ?_⟩ <;> simpa using h
theorem w_frz {i : Nat} {s : Sl} (h : ρ[i]? = some s) : Rs (exS Φ (.frz i) ρ S) P ↔ P .nx (ρ.set i (match s.vw with | .d x => .d x | _ => s)) S := by
  simp only [exS, h, rs_some] <;> exact Iff.rfl
def Vn : PyData → Option Int := intO
theorem w_sset {j : Nat} {f : Fld} {e : Ex} (h : ρ[j]? = some .src) : Rs (exS Φ (.sset j f e) ρ S) P ↔ Er (evE Φ e (ρ.map Sl.vw) S) fun x S1 => Eo (intO x) fun n => P .nx ρ (S1.put f n) := by
  simp only [exS, rs_bind, h]
  constructor
  · rintro ⟨x, S1, e, q⟩
    refine ⟨x, S1, e, ?_⟩
    cases x <;> first | exact (rs_none.mp q).elim | (cases f <;> exact ⟨_, rfl, rs_some.mp q⟩)
  · rintro ⟨x, S1, e, n, e2, q⟩
    refine ⟨x, S1, e, ?_⟩
    cases x <;> first | (cases e2; cases f <;> exact rs_some.mpr q) | cases e2
theorem w_cels {i j : Nat} (h : ρ[j]? = some .src) : Rs (exS Φ (.cels i j) ρ S) P ↔ P .nx (ρ.set i .cel) S := by simp only [exS, h, rs_some]
theorem w_ifs {c : Ex} {a b : Sts} : Rs (exS Φ (.ifs c a b) ρ S) P ↔ Er (evE Φ c (ρ.map Sl.vw) S) fun x S1 => Eo (truth x) fun t => if t = true then Rs (exSs Φ a ρ S1) P else Rs (exSs Φ b ρ S1) P := by simp only [exS, rs_bind, rs_obind, rs_if, eo_pair]
theorem v_ifs {c : Ex} {a b : Sts} : Rs (exS Φ (.ifs c a b) ρ S) P ↔ Te Φ c (ρ.map Sl.vw) S fun t S1 => if t = true then Rs (exSs Φ a ρ S1) P else Rs (exSs Φ b ρ S1) P := by unfold Te; rw [w_ifs]
theorem w_frs {tg : Tg} {it : Itx} {b : Sts} : Rs (exS Φ (.frs tg it b) ρ S) P ↔ Er (evJ Φ it (ρ.map Sl.fz) S) fun xs S1 => Rs (loopF (fun x ρ S => (bindTg tg x).bind fun as => exSs Φ b (setS ρ as) S) xs ρ S1) P := by simp only [exS, rs_bind]
theorem w_jex {e : Ex} {ρ : List Vw} {P : List PyData → Src → Prop} : Er (evJ Φ (.ex e) ρ S) P ↔ Er (evE Φ e ρ S) fun x S1 => Eo (seqD x) fun xs => P xs S1 := by simp only [evJ, er_bind, er_omap, eo_pair]
theorem w_jrng1 {a : Ex} {ρ : List Vw} {P : List PyData → Src → Prop} : Er (evJ Φ (.rng1 a) ρ S) P ↔ Er (evI Φ (.rng1 a) ρ S) P := by simp only [evJ]
theorem w_jrng2 {a b : Ex} {ρ : List Vw} {P : List PyData → Src → Prop} : Er (evJ Φ (.rng2 a b) ρ S) P ↔ Er (evI Φ (.rng2 a b) ρ S) P := by simp only [evJ]
theorem w_jenm {a : Ex} {ρ : List Vw} {P : List PyData → Src → Prop} : Er (evJ Φ (.enm a) ρ S) P ↔ Er (evI Φ (.enm a) ρ S) P := by simp only [evJ]
theorem w_jzip {a b : Ex} {ρ : List Vw} {P : List PyData → Src → Prop} : Er (evJ Φ (.zip a b) ρ S) P ↔ Er (evI Φ (.zip a b) ρ S) P := by simp only [evJ]
theorem w_jscr {j : Nat} {ρ : List Vw} {P : List PyData → Src → Prop} : Er (evJ Φ (.scr j) ρ S) P ↔ Er (evI Φ (.scr j) ρ S) P := by simp only [evJ]
theorem w_ret {e : Ex} : Rs (exS Φ (.ret e) ρ S) P ↔ Er (evE Φ e (ρ.map Sl.vw) S) fun x S1 => P (.rt x) ρ S1 := by simp only [exS, rs_map, eo_pair]
theorem w_exs {e : Ex} : Rs (exS Φ (.exs e) ρ S) P ↔ Er (evE Φ e (ρ.map Sl.vw) S) fun x S1 => P .nx ρ S1 := by simp only [exS, rs_map, eo_pair]
theorem w_pas : Rs (exS Φ .pas ρ S) P ↔ P .nx ρ S := by simp only [exS, rs_some]
theorem w_brk : Rs (exS Φ .brk ρ S) P ↔ P .bk ρ S := by simp only [exS, rs_some]
theorem w_cnt : Rs (exS Φ .cnt ρ S) P ↔ P .ct ρ S := by simp only [exS, rs_some]
theorem kn_nx {r : Sts} : Kn Φ r P .nx ρ S ↔ Rs (exSs Φ r ρ S) P := Iff.rfl
theorem kn_rt {r : Sts} {v : PyData} : Kn Φ r P (.rt v) ρ S ↔ P (.rt v) ρ S := Iff.rfl
theorem kn_bk {r : Sts} : Kn Φ r P .bk ρ S ↔ P .bk ρ S := Iff.rfl
theorem kn_ct {r : Sts} : Kn Φ r P .ct ρ S ↔ P .ct ρ S := Iff.rfl
end
/-! ### loops -/
/-- a for: I at the turns by what is left -/
theorem rs_for {f : PyData → List Sl → Src → RS} {P : Fl → List Sl → Src → Prop} (I : List PyData → List Sl → Src → Prop) (h : ∀ x xs ρ S, I (x :: xs) ρ S → Rs (f x ρ S) fun fl ρ' S' => match fl with
    | .nx => I xs ρ' S'
    | .ct => I xs ρ' S'
    | .bk => P .nx ρ' S'
    | .rt v => P (.rt v) ρ' S') (e : ∀ ρ S, I [] ρ S → P .nx ρ S) : ∀ (xs : List PyData) (ρ : List Sl) (S : Src), I xs ρ S → Rs (loopF f xs ρ S) P
  | [], ρ, S, i => ⟨_, _, _, rfl, e ρ S i⟩
  | x :: xs, ρ, S, i => by
    obtain ⟨fl, ρ1, S1, e1, q⟩ := h x xs ρ S i
    cases fl with
    | nx =>
      obtain ⟨f2, ρ2, S2, e2, q2⟩ := rs_for I h e xs ρ1 S1 q
      exact ⟨f2, ρ2, S2, by simp only [loopF, e1, Option.bind_some, e2], q2⟩
    | ct =>
      obtain ⟨f2, ρ2, S2, e2, q2⟩ := rs_for I h e xs ρ1 S1 q
      exact ⟨f2, ρ2, S2, by simp only [loopF, e1, Option.bind_some, e2], q2⟩
    | bk => exact ⟨_, ρ1, S1, by simp only [loopF, e1, Option.bind_some], q⟩
    | rt v => exact ⟨_, ρ1, S1, by simp only [loopF, e1, Option.bind_some], q⟩
/-- a while: I with a measure -/
theorem rs_while_n {c : List Sl → Src → R Bool} {f : List Sl → Src → RS} {P : Fl → List Sl → Src → Prop} (I : Nat → List Sl → Src → Prop) (h : ∀ m ρ S, I m ρ S → Er (c ρ S) fun t S1 => if t = true then Rs (f ρ S1) fun fl ρ' S' => match fl with
    | .nx => ∃ m', m' < m ∧ I m' ρ' S'
    | .ct => ∃ m', m' < m ∧ I m' ρ' S'
    | .bk => P .nx ρ' S'
    | .rt v => P (.rt v) ρ' S'
    else P .nx ρ S1) : ∀ (n m : Nat) (ρ : List Sl) (S : Src), I m ρ S → m < n → Rs (loopW c f n ρ S) P
  | 0, m, _, _, _, l => absurd l (Nat.not_lt_zero _)
  | n + 1, m, ρ, S, i, l => by
    obtain ⟨t, S1, e1, q⟩ := h m ρ S i
    cases t with
    | false => exact ⟨.nx, ρ, S1, by simp only [loopW, e1, Option.bind_some, Bool.false_eq_true, if_false], by simpa using q⟩
    | true =>
      obtain ⟨fl, ρ2, S2, e2, q2⟩ := (show Rs (f ρ S1) _ from by simpa using q)
      cases fl with
      | nx =>
        obtain ⟨m', lm, i'⟩ := q2
        obtain ⟨f3, ρ3, S3, e3, q3⟩ := rs_while_n I h n m' ρ2 S2 i' (by omega)
        exact ⟨f3, ρ3, S3, by simp only [loopW, e1, Option.bind_some, if_true, e2, e3], q3⟩
      | ct =>
        obtain ⟨m', lm, i'⟩ := q2
        obtain ⟨f3, ρ3, S3, e3, q3⟩ := rs_while_n I h n m' ρ2 S2 i' (by omega)
        exact ⟨f3, ρ3, S3, by simp only [loopW, e1, Option.bind_some, if_true, e2, e3], q3⟩
      | bk => exact ⟨_, ρ2, S2, by simp only [loopW, e1, Option.bind_some, if_true, e2], q2⟩
      | rt v => exact ⟨_, ρ2, S2, by simp only [loopW, e1, Option.bind_some, if_true, e2], q2⟩
theorem rs_while {c : Ex} {b : Sts} {P : Fl → List Sl → Src → Prop} (I : Nat → List Sl → Src → Prop) (h : ∀ m ρ S, I m ρ S → Te Φ c (ρ.map Sl.vw) S fun t S1 => if t = true then Rs (exSs Φ b ρ S1) fun fl ρ' S' => match fl with
    | .nx => ∃ m', m' < m ∧ I m' ρ' S'
    | .ct => ∃ m', m' < m ∧ I m' ρ' S'
    | .bk => P .nx ρ' S'
    | .rt v => P (.rt v) ρ' S'
    else P .nx ρ S1) {m : Nat} {ρ : List Sl} {S : Src} (i : I m ρ S) (l : m < whileFuel) : Rs (exS Φ (.whl c b) ρ S) P := by
  simp only [exS]
  refine rs_while_n I (fun m ρ S i => ?_) whileFuel m ρ S i l
  simp only [er_bind, er_omap, eo_pair]
  exact h m ρ S i
/-- a def's call -/
theorem er_endR {x : RS} {P : PyData → Src → Prop} (h : Rs x fun f _ S => match f with
    | .rt v => P v S
    | .nx => P .none S
    | _ => False) : Er (endR x) P := by
  obtain ⟨f, ρ, S, rfl, q⟩ := h
  cases f with
  | rt v => exact ⟨v, S, rfl, q⟩
  | nx => exact ⟨.none, S, rfl, q⟩
  | bk => exact q.elim
  | ct => exact q.elim
theorem er_callT {T : List Fd} {d f : Nat} {args : List Vw} {S : Src} {P : PyData → Src → Prop} {fd : Fd} (hf : T[f]? = some fd) (ha : args.length = fd.np) (h : Rs (exSs (callT T d) fd.body (startS fd.names.length args) S) fun f _ S => match f with
    | .rt v => P v S
    | .nx => P .none S
    | _ => False) : Er (callT T (d + 1) f args S) P := by
  simp only [callT, hf, Option.bind_some, ha, if_true]
  exact er_endR h
end
theorem iN_none : isNone .none = true := rfl
theorem iN_int {i : Int} : isNone (.int i) = false := rfl
theorem iN_bool {i : Bool} : isNone (.bool i) = false := rfl
theorem iN_str {i : Str} : isNone (.str i) = false := rfl
theorem iN_list {i : List PyData} : isNone (.list i) = false := rfl
theorem iN_tup {i : List PyData} : isNone (.tuple i) = false := rfl
theorem iN_dict {i : List (PyData × PyData)} : isNone (.dict i) = false := rfl
theorem g_nm {i : Nat} {d : PyData} : bindTg (.nm i) d = some [(i, d)] := by simp only [bindTg]
theorem g_tp {ts : List Tg} {ds : List PyData} : bindTg (.tp ts) (.tuple ds) = bindTg.go ts ds := by simp only [bindTg]
theorem g_nil : bindTg.go [] [] = some [] := by simp only [bindTg.go]
theorem g_cons {t : Tg} {ts : List Tg} {d : PyData} {ds : List PyData} : bindTg.go (t :: ts) (d :: ds) = (bindTg t d).bind fun a => (bindTg.go ts ds).map (a ++ ·) := by simp only [bindTg.go]
/-! ### numbers -/
theorem mulOk_r {i j : Int} (h : j.natAbs < 2 ^ 64) : mulOk i j = true := by
  unfold mulOk
  rw [decide_eq_true h, Bool.or_true, Bool.true_or]
theorem mulOk_l {i j : Int} (h : i.natAbs < 2 ^ 64) : mulOk i j = true := by
  unfold mulOk
  rw [decide_eq_true h, Bool.true_or, Bool.true_or]
theorem log_lt {j : Int} (h : j.natAbs < 2 ^ 64) : j.natAbs.log2 < 9000 := by
  by_cases z : j.natAbs = 0
  · rw [z]; decide
  · have := (Nat.log2_lt z).mpr h
    omega
section
variable {P : PyData → Prop} {Q : Bool → Prop} {i j : Int}
theorem n_add : Eo (binD .add (.int i) (.int j)) P ↔ P (.int (i + j)) := eo_some
theorem n_sub : Eo (binD .sub (.int i) (.int j)) P ↔ P (.int (i - j)) := eo_some
theorem n_mul (h : mulOk i j = true) : Eo (binD .mul (.int i) (.int j)) P ↔ P (.int (i * j)) := by simp only [binD, h, if_true, eo_some]
theorem n_fdiv (h : 0 < j) (l : j.natAbs < 2 ^ 64) : Eo (binD .fdiv (.int i) (.int j)) P ↔ P (.int (i / j)) := by simp only [binD, decide_eq_true h, decide_eq_true (log_lt l), Bool.and_self, if_true, eo_some]
theorem n_mod (h : 0 < j) : Eo (binD .mod (.int i) (.int j)) P ↔ P (.int (i % j)) := by simp only [binD, decide_eq_true h, if_true, eo_some]
theorem n_lt : Eo (cmpD .lt (.int i) (.int j)) Q ↔ Q (decide (i < j)) := eo_some
theorem n_le : Eo (cmpD .le (.int i) (.int j)) Q ↔ Q (decide (i ≤ j)) := eo_some
theorem n_gt : Eo (cmpD .gt (.int i) (.int j)) Q ↔ Q (decide (j < i)) := eo_some
theorem n_ge : Eo (cmpD .ge (.int i) (.int j)) Q ↔ Q (decide (j ≤ i)) := eo_some
theorem eqv_int : PyData.eqv (.int i) (.int j) = decide (i = j) := by
  by_cases h : i = j
  · subst h; simp [PyData.eqv]
  · simp [PyData.eqv, h]
theorem n_eq : Eo (cmpD .eq (.int i) (.int j)) Q ↔ Q (decide (i = j)) := by
  have : eqOk (.int i) (.int j) = true := rfl
  simp only [cmpD, this, if_true, eo_some, eqv_int]
theorem n_ne : Eo (cmpD .ne (.int i) (.int j)) Q ↔ Q (!decide (i = j)) := by
  have : eqOk (.int i) (.int j) = true := rfl
  simp only [cmpD, this, if_true, eo_some, eqv_int]
theorem n_is {a : PyData} : Eo (cmpD .is a .none) Q ↔ Q (isNone a) := by cases a <;> exact eo_some
theorem n_isn {a : PyData} : Eo (cmpD .isn a .none) Q ↔ Q (!isNone a) := by cases a <;> exact eo_some
theorem t_bool {b : Bool} : Eo (truth (.bool b)) Q ↔ Q b := eo_some
theorem t_none : Eo (truth .none) Q ↔ Q false := eo_some
theorem b_int : Eo (biD .int [.int i]) P ↔ P (.int i) := eo_some
theorem b_intb {b : Bool} : Eo (biD .int [.bool b]) P ↔ P (.int (if b then 1 else 0)) := eo_some
theorem b_abs : Eo (biD .abs [.int i]) P ↔ P (.int (if i < 0 then -i else i)) := eo_some
theorem b_lenL {xs : List PyData} : Eo (biD .len [.list xs]) P ↔ P (.int xs.length) := eo_some
theorem b_lenT {xs : List PyData} : Eo (biD .len [.tuple xs]) P ↔ P (.int xs.length) := eo_some
theorem b_tupL {xs : List PyData} : Eo (biD .tuple [.list xs]) P ↔ P (.tuple xs) := eo_some
theorem b_lstL {xs : List PyData} : Eo (biD .list [.list xs]) P ↔ P (.list xs) := eo_some
theorem b_lstT {xs : List PyData} : Eo (biD .list [.tuple xs]) P ↔ P (.list xs) := eo_some
end
end Pyl

/-! Pyl23: plain laws: the drawing. -/
namespace Pyl
open PySem
section
variable {Φ : Nat → List Vw → Src → R PyData}
/-- the drawing, as it is told -/
def pickC : Sts := (.cons (.ifs (.cmp .lt (.vr 1) (.cn (.int 2))) (.cons (.ret (.cn (.int 0))) .nil) .nil) (.cons (.cels 2 0) (.cons (.whl (.an (.cmp .lt (.sget 0 .left) (.cn (.int 2))) (.one (.cmp .gt (.slen 2 false) (.cn (.int 0))))) (.cons (.sset 0 .left (.spop 2 false)) .nil)) (.cons (.asg false (.nm 3) (.sget 0 .left)) (.cons (.ifs (.cmp .gt (.vr 3) (.cn (.int 1))) (.cons (.sset 0 .left (.bin .fdiv (.vr 3) (.vr 1))) (.cons (.ret (.bin .mod (.bi .int (.cons false (.vr 3) .nil)) (.vr 1))) .nil)) .nil) (.cons (.sset 0 .turn (.bin .add (.sget 0 .turn) (.cn (.int 1)))) (.cons (.asg false (.nm 4) (.sget 0 .turn)) (.cons (.asg false (.nm 5) (.bin .mod (.bi .int (.cons false (.bin .add (.sget 0 .mixed) (.bin .mul (.vr 4) (.cn (.int 104729)))) .nil)) (.cn (.int 998244353)))) (.cons (.asg false (.nm 5) (.bin .mod (.bi .int (.cons false (.bin .add (.bin .mul (.vr 5) (.vr 5)) (.bin .mul (.vr 4) (.cn (.int 17)))) .nil)) (.cn (.int 2147483647)))) (.cons (.ret (.bin .mod (.bi .int (.cons false (.bin .fdiv (.vr 5) (.cn (.int 16))) .nil)) (.vr 1))) .nil))))))))))
theorem if_ok {c : Bool} {p q : Prop} (h1 : c = true → p) (h2 : c = false → q) : if c = true then p else q := by
  cases c
  · exact h2 rfl
  · exact h1 rfl
theorem if_dec {c : Prop} [Decidable c] {p q : Prop} (h1 : c → p) (h2 : ¬ c → q) : if decide c = true then p else q := if_ok (fun h => h1 (of_decide_eq_true h)) fun h => h2 (of_decide_eq_false h)
theorem if_ndec {c : Prop} [Decidable c] {p q : Prop} (h1 : ¬ c → p) (h2 : c → q) : if decide c = false then p else q := by
  by_cases h : c
  · rw [if_neg (by simp [h])]; exact h2 h
  · rw [if_pos (by simp [h])]; exact h1 h
/-- the source is no longer than the script -/
def SOk (S : Src) : Prop := S.cells.length ≤ 63
theorem pick_rs (n : Int) (S : Src) (hS : SOk S) (h1 : 1 ≤ n) (h2 : n < 2 ^ 63) : Rs (exSs Φ pickC [.src, .d (.int n), .no, .no, .no, .no] S) fun f _ S' => ∃ v, f = .rt (.int v) ∧ 0 ≤ v ∧ v < n ∧ SOk S' := by
  have n0 : 0 < n := by omega
  have hn : n.natAbs < 2 ^ 64 := by omega
  unfold pickC
  refine rs_cons.mpr ?_
  simp only [w_vr, w_cn, w_bin, w_neg, v_nt, w_cmp, w_cmp2, w_an, w_or, w_one, v_ite, w_tup, w_lst, w_call, w_bi, w_ix, w_sl, w_rv, w_dsp, w_lc, w_sget, w_slen, w_spop, w_nil, w_cons, w_star, w_anil, w_avr, w_aex, w_tnil, v_tcons, w_iex, w_irng1, w_irng2, w_ienm, w_izip, w_iscr, w_evB, w_asg, w_own, w_par, w_pnil, w_pcons, w_app, w_frz, w_sset, w_cels, v_ifs, te_cmp, te_cmp2, te_nt, te_one, te_an, te_or, te_ite, te_vr, te_cn, te_call, te_bi, te_ix, te_slen, te_bin, w_frs, w_jex, w_jrng1, w_jrng2, w_jenm, w_jzip, w_jscr, w_ret, w_exs, w_pas, w_brk, w_cnt, kn_nx, kn_rt, kn_bk, kn_ct, n_add, n_sub, n_lt, n_le, n_gt, n_ge, n_eq, n_ne, n_is, n_isn, t_bool, t_none, b_int, b_intb, b_abs, b_lenL, b_lenT, b_tupL, b_lstL, b_lstT, eo_some, er_some, rs_some, rs_nil, negO, revO, enumO, zipO, scrO, argO, intO, vwD, isSrc, isCel, cOk, Sl.vw, Sl.fz, lf, lf.lfAll, layS, isB, g_nm, g_tp, g_nil, g_cons, Option.bind_some, Option.map_some, List.cons_append, List.nil_append, setS, setSl, Src.get, Src.put, itemsD, seqD, iN_none, iN_int, iN_bool, iN_str, iN_list, iN_tup, iN_dict, List.map_cons, List.map_nil, List.getElem?_cons_zero, List.getElem?_cons_succ, List.set_cons_zero, List.set_cons_succ, List.foldl_cons, List.foldl_nil, List.length_cons, List.length_nil, if_true, if_false, Bool.false_eq_true, ne_eq, reduceCtorEq, not_false_eq_true, implies_true, true_and, and_true, Bool.not_true, Bool.not_false, Bool.not_eq_true']
  refine if_dec (fun c => ?_) fun c => ?_
  · refine rs_cons.mpr ?_
    simp only [w_vr, w_cn, w_bin, w_neg, v_nt, w_cmp, w_cmp2, w_an, w_or, w_one, v_ite, w_tup, w_lst, w_call, w_bi, w_ix, w_sl, w_rv, w_dsp, w_lc, w_sget, w_slen, w_spop, w_nil, w_cons, w_star, w_anil, w_avr, w_aex, w_tnil, v_tcons, w_iex, w_irng1, w_irng2, w_ienm, w_izip, w_iscr, w_evB, w_asg, w_own, w_par, w_pnil, w_pcons, w_app, w_frz, w_sset, w_cels, v_ifs, te_cmp, te_cmp2, te_nt, te_one, te_an, te_or, te_ite, te_vr, te_cn, te_call, te_bi, te_ix, te_slen, te_bin, w_frs, w_jex, w_jrng1, w_jrng2, w_jenm, w_jzip, w_jscr, w_ret, w_exs, w_pas, w_brk, w_cnt, kn_nx, kn_rt, kn_bk, kn_ct, n_add, n_sub, n_lt, n_le, n_gt, n_ge, n_eq, n_ne, n_is, n_isn, t_bool, t_none, b_int, b_intb, b_abs, b_lenL, b_lenT, b_tupL, b_lstL, b_lstT, eo_some, er_some, rs_some, rs_nil, negO, revO, enumO, zipO, scrO, argO, intO, vwD, isSrc, isCel, cOk, Sl.vw, Sl.fz, lf, lf.lfAll, layS, isB, g_nm, g_tp, g_nil, g_cons, Option.bind_some, Option.map_some, List.cons_append, List.nil_append, setS, setSl, Src.get, Src.put, itemsD, seqD, iN_none, iN_int, iN_bool, iN_str, iN_list, iN_tup, iN_dict, List.map_cons, List.map_nil, List.getElem?_cons_zero, List.getElem?_cons_succ, List.set_cons_zero, List.set_cons_succ, List.foldl_cons, List.foldl_nil, List.length_cons, List.length_nil, if_true, if_false, Bool.false_eq_true, ne_eq, reduceCtorEq, not_false_eq_true, implies_true, true_and, and_true, Bool.not_true, Bool.not_false, Bool.not_eq_true']
    exact ⟨0, rfl, by omega, by omega, hS⟩
  refine rs_cons.mpr ?_
  rw [w_cels rfl]
  simp only [w_vr, w_cn, w_bin, w_neg, v_nt, w_cmp, w_cmp2, w_an, w_or, w_one, v_ite, w_tup, w_lst, w_call, w_bi, w_ix, w_sl, w_rv, w_dsp, w_lc, w_sget, w_slen, w_spop, w_nil, w_cons, w_star, w_anil, w_avr, w_aex, w_tnil, v_tcons, w_iex, w_irng1, w_irng2, w_ienm, w_izip, w_iscr, w_evB, w_asg, w_own, w_par, w_pnil, w_pcons, w_app, w_frz, w_sset, w_cels, v_ifs, te_cmp, te_cmp2, te_nt, te_one, te_an, te_or, te_ite, te_vr, te_cn, te_call, te_bi, te_ix, te_slen, te_bin, w_frs, w_jex, w_jrng1, w_jrng2, w_jenm, w_jzip, w_jscr, w_ret, w_exs, w_pas, w_brk, w_cnt, kn_nx, kn_rt, kn_bk, kn_ct, n_add, n_sub, n_lt, n_le, n_gt, n_ge, n_eq, n_ne, n_is, n_isn, t_bool, t_none, b_int, b_intb, b_abs, b_lenL, b_lenT, b_tupL, b_lstL, b_lstT, eo_some, er_some, rs_some, rs_nil, negO, revO, enumO, zipO, scrO, argO, intO, vwD, isSrc, isCel, cOk, Sl.vw, Sl.fz, lf, lf.lfAll, layS, isB, g_nm, g_tp, g_nil, g_cons, Option.bind_some, Option.map_some, List.cons_append, List.nil_append, setS, setSl, Src.get, Src.put, itemsD, seqD, iN_none, iN_int, iN_bool, iN_str, iN_list, iN_tup, iN_dict, List.map_cons, List.map_nil, List.getElem?_cons_zero, List.getElem?_cons_succ, List.set_cons_zero, List.set_cons_succ, List.foldl_cons, List.foldl_nil, List.length_cons, List.length_nil, if_true, if_false, Bool.false_eq_true, ne_eq, reduceCtorEq, not_false_eq_true, implies_true, true_and, and_true, Bool.not_true, Bool.not_false, Bool.not_eq_true']
  refine rs_cons.mpr ?_
  refine Rs.imp (P := fun f ρ' S' => f = .nx ∧ ρ' = [.src, .d (.int n), .cel, .no, .no, .no] ∧ SOk S') (rs_while (fun m ρ S => ρ = [.src, .d (.int n), .cel, .no, .no, .no] ∧ SOk S ∧ S.cells.length = m) (m := S.cells.length) (fun m ρ S ⟨e, h, l⟩ => ?_) ⟨rfl, hS, rfl⟩ (by show _ < 1073741824; unfold SOk at hS; omega)) ?_
  · subst e
    simp only [w_vr, w_cn, w_bin, w_neg, v_nt, w_cmp, w_cmp2, w_an, w_or, w_one, v_ite, w_tup, w_lst, w_call, w_bi, w_ix, w_sl, w_rv, w_dsp, w_lc, w_sget, w_slen, w_spop, w_nil, w_cons, w_star, w_anil, w_avr, w_aex, w_tnil, v_tcons, w_iex, w_irng1, w_irng2, w_ienm, w_izip, w_iscr, w_evB, w_asg, w_own, w_par, w_pnil, w_pcons, w_app, w_frz, w_sset, w_cels, v_ifs, te_cmp, te_cmp2, te_nt, te_one, te_an, te_or, te_ite, te_vr, te_cn, te_call, te_bi, te_ix, te_slen, te_bin, w_frs, w_jex, w_jrng1, w_jrng2, w_jenm, w_jzip, w_jscr, w_ret, w_exs, w_pas, w_brk, w_cnt, kn_nx, kn_rt, kn_bk, kn_ct, n_add, n_sub, n_lt, n_le, n_gt, n_ge, n_eq, n_ne, n_is, n_isn, t_bool, t_none, b_int, b_intb, b_abs, b_lenL, b_lenT, b_tupL, b_lstL, b_lstT, eo_some, er_some, rs_some, rs_nil, negO, revO, enumO, zipO, scrO, argO, intO, vwD, isSrc, isCel, cOk, Sl.vw, Sl.fz, lf, lf.lfAll, layS, isB, g_nm, g_tp, g_nil, g_cons, Option.bind_some, Option.map_some, List.cons_append, List.nil_append, setS, setSl, Src.get, Src.put, itemsD, seqD, iN_none, iN_int, iN_bool, iN_str, iN_list, iN_tup, iN_dict, List.map_cons, List.map_nil, List.getElem?_cons_zero, List.getElem?_cons_succ, List.set_cons_zero, List.set_cons_succ, List.foldl_cons, List.foldl_nil, List.length_cons, List.length_nil, if_true, if_false, Bool.false_eq_true, ne_eq, reduceCtorEq, not_false_eq_true, implies_true, true_and, and_true, Bool.not_true, Bool.not_false, Bool.not_eq_true']
    refine if_dec (fun c1 => ?_) fun c1 => ?_
    · refine if_dec (fun c2 => ?_) fun c2 => ?_
      · refine rs_cons.mpr ?_
        rw [w_sset rfl]
        simp only [w_vr, w_cn, w_bin, w_neg, v_nt, w_cmp, w_cmp2, w_an, w_or, w_one, v_ite, w_tup, w_lst, w_call, w_bi, w_ix, w_sl, w_rv, w_dsp, w_lc, w_sget, w_slen, w_spop, w_nil, w_cons, w_star, w_anil, w_avr, w_aex, w_tnil, v_tcons, w_iex, w_irng1, w_irng2, w_ienm, w_izip, w_iscr, w_evB, w_asg, w_own, w_par, w_pnil, w_pcons, w_app, w_frz, w_sset, w_cels, v_ifs, te_cmp, te_cmp2, te_nt, te_one, te_an, te_or, te_ite, te_vr, te_cn, te_call, te_bi, te_ix, te_slen, te_bin, w_frs, w_jex, w_jrng1, w_jrng2, w_jenm, w_jzip, w_jscr, w_ret, w_exs, w_pas, w_brk, w_cnt, kn_nx, kn_rt, kn_bk, kn_ct, n_add, n_sub, n_lt, n_le, n_gt, n_ge, n_eq, n_ne, n_is, n_isn, t_bool, t_none, b_int, b_intb, b_abs, b_lenL, b_lenT, b_tupL, b_lstL, b_lstT, eo_some, er_some, rs_some, rs_nil, negO, revO, enumO, zipO, scrO, argO, intO, vwD, isSrc, isCel, cOk, Sl.vw, Sl.fz, lf, lf.lfAll, layS, isB, g_nm, g_tp, g_nil, g_cons, Option.bind_some, Option.map_some, List.cons_append, List.nil_append, setS, setSl, Src.get, Src.put, itemsD, seqD, iN_none, iN_int, iN_bool, iN_str, iN_list, iN_tup, iN_dict, List.map_cons, List.map_nil, List.getElem?_cons_zero, List.getElem?_cons_succ, List.set_cons_zero, List.set_cons_succ, List.foldl_cons, List.foldl_nil, List.length_cons, List.length_nil, if_true, if_false, Bool.false_eq_true, ne_eq, reduceCtorEq, not_false_eq_true, implies_true, true_and, and_true, Bool.not_true, Bool.not_false, Bool.not_eq_true']
        cases hc : S.cells.getLast? with
        | none =>
          have hn : S.cells = [] := by simpa using hc
          rw [hn] at c2
          exact absurd c2 (by simp)
        | some v =>
          simp only [w_vr, w_cn, w_bin, w_neg, v_nt, w_cmp, w_cmp2, w_an, w_or, w_one, v_ite, w_tup, w_lst, w_call, w_bi, w_ix, w_sl, w_rv, w_dsp, w_lc, w_sget, w_slen, w_spop, w_nil, w_cons, w_star, w_anil, w_avr, w_aex, w_tnil, v_tcons, w_iex, w_irng1, w_irng2, w_ienm, w_izip, w_iscr, w_evB, w_asg, w_own, w_par, w_pnil, w_pcons, w_app, w_frz, w_sset, w_cels, v_ifs, te_cmp, te_cmp2, te_nt, te_one, te_an, te_or, te_ite, te_vr, te_cn, te_call, te_bi, te_ix, te_slen, te_bin, w_frs, w_jex, w_jrng1, w_jrng2, w_jenm, w_jzip, w_jscr, w_ret, w_exs, w_pas, w_brk, w_cnt, kn_nx, kn_rt, kn_bk, kn_ct, n_add, n_sub, n_lt, n_le, n_gt, n_ge, n_eq, n_ne, n_is, n_isn, t_bool, t_none, b_int, b_intb, b_abs, b_lenL, b_lenT, b_tupL, b_lstL, b_lstT, eo_some, er_some, rs_some, rs_nil, negO, revO, enumO, zipO, scrO, argO, intO, vwD, isSrc, isCel, cOk, Sl.vw, Sl.fz, lf, lf.lfAll, layS, isB, g_nm, g_tp, g_nil, g_cons, Option.bind_some, Option.map_some, List.cons_append, List.nil_append, setS, setSl, Src.get, Src.put, itemsD, seqD, iN_none, iN_int, iN_bool, iN_str, iN_list, iN_tup, iN_dict, List.map_cons, List.map_nil, List.getElem?_cons_zero, List.getElem?_cons_succ, List.set_cons_zero, List.set_cons_succ, List.foldl_cons, List.foldl_nil, List.length_cons, List.length_nil, if_true, if_false, Bool.false_eq_true, ne_eq, reduceCtorEq, not_false_eq_true, implies_true, true_and, and_true, Bool.not_true, Bool.not_false, Bool.not_eq_true']
          refine ⟨_, ?_, ?_, rfl⟩
          · simp only [List.length_dropLast]; omega
          · unfold SOk at h ⊢
            simp only [List.length_dropLast]; omega
      · exact h
    · exact h
  rintro f ρ' S1 ⟨rfl, rfl, h1'⟩
  refine kn_nx.mpr (rs_cons.mpr ?_)
  simp only [w_vr, w_cn, w_bin, w_neg, v_nt, w_cmp, w_cmp2, w_an, w_or, w_one, v_ite, w_tup, w_lst, w_call, w_bi, w_ix, w_sl, w_rv, w_dsp, w_lc, w_sget, w_slen, w_spop, w_nil, w_cons, w_star, w_anil, w_avr, w_aex, w_tnil, v_tcons, w_iex, w_irng1, w_irng2, w_ienm, w_izip, w_iscr, w_evB, w_asg, w_own, w_par, w_pnil, w_pcons, w_app, w_frz, w_sset, w_cels, v_ifs, te_cmp, te_cmp2, te_nt, te_one, te_an, te_or, te_ite, te_vr, te_cn, te_call, te_bi, te_ix, te_slen, te_bin, w_frs, w_jex, w_jrng1, w_jrng2, w_jenm, w_jzip, w_jscr, w_ret, w_exs, w_pas, w_brk, w_cnt, kn_nx, kn_rt, kn_bk, kn_ct, n_add, n_sub, n_lt, n_le, n_gt, n_ge, n_eq, n_ne, n_is, n_isn, t_bool, t_none, b_int, b_intb, b_abs, b_lenL, b_lenT, b_tupL, b_lstL, b_lstT, eo_some, er_some, rs_some, rs_nil, negO, revO, enumO, zipO, scrO, argO, intO, vwD, isSrc, isCel, cOk, Sl.vw, Sl.fz, lf, lf.lfAll, layS, isB, g_nm, g_tp, g_nil, g_cons, Option.bind_some, Option.map_some, List.cons_append, List.nil_append, setS, setSl, Src.get, Src.put, itemsD, seqD, iN_none, iN_int, iN_bool, iN_str, iN_list, iN_tup, iN_dict, List.map_cons, List.map_nil, List.getElem?_cons_zero, List.getElem?_cons_succ, List.set_cons_zero, List.set_cons_succ, List.foldl_cons, List.foldl_nil, List.length_cons, List.length_nil, if_true, if_false, Bool.false_eq_true, ne_eq, reduceCtorEq, not_false_eq_true, implies_true, true_and, and_true, Bool.not_true, Bool.not_false, Bool.not_eq_true']
  refine rs_cons.mpr ?_
  simp only [w_vr, w_cn, w_bin, w_neg, v_nt, w_cmp, w_cmp2, w_an, w_or, w_one, v_ite, w_tup, w_lst, w_call, w_bi, w_ix, w_sl, w_rv, w_dsp, w_lc, w_sget, w_slen, w_spop, w_nil, w_cons, w_star, w_anil, w_avr, w_aex, w_tnil, v_tcons, w_iex, w_irng1, w_irng2, w_ienm, w_izip, w_iscr, w_evB, w_asg, w_own, w_par, w_pnil, w_pcons, w_app, w_frz, w_sset, w_cels, v_ifs, te_cmp, te_cmp2, te_nt, te_one, te_an, te_or, te_ite, te_vr, te_cn, te_call, te_bi, te_ix, te_slen, te_bin, w_frs, w_jex, w_jrng1, w_jrng2, w_jenm, w_jzip, w_jscr, w_ret, w_exs, w_pas, w_brk, w_cnt, kn_nx, kn_rt, kn_bk, kn_ct, n_add, n_sub, n_lt, n_le, n_gt, n_ge, n_eq, n_ne, n_is, n_isn, t_bool, t_none, b_int, b_intb, b_abs, b_lenL, b_lenT, b_tupL, b_lstL, b_lstT, eo_some, er_some, rs_some, rs_nil, negO, revO, enumO, zipO, scrO, argO, intO, vwD, isSrc, isCel, cOk, Sl.vw, Sl.fz, lf, lf.lfAll, layS, isB, g_nm, g_tp, g_nil, g_cons, Option.bind_some, Option.map_some, List.cons_append, List.nil_append, setS, setSl, Src.get, Src.put, itemsD, seqD, iN_none, iN_int, iN_bool, iN_str, iN_list, iN_tup, iN_dict, List.map_cons, List.map_nil, List.getElem?_cons_zero, List.getElem?_cons_succ, List.set_cons_zero, List.set_cons_succ, List.foldl_cons, List.foldl_nil, List.length_cons, List.length_nil, if_true, if_false, Bool.false_eq_true, ne_eq, reduceCtorEq, not_false_eq_true, implies_true, true_and, and_true, Bool.not_true, Bool.not_false, Bool.not_eq_true']
  refine if_dec (fun c1 => ?_) fun c1 => ?_
  · refine rs_cons.mpr ?_
    rw [w_sset rfl]
    simp only [w_vr, w_cn, w_bin, w_neg, v_nt, w_cmp, w_cmp2, w_an, w_or, w_one, v_ite, w_tup, w_lst, w_call, w_bi, w_ix, w_sl, w_rv, w_dsp, w_lc, w_sget, w_slen, w_spop, w_nil, w_cons, w_star, w_anil, w_avr, w_aex, w_tnil, v_tcons, w_iex, w_irng1, w_irng2, w_ienm, w_izip, w_iscr, w_evB, w_asg, w_own, w_par, w_pnil, w_pcons, w_app, w_frz, w_sset, w_cels, v_ifs, te_cmp, te_cmp2, te_nt, te_one, te_an, te_or, te_ite, te_vr, te_cn, te_call, te_bi, te_ix, te_slen, te_bin, w_frs, w_jex, w_jrng1, w_jrng2, w_jenm, w_jzip, w_jscr, w_ret, w_exs, w_pas, w_brk, w_cnt, kn_nx, kn_rt, kn_bk, kn_ct, n_add, n_sub, n_lt, n_le, n_gt, n_ge, n_eq, n_ne, n_is, n_isn, t_bool, t_none, b_int, b_intb, b_abs, b_lenL, b_lenT, b_tupL, b_lstL, b_lstT, eo_some, er_some, rs_some, rs_nil, negO, revO, enumO, zipO, scrO, argO, intO, vwD, isSrc, isCel, cOk, Sl.vw, Sl.fz, lf, lf.lfAll, layS, isB, g_nm, g_tp, g_nil, g_cons, Option.bind_some, Option.map_some, List.cons_append, List.nil_append, setS, setSl, Src.get, Src.put, itemsD, seqD, iN_none, iN_int, iN_bool, iN_str, iN_list, iN_tup, iN_dict, List.map_cons, List.map_nil, List.getElem?_cons_zero, List.getElem?_cons_succ, List.set_cons_zero, List.set_cons_succ, List.foldl_cons, List.foldl_nil, List.length_cons, List.length_nil, if_true, if_false, Bool.false_eq_true, ne_eq, reduceCtorEq, not_false_eq_true, implies_true, true_and, and_true, Bool.not_true, Bool.not_false, Bool.not_eq_true', n_fdiv n0 hn]
    refine rs_cons.mpr ?_
    simp only [w_vr, w_cn, w_bin, w_neg, v_nt, w_cmp, w_cmp2, w_an, w_or, w_one, v_ite, w_tup, w_lst, w_call, w_bi, w_ix, w_sl, w_rv, w_dsp, w_lc, w_sget, w_slen, w_spop, w_nil, w_cons, w_star, w_anil, w_avr, w_aex, w_tnil, v_tcons, w_iex, w_irng1, w_irng2, w_ienm, w_izip, w_iscr, w_evB, w_asg, w_own, w_par, w_pnil, w_pcons, w_app, w_frz, w_sset, w_cels, v_ifs, te_cmp, te_cmp2, te_nt, te_one, te_an, te_or, te_ite, te_vr, te_cn, te_call, te_bi, te_ix, te_slen, te_bin, w_frs, w_jex, w_jrng1, w_jrng2, w_jenm, w_jzip, w_jscr, w_ret, w_exs, w_pas, w_brk, w_cnt, kn_nx, kn_rt, kn_bk, kn_ct, n_add, n_sub, n_lt, n_le, n_gt, n_ge, n_eq, n_ne, n_is, n_isn, t_bool, t_none, b_int, b_intb, b_abs, b_lenL, b_lenT, b_tupL, b_lstL, b_lstT, eo_some, er_some, rs_some, rs_nil, negO, revO, enumO, zipO, scrO, argO, intO, vwD, isSrc, isCel, cOk, Sl.vw, Sl.fz, lf, lf.lfAll, layS, isB, g_nm, g_tp, g_nil, g_cons, Option.bind_some, Option.map_some, List.cons_append, List.nil_append, setS, setSl, Src.get, Src.put, itemsD, seqD, iN_none, iN_int, iN_bool, iN_str, iN_list, iN_tup, iN_dict, List.map_cons, List.map_nil, List.getElem?_cons_zero, List.getElem?_cons_succ, List.set_cons_zero, List.set_cons_succ, List.foldl_cons, List.foldl_nil, List.length_cons, List.length_nil, if_true, if_false, Bool.false_eq_true, ne_eq, reduceCtorEq, not_false_eq_true, implies_true, true_and, and_true, Bool.not_true, Bool.not_false, Bool.not_eq_true', n_mod n0]
    exact ⟨_, rfl, Int.emod_nonneg _ (by omega), Int.emod_lt_of_pos _ n0, h1'⟩
  refine rs_cons.mpr ?_
  rw [w_sset rfl]
  simp only [w_vr, w_cn, w_bin, w_neg, v_nt, w_cmp, w_cmp2, w_an, w_or, w_one, v_ite, w_tup, w_lst, w_call, w_bi, w_ix, w_sl, w_rv, w_dsp, w_lc, w_sget, w_slen, w_spop, w_nil, w_cons, w_star, w_anil, w_avr, w_aex, w_tnil, v_tcons, w_iex, w_irng1, w_irng2, w_ienm, w_izip, w_iscr, w_evB, w_asg, w_own, w_par, w_pnil, w_pcons, w_app, w_frz, w_sset, w_cels, v_ifs, te_cmp, te_cmp2, te_nt, te_one, te_an, te_or, te_ite, te_vr, te_cn, te_call, te_bi, te_ix, te_slen, te_bin, w_frs, w_jex, w_jrng1, w_jrng2, w_jenm, w_jzip, w_jscr, w_ret, w_exs, w_pas, w_brk, w_cnt, kn_nx, kn_rt, kn_bk, kn_ct, n_add, n_sub, n_lt, n_le, n_gt, n_ge, n_eq, n_ne, n_is, n_isn, t_bool, t_none, b_int, b_intb, b_abs, b_lenL, b_lenT, b_tupL, b_lstL, b_lstT, eo_some, er_some, rs_some, rs_nil, negO, revO, enumO, zipO, scrO, argO, intO, vwD, isSrc, isCel, cOk, Sl.vw, Sl.fz, lf, lf.lfAll, layS, isB, g_nm, g_tp, g_nil, g_cons, Option.bind_some, Option.map_some, List.cons_append, List.nil_append, setS, setSl, Src.get, Src.put, itemsD, seqD, iN_none, iN_int, iN_bool, iN_str, iN_list, iN_tup, iN_dict, List.map_cons, List.map_nil, List.getElem?_cons_zero, List.getElem?_cons_succ, List.set_cons_zero, List.set_cons_succ, List.foldl_cons, List.foldl_nil, List.length_cons, List.length_nil, if_true, if_false, Bool.false_eq_true, ne_eq, reduceCtorEq, not_false_eq_true, implies_true, true_and, and_true, Bool.not_true, Bool.not_false, Bool.not_eq_true']
  refine rs_cons.mpr ?_
  simp only [w_vr, w_cn, w_bin, w_neg, v_nt, w_cmp, w_cmp2, w_an, w_or, w_one, v_ite, w_tup, w_lst, w_call, w_bi, w_ix, w_sl, w_rv, w_dsp, w_lc, w_sget, w_slen, w_spop, w_nil, w_cons, w_star, w_anil, w_avr, w_aex, w_tnil, v_tcons, w_iex, w_irng1, w_irng2, w_ienm, w_izip, w_iscr, w_evB, w_asg, w_own, w_par, w_pnil, w_pcons, w_app, w_frz, w_sset, w_cels, v_ifs, te_cmp, te_cmp2, te_nt, te_one, te_an, te_or, te_ite, te_vr, te_cn, te_call, te_bi, te_ix, te_slen, te_bin, w_frs, w_jex, w_jrng1, w_jrng2, w_jenm, w_jzip, w_jscr, w_ret, w_exs, w_pas, w_brk, w_cnt, kn_nx, kn_rt, kn_bk, kn_ct, n_add, n_sub, n_lt, n_le, n_gt, n_ge, n_eq, n_ne, n_is, n_isn, t_bool, t_none, b_int, b_intb, b_abs, b_lenL, b_lenT, b_tupL, b_lstL, b_lstT, eo_some, er_some, rs_some, rs_nil, negO, revO, enumO, zipO, scrO, argO, intO, vwD, isSrc, isCel, cOk, Sl.vw, Sl.fz, lf, lf.lfAll, layS, isB, g_nm, g_tp, g_nil, g_cons, Option.bind_some, Option.map_some, List.cons_append, List.nil_append, setS, setSl, Src.get, Src.put, itemsD, seqD, iN_none, iN_int, iN_bool, iN_str, iN_list, iN_tup, iN_dict, List.map_cons, List.map_nil, List.getElem?_cons_zero, List.getElem?_cons_succ, List.set_cons_zero, List.set_cons_succ, List.foldl_cons, List.foldl_nil, List.length_cons, List.length_nil, if_true, if_false, Bool.false_eq_true, ne_eq, reduceCtorEq, not_false_eq_true, implies_true, true_and, and_true, Bool.not_true, Bool.not_false, Bool.not_eq_true']
  refine rs_cons.mpr ?_
  simp only [w_vr, w_cn, w_bin, w_neg, v_nt, w_cmp, w_cmp2, w_an, w_or, w_one, v_ite, w_tup, w_lst, w_call, w_bi, w_ix, w_sl, w_rv, w_dsp, w_lc, w_sget, w_slen, w_spop, w_nil, w_cons, w_star, w_anil, w_avr, w_aex, w_tnil, v_tcons, w_iex, w_irng1, w_irng2, w_ienm, w_izip, w_iscr, w_evB, w_asg, w_own, w_par, w_pnil, w_pcons, w_app, w_frz, w_sset, w_cels, v_ifs, te_cmp, te_cmp2, te_nt, te_one, te_an, te_or, te_ite, te_vr, te_cn, te_call, te_bi, te_ix, te_slen, te_bin, w_frs, w_jex, w_jrng1, w_jrng2, w_jenm, w_jzip, w_jscr, w_ret, w_exs, w_pas, w_brk, w_cnt, kn_nx, kn_rt, kn_bk, kn_ct, n_add, n_sub, n_lt, n_le, n_gt, n_ge, n_eq, n_ne, n_is, n_isn, t_bool, t_none, b_int, b_intb, b_abs, b_lenL, b_lenT, b_tupL, b_lstL, b_lstT, eo_some, er_some, rs_some, rs_nil, negO, revO, enumO, zipO, scrO, argO, intO, vwD, isSrc, isCel, cOk, Sl.vw, Sl.fz, lf, lf.lfAll, layS, isB, g_nm, g_tp, g_nil, g_cons, Option.bind_some, Option.map_some, List.cons_append, List.nil_append, setS, setSl, Src.get, Src.put, itemsD, seqD, iN_none, iN_int, iN_bool, iN_str, iN_list, iN_tup, iN_dict, List.map_cons, List.map_nil, List.getElem?_cons_zero, List.getElem?_cons_succ, List.set_cons_zero, List.set_cons_succ, List.foldl_cons, List.foldl_nil, List.length_cons, List.length_nil, if_true, if_false, Bool.false_eq_true, ne_eq, reduceCtorEq, not_false_eq_true, implies_true, true_and, and_true, Bool.not_true, Bool.not_false, Bool.not_eq_true']
  rw [n_mul (mulOk_r (by decide))]
  simp only [w_vr, w_cn, w_bin, w_neg, v_nt, w_cmp, w_cmp2, w_an, w_or, w_one, v_ite, w_tup, w_lst, w_call, w_bi, w_ix, w_sl, w_rv, w_dsp, w_lc, w_sget, w_slen, w_spop, w_nil, w_cons, w_star, w_anil, w_avr, w_aex, w_tnil, v_tcons, w_iex, w_irng1, w_irng2, w_ienm, w_izip, w_iscr, w_evB, w_asg, w_own, w_par, w_pnil, w_pcons, w_app, w_frz, w_sset, w_cels, v_ifs, te_cmp, te_cmp2, te_nt, te_one, te_an, te_or, te_ite, te_vr, te_cn, te_call, te_bi, te_ix, te_slen, te_bin, w_frs, w_jex, w_jrng1, w_jrng2, w_jenm, w_jzip, w_jscr, w_ret, w_exs, w_pas, w_brk, w_cnt, kn_nx, kn_rt, kn_bk, kn_ct, n_add, n_sub, n_lt, n_le, n_gt, n_ge, n_eq, n_ne, n_is, n_isn, t_bool, t_none, b_int, b_intb, b_abs, b_lenL, b_lenT, b_tupL, b_lstL, b_lstT, eo_some, er_some, rs_some, rs_nil, negO, revO, enumO, zipO, scrO, argO, intO, vwD, isSrc, isCel, cOk, Sl.vw, Sl.fz, lf, lf.lfAll, layS, isB, g_nm, g_tp, g_nil, g_cons, Option.bind_some, Option.map_some, List.cons_append, List.nil_append, setS, setSl, Src.get, Src.put, itemsD, seqD, iN_none, iN_int, iN_bool, iN_str, iN_list, iN_tup, iN_dict, List.map_cons, List.map_nil, List.getElem?_cons_zero, List.getElem?_cons_succ, List.set_cons_zero, List.set_cons_succ, List.foldl_cons, List.foldl_nil, List.length_cons, List.length_nil, if_true, if_false, Bool.false_eq_true, ne_eq, reduceCtorEq, not_false_eq_true, implies_true, true_and, and_true, Bool.not_true, Bool.not_false, Bool.not_eq_true']
  rw [n_mod (by decide)]
  generalize hk : (_ % 998244353 : Int) = k
  have k1 : 0 ≤ k := by rw [← hk]; exact Int.emod_nonneg _ (by decide)
  have k2 : k < 998244353 := by rw [← hk]; exact Int.emod_lt_of_pos _ (by decide)
  refine rs_cons.mpr ?_
  simp only [w_vr, w_cn, w_bin, w_neg, v_nt, w_cmp, w_cmp2, w_an, w_or, w_one, v_ite, w_tup, w_lst, w_call, w_bi, w_ix, w_sl, w_rv, w_dsp, w_lc, w_sget, w_slen, w_spop, w_nil, w_cons, w_star, w_anil, w_avr, w_aex, w_tnil, v_tcons, w_iex, w_irng1, w_irng2, w_ienm, w_izip, w_iscr, w_evB, w_asg, w_own, w_par, w_pnil, w_pcons, w_app, w_frz, w_sset, w_cels, v_ifs, te_cmp, te_cmp2, te_nt, te_one, te_an, te_or, te_ite, te_vr, te_cn, te_call, te_bi, te_ix, te_slen, te_bin, w_frs, w_jex, w_jrng1, w_jrng2, w_jenm, w_jzip, w_jscr, w_ret, w_exs, w_pas, w_brk, w_cnt, kn_nx, kn_rt, kn_bk, kn_ct, n_add, n_sub, n_lt, n_le, n_gt, n_ge, n_eq, n_ne, n_is, n_isn, t_bool, t_none, b_int, b_intb, b_abs, b_lenL, b_lenT, b_tupL, b_lstL, b_lstT, eo_some, er_some, rs_some, rs_nil, negO, revO, enumO, zipO, scrO, argO, intO, vwD, isSrc, isCel, cOk, Sl.vw, Sl.fz, lf, lf.lfAll, layS, isB, g_nm, g_tp, g_nil, g_cons, Option.bind_some, Option.map_some, List.cons_append, List.nil_append, setS, setSl, Src.get, Src.put, itemsD, seqD, iN_none, iN_int, iN_bool, iN_str, iN_list, iN_tup, iN_dict, List.map_cons, List.map_nil, List.getElem?_cons_zero, List.getElem?_cons_succ, List.set_cons_zero, List.set_cons_succ, List.foldl_cons, List.foldl_nil, List.length_cons, List.length_nil, if_true, if_false, Bool.false_eq_true, ne_eq, reduceCtorEq, not_false_eq_true, implies_true, true_and, and_true, Bool.not_true, Bool.not_false, Bool.not_eq_true']
  rw [n_mul (mulOk_r (by omega)), n_mul (mulOk_r (by decide))]
  simp only [w_vr, w_cn, w_bin, w_neg, v_nt, w_cmp, w_cmp2, w_an, w_or, w_one, v_ite, w_tup, w_lst, w_call, w_bi, w_ix, w_sl, w_rv, w_dsp, w_lc, w_sget, w_slen, w_spop, w_nil, w_cons, w_star, w_anil, w_avr, w_aex, w_tnil, v_tcons, w_iex, w_irng1, w_irng2, w_ienm, w_izip, w_iscr, w_evB, w_asg, w_own, w_par, w_pnil, w_pcons, w_app, w_frz, w_sset, w_cels, v_ifs, te_cmp, te_cmp2, te_nt, te_one, te_an, te_or, te_ite, te_vr, te_cn, te_call, te_bi, te_ix, te_slen, te_bin, w_frs, w_jex, w_jrng1, w_jrng2, w_jenm, w_jzip, w_jscr, w_ret, w_exs, w_pas, w_brk, w_cnt, kn_nx, kn_rt, kn_bk, kn_ct, n_add, n_sub, n_lt, n_le, n_gt, n_ge, n_eq, n_ne, n_is, n_isn, t_bool, t_none, b_int, b_intb, b_abs, b_lenL, b_lenT, b_tupL, b_lstL, b_lstT, eo_some, er_some, rs_some, rs_nil, negO, revO, enumO, zipO, scrO, argO, intO, vwD, isSrc, isCel, cOk, Sl.vw, Sl.fz, lf, lf.lfAll, layS, isB, g_nm, g_tp, g_nil, g_cons, Option.bind_some, Option.map_some, List.cons_append, List.nil_append, setS, setSl, Src.get, Src.put, itemsD, seqD, iN_none, iN_int, iN_bool, iN_str, iN_list, iN_tup, iN_dict, List.map_cons, List.map_nil, List.getElem?_cons_zero, List.getElem?_cons_succ, List.set_cons_zero, List.set_cons_succ, List.foldl_cons, List.foldl_nil, List.length_cons, List.length_nil, if_true, if_false, Bool.false_eq_true, ne_eq, reduceCtorEq, not_false_eq_true, implies_true, true_and, and_true, Bool.not_true, Bool.not_false, Bool.not_eq_true']
  rw [n_mod (by decide)]
  refine rs_cons.mpr ?_
  simp only [w_vr, w_cn, w_bin, w_neg, v_nt, w_cmp, w_cmp2, w_an, w_or, w_one, v_ite, w_tup, w_lst, w_call, w_bi, w_ix, w_sl, w_rv, w_dsp, w_lc, w_sget, w_slen, w_spop, w_nil, w_cons, w_star, w_anil, w_avr, w_aex, w_tnil, v_tcons, w_iex, w_irng1, w_irng2, w_ienm, w_izip, w_iscr, w_evB, w_asg, w_own, w_par, w_pnil, w_pcons, w_app, w_frz, w_sset, w_cels, v_ifs, te_cmp, te_cmp2, te_nt, te_one, te_an, te_or, te_ite, te_vr, te_cn, te_call, te_bi, te_ix, te_slen, te_bin, w_frs, w_jex, w_jrng1, w_jrng2, w_jenm, w_jzip, w_jscr, w_ret, w_exs, w_pas, w_brk, w_cnt, kn_nx, kn_rt, kn_bk, kn_ct, n_add, n_sub, n_lt, n_le, n_gt, n_ge, n_eq, n_ne, n_is, n_isn, t_bool, t_none, b_int, b_intb, b_abs, b_lenL, b_lenT, b_tupL, b_lstL, b_lstT, eo_some, er_some, rs_some, rs_nil, negO, revO, enumO, zipO, scrO, argO, intO, vwD, isSrc, isCel, cOk, Sl.vw, Sl.fz, lf, lf.lfAll, layS, isB, g_nm, g_tp, g_nil, g_cons, Option.bind_some, Option.map_some, List.cons_append, List.nil_append, setS, setSl, Src.get, Src.put, itemsD, seqD, iN_none, iN_int, iN_bool, iN_str, iN_list, iN_tup, iN_dict, List.map_cons, List.map_nil, List.getElem?_cons_zero, List.getElem?_cons_succ, List.set_cons_zero, List.set_cons_succ, List.foldl_cons, List.foldl_nil, List.length_cons, List.length_nil, if_true, if_false, Bool.false_eq_true, ne_eq, reduceCtorEq, not_false_eq_true, implies_true, true_and, and_true, Bool.not_true, Bool.not_false, Bool.not_eq_true']
  rw [n_fdiv (by decide) (by decide)]
  simp only [w_vr, w_cn, w_bin, w_neg, v_nt, w_cmp, w_cmp2, w_an, w_or, w_one, v_ite, w_tup, w_lst, w_call, w_bi, w_ix, w_sl, w_rv, w_dsp, w_lc, w_sget, w_slen, w_spop, w_nil, w_cons, w_star, w_anil, w_avr, w_aex, w_tnil, v_tcons, w_iex, w_irng1, w_irng2, w_ienm, w_izip, w_iscr, w_evB, w_asg, w_own, w_par, w_pnil, w_pcons, w_app, w_frz, w_sset, w_cels, v_ifs, te_cmp, te_cmp2, te_nt, te_one, te_an, te_or, te_ite, te_vr, te_cn, te_call, te_bi, te_ix, te_slen, te_bin, w_frs, w_jex, w_jrng1, w_jrng2, w_jenm, w_jzip, w_jscr, w_ret, w_exs, w_pas, w_brk, w_cnt, kn_nx, kn_rt, kn_bk, kn_ct, n_add, n_sub, n_lt, n_le, n_gt, n_ge, n_eq, n_ne, n_is, n_isn, t_bool, t_none, b_int, b_intb, b_abs, b_lenL, b_lenT, b_tupL, b_lstL, b_lstT, eo_some, er_some, rs_some, rs_nil, negO, revO, enumO, zipO, scrO, argO, intO, vwD, isSrc, isCel, cOk, Sl.vw, Sl.fz, lf, lf.lfAll, layS, isB, g_nm, g_tp, g_nil, g_cons, Option.bind_some, Option.map_some, List.cons_append, List.nil_append, setS, setSl, Src.get, Src.put, itemsD, seqD, iN_none, iN_int, iN_bool, iN_str, iN_list, iN_tup, iN_dict, List.map_cons, List.map_nil, List.getElem?_cons_zero, List.getElem?_cons_succ, List.set_cons_zero, List.set_cons_succ, List.foldl_cons, List.foldl_nil, List.length_cons, List.length_nil, if_true, if_false, Bool.false_eq_true, ne_eq, reduceCtorEq, not_false_eq_true, implies_true, true_and, and_true, Bool.not_true, Bool.not_false, Bool.not_eq_true', n_mod n0]
  exact ⟨_, rfl, Int.emod_nonneg _ (by omega), Int.emod_lt_of_pos _ n0, h1'⟩
end
end Pyl

/-! Pyl24: plain laws: the maker, the law, comprehensions. -/
namespace Pyl
open PySem
section
variable {Φ : Nat → List Vw → Src → R PyData}
theorem mkT_of {mk : Mk} {ns : List Int} (h : Rs (exSs Φ mk.pre (Sl.scr ns :: List.replicate (mk.names.length - 1) .no) S00) fun f ρ S => f = .nx ∧ Er (evE Φ mk.cells (ρ.map Sl.vw) S) fun x S1 => ∃ cs : List Int, x = .list (cs.map .int) ∧ cs.length ≤ 63 ∧ Er (evE Φ mk.mixed (ρ.map Sl.vw) S1) fun y _ => ∃ i, y = .int i) : ∃ S, mkT Φ mk ns = some S ∧ SOk S := by
  obtain ⟨f, ρ, S, e1, rfl, x, S1, e2, cs, rfl, hl, y, S2, e3, i, rfl⟩ := h
  refine ⟨⟨cs, 1, i, 0⟩, ?_, hl⟩
  unfold mkT
  simp only [e1, e2, e3, Option.bind_some, Option.map_some, listD, ints_map, intO]
theorem lawT_of {T : List Fd} {d N i : Nat} {mk : Mk} {body : Sts} {ns : List Int} (I : Src → Prop) (hm : ∃ S, mkT (callT T d) mk ns = some S ∧ I S) (h : ∀ S, I S → Rs (exSs (callT T d) body ((Sl.scr ns :: List.replicate (N - 1) .no).set i .src) S) fun f _ _ => f = .rt (.bool true)) : lawT T d mk N i body ns = some (.bool true) := by
  obtain ⟨S, e, hi⟩ := hm
  obtain ⟨f, ρ, S1, e1, rfl⟩ := h S hi
  unfold lawT
  rw [e]
  show (match exSs (callT T d) body ((Sl.scr ns :: List.replicate (N - 1) .no).set i .src) S with
    | some (.rt v, _, _) => some v
    | _ => none) = _
  rw [e1]
/-- a comprehension that draws nothing -/
theorem runC_pure {f : PyData → Src → Option (Option PyData × Src)} {g : PyData → Option PyData} {S : Src} : ∀ {xs : List PyData}, (∀ x ∈ xs, f x S = some (g x, S)) → runC f xs S = some (xs.filterMap g, S)
  | [], _ => rfl
  | x :: xs, h => by
    simp only [runC, h x (by simp), Option.bind_some, runC_pure (g := g) fun y hy => h y (List.mem_cons_of_mem _ hy), Option.map_some, List.filterMap_cons]
    cases g x <;> rfl
/-- .. of the numbers of a list -/
theorem er_runI {f : PyData → Src → Option (Option PyData × Src)} (I : Src → Prop) (Q : PyData → Prop) : ∀ {xs : List PyData} {S : Src}, I S → (∀ x ∈ xs, ∀ S, I S → Er (f x S) fun o S' => (∃ y, o = some y ∧ Q y) ∧ I S') → Er (runC f xs S) fun ys S' => ys.length = xs.length ∧ (∀ y ∈ ys, Q y) ∧ I S'
  | [], S, i, _ => ⟨[], S, rfl, rfl, fun y hy => (by cases hy), i⟩
  | x :: xs, S, i, h => by
    obtain ⟨o, S1, e1, ⟨y, rfl, q⟩, i1⟩ := h x (by simp) S i
    obtain ⟨ys, S2, e2, l2, q2, i2⟩ := er_runI I Q i1 fun z hz => h z (List.mem_cons_of_mem _ hz)
    refine ⟨y :: ys, S2, by simp only [runC, e1, Option.bind_some, e2, Option.map_some]; rfl, by rw [List.length_cons, List.length_cons, l2], fun z hz => ?_, i2⟩
    rcases List.mem_cons.mp hz with rfl | hz
    · exact q
    · exact q2 z hz
theorem er_runP {f : PyData → Src → Option (Option PyData × Src)} (g : PyData → Option PyData) {xs : List PyData} {S : Src} {P : List PyData → Src → Prop} (h : ∀ x ∈ xs, Er (f x S) fun o S' => o = g x ∧ S' = S) (p : P (xs.filterMap g) S) : Er (runC f xs S) P :=
  ⟨_, _, runC_pure (g := g) (fun x hx => by obtain ⟨o, S', e, rfl, rfl⟩ := h x hx; exact e), p⟩
theorem b_repr {d : PyData} {P : PyData → Prop} (h : reprOk d = true) : Eo (biD .repr [d]) P ↔ P (.str d.shown) := by
  simp only [biD, reprD, h, if_true, eo_some]
theorem n_ne_same {x : Str} {Q : Bool → Prop} : Eo (cmpD .ne (.str x) (.str x)) Q ↔ Q false := by
  have : PyData.eqv (.str x) (.str x) = true := by simp [PyData.eqv]
  simp only [cmpD, eqOk, if_true, this, Bool.not_true, eo_some]
theorem n_eq_same {x : Str} {Q : Bool → Prop} : Eo (cmpD .eq (.str x) (.str x)) Q ↔ Q true := by
  have : PyData.eqv (.str x) (.str x) = true := by simp [PyData.eqv]
  simp only [cmpD, eqOk, if_true, this, eo_some]
theorem ints_of_all : ∀ {ys : List PyData}, (∀ y ∈ ys, ∃ i : Int, y = .int i) → ∃ cs : List Int, ys = cs.map .int
  | [], _ => ⟨[], rfl⟩
  | y :: ys, h => by
    obtain ⟨i, rfl⟩ := h y (by simp)
    obtain ⟨cs, rfl⟩ := ints_of_all fun z hz => h z (List.mem_cons_of_mem _ hz)
    exact ⟨i :: cs, rfl⟩
/-- the first maker -/
def mkA : Mk := ⟨"_law_open_cells", ["script", "stirred", "cell", "cells"], (.cons (.asg false (.nm 1) (.cn (.int 11))) (.cons (.frs (.nm 2) (.scr 0) (.cons (.asg false (.nm 1) (.bin .mod (.bi .int (.cons false (.bin .add (.bin .add (.bin .mul (.vr 1) (.cn (.int 69069))) (.bin .mul (.vr 2) (.cn (.int 31)))) (.cn (.int 5))) .nil)) (.cn (.int 2147483629)))) .nil)) (.cons (.asg false (.nm 3) (.lc (.bi .abs (.cons false (.vr 2) .nil)) (.nm 2) (.scr 0) .nil [("cell", 2)])) .nil))), (.rv (.vr 3)), (.vr 1)⟩
theorem mkA_ok {x : Str} {ns : List Int} (h : ns.length ≤ 63) : ∃ S, mkT Φ { mkA with name := x } ns = some S ∧ SOk S := by
  refine mkT_of ?_
  show Rs (exSs Φ mkA.pre [.scr ns, .no, .no, .no] S00) _
  unfold mkA
  refine rs_cons.mpr ?_
  simp only [w_vr, w_cn, w_bin, w_neg, v_nt, w_cmp, w_cmp2, w_an, w_or, w_one, v_ite, w_tup, w_lst, w_call, w_bi, w_ix, w_sl, w_rv, w_dsp, w_lc, w_sget, w_slen, w_spop, w_nil, w_cons, w_star, w_anil, w_avr, w_aex, w_tnil, v_tcons, w_iex, w_irng1, w_irng2, w_ienm, w_izip, w_iscr, w_evB, w_asg, w_own, w_par, w_pnil, w_pcons, w_app, w_frz, w_sset, w_cels, v_ifs, te_cmp, te_cmp2, te_nt, te_one, te_an, te_or, te_ite, te_vr, te_cn, te_call, te_bi, te_ix, te_slen, te_bin, w_frs, w_jex, w_jrng1, w_jrng2, w_jenm, w_jzip, w_jscr, w_ret, w_exs, w_pas, w_brk, w_cnt, kn_nx, kn_rt, kn_bk, kn_ct, n_add, n_sub, n_lt, n_le, n_gt, n_ge, n_eq, n_ne, n_is, n_isn, t_bool, t_none, b_int, b_intb, b_abs, b_lenL, b_lenT, b_tupL, b_lstL, b_lstT, eo_some, er_some, rs_some, rs_nil, negO, revO, enumO, zipO, scrO, argO, intO, vwD, isSrc, isCel, cOk, Sl.vw, Sl.fz, lf, lf.lfAll, layS, isB, g_nm, g_tp, g_nil, g_cons, Option.bind_some, Option.map_some, List.cons_append, List.nil_append, setS, setSl, Src.get, Src.put, itemsD, seqD, iN_none, iN_int, iN_bool, iN_str, iN_list, iN_tup, iN_dict, List.map_cons, List.map_nil, List.getElem?_cons_zero, List.getElem?_cons_succ, List.set_cons_zero, List.set_cons_succ, List.foldl_cons, List.foldl_nil, List.length_cons, List.length_nil, if_true, if_false, Bool.false_eq_true, ne_eq, reduceCtorEq, not_false_eq_true, implies_true, true_and, and_true, Bool.not_true, Bool.not_false, Bool.not_eq_true']
  refine rs_cons.mpr ?_
  simp only [w_vr, w_cn, w_bin, w_neg, v_nt, w_cmp, w_cmp2, w_an, w_or, w_one, v_ite, w_tup, w_lst, w_call, w_bi, w_ix, w_sl, w_rv, w_dsp, w_lc, w_sget, w_slen, w_spop, w_nil, w_cons, w_star, w_anil, w_avr, w_aex, w_tnil, v_tcons, w_iex, w_irng1, w_irng2, w_ienm, w_izip, w_iscr, w_evB, w_asg, w_own, w_par, w_pnil, w_pcons, w_app, w_frz, w_sset, w_cels, v_ifs, te_cmp, te_cmp2, te_nt, te_one, te_an, te_or, te_ite, te_vr, te_cn, te_call, te_bi, te_ix, te_slen, te_bin, w_frs, w_jex, w_jrng1, w_jrng2, w_jenm, w_jzip, w_jscr, w_ret, w_exs, w_pas, w_brk, w_cnt, kn_nx, kn_rt, kn_bk, kn_ct, n_add, n_sub, n_lt, n_le, n_gt, n_ge, n_eq, n_ne, n_is, n_isn, t_bool, t_none, b_int, b_intb, b_abs, b_lenL, b_lenT, b_tupL, b_lstL, b_lstT, eo_some, er_some, rs_some, rs_nil, negO, revO, enumO, zipO, scrO, argO, intO, vwD, isSrc, isCel, cOk, Sl.vw, Sl.fz, lf, lf.lfAll, layS, isB, g_nm, g_tp, g_nil, g_cons, Option.bind_some, Option.map_some, List.cons_append, List.nil_append, setS, setSl, Src.get, Src.put, itemsD, seqD, iN_none, iN_int, iN_bool, iN_str, iN_list, iN_tup, iN_dict, List.map_cons, List.map_nil, List.getElem?_cons_zero, List.getElem?_cons_succ, List.set_cons_zero, List.set_cons_succ, List.foldl_cons, List.foldl_nil, List.length_cons, List.length_nil, if_true, if_false, Bool.false_eq_true, ne_eq, reduceCtorEq, not_false_eq_true, implies_true, true_and, and_true, Bool.not_true, Bool.not_false, Bool.not_eq_true']
  refine Rs.imp (P := fun f ρ S => f = .nx ∧ ∃ i c, ρ = [.scr ns, .d (.int i), c, .no]) (rs_for (fun xs ρ S => (∃ js : List Int, xs = js.map .int) ∧ ∃ i c, ρ = [.scr ns, .d (.int i), c, .no]) ?_ ?_ _ _ _ ⟨⟨ns, rfl⟩, _, _, rfl⟩) ?_
  · rintro x xs ρ S ⟨⟨js, hj⟩, i, c, rfl⟩
    cases js with
    | nil => cases hj
    | cons j js =>
      cases hj
      simp only [rs_obind, w_vr, w_cn, w_bin, w_neg, v_nt, w_cmp, w_cmp2, w_an, w_or, w_one, v_ite, w_tup, w_lst, w_call, w_bi, w_ix, w_sl, w_rv, w_dsp, w_lc, w_sget, w_slen, w_spop, w_nil, w_cons, w_star, w_anil, w_avr, w_aex, w_tnil, v_tcons, w_iex, w_irng1, w_irng2, w_ienm, w_izip, w_iscr, w_evB, w_asg, w_own, w_par, w_pnil, w_pcons, w_app, w_frz, w_sset, w_cels, v_ifs, te_cmp, te_cmp2, te_nt, te_one, te_an, te_or, te_ite, te_vr, te_cn, te_call, te_bi, te_ix, te_slen, te_bin, w_frs, w_jex, w_jrng1, w_jrng2, w_jenm, w_jzip, w_jscr, w_ret, w_exs, w_pas, w_brk, w_cnt, kn_nx, kn_rt, kn_bk, kn_ct, n_add, n_sub, n_lt, n_le, n_gt, n_ge, n_eq, n_ne, n_is, n_isn, t_bool, t_none, b_int, b_intb, b_abs, b_lenL, b_lenT, b_tupL, b_lstL, b_lstT, eo_some, er_some, rs_some, rs_nil, negO, revO, enumO, zipO, scrO, argO, intO, vwD, isSrc, isCel, cOk, Sl.vw, Sl.fz, lf, lf.lfAll, layS, isB, g_nm, g_tp, g_nil, g_cons, Option.bind_some, Option.map_some, List.cons_append, List.nil_append, setS, setSl, Src.get, Src.put, itemsD, seqD, iN_none, iN_int, iN_bool, iN_str, iN_list, iN_tup, iN_dict, List.map_cons, List.map_nil, List.getElem?_cons_zero, List.getElem?_cons_succ, List.set_cons_zero, List.set_cons_succ, List.foldl_cons, List.foldl_nil, List.length_cons, List.length_nil, if_true, if_false, Bool.false_eq_true, ne_eq, reduceCtorEq, not_false_eq_true, implies_true, true_and, and_true, Bool.not_true, Bool.not_false, Bool.not_eq_true']
      refine rs_cons.mpr ?_
      simp only [w_vr, w_cn, w_bin, w_neg, v_nt, w_cmp, w_cmp2, w_an, w_or, w_one, v_ite, w_tup, w_lst, w_call, w_bi, w_ix, w_sl, w_rv, w_dsp, w_lc, w_sget, w_slen, w_spop, w_nil, w_cons, w_star, w_anil, w_avr, w_aex, w_tnil, v_tcons, w_iex, w_irng1, w_irng2, w_ienm, w_izip, w_iscr, w_evB, w_asg, w_own, w_par, w_pnil, w_pcons, w_app, w_frz, w_sset, w_cels, v_ifs, te_cmp, te_cmp2, te_nt, te_one, te_an, te_or, te_ite, te_vr, te_cn, te_call, te_bi, te_ix, te_slen, te_bin, w_frs, w_jex, w_jrng1, w_jrng2, w_jenm, w_jzip, w_jscr, w_ret, w_exs, w_pas, w_brk, w_cnt, kn_nx, kn_rt, kn_bk, kn_ct, n_add, n_sub, n_lt, n_le, n_gt, n_ge, n_eq, n_ne, n_is, n_isn, t_bool, t_none, b_int, b_intb, b_abs, b_lenL, b_lenT, b_tupL, b_lstL, b_lstT, eo_some, er_some, rs_some, rs_nil, negO, revO, enumO, zipO, scrO, argO, intO, vwD, isSrc, isCel, cOk, Sl.vw, Sl.fz, lf, lf.lfAll, layS, isB, g_nm, g_tp, g_nil, g_cons, Option.bind_some, Option.map_some, List.cons_append, List.nil_append, setS, setSl, Src.get, Src.put, itemsD, seqD, iN_none, iN_int, iN_bool, iN_str, iN_list, iN_tup, iN_dict, List.map_cons, List.map_nil, List.getElem?_cons_zero, List.getElem?_cons_succ, List.set_cons_zero, List.set_cons_succ, List.foldl_cons, List.foldl_nil, List.length_cons, List.length_nil, if_true, if_false, Bool.false_eq_true, ne_eq, reduceCtorEq, not_false_eq_true, implies_true, true_and, and_true, Bool.not_true, Bool.not_false, Bool.not_eq_true', n_mul (mulOk_r (show (69069 : Int).natAbs < 2 ^ 64 by decide)), n_mul (mulOk_r (show (31 : Int).natAbs < 2 ^ 64 by decide)), n_mod (show (0 : Int) < 2147483629 by decide)]
      exact ⟨⟨js, rfl⟩, _, _, rfl⟩
  · rintro ρ S ⟨_, i, c, rfl⟩
    exact ⟨rfl, i, c, rfl⟩
  rintro f ρ S ⟨rfl, i, c, rfl⟩
  refine kn_nx.mpr (rs_cons.mpr ?_)
  simp only [w_vr, w_cn, w_bin, w_neg, v_nt, w_cmp, w_cmp2, w_an, w_or, w_one, v_ite, w_tup, w_lst, w_call, w_bi, w_ix, w_sl, w_rv, w_dsp, w_lc, w_sget, w_slen, w_spop, w_nil, w_cons, w_star, w_anil, w_avr, w_aex, w_tnil, v_tcons, w_iex, w_irng1, w_irng2, w_ienm, w_izip, w_iscr, w_evB, w_asg, w_own, w_par, w_pnil, w_pcons, w_app, w_frz, w_sset, w_cels, v_ifs, te_cmp, te_cmp2, te_nt, te_one, te_an, te_or, te_ite, te_vr, te_cn, te_call, te_bi, te_ix, te_slen, te_bin, w_frs, w_jex, w_jrng1, w_jrng2, w_jenm, w_jzip, w_jscr, w_ret, w_exs, w_pas, w_brk, w_cnt, kn_nx, kn_rt, kn_bk, kn_ct, n_add, n_sub, n_lt, n_le, n_gt, n_ge, n_eq, n_ne, n_is, n_isn, t_bool, t_none, b_int, b_intb, b_abs, b_lenL, b_lenT, b_tupL, b_lstL, b_lstT, eo_some, er_some, rs_some, rs_nil, negO, revO, enumO, zipO, scrO, argO, intO, vwD, isSrc, isCel, cOk, Sl.vw, Sl.fz, lf, lf.lfAll, layS, isB, g_nm, g_tp, g_nil, g_cons, Option.bind_some, Option.map_some, List.cons_append, List.nil_append, setS, setSl, Src.get, Src.put, itemsD, seqD, iN_none, iN_int, iN_bool, iN_str, iN_list, iN_tup, iN_dict, List.map_cons, List.map_nil, List.getElem?_cons_zero, List.getElem?_cons_succ, List.set_cons_zero, List.set_cons_succ, List.foldl_cons, List.foldl_nil, List.length_cons, List.length_nil, if_true, if_false, Bool.false_eq_true, ne_eq, reduceCtorEq, not_false_eq_true, implies_true, true_and, and_true, Bool.not_true, Bool.not_false, Bool.not_eq_true']
  refine Er.imp (er_runI (fun _ => True) (fun y => ∃ k : Int, y = .int k) trivial ?_) ?_
  · intro x hx S1 _
    obtain ⟨j, _, rfl⟩ := List.mem_map.mp hx
    simp only [w_vr, w_cn, w_bin, w_neg, v_nt, w_cmp, w_cmp2, w_an, w_or, w_one, v_ite, w_tup, w_lst, w_call, w_bi, w_ix, w_sl, w_rv, w_dsp, w_lc, w_sget, w_slen, w_spop, w_nil, w_cons, w_star, w_anil, w_avr, w_aex, w_tnil, v_tcons, w_iex, w_irng1, w_irng2, w_ienm, w_izip, w_iscr, w_evB, w_asg, w_own, w_par, w_pnil, w_pcons, w_app, w_frz, w_sset, w_cels, v_ifs, te_cmp, te_cmp2, te_nt, te_one, te_an, te_or, te_ite, te_vr, te_cn, te_call, te_bi, te_ix, te_slen, te_bin, w_frs, w_jex, w_jrng1, w_jrng2, w_jenm, w_jzip, w_jscr, w_ret, w_exs, w_pas, w_brk, w_cnt, kn_nx, kn_rt, kn_bk, kn_ct, n_add, n_sub, n_lt, n_le, n_gt, n_ge, n_eq, n_ne, n_is, n_isn, t_bool, t_none, b_int, b_intb, b_abs, b_lenL, b_lenT, b_tupL, b_lstL, b_lstT, eo_some, er_some, rs_some, rs_nil, negO, revO, enumO, zipO, scrO, argO, intO, vwD, isSrc, isCel, cOk, Sl.vw, Sl.fz, lf, lf.lfAll, layS, isB, g_nm, g_tp, g_nil, g_cons, Option.bind_some, Option.map_some, List.cons_append, List.nil_append, setS, setSl, Src.get, Src.put, itemsD, seqD, iN_none, iN_int, iN_bool, iN_str, iN_list, iN_tup, iN_dict, List.map_cons, List.map_nil, List.getElem?_cons_zero, List.getElem?_cons_succ, List.set_cons_zero, List.set_cons_succ, List.foldl_cons, List.foldl_nil, List.length_cons, List.length_nil, if_true, if_false, Bool.false_eq_true, ne_eq, reduceCtorEq, not_false_eq_true, implies_true, true_and, and_true, Bool.not_true, Bool.not_false, Bool.not_eq_true', w_turn, wipeV, setAllV]
    exact ⟨_, rfl, _, rfl⟩
  · rintro ys S1 ⟨hl, hq, _⟩
    obtain ⟨cs, rfl⟩ := ints_of_all hq
    refine ⟨cs.reverse, by rw [List.map_reverse], ?_, i, rfl⟩
    rw [List.length_reverse]
    simpa using (show (cs.map PyData.int).length ≤ 63 by rw [hl, List.length_map]; exact h)
end
end Pyl

namespace K17
open PySem PySem.Spec PyProof.Rows L2 Pyl
def top (i : Nat) : Stmt := PySem.Challenge.pw_evenlytied_k17_whole_degrees_let.main.body.getD i (.Pass ⟨0, 0, 0, 0⟩)
def c__law_pick : Sts := (.cons (.ifs (.cmp .lt (.vr 1) (.cn (.int 2))) (.cons (.ret (.cn (.int 0))) .nil) .nil) (.cons (.cels 2 0) (.cons (.whl (.an (.cmp .lt (.sget 0 .left) (.cn (.int 2))) (.one (.cmp .gt (.slen 2 false) (.cn (.int 0))))) (.cons (.sset 0 .left (.spop 2 false)) .nil)) (.cons (.asg false (.nm 3) (.sget 0 .left)) (.cons (.ifs (.cmp .gt (.vr 3) (.cn (.int 1))) (.cons (.sset 0 .left (.bin .fdiv (.vr 3) (.vr 1))) (.cons (.ret (.bin .mod (.bi .int (.cons false (.vr 3) .nil)) (.vr 1))) .nil)) .nil) (.cons (.sset 0 .turn (.bin .add (.sget 0 .turn) (.cn (.int 1)))) (.cons (.asg false (.nm 4) (.sget 0 .turn)) (.cons (.asg false (.nm 5) (.bin .mod (.bi .int (.cons false (.bin .add (.sget 0 .mixed) (.bin .mul (.vr 4) (.cn (.int 104729)))) .nil)) (.cn (.int 998244353)))) (.cons (.asg false (.nm 5) (.bin .mod (.bi .int (.cons false (.bin .add (.bin .mul (.vr 5) (.vr 5)) (.bin .mul (.vr 4) (.cn (.int 17)))) .nil)) (.cn (.int 2147483647)))) (.cons (.ret (.bin .mod (.bi .int (.cons false (.bin .fdiv (.vr 5) (.cn (.int 16))) .nil)) (.vr 1))) .nil))))))))))
def f__law_pick : Fd := ⟨"_law_pick", ["source", "most", "cells", "others", "lap", "stirred"], 2, c__law_pick⟩
abbrev s__law_pick : Stmt := top 7
def c_let_degrees : Sts := (.cons (.ret (.bi .tuple (.cons false (.lc (.vr 1) (.nm 1) (.rng2 (.cn (.int 1)) (.bin .add (.vr 0) (.cn (.int 1)))) (.cons false (.or (.cmp .lt (.vr 1) (.cn (.int 3))) (.one (.cmp .isn (.call 5 (.cons false (.vr 1) .nil)) (.cn .none)))) .nil) [("k", 1)]) .nil))) .nil)
def f_let_degrees : Fd := ⟨"let_degrees", ["most", "k"], 1, c_let_degrees⟩
abbrev s_let_degrees : Stmt := top 4
def c__law_of : Sts := (.cons (.ret (.ix (.vr 1) (.call 0 (.cons false (.vr 0) (.cons false (.bi .len (.cons false (.vr 1) .nil)) .nil))))) .nil)
def f__law_of : Fd := ⟨"_law_of", ["source", "some"], 2, c__law_of⟩
abbrev s__law_of : Stmt := top 8
def c__law_times : Sts := (.cons (.asg false (.nm 1) (.cn (.int 1))) (.cons (.whl (.cmp .lt (.bin .mul (.vr 1) (.vr 1)) (.bin .sub (.bin .mul (.cn (.int 4)) (.vr 0)) (.cn (.int 3)))) (.cons (.asg false (.nm 1) (.bin .add (.vr 1) (.cn (.int 2)))) .nil)) (.cons (.ifs (.cmp .ne (.bin .mul (.vr 1) (.vr 1)) (.bin .sub (.bin .mul (.cn (.int 4)) (.vr 0)) (.cn (.int 3)))) (.cons (.ret (.cn .none)) .nil) .nil) (.cons (.own 2 .o (.lst .nil)) (.cons (.frs (.nm 3) (.ex (.tup (.cons false (.bin .fdiv (.bin .sub (.bin .add (.bin .mul (.bin .mul (.vr 0) (.vr 0)) (.vr 1)) (.bin .mul (.vr 0) (.vr 0))) (.bin .mul (.cn (.int 2)) (.vr 0))) (.bin .mul (.cn (.int 2)) (.vr 1))) (.cons false (.bin .add (.bin .fdiv (.bin .sub (.bin .add (.bin .mul (.bin .mul (.vr 0) (.vr 0)) (.vr 1)) (.bin .mul (.vr 0) (.vr 0))) (.bin .mul (.cn (.int 2)) (.vr 0))) (.bin .mul (.cn (.int 2)) (.vr 1))) (.cn (.int 1))) .nil)))) (.cons (.ifs (.an (.cmp .eq (.bin .mul (.bin .mul (.cn (.int 2)) (.vr 1)) (.vr 3)) (.bin .sub (.bin .add (.bin .mul (.bin .mul (.vr 0) (.vr 0)) (.vr 1)) (.bin .mul (.vr 0) (.vr 0))) (.bin .mul (.cn (.int 2)) (.vr 0)))) (.one (.cmp2 .lt .lt (.cn (.int 0)) (.vr 3) (.bin .mul (.vr 0) (.vr 0))))) (.cons (.app 2 false (.tup (.cons false (.bin .fdiv (.bin .sub (.vr 1) (.cn (.int 1))) (.cn (.int 2))) (.cons false (.bin .sub (.cn (.int 0)) (.bin .fdiv (.bin .add (.vr 1) (.cn (.int 1))) (.cn (.int 2)))) (.cons false (.vr 3) (.cons false (.bin .sub (.bin .mul (.vr 0) (.vr 0)) (.vr 3)) .nil)))))) .nil) .nil) .nil)) (.cons (.ret (.ite (.cmp .ne (.vr 2) (.lst .nil)) (.ix (.vr 2) (.cn (.int 0))) (.cn .none))) .nil))))))
def f__law_times : Fd := ⟨"_law_times", ["k", "s", "some", "f"], 1, c__law_times⟩
abbrev s__law_times : Stmt := top 9
def c_close_times : Sts := (.cons (.ret (.ite (.cmp .gt (.vr 0) (.cn (.int 2))) (.call 5 (.cons false (.vr 0) .nil)) (.cn .none))) .nil)
def f_close_times : Fd := ⟨"close_times", ["k"], 1, c_close_times⟩
abbrev s_close_times : Stmt := top 3
def c_parts_of_degree : Sts := (.cons (.asg false (.nm 1) (.call 6 (.cons false (.bin .sub (.bin .mul (.cn (.int 4)) (.vr 0)) (.cn (.int 3))) .nil))) (.cons (.ifs (.or (.cmp .ne (.bin .mul (.vr 1) (.vr 1)) (.bin .sub (.bin .mul (.cn (.int 4)) (.vr 0)) (.cn (.int 3)))) (.one (.cmp .ne (.bin .mod (.bin .sub (.bin .mul (.vr 0) (.vr 0)) (.bin .mul (.cn (.int 2)) (.vr 0))) (.vr 1)) (.cn (.int 0))))) (.cons (.ret (.cn .none)) .nil) .nil) (.cons (.asg false (.nm 2) (.bin .fdiv (.bin .sub (.bin .mul (.vr 0) (.vr 0)) (.bin .mul (.cn (.int 2)) (.vr 0))) (.vr 1))) (.cons (.ifs (.or (.cmp .ne (.bin .mod (.bin .add (.bin .mul (.vr 0) (.vr 0)) (.vr 2)) (.cn (.int 2))) (.cn (.int 0))) (.one (.cmp .ge (.vr 2) (.bin .mul (.vr 0) (.vr 0))))) (.cons (.ret (.cn .none)) .nil) .nil) (.cons (.ret (.tup (.cons false (.bin .fdiv (.bin .sub (.vr 1) (.cn (.int 1))) (.cn (.int 2))) (.cons false (.bin .fdiv (.bin .sub (.neg (.vr 1)) (.cn (.int 1))) (.cn (.int 2))) (.cons false (.bin .fdiv (.bin .add (.bin .mul (.vr 0) (.vr 0)) (.vr 2)) (.cn (.int 2))) (.cons false (.bin .fdiv (.bin .sub (.bin .mul (.vr 0) (.vr 0)) (.vr 2)) (.cn (.int 2))) .nil)))))) .nil)))))
def f_parts_of_degree : Fd := ⟨"parts_of_degree", ["k", "root", "apart"], 1, c_parts_of_degree⟩
abbrev s_parts_of_degree : Stmt := top 2
def c_floor_root : Sts := (.cons (.par [1, 2] [.f, .f] (.cons false (.cn (.int 0)) (.cons false (.bin .add (.vr 0) (.cn (.int 1))) .nil))) (.cons (.whl (.cmp .gt (.bin .sub (.vr 2) (.vr 1)) (.cn (.int 1))) (.cons (.asg false (.nm 3) (.bin .fdiv (.bin .add (.vr 1) (.vr 2)) (.cn (.int 2)))) (.cons (.asg false (.tp [(.nm 1), (.nm 2)]) (.ite (.cmp .le (.bin .mul (.vr 3) (.vr 3)) (.vr 0)) (.tup (.cons false (.vr 3) (.cons false (.vr 2) .nil))) (.tup (.cons false (.vr 1) (.cons false (.vr 3) .nil))))) .nil))) (.cons (.ret (.vr 1)) .nil)))
def f_floor_root : Fd := ⟨"floor_root", ["m", "low", "high", "middle"], 1, c_floor_root⟩
abbrev s_floor_root : Stmt := top 1
def theMk : Mk := ⟨"_law_open_cells", ["script", "stirred", "cell", "cells"], (.cons (.asg false (.nm 1) (.cn (.int 11))) (.cons (.frs (.nm 2) (.scr 0) (.cons (.asg false (.nm 1) (.bin .mod (.bi .int (.cons false (.bin .add (.bin .add (.bin .mul (.vr 1) (.cn (.int 69069))) (.bin .mul (.vr 2) (.cn (.int 31)))) (.cn (.int 5))) .nil)) (.cn (.int 2147483629)))) .nil)) (.cons (.asg false (.nm 3) (.lc (.bi .abs (.cons false (.vr 2) .nil)) (.nm 2) (.scr 0) .nil [("cell", 2)])) .nil))), (.rv (.vr 3)), (.vr 1)⟩
def c_law : Sts := (.cons (.asg false (.nm 2) (.bin .add (.cn (.int 1)) (.call 0 (.cons false (.vr 1) (.cons false (.cn (.int 1000)) .nil))))) (.cons (.ifs (.cmp .ne (.bi .repr (.cons false (.call 1 (.cons false (.vr 2) .nil)) .nil)) (.bi .repr (.cons false (.bi .tuple (.cons false (.lc (.vr 5) (.nm 5) (.ex (.tup (.cons false (.cn (.int 1)) (.cons false (.cn (.int 2)) (.cons false (.cn (.int 3)) (.cons false (.cn (.int 7)) (.cons false (.cn (.int 57)) .nil))))))) (.cons false (.cmp .le (.vr 5) (.vr 2)) .nil) [("k", 5)]) .nil)) .nil))) (.cons (.ret (.cn (.bool false))) .nil) .nil) (.cons (.frs (.nm 3) (.rng1 (.cn (.int 8))) (.cons (.asg false (.nm 4) (.bin .add (.cn (.int 3)) (.bin .mul (.cn (.int 2)) (.call 0 (.cons false (.vr 1) (.cons false (.cn (.int 998)) .nil)))))) (.cons (.asg false (.nm 5) (.call 2 (.cons false (.vr 1) (.cons false (.lst (.cons false (.bin .fdiv (.bin .add (.bin .mul (.vr 4) (.vr 4)) (.cn (.int 3))) (.cn (.int 4))) (.cons false (.bin .add (.cn (.int 3)) (.call 0 (.cons false (.vr 1) (.cons false (.bin .sub (.bin .pow (.cn (.int 10)) (.cn (.int 6))) (.cn (.int 3))) .nil)))) (.cons false (.bin .add (.cn (.int 3)) (.call 0 (.cons false (.vr 1) (.cons false (.cn (.int 60)) .nil)))) (.cons false (.cn (.int 3)) (.cons false (.cn (.int 7)) (.cons false (.cn (.int 57)) .nil))))))) .nil)))) (.cons (.asg false (.nm 6) (.call 3 (.cons false (.vr 5) .nil))) (.cons (.ifs (.or (.cmp .ne (.bi .repr (.cons false (.call 4 (.cons false (.vr 5) .nil)) .nil)) (.bi .repr (.cons false (.vr 6) .nil))) (.one (.cmp .ne (.cmp .isn (.vr 6) (.cn .none)) (.cmp .isin (.vr 5) (.tup (.cons false (.cn (.int 3)) (.cons false (.cn (.int 7)) (.cons false (.cn (.int 57)) .nil)))))))) (.cons (.ret (.cn (.bool false))) .nil) .nil) (.cons (.ifs (.cmp .isn (.vr 6) (.cn .none)) (.cons (.asg false (.tp [(.nm 8), (.nm 4), (.nm 9), (.nm 10)]) (.vr 6)) (.cons (.asg false (.nm 7) (.bin .add (.bin .mul (.vr 5) (.vr 5)) (.cn (.int 1)))) (.cons (.ifs (.or (.cmp .ne (.bin .add (.vr 8) (.vr 4)) (.neg (.cn (.int 1)))) (.or (.cmp .ne (.bin .mul (.vr 8) (.vr 4)) (.bin .sub (.cn (.int 1)) (.vr 5))) (.or (.cmp .ne (.bin .add (.vr 9) (.vr 10)) (.bin .sub (.vr 7) (.cn (.int 1)))) (.one (.cmp .ne (.bin .add (.bin .add (.vr 5) (.bin .mul (.vr 9) (.vr 8))) (.bin .mul (.vr 10) (.vr 4))) (.cn (.int 0))))))) (.cons (.ret (.cn (.bool false))) .nil) .nil) (.cons (.ifs (.or (.cmp .ne (.bin .add (.bin .add (.bin .mul (.vr 5) (.vr 5)) (.bin .mul (.bin .mul (.vr 9) (.vr 8)) (.vr 8))) (.bin .mul (.bin .mul (.vr 10) (.vr 4)) (.vr 4))) (.bin .mul (.vr 7) (.vr 5))) (.one (.cmp .ne (.bin .add (.bin .add (.bin .mul (.bin .mul (.vr 5) (.vr 5)) (.vr 5)) (.bin .mul (.bin .mul (.bin .mul (.vr 9) (.vr 8)) (.vr 8)) (.vr 8))) (.bin .mul (.bin .mul (.bin .mul (.vr 10) (.vr 4)) (.vr 4)) (.vr 4))) (.cn (.int 0))))) (.cons (.ret (.cn (.bool false))) .nil) .nil) .nil)))) .nil) .nil)))))) (.cons (.ret (.an (.cmp .eq (.call 4 (.cons false (.cn (.int 7)) .nil)) (.tup (.cons false (.cn (.int 2)) (.cons false (.neg (.cn (.int 3))) (.cons false (.cn (.int 28)) (.cons false (.cn (.int 21)) .nil)))))) (.an (.cmp .is (.call 4 (.cons false (.cn (.int 1)) .nil)) (.cn .none)) (.one (.cmp .is (.call 4 (.cons false (.cn (.int 2)) .nil)) (.cn .none)))))) .nil))))
def told : Told where
  rows := [⟨f__law_pick, s__law_pick, ["source", "most"]⟩, ⟨f_let_degrees, s_let_degrees, ["most"]⟩, ⟨f__law_of, s__law_of, ["source", "some"]⟩, ⟨f__law_times, s__law_times, ["k"]⟩, ⟨f_close_times, s_close_times, ["k"]⟩, ⟨f_parts_of_degree, s_parts_of_degree, ["k"]⟩, ⟨f_floor_root, s_floor_root, ["m"]⟩]
  mkr := theMk
  mst := top 6
  mps := ["script"]
  lst := top 10
  x := "script"
  names := ["script", "source", "most", "lap", "s", "k", "due", "n", "r", "f", "g"]
  i := 1
  rest := c_law
theorem told_ok : told.ok = true := by decide +kernel
theorem told_bd : told.Bd where
  rows := fun r hr => by
    simp only [told, List.mem_cons, List.not_mem_nil, or_false] at hr
    rcases hr with rfl | rfl | rfl | rfl | rfl | rfl | rfl
    · exact fun _ _ _ _ _ _ us hl => match us, hl with | [_, _], _ => rfl
    · exact fun _ _ _ _ _ _ us hl => match us, hl with | [_], _ => rfl
    · exact fun _ _ _ _ _ _ us hl => match us, hl with | [_, _], _ => rfl
    · exact fun _ _ _ _ _ _ us hl => match us, hl with | [_], _ => rfl
    · exact fun _ _ _ _ _ _ us hl => match us, hl with | [_], _ => rfl
    · exact fun _ _ _ _ _ _ us hl => match us, hl with | [_], _ => rfl
    · exact fun _ _ _ _ _ _ us hl => match us, hl with | [_], _ => rfl
  bmk := fun _ _ _ _ _ _ us hl => match us, hl with | [_], _ => rfl
  law := fun _ _ _ _ _ _ us hl => match us, hl with | [_], _ => rfl
abbrev R : PySem.W.OpenRow := PySem.W.OpenLaw.row PySem.Challenge.rw_evenlytied_k17_whole_degrees_let
def hk : PySem.W.Hook := He.hookD 4 told.fa told.fn
def ob (s : PySem.W.SharedT) : He.AlD := He.obsDG 4 told.fa told.fn (HandSHeadRun.getT s)
theorem ob_eq (s : PySem.W.SharedT) : ob s = hk.obs s.abs := He.obsDG_eq (HandSHeadRun.getT_eq s)
def loose : List Str := (["floor_root", "parts_of_degree", "close_times", "let_degrees", "_law_open_cells", "_law_pick", "_law_of", "_law_times"] : List Str)
theorem run (w : World) : HandSHeadRun.RunEq R (PySem.W.view R.prog [10]) hk ob 600 loose w := by
  intro os
  kernel_rfl
end K17

namespace K17
open PySem Pyl
abbrev TT := told.T
theorem e_pick {d : Nat} {n : Int} {S : Src} {P : PyData → Src → Prop} (hS : SOk S) (h1 : 1 ≤ n) (h2 : n < 2 ^ 63) (h : ∀ v S', 0 ≤ v → v < n → SOk S' → P (.int v) S') : Er (callT TT (d + 1) 0 [.src, .d (.int n)] S) P := by
  refine er_callT (fd := f__law_pick) rfl rfl (Rs.imp (pick_rs n S hS h1 h2) ?_)
  rintro f ρ S' ⟨v, rfl, a, b, c⟩
  exact h v S' a b c
theorem e_root {d : Nat} {m : Int} {S : Src} {P : PyData → Src → Prop} (h0 : 0 ≤ m) (h1 : m < 536870912) (h : ∀ r : Int, 0 ≤ r → r ≤ m + 1 → P (.int r) S) : Er (callT TT (d + 1) 6 [.d (.int m)] S) P := by
  refine er_callT (fd := f_floor_root) rfl rfl ?_
  show Rs (exSs _ c_floor_root [.d (.int m), .no, .no, .no] S) _
  unfold c_floor_root
  refine rs_cons.mpr ?_
  simp only [w_vr, w_cn, w_bin, w_neg, v_nt, w_cmp, w_cmp2, w_an, w_or, w_one, v_ite, w_tup, w_lst, w_call, w_bi, w_ix, w_sl, w_rv, w_dsp, w_lc, w_sget, w_slen, w_spop, w_nil, w_cons, w_star, w_anil, w_avr, w_aex, w_tnil, v_tcons, w_iex, w_irng1, w_irng2, w_ienm, w_izip, w_iscr, w_evB, w_asg, w_own, w_par, w_pnil, w_pcons, w_app, w_frz, w_sset, w_cels, v_ifs, te_cmp, te_cmp2, te_nt, te_one, te_an, te_or, te_ite, te_vr, te_cn, te_call, te_bi, te_ix, te_slen, te_bin, w_frs, w_jex, w_jrng1, w_jrng2, w_jenm, w_jzip, w_jscr, w_ret, w_exs, w_pas, w_brk, w_cnt, kn_nx, kn_rt, kn_bk, kn_ct, n_add, n_sub, n_lt, n_le, n_gt, n_ge, n_eq, n_ne, n_is, n_isn, t_bool, t_none, b_int, b_intb, b_abs, b_lenL, b_lenT, b_tupL, b_lstL, b_lstT, eo_some, er_some, rs_some, rs_nil, negO, revO, enumO, zipO, scrO, argO, intO, vwD, isSrc, isCel, cOk, Sl.vw, Sl.fz, lf, lf.lfAll, layS, isB, g_nm, g_tp, g_nil, g_cons, Option.bind_some, Option.map_some, List.cons_append, List.nil_append, setS, setSl, Src.get, Src.put, itemsD, seqD, iN_none, iN_int, iN_bool, iN_str, iN_list, iN_tup, iN_dict, List.map_cons, List.map_nil, List.getElem?_cons_zero, List.getElem?_cons_succ, List.set_cons_zero, List.set_cons_succ, List.foldl_cons, List.foldl_nil, List.length_cons, List.length_nil, if_true, if_false, Bool.false_eq_true, ne_eq, reduceCtorEq, not_false_eq_true, implies_true, true_and, and_true, Bool.not_true, Bool.not_false, Bool.not_eq_true']
  refine ⟨rfl, rs_cons.mpr ?_⟩
  refine Rs.imp (P := fun f ρ' S' => f = .nx ∧ S' = S ∧ ∃ low high mid, 0 ≤ low ∧ low ≤ m + 1 ∧ ρ' = [.d (.int m), .d (.int low), .d (.int high), mid]) (rs_while (fun k ρ S' => S' = S ∧ ∃ low high mid, ρ = [.d (.int m), .d (.int low), .d (.int high), mid] ∧ 0 ≤ low ∧ low < high ∧ high ≤ m + 1 ∧ (high - low).toNat = k) (m := (m + 1).toNat) ?_ ⟨rfl, 0, m + 1, .no, rfl, by omega, by omega, by omega, by omega⟩ (by show _ < 1073741824; omega)) ?_
  · rintro k ρ S' ⟨rfl, low, high, mid, rfl, a, b, c, e⟩
    simp only [w_vr, w_cn, w_bin, w_neg, v_nt, w_cmp, w_cmp2, w_an, w_or, w_one, v_ite, w_tup, w_lst, w_call, w_bi, w_ix, w_sl, w_rv, w_dsp, w_lc, w_sget, w_slen, w_spop, w_nil, w_cons, w_star, w_anil, w_avr, w_aex, w_tnil, v_tcons, w_iex, w_irng1, w_irng2, w_ienm, w_izip, w_iscr, w_evB, w_asg, w_own, w_par, w_pnil, w_pcons, w_app, w_frz, w_sset, w_cels, v_ifs, te_cmp, te_cmp2, te_nt, te_one, te_an, te_or, te_ite, te_vr, te_cn, te_call, te_bi, te_ix, te_slen, te_bin, w_frs, w_jex, w_jrng1, w_jrng2, w_jenm, w_jzip, w_jscr, w_ret, w_exs, w_pas, w_brk, w_cnt, kn_nx, kn_rt, kn_bk, kn_ct, n_add, n_sub, n_lt, n_le, n_gt, n_ge, n_eq, n_ne, n_is, n_isn, t_bool, t_none, b_int, b_intb, b_abs, b_lenL, b_lenT, b_tupL, b_lstL, b_lstT, eo_some, er_some, rs_some, rs_nil, negO, revO, enumO, zipO, scrO, argO, intO, vwD, isSrc, isCel, cOk, Sl.vw, Sl.fz, lf, lf.lfAll, layS, isB, g_nm, g_tp, g_nil, g_cons, Option.bind_some, Option.map_some, List.cons_append, List.nil_append, setS, setSl, Src.get, Src.put, itemsD, seqD, iN_none, iN_int, iN_bool, iN_str, iN_list, iN_tup, iN_dict, List.map_cons, List.map_nil, List.getElem?_cons_zero, List.getElem?_cons_succ, List.set_cons_zero, List.set_cons_succ, List.foldl_cons, List.foldl_nil, List.length_cons, List.length_nil, if_true, if_false, Bool.false_eq_true, ne_eq, reduceCtorEq, not_false_eq_true, implies_true, true_and, and_true, Bool.not_true, Bool.not_false, Bool.not_eq_true']
    refine if_dec (fun c1 => ?_) fun c1 => ⟨low, high, mid, a, by omega, rfl⟩
    refine rs_cons.mpr ?_
    simp only [w_vr, w_cn, w_bin, w_neg, v_nt, w_cmp, w_cmp2, w_an, w_or, w_one, v_ite, w_tup, w_lst, w_call, w_bi, w_ix, w_sl, w_rv, w_dsp, w_lc, w_sget, w_slen, w_spop, w_nil, w_cons, w_star, w_anil, w_avr, w_aex, w_tnil, v_tcons, w_iex, w_irng1, w_irng2, w_ienm, w_izip, w_iscr, w_evB, w_asg, w_own, w_par, w_pnil, w_pcons, w_app, w_frz, w_sset, w_cels, v_ifs, te_cmp, te_cmp2, te_nt, te_one, te_an, te_or, te_ite, te_vr, te_cn, te_call, te_bi, te_ix, te_slen, te_bin, w_frs, w_jex, w_jrng1, w_jrng2, w_jenm, w_jzip, w_jscr, w_ret, w_exs, w_pas, w_brk, w_cnt, kn_nx, kn_rt, kn_bk, kn_ct, n_add, n_sub, n_lt, n_le, n_gt, n_ge, n_eq, n_ne, n_is, n_isn, t_bool, t_none, b_int, b_intb, b_abs, b_lenL, b_lenT, b_tupL, b_lstL, b_lstT, eo_some, er_some, rs_some, rs_nil, negO, revO, enumO, zipO, scrO, argO, intO, vwD, isSrc, isCel, cOk, Sl.vw, Sl.fz, lf, lf.lfAll, layS, isB, g_nm, g_tp, g_nil, g_cons, Option.bind_some, Option.map_some, List.cons_append, List.nil_append, setS, setSl, Src.get, Src.put, itemsD, seqD, iN_none, iN_int, iN_bool, iN_str, iN_list, iN_tup, iN_dict, List.map_cons, List.map_nil, List.getElem?_cons_zero, List.getElem?_cons_succ, List.set_cons_zero, List.set_cons_succ, List.foldl_cons, List.foldl_nil, List.length_cons, List.length_nil, if_true, if_false, Bool.false_eq_true, ne_eq, reduceCtorEq, not_false_eq_true, implies_true, true_and, and_true, Bool.not_true, Bool.not_false, Bool.not_eq_true', n_fdiv (show (0 : Int) < 2 by decide) (by decide)]
    refine rs_cons.mpr ?_
    have q1 : low < (low + high) / 2 := by omega
    have q2 : (low + high) / 2 < high := by omega
    simp only [w_vr, w_cn, w_bin, w_neg, v_nt, w_cmp, w_cmp2, w_an, w_or, w_one, v_ite, w_tup, w_lst, w_call, w_bi, w_ix, w_sl, w_rv, w_dsp, w_lc, w_sget, w_slen, w_spop, w_nil, w_cons, w_star, w_anil, w_avr, w_aex, w_tnil, v_tcons, w_iex, w_irng1, w_irng2, w_ienm, w_izip, w_iscr, w_evB, w_asg, w_own, w_par, w_pnil, w_pcons, w_app, w_frz, w_sset, w_cels, v_ifs, te_cmp, te_cmp2, te_nt, te_one, te_an, te_or, te_ite, te_vr, te_cn, te_call, te_bi, te_ix, te_slen, te_bin, w_frs, w_jex, w_jrng1, w_jrng2, w_jenm, w_jzip, w_jscr, w_ret, w_exs, w_pas, w_brk, w_cnt, kn_nx, kn_rt, kn_bk, kn_ct, n_add, n_sub, n_lt, n_le, n_gt, n_ge, n_eq, n_ne, n_is, n_isn, t_bool, t_none, b_int, b_intb, b_abs, b_lenL, b_lenT, b_tupL, b_lstL, b_lstT, eo_some, er_some, rs_some, rs_nil, negO, revO, enumO, zipO, scrO, argO, intO, vwD, isSrc, isCel, cOk, Sl.vw, Sl.fz, lf, lf.lfAll, layS, isB, g_nm, g_tp, g_nil, g_cons, Option.bind_some, Option.map_some, List.cons_append, List.nil_append, setS, setSl, Src.get, Src.put, itemsD, seqD, iN_none, iN_int, iN_bool, iN_str, iN_list, iN_tup, iN_dict, List.map_cons, List.map_nil, List.getElem?_cons_zero, List.getElem?_cons_succ, List.set_cons_zero, List.set_cons_succ, List.foldl_cons, List.foldl_nil, List.length_cons, List.length_nil, if_true, if_false, Bool.false_eq_true, ne_eq, reduceCtorEq, not_false_eq_true, implies_true, true_and, and_true, Bool.not_true, Bool.not_false, Bool.not_eq_true']
    generalize (low + high) / 2 = md at q1 q2
    rw [n_mul (mulOk_l (by omega))]
    simp only [w_vr, w_cn, w_bin, w_neg, v_nt, w_cmp, w_cmp2, w_an, w_or, w_one, v_ite, w_tup, w_lst, w_call, w_bi, w_ix, w_sl, w_rv, w_dsp, w_lc, w_sget, w_slen, w_spop, w_nil, w_cons, w_star, w_anil, w_avr, w_aex, w_tnil, v_tcons, w_iex, w_irng1, w_irng2, w_ienm, w_izip, w_iscr, w_evB, w_asg, w_own, w_par, w_pnil, w_pcons, w_app, w_frz, w_sset, w_cels, v_ifs, te_cmp, te_cmp2, te_nt, te_one, te_an, te_or, te_ite, te_vr, te_cn, te_call, te_bi, te_ix, te_slen, te_bin, w_frs, w_jex, w_jrng1, w_jrng2, w_jenm, w_jzip, w_jscr, w_ret, w_exs, w_pas, w_brk, w_cnt, kn_nx, kn_rt, kn_bk, kn_ct, n_add, n_sub, n_lt, n_le, n_gt, n_ge, n_eq, n_ne, n_is, n_isn, t_bool, t_none, b_int, b_intb, b_abs, b_lenL, b_lenT, b_tupL, b_lstL, b_lstT, eo_some, er_some, rs_some, rs_nil, negO, revO, enumO, zipO, scrO, argO, intO, vwD, isSrc, isCel, cOk, Sl.vw, Sl.fz, lf, lf.lfAll, layS, isB, g_nm, g_tp, g_nil, g_cons, Option.bind_some, Option.map_some, List.cons_append, List.nil_append, setS, setSl, Src.get, Src.put, itemsD, seqD, iN_none, iN_int, iN_bool, iN_str, iN_list, iN_tup, iN_dict, List.map_cons, List.map_nil, List.getElem?_cons_zero, List.getElem?_cons_succ, List.set_cons_zero, List.set_cons_succ, List.foldl_cons, List.foldl_nil, List.length_cons, List.length_nil, if_true, if_false, Bool.false_eq_true, ne_eq, reduceCtorEq, not_false_eq_true, implies_true, true_and, and_true, Bool.not_true, Bool.not_false, Bool.not_eq_true']
    refine if_dec (fun c2 => ?_) fun c2 => ?_
    · exact ⟨rfl, _, by omega, md, high, _, rfl, by omega, by omega, by omega, rfl⟩
    · exact ⟨rfl, _, by omega, low, md, _, rfl, by omega, by omega, by omega, rfl⟩
  rintro f ρ S' ⟨rfl, rfl, low, high, mid, a, b, rfl⟩
  refine kn_nx.mpr (rs_cons.mpr ?_)
  simp only [w_vr, w_cn, w_bin, w_neg, v_nt, w_cmp, w_cmp2, w_an, w_or, w_one, v_ite, w_tup, w_lst, w_call, w_bi, w_ix, w_sl, w_rv, w_dsp, w_lc, w_sget, w_slen, w_spop, w_nil, w_cons, w_star, w_anil, w_avr, w_aex, w_tnil, v_tcons, w_iex, w_irng1, w_irng2, w_ienm, w_izip, w_iscr, w_evB, w_asg, w_own, w_par, w_pnil, w_pcons, w_app, w_frz, w_sset, w_cels, v_ifs, te_cmp, te_cmp2, te_nt, te_one, te_an, te_or, te_ite, te_vr, te_cn, te_call, te_bi, te_ix, te_slen, te_bin, w_frs, w_jex, w_jrng1, w_jrng2, w_jenm, w_jzip, w_jscr, w_ret, w_exs, w_pas, w_brk, w_cnt, kn_nx, kn_rt, kn_bk, kn_ct, n_add, n_sub, n_lt, n_le, n_gt, n_ge, n_eq, n_ne, n_is, n_isn, t_bool, t_none, b_int, b_intb, b_abs, b_lenL, b_lenT, b_tupL, b_lstL, b_lstT, eo_some, er_some, rs_some, rs_nil, negO, revO, enumO, zipO, scrO, argO, intO, vwD, isSrc, isCel, cOk, Sl.vw, Sl.fz, lf, lf.lfAll, layS, isB, g_nm, g_tp, g_nil, g_cons, Option.bind_some, Option.map_some, List.cons_append, List.nil_append, setS, setSl, Src.get, Src.put, itemsD, seqD, iN_none, iN_int, iN_bool, iN_str, iN_list, iN_tup, iN_dict, List.map_cons, List.map_nil, List.getElem?_cons_zero, List.getElem?_cons_succ, List.set_cons_zero, List.set_cons_succ, List.foldl_cons, List.foldl_nil, List.length_cons, List.length_nil, if_true, if_false, Bool.false_eq_true, ne_eq, reduceCtorEq, not_false_eq_true, implies_true, true_and, and_true, Bool.not_true, Bool.not_false, Bool.not_eq_true']
  exact h low a b
/-- the degrees that have a strong web, and no others -/
theorem only {k s : Int} (hk : 3 ≤ k) (hs : 0 ≤ s) (e : s * s = 4 * k - 3) (h : (k * k - 2 * k) % s = 0) : k = 3 ∨ k = 7 ∨ k = 57 := by
  obtain ⟨q, hq⟩ := Int.dvd_of_emod_eq_zero h
  -- s goes into 15
  have e15 : s * (s * s * s - 2 * s - 16 * q) = 15 := by
    have h1 : s * s * (s * s) = (4 * k - 3) * (4 * k - 3) := by rw [e]
    have h2 : s * (s * s * s - 2 * s - 16 * q) = s * s * (s * s) - 2 * (s * s) - 16 * (s * q) := by
      rw [Int.mul_sub, Int.mul_sub]
      have a1 : s * (s * s * s) = s * s * (s * s) := by simp only [Int.mul_assoc]
      have a2 : s * (2 * s) = 2 * (s * s) := by rw [Int.mul_left_comm]
      have a3 : s * (16 * q) = 16 * (s * q) := by rw [Int.mul_left_comm]
      rw [a1, a2, a3]
    rw [h2, h1, e, ← hq]
    have h3 : (4 * k - 3) * (4 * k - 3) = 16 * (k * k) - 24 * k + 9 := by
      rw [Int.sub_mul, Int.mul_sub, Int.mul_sub]
      have : 4 * k * (4 * k) = 16 * (k * k) := by rw [Int.mul_assoc, Int.mul_left_comm k 4 k, ← Int.mul_assoc]; rfl
      omega
    rw [h3]
    omega
  have hd : s ∣ 15 := ⟨_, e15.symm⟩
  have hle : s ≤ 15 := Int.le_of_dvd (by decide) hd
  have hd' : 15 % s = 0 := Int.emod_eq_zero_of_dvd hd
  have cases : s = 0 ∨ s = 1 ∨ s = 2 ∨ s = 3 ∨ s = 4 ∨ s = 5 ∨ s = 6 ∨ s = 7 ∨ s = 8 ∨ s = 9 ∨ s = 10 ∨ s = 11 ∨ s = 12 ∨ s = 13 ∨ s = 14 ∨ s = 15 := by omega
  rcases cases with rfl | rfl | rfl | rfl | rfl | rfl | rfl | rfl | rfl | rfl | rfl | rfl | rfl | rfl | rfl | rfl <;> omega
theorem e_parts {d : Nat} {k : Int} {S : Src} {P : PyData → Src → Prop} (h1 : 3 ≤ k) (h2 : k < 1000000) (n3 : k ≠ 3) (n7 : k ≠ 7) (n57 : k ≠ 57) (h : P .none S) : Er (callT TT (d + 2) 5 [.d (.int k)] S) P := by
  refine er_callT (fd := f_parts_of_degree) rfl rfl ?_
  show Rs (exSs _ c_parts_of_degree [.d (.int k), .no, .no] S) _
  unfold c_parts_of_degree
  refine rs_cons.mpr ?_
  simp only [w_vr, w_cn, w_bin, w_neg, v_nt, w_cmp, w_cmp2, w_an, w_or, w_one, v_ite, w_tup, w_lst, w_call, w_bi, w_ix, w_sl, w_rv, w_dsp, w_lc, w_sget, w_slen, w_spop, w_nil, w_cons, w_star, w_anil, w_avr, w_aex, w_tnil, v_tcons, w_iex, w_irng1, w_irng2, w_ienm, w_izip, w_iscr, w_evB, w_asg, w_own, w_par, w_pnil, w_pcons, w_app, w_frz, w_sset, w_cels, v_ifs, te_cmp, te_cmp2, te_nt, te_one, te_an, te_or, te_ite, te_vr, te_cn, te_call, te_bi, te_ix, te_slen, te_bin, w_frs, w_jex, w_jrng1, w_jrng2, w_jenm, w_jzip, w_jscr, w_ret, w_exs, w_pas, w_brk, w_cnt, kn_nx, kn_rt, kn_bk, kn_ct, n_add, n_sub, n_lt, n_le, n_gt, n_ge, n_eq, n_ne, n_is, n_isn, t_bool, t_none, b_int, b_intb, b_abs, b_lenL, b_lenT, b_tupL, b_lstL, b_lstT, eo_some, er_some, rs_some, rs_nil, negO, revO, enumO, zipO, scrO, argO, intO, vwD, isSrc, isCel, cOk, Sl.vw, Sl.fz, lf, lf.lfAll, layS, isB, g_nm, g_tp, g_nil, g_cons, Option.bind_some, Option.map_some, List.cons_append, List.nil_append, setS, setSl, Src.get, Src.put, itemsD, seqD, iN_none, iN_int, iN_bool, iN_str, iN_list, iN_tup, iN_dict, List.map_cons, List.map_nil, List.getElem?_cons_zero, List.getElem?_cons_succ, List.set_cons_zero, List.set_cons_succ, List.foldl_cons, List.foldl_nil, List.length_cons, List.length_nil, if_true, if_false, Bool.false_eq_true, ne_eq, reduceCtorEq, not_false_eq_true, implies_true, true_and, and_true, Bool.not_true, Bool.not_false, Bool.not_eq_true', n_mul (mulOk_l (show (4 : Int).natAbs < 2 ^ 64 by decide))]
  refine e_root (by omega) (by omega) fun r r0 r1 => ?_
  refine rs_cons.mpr ?_
  simp only [w_vr, w_cn, w_bin, w_neg, v_nt, w_cmp, w_cmp2, w_an, w_or, w_one, v_ite, w_tup, w_lst, w_call, w_bi, w_ix, w_sl, w_rv, w_dsp, w_lc, w_sget, w_slen, w_spop, w_nil, w_cons, w_star, w_anil, w_avr, w_aex, w_tnil, v_tcons, w_iex, w_irng1, w_irng2, w_ienm, w_izip, w_iscr, w_evB, w_asg, w_own, w_par, w_pnil, w_pcons, w_app, w_frz, w_sset, w_cels, v_ifs, te_cmp, te_cmp2, te_nt, te_one, te_an, te_or, te_ite, te_vr, te_cn, te_call, te_bi, te_ix, te_slen, te_bin, w_frs, w_jex, w_jrng1, w_jrng2, w_jenm, w_jzip, w_jscr, w_ret, w_exs, w_pas, w_brk, w_cnt, kn_nx, kn_rt, kn_bk, kn_ct, n_add, n_sub, n_lt, n_le, n_gt, n_ge, n_eq, n_ne, n_is, n_isn, t_bool, t_none, b_int, b_intb, b_abs, b_lenL, b_lenT, b_tupL, b_lstL, b_lstT, eo_some, er_some, rs_some, rs_nil, negO, revO, enumO, zipO, scrO, argO, intO, vwD, isSrc, isCel, cOk, Sl.vw, Sl.fz, lf, lf.lfAll, layS, isB, g_nm, g_tp, g_nil, g_cons, Option.bind_some, Option.map_some, List.cons_append, List.nil_append, setS, setSl, Src.get, Src.put, itemsD, seqD, iN_none, iN_int, iN_bool, iN_str, iN_list, iN_tup, iN_dict, List.map_cons, List.map_nil, List.getElem?_cons_zero, List.getElem?_cons_succ, List.set_cons_zero, List.set_cons_succ, List.foldl_cons, List.foldl_nil, List.length_cons, List.length_nil, if_true, if_false, Bool.false_eq_true, ne_eq, reduceCtorEq, not_false_eq_true, implies_true, true_and, and_true, Bool.not_true, Bool.not_false, Bool.not_eq_true', n_mul (mulOk_l (show (4 : Int).natAbs < 2 ^ 64 by decide)), n_mul (mulOk_l (show (2 : Int).natAbs < 2 ^ 64 by decide)), n_mul (mulOk_l (show r.natAbs < 2 ^ 64 by omega)), n_mul (mulOk_l (show k.natAbs < 2 ^ 64 by omega))]
  have none : Rs (exSs (callT TT (d + 1)) (Sts.cons (Stm.ret (Ex.cn PyData.none)) Sts.nil) [Sl.d (PyData.int k), Sl.d (PyData.int r), Sl.no] S) fun f _ S' => f = .rt .none ∧ S' = S := by
    refine rs_cons.mpr ?_
    simp only [w_vr, w_cn, w_bin, w_neg, v_nt, w_cmp, w_cmp2, w_an, w_or, w_one, v_ite, w_tup, w_lst, w_call, w_bi, w_ix, w_sl, w_rv, w_dsp, w_lc, w_sget, w_slen, w_spop, w_nil, w_cons, w_star, w_anil, w_avr, w_aex, w_tnil, v_tcons, w_iex, w_irng1, w_irng2, w_ienm, w_izip, w_iscr, w_evB, w_asg, w_own, w_par, w_pnil, w_pcons, w_app, w_frz, w_sset, w_cels, v_ifs, te_cmp, te_cmp2, te_nt, te_one, te_an, te_or, te_ite, te_vr, te_cn, te_call, te_bi, te_ix, te_slen, te_bin, w_frs, w_jex, w_jrng1, w_jrng2, w_jenm, w_jzip, w_jscr, w_ret, w_exs, w_pas, w_brk, w_cnt, kn_nx, kn_rt, kn_bk, kn_ct, n_add, n_sub, n_lt, n_le, n_gt, n_ge, n_eq, n_ne, n_is, n_isn, t_bool, t_none, b_int, b_intb, b_abs, b_lenL, b_lenT, b_tupL, b_lstL, b_lstT, eo_some, er_some, rs_some, rs_nil, negO, revO, enumO, zipO, scrO, argO, intO, vwD, isSrc, isCel, cOk, Sl.vw, Sl.fz, lf, lf.lfAll, layS, isB, g_nm, g_tp, g_nil, g_cons, Option.bind_some, Option.map_some, List.cons_append, List.nil_append, setS, setSl, Src.get, Src.put, itemsD, seqD, iN_none, iN_int, iN_bool, iN_str, iN_list, iN_tup, iN_dict, List.map_cons, List.map_nil, List.getElem?_cons_zero, List.getElem?_cons_succ, List.set_cons_zero, List.set_cons_succ, List.foldl_cons, List.foldl_nil, List.length_cons, List.length_nil, if_true, if_false, Bool.false_eq_true, ne_eq, reduceCtorEq, not_false_eq_true, implies_true, true_and, and_true, Bool.not_true, Bool.not_false, Bool.not_eq_true']
  refine if_ndec (fun c => ?_) fun c => ?_
  · refine Rs.imp none ?_
    rintro f ρ S' ⟨rfl, rfl⟩
    exact h
  · have hr : 0 < r := by
      rcases Int.lt_or_eq_of_le r0 with q | q
      · exact q
      · rw [← q] at c; omega
    simp only [w_vr, w_cn, w_bin, w_neg, v_nt, w_cmp, w_cmp2, w_an, w_or, w_one, v_ite, w_tup, w_lst, w_call, w_bi, w_ix, w_sl, w_rv, w_dsp, w_lc, w_sget, w_slen, w_spop, w_nil, w_cons, w_star, w_anil, w_avr, w_aex, w_tnil, v_tcons, w_iex, w_irng1, w_irng2, w_ienm, w_izip, w_iscr, w_evB, w_asg, w_own, w_par, w_pnil, w_pcons, w_app, w_frz, w_sset, w_cels, v_ifs, te_cmp, te_cmp2, te_nt, te_one, te_an, te_or, te_ite, te_vr, te_cn, te_call, te_bi, te_ix, te_slen, te_bin, w_frs, w_jex, w_jrng1, w_jrng2, w_jenm, w_jzip, w_jscr, w_ret, w_exs, w_pas, w_brk, w_cnt, kn_nx, kn_rt, kn_bk, kn_ct, n_add, n_sub, n_lt, n_le, n_gt, n_ge, n_eq, n_ne, n_is, n_isn, t_bool, t_none, b_int, b_intb, b_abs, b_lenL, b_lenT, b_tupL, b_lstL, b_lstT, eo_some, er_some, rs_some, rs_nil, negO, revO, enumO, zipO, scrO, argO, intO, vwD, isSrc, isCel, cOk, Sl.vw, Sl.fz, lf, lf.lfAll, layS, isB, g_nm, g_tp, g_nil, g_cons, Option.bind_some, Option.map_some, List.cons_append, List.nil_append, setS, setSl, Src.get, Src.put, itemsD, seqD, iN_none, iN_int, iN_bool, iN_str, iN_list, iN_tup, iN_dict, List.map_cons, List.map_nil, List.getElem?_cons_zero, List.getElem?_cons_succ, List.set_cons_zero, List.set_cons_succ, List.foldl_cons, List.foldl_nil, List.length_cons, List.length_nil, if_true, if_false, Bool.false_eq_true, ne_eq, reduceCtorEq, not_false_eq_true, implies_true, true_and, and_true, Bool.not_true, Bool.not_false, Bool.not_eq_true', n_mod hr]
    refine if_ndec (fun c2 => ?_) fun c2 => ?_
    · refine Rs.imp none ?_
      rintro f ρ S' ⟨rfl, rfl⟩
      exact h
    · exfalso
      rcases only h1 r0 c c2 with q | q | q
      · exact n3 q
      · exact n7 q
      · exact n57 q
theorem e_times {d : Nat} {k : Int} {S : Src} {P : PyData → Src → Prop} (h1 : 3 ≤ k) (h2 : k < 1000000) (n3 : k ≠ 3) (n7 : k ≠ 7) (n57 : k ≠ 57) (h : P .none S) : Er (callT TT (d + 1) 3 [.d (.int k)] S) P := by
  refine er_callT (fd := f__law_times) rfl rfl ?_
  show Rs (exSs _ c__law_times [.d (.int k), .no, .no, .no] S) _
  unfold c__law_times
  refine rs_cons.mpr ?_
  simp only [w_vr, w_cn, w_bin, w_neg, v_nt, w_cmp, w_cmp2, w_an, w_or, w_one, v_ite, w_tup, w_lst, w_call, w_bi, w_ix, w_sl, w_rv, w_dsp, w_lc, w_sget, w_slen, w_spop, w_nil, w_cons, w_star, w_anil, w_avr, w_aex, w_tnil, v_tcons, w_iex, w_irng1, w_irng2, w_ienm, w_izip, w_iscr, w_evB, w_asg, w_own, w_par, w_pnil, w_pcons, w_app, w_frz, w_sset, w_cels, v_ifs, te_cmp, te_cmp2, te_nt, te_one, te_an, te_or, te_ite, te_vr, te_cn, te_call, te_bi, te_ix, te_slen, te_bin, w_frs, w_jex, w_jrng1, w_jrng2, w_jenm, w_jzip, w_jscr, w_ret, w_exs, w_pas, w_brk, w_cnt, kn_nx, kn_rt, kn_bk, kn_ct, n_add, n_sub, n_lt, n_le, n_gt, n_ge, n_eq, n_ne, n_is, n_isn, t_bool, t_none, b_int, b_intb, b_abs, b_lenL, b_lenT, b_tupL, b_lstL, b_lstT, eo_some, er_some, rs_some, rs_nil, negO, revO, enumO, zipO, scrO, argO, intO, vwD, isSrc, isCel, cOk, Sl.vw, Sl.fz, lf, lf.lfAll, layS, isB, g_nm, g_tp, g_nil, g_cons, Option.bind_some, Option.map_some, List.cons_append, List.nil_append, setS, setSl, Src.get, Src.put, itemsD, seqD, iN_none, iN_int, iN_bool, iN_str, iN_list, iN_tup, iN_dict, List.map_cons, List.map_nil, List.getElem?_cons_zero, List.getElem?_cons_succ, List.set_cons_zero, List.set_cons_succ, List.foldl_cons, List.foldl_nil, List.length_cons, List.length_nil, if_true, if_false, Bool.false_eq_true, ne_eq, reduceCtorEq, not_false_eq_true, implies_true, true_and, and_true, Bool.not_true, Bool.not_false, Bool.not_eq_true']
  refine rs_cons.mpr ?_
  refine Rs.imp (P := fun f ρ' S' => f = .nx ∧ S' = S ∧ ∃ s : Int, 0 < s ∧ s < 4000000 ∧ ρ' = [.d (.int k), .d (.int s), .no, .no]) (rs_while (fun m ρ S' => S' = S ∧ ∃ s : Int, ρ = [.d (.int k), .d (.int s), .no, .no] ∧ 0 < s ∧ s < 4000000 ∧ (4000000 - s).toNat = m) (m := 3999999) ?_ ⟨rfl, 1, rfl, by omega, by omega, by omega⟩ (by show _ < 1073741824; omega)) ?_
  · rintro m ρ S' ⟨rfl, s, rfl, a, b, c⟩
    simp only [w_vr, w_cn, w_bin, w_neg, v_nt, w_cmp, w_cmp2, w_an, w_or, w_one, v_ite, w_tup, w_lst, w_call, w_bi, w_ix, w_sl, w_rv, w_dsp, w_lc, w_sget, w_slen, w_spop, w_nil, w_cons, w_star, w_anil, w_avr, w_aex, w_tnil, v_tcons, w_iex, w_irng1, w_irng2, w_ienm, w_izip, w_iscr, w_evB, w_asg, w_own, w_par, w_pnil, w_pcons, w_app, w_frz, w_sset, w_cels, v_ifs, te_cmp, te_cmp2, te_nt, te_one, te_an, te_or, te_ite, te_vr, te_cn, te_call, te_bi, te_ix, te_slen, te_bin, w_frs, w_jex, w_jrng1, w_jrng2, w_jenm, w_jzip, w_jscr, w_ret, w_exs, w_pas, w_brk, w_cnt, kn_nx, kn_rt, kn_bk, kn_ct, n_add, n_sub, n_lt, n_le, n_gt, n_ge, n_eq, n_ne, n_is, n_isn, t_bool, t_none, b_int, b_intb, b_abs, b_lenL, b_lenT, b_tupL, b_lstL, b_lstT, eo_some, er_some, rs_some, rs_nil, negO, revO, enumO, zipO, scrO, argO, intO, vwD, isSrc, isCel, cOk, Sl.vw, Sl.fz, lf, lf.lfAll, layS, isB, g_nm, g_tp, g_nil, g_cons, Option.bind_some, Option.map_some, List.cons_append, List.nil_append, setS, setSl, Src.get, Src.put, itemsD, seqD, iN_none, iN_int, iN_bool, iN_str, iN_list, iN_tup, iN_dict, List.map_cons, List.map_nil, List.getElem?_cons_zero, List.getElem?_cons_succ, List.set_cons_zero, List.set_cons_succ, List.foldl_cons, List.foldl_nil, List.length_cons, List.length_nil, if_true, if_false, Bool.false_eq_true, ne_eq, reduceCtorEq, not_false_eq_true, implies_true, true_and, and_true, Bool.not_true, Bool.not_false, Bool.not_eq_true', n_mul (mulOk_l (show (4 : Int).natAbs < 2 ^ 64 by decide)), n_mul (mulOk_l (show s.natAbs < 2 ^ 64 by omega))]
    refine if_dec (fun c1 => ?_) fun c1 => ⟨s, a, b, rfl⟩
    refine rs_cons.mpr ?_
    simp only [w_vr, w_cn, w_bin, w_neg, v_nt, w_cmp, w_cmp2, w_an, w_or, w_one, v_ite, w_tup, w_lst, w_call, w_bi, w_ix, w_sl, w_rv, w_dsp, w_lc, w_sget, w_slen, w_spop, w_nil, w_cons, w_star, w_anil, w_avr, w_aex, w_tnil, v_tcons, w_iex, w_irng1, w_irng2, w_ienm, w_izip, w_iscr, w_evB, w_asg, w_own, w_par, w_pnil, w_pcons, w_app, w_frz, w_sset, w_cels, v_ifs, te_cmp, te_cmp2, te_nt, te_one, te_an, te_or, te_ite, te_vr, te_cn, te_call, te_bi, te_ix, te_slen, te_bin, w_frs, w_jex, w_jrng1, w_jrng2, w_jenm, w_jzip, w_jscr, w_ret, w_exs, w_pas, w_brk, w_cnt, kn_nx, kn_rt, kn_bk, kn_ct, n_add, n_sub, n_lt, n_le, n_gt, n_ge, n_eq, n_ne, n_is, n_isn, t_bool, t_none, b_int, b_intb, b_abs, b_lenL, b_lenT, b_tupL, b_lstL, b_lstT, eo_some, er_some, rs_some, rs_nil, negO, revO, enumO, zipO, scrO, argO, intO, vwD, isSrc, isCel, cOk, Sl.vw, Sl.fz, lf, lf.lfAll, layS, isB, g_nm, g_tp, g_nil, g_cons, Option.bind_some, Option.map_some, List.cons_append, List.nil_append, setS, setSl, Src.get, Src.put, itemsD, seqD, iN_none, iN_int, iN_bool, iN_str, iN_list, iN_tup, iN_dict, List.map_cons, List.map_nil, List.getElem?_cons_zero, List.getElem?_cons_succ, List.set_cons_zero, List.set_cons_succ, List.foldl_cons, List.foldl_nil, List.length_cons, List.length_nil, if_true, if_false, Bool.false_eq_true, ne_eq, reduceCtorEq, not_false_eq_true, implies_true, true_and, and_true, Bool.not_true, Bool.not_false, Bool.not_eq_true']
    have : s * s < 4000000 := by omega
    have s2 : s < 3000 := by
      by_cases q : s < 3000
      · exact q
      · exfalso
        have : 3000 * 3000 ≤ s * s := Int.mul_le_mul (by omega) (by omega) (by omega) (by omega)
        omega
    exact ⟨_, by omega, s + 2, rfl, by omega, by omega, rfl⟩
  rintro f ρ S' ⟨rfl, rfl, s, s0, s1, rfl⟩
  have ks : k.natAbs < 2 ^ 64 := by omega
  have ss : s.natAbs < 2 ^ 64 := by omega
  refine kn_nx.mpr (rs_cons.mpr ?_)
  simp only [w_vr, w_cn, w_bin, w_neg, v_nt, w_cmp, w_cmp2, w_an, w_or, w_one, v_ite, w_tup, w_lst, w_call, w_bi, w_ix, w_sl, w_rv, w_dsp, w_lc, w_sget, w_slen, w_spop, w_nil, w_cons, w_star, w_anil, w_avr, w_aex, w_tnil, v_tcons, w_iex, w_irng1, w_irng2, w_ienm, w_izip, w_iscr, w_evB, w_asg, w_own, w_par, w_pnil, w_pcons, w_app, w_frz, w_sset, w_cels, v_ifs, te_cmp, te_cmp2, te_nt, te_one, te_an, te_or, te_ite, te_vr, te_cn, te_call, te_bi, te_ix, te_slen, te_bin, w_frs, w_jex, w_jrng1, w_jrng2, w_jenm, w_jzip, w_jscr, w_ret, w_exs, w_pas, w_brk, w_cnt, kn_nx, kn_rt, kn_bk, kn_ct, n_add, n_sub, n_lt, n_le, n_gt, n_ge, n_eq, n_ne, n_is, n_isn, t_bool, t_none, b_int, b_intb, b_abs, b_lenL, b_lenT, b_tupL, b_lstL, b_lstT, eo_some, er_some, rs_some, rs_nil, negO, revO, enumO, zipO, scrO, argO, intO, vwD, isSrc, isCel, cOk, Sl.vw, Sl.fz, lf, lf.lfAll, layS, isB, g_nm, g_tp, g_nil, g_cons, Option.bind_some, Option.map_some, List.cons_append, List.nil_append, setS, setSl, Src.get, Src.put, itemsD, seqD, iN_none, iN_int, iN_bool, iN_str, iN_list, iN_tup, iN_dict, List.map_cons, List.map_nil, List.getElem?_cons_zero, List.getElem?_cons_succ, List.set_cons_zero, List.set_cons_succ, List.foldl_cons, List.foldl_nil, List.length_cons, List.length_nil, if_true, if_false, Bool.false_eq_true, ne_eq, reduceCtorEq, not_false_eq_true, implies_true, true_and, and_true, Bool.not_true, Bool.not_false, Bool.not_eq_true', n_mul (mulOk_l (show (4 : Int).natAbs < 2 ^ 64 by decide)), n_mul (mulOk_l ss)]
  refine if_ndec (fun c => ?_) fun c => ?_
  · refine rs_cons.mpr ?_
    simp only [w_vr, w_cn, w_bin, w_neg, v_nt, w_cmp, w_cmp2, w_an, w_or, w_one, v_ite, w_tup, w_lst, w_call, w_bi, w_ix, w_sl, w_rv, w_dsp, w_lc, w_sget, w_slen, w_spop, w_nil, w_cons, w_star, w_anil, w_avr, w_aex, w_tnil, v_tcons, w_iex, w_irng1, w_irng2, w_ienm, w_izip, w_iscr, w_evB, w_asg, w_own, w_par, w_pnil, w_pcons, w_app, w_frz, w_sset, w_cels, v_ifs, te_cmp, te_cmp2, te_nt, te_one, te_an, te_or, te_ite, te_vr, te_cn, te_call, te_bi, te_ix, te_slen, te_bin, w_frs, w_jex, w_jrng1, w_jrng2, w_jenm, w_jzip, w_jscr, w_ret, w_exs, w_pas, w_brk, w_cnt, kn_nx, kn_rt, kn_bk, kn_ct, n_add, n_sub, n_lt, n_le, n_gt, n_ge, n_eq, n_ne, n_is, n_isn, t_bool, t_none, b_int, b_intb, b_abs, b_lenL, b_lenT, b_tupL, b_lstL, b_lstT, eo_some, er_some, rs_some, rs_nil, negO, revO, enumO, zipO, scrO, argO, intO, vwD, isSrc, isCel, cOk, Sl.vw, Sl.fz, lf, lf.lfAll, layS, isB, g_nm, g_tp, g_nil, g_cons, Option.bind_some, Option.map_some, List.cons_append, List.nil_append, setS, setSl, Src.get, Src.put, itemsD, seqD, iN_none, iN_int, iN_bool, iN_str, iN_list, iN_tup, iN_dict, List.map_cons, List.map_nil, List.getElem?_cons_zero, List.getElem?_cons_succ, List.set_cons_zero, List.set_cons_succ, List.foldl_cons, List.foldl_nil, List.length_cons, List.length_nil, if_true, if_false, Bool.false_eq_true, ne_eq, reduceCtorEq, not_false_eq_true, implies_true, true_and, and_true, Bool.not_true, Bool.not_false, Bool.not_eq_true']
    exact h
  refine rs_cons.mpr ?_
  simp only [w_vr, w_cn, w_bin, w_neg, v_nt, w_cmp, w_cmp2, w_an, w_or, w_one, v_ite, w_tup, w_lst, w_call, w_bi, w_ix, w_sl, w_rv, w_dsp, w_lc, w_sget, w_slen, w_spop, w_nil, w_cons, w_star, w_anil, w_avr, w_aex, w_tnil, v_tcons, w_iex, w_irng1, w_irng2, w_ienm, w_izip, w_iscr, w_evB, w_asg, w_own, w_par, w_pnil, w_pcons, w_app, w_frz, w_sset, w_cels, v_ifs, te_cmp, te_cmp2, te_nt, te_one, te_an, te_or, te_ite, te_vr, te_cn, te_call, te_bi, te_ix, te_slen, te_bin, w_frs, w_jex, w_jrng1, w_jrng2, w_jenm, w_jzip, w_jscr, w_ret, w_exs, w_pas, w_brk, w_cnt, kn_nx, kn_rt, kn_bk, kn_ct, n_add, n_sub, n_lt, n_le, n_gt, n_ge, n_eq, n_ne, n_is, n_isn, t_bool, t_none, b_int, b_intb, b_abs, b_lenL, b_lenT, b_tupL, b_lstL, b_lstT, eo_some, er_some, rs_some, rs_nil, negO, revO, enumO, zipO, scrO, argO, intO, vwD, isSrc, isCel, cOk, Sl.vw, Sl.fz, lf, lf.lfAll, layS, isB, g_nm, g_tp, g_nil, g_cons, Option.bind_some, Option.map_some, List.cons_append, List.nil_append, setS, setSl, Src.get, Src.put, itemsD, seqD, iN_none, iN_int, iN_bool, iN_str, iN_list, iN_tup, iN_dict, List.map_cons, List.map_nil, List.getElem?_cons_zero, List.getElem?_cons_succ, List.set_cons_zero, List.set_cons_succ, List.foldl_cons, List.foldl_nil, List.length_cons, List.length_nil, if_true, if_false, Bool.false_eq_true, ne_eq, reduceCtorEq, not_false_eq_true, implies_true, true_and, and_true, Bool.not_true, Bool.not_false, Bool.not_eq_true']
  refine ⟨rfl, rs_cons.mpr ?_⟩
  have m2 : ∀ j : Int, Int → mulOk 2 j = true := fun j _ => mulOk_l (by decide)
  have kk : (k * k).natAbs < 2 ^ 64 := by
    have : (k * k).natAbs = k.natAbs * k.natAbs := Int.natAbs_mul k k
    have q : k.natAbs * k.natAbs ≤ 1000000 * 1000000 := Nat.mul_le_mul (by omega) (by omega)
    omega
  have z2 : (0 : Int) < 2 * s := by omega
  simp only [w_vr, w_cn, w_bin, w_neg, v_nt, w_cmp, w_cmp2, w_an, w_or, w_one, v_ite, w_tup, w_lst, w_call, w_bi, w_ix, w_sl, w_rv, w_dsp, w_lc, w_sget, w_slen, w_spop, w_nil, w_cons, w_star, w_anil, w_avr, w_aex, w_tnil, v_tcons, w_iex, w_irng1, w_irng2, w_ienm, w_izip, w_iscr, w_evB, w_asg, w_own, w_par, w_pnil, w_pcons, w_app, w_frz, w_sset, w_cels, v_ifs, te_cmp, te_cmp2, te_nt, te_one, te_an, te_or, te_ite, te_vr, te_cn, te_call, te_bi, te_ix, te_slen, te_bin, w_frs, w_jex, w_jrng1, w_jrng2, w_jenm, w_jzip, w_jscr, w_ret, w_exs, w_pas, w_brk, w_cnt, kn_nx, kn_rt, kn_bk, kn_ct, n_add, n_sub, n_lt, n_le, n_gt, n_ge, n_eq, n_ne, n_is, n_isn, t_bool, t_none, b_int, b_intb, b_abs, b_lenL, b_lenT, b_tupL, b_lstL, b_lstT, eo_some, er_some, rs_some, rs_nil, negO, revO, enumO, zipO, scrO, argO, intO, vwD, isSrc, isCel, cOk, Sl.vw, Sl.fz, lf, lf.lfAll, layS, isB, g_nm, g_tp, g_nil, g_cons, Option.bind_some, Option.map_some, List.cons_append, List.nil_append, setS, setSl, Src.get, Src.put, itemsD, seqD, iN_none, iN_int, iN_bool, iN_str, iN_list, iN_tup, iN_dict, List.map_cons, List.map_nil, List.getElem?_cons_zero, List.getElem?_cons_succ, List.set_cons_zero, List.set_cons_succ, List.foldl_cons, List.foldl_nil, List.length_cons, List.length_nil, if_true, if_false, Bool.false_eq_true, ne_eq, reduceCtorEq, not_false_eq_true, implies_true, true_and, and_true, Bool.not_true, Bool.not_false, Bool.not_eq_true', n_mul (mulOk_l (show (2 : Int).natAbs < 2 ^ 64 by decide)), n_mul (mulOk_l ss), n_mul (mulOk_l ks), n_mul (mulOk_l kk), n_fdiv z2 (show (2 * s).natAbs < 2 ^ 64 by omega)]
  generalize hA : (k * k * s + k * k - 2 * k) / (2 * s) = A
  refine ⟨rfl, ?_⟩
  have no : ∀ f : Int, 2 * s * f ≠ k * k * s + k * k - 2 * k := fun f e => by
    have hm : (k * k - 2 * k) % s = 0 := by
      have : k * k - 2 * k = s * (2 * f - k * k) := by
        rw [Int.mul_sub]
        have a1 : s * (2 * f) = 2 * s * f := by rw [← Int.mul_assoc, Int.mul_comm s 2]
        have a2 : s * (k * k) = k * k * s := Int.mul_comm _ _
        omega
      rw [this]
      exact Int.mul_emod_right _ _
    rcases only h1 (Int.le_of_lt s0) c hm with q | q | q
    · exact n3 q
    · exact n7 q
    · exact n57 q
  refine Rs.imp (P := fun f ρ' S'' => f = .nx ∧ S'' = S' ∧ ∃ w, ρ' = [.d (.int k), .d (.int s), .ol [], w]) (rs_for (fun xs ρ S'' => S'' = S' ∧ (∀ x ∈ xs, ∃ j : Int, x = .int j) ∧ ∃ w, ρ = [.d (.int k), .d (.int s), .ol [], w]) ?_ ?_ _ _ _ ⟨rfl, ?_, _, rfl⟩) ?_
  · rintro x xs ρ S'' ⟨rfl, hx, w, rfl⟩
    obtain ⟨j, rfl⟩ := hx x (by simp)
    simp only [rs_obind, w_vr, w_cn, w_bin, w_neg, v_nt, w_cmp, w_cmp2, w_an, w_or, w_one, v_ite, w_tup, w_lst, w_call, w_bi, w_ix, w_sl, w_rv, w_dsp, w_lc, w_sget, w_slen, w_spop, w_nil, w_cons, w_star, w_anil, w_avr, w_aex, w_tnil, v_tcons, w_iex, w_irng1, w_irng2, w_ienm, w_izip, w_iscr, w_evB, w_asg, w_own, w_par, w_pnil, w_pcons, w_app, w_frz, w_sset, w_cels, v_ifs, te_cmp, te_cmp2, te_nt, te_one, te_an, te_or, te_ite, te_vr, te_cn, te_call, te_bi, te_ix, te_slen, te_bin, w_frs, w_jex, w_jrng1, w_jrng2, w_jenm, w_jzip, w_jscr, w_ret, w_exs, w_pas, w_brk, w_cnt, kn_nx, kn_rt, kn_bk, kn_ct, n_add, n_sub, n_lt, n_le, n_gt, n_ge, n_eq, n_ne, n_is, n_isn, t_bool, t_none, b_int, b_intb, b_abs, b_lenL, b_lenT, b_tupL, b_lstL, b_lstT, eo_some, er_some, rs_some, rs_nil, negO, revO, enumO, zipO, scrO, argO, intO, vwD, isSrc, isCel, cOk, Sl.vw, Sl.fz, lf, lf.lfAll, layS, isB, g_nm, g_tp, g_nil, g_cons, Option.bind_some, Option.map_some, List.cons_append, List.nil_append, setS, setSl, Src.get, Src.put, itemsD, seqD, iN_none, iN_int, iN_bool, iN_str, iN_list, iN_tup, iN_dict, List.map_cons, List.map_nil, List.getElem?_cons_zero, List.getElem?_cons_succ, List.set_cons_zero, List.set_cons_succ, List.foldl_cons, List.foldl_nil, List.length_cons, List.length_nil, if_true, if_false, Bool.false_eq_true, ne_eq, reduceCtorEq, not_false_eq_true, implies_true, true_and, and_true, Bool.not_true, Bool.not_false, Bool.not_eq_true']
    refine rs_cons.mpr ?_
    simp only [w_vr, w_cn, w_bin, w_neg, v_nt, w_cmp, w_cmp2, w_an, w_or, w_one, v_ite, w_tup, w_lst, w_call, w_bi, w_ix, w_sl, w_rv, w_dsp, w_lc, w_sget, w_slen, w_spop, w_nil, w_cons, w_star, w_anil, w_avr, w_aex, w_tnil, v_tcons, w_iex, w_irng1, w_irng2, w_ienm, w_izip, w_iscr, w_evB, w_asg, w_own, w_par, w_pnil, w_pcons, w_app, w_frz, w_sset, w_cels, v_ifs, te_cmp, te_cmp2, te_nt, te_one, te_an, te_or, te_ite, te_vr, te_cn, te_call, te_bi, te_ix, te_slen, te_bin, w_frs, w_jex, w_jrng1, w_jrng2, w_jenm, w_jzip, w_jscr, w_ret, w_exs, w_pas, w_brk, w_cnt, kn_nx, kn_rt, kn_bk, kn_ct, n_add, n_sub, n_lt, n_le, n_gt, n_ge, n_eq, n_ne, n_is, n_isn, t_bool, t_none, b_int, b_intb, b_abs, b_lenL, b_lenT, b_tupL, b_lstL, b_lstT, eo_some, er_some, rs_some, rs_nil, negO, revO, enumO, zipO, scrO, argO, intO, vwD, isSrc, isCel, cOk, Sl.vw, Sl.fz, lf, lf.lfAll, layS, isB, g_nm, g_tp, g_nil, g_cons, Option.bind_some, Option.map_some, List.cons_append, List.nil_append, setS, setSl, Src.get, Src.put, itemsD, seqD, iN_none, iN_int, iN_bool, iN_str, iN_list, iN_tup, iN_dict, List.map_cons, List.map_nil, List.getElem?_cons_zero, List.getElem?_cons_succ, List.set_cons_zero, List.set_cons_succ, List.foldl_cons, List.foldl_nil, List.length_cons, List.length_nil, if_true, if_false, Bool.false_eq_true, ne_eq, reduceCtorEq, not_false_eq_true, implies_true, true_and, and_true, Bool.not_true, Bool.not_false, Bool.not_eq_true', n_mul (mulOk_l (show (2 : Int).natAbs < 2 ^ 64 by decide)), n_mul (mulOk_l ss), n_mul (mulOk_l ks), n_mul (mulOk_l kk), n_mul (mulOk_l (show (2 * s).natAbs < 2 ^ 64 by omega)), decide_eq_false (no j)]
    exact ⟨fun x hx' => hx x (List.mem_cons_of_mem _ hx'), _, rfl⟩
  · rintro ρ S'' ⟨rfl, _, w, rfl⟩
    exact ⟨rfl, rfl, w, rfl⟩
  · intro x hx
    simp only [List.mem_cons, List.not_mem_nil, or_false] at hx
    rcases hx with rfl | rfl
    · exact ⟨_, rfl⟩
    · exact ⟨_, rfl⟩
  rintro f ρ S'' ⟨rfl, rfl, w, rfl⟩
  refine kn_nx.mpr (rs_cons.mpr ?_)
  simp only [w_vr, w_cn, w_bin, w_neg, v_nt, w_cmp, w_cmp2, w_an, w_or, w_one, v_ite, w_tup, w_lst, w_call, w_bi, w_ix, w_sl, w_rv, w_dsp, w_lc, w_sget, w_slen, w_spop, w_nil, w_cons, w_star, w_anil, w_avr, w_aex, w_tnil, v_tcons, w_iex, w_irng1, w_irng2, w_ienm, w_izip, w_iscr, w_evB, w_asg, w_own, w_par, w_pnil, w_pcons, w_app, w_frz, w_sset, w_cels, v_ifs, te_cmp, te_cmp2, te_nt, te_one, te_an, te_or, te_ite, te_vr, te_cn, te_call, te_bi, te_ix, te_slen, te_bin, w_frs, w_jex, w_jrng1, w_jrng2, w_jenm, w_jzip, w_jscr, w_ret, w_exs, w_pas, w_brk, w_cnt, kn_nx, kn_rt, kn_bk, kn_ct, n_add, n_sub, n_lt, n_le, n_gt, n_ge, n_eq, n_ne, n_is, n_isn, t_bool, t_none, b_int, b_intb, b_abs, b_lenL, b_lenT, b_tupL, b_lstL, b_lstT, eo_some, er_some, rs_some, rs_nil, negO, revO, enumO, zipO, scrO, argO, intO, vwD, isSrc, isCel, cOk, Sl.vw, Sl.fz, lf, lf.lfAll, layS, isB, g_nm, g_tp, g_nil, g_cons, Option.bind_some, Option.map_some, List.cons_append, List.nil_append, setS, setSl, Src.get, Src.put, itemsD, seqD, iN_none, iN_int, iN_bool, iN_str, iN_list, iN_tup, iN_dict, List.map_cons, List.map_nil, List.getElem?_cons_zero, List.getElem?_cons_succ, List.set_cons_zero, List.set_cons_succ, List.foldl_cons, List.foldl_nil, List.length_cons, List.length_nil, if_true, if_false, Bool.false_eq_true, ne_eq, reduceCtorEq, not_false_eq_true, implies_true, true_and, and_true, Bool.not_true, Bool.not_false, Bool.not_eq_true']
  exact ⟨rfl, false, rfl, h⟩
theorem e_close {d : Nat} {k : Int} {S : Src} {P : PyData → Src → Prop} (h1 : 3 ≤ k) (h2 : k < 1000000) (n3 : k ≠ 3) (n7 : k ≠ 7) (n57 : k ≠ 57) (h : P .none S) : Er (callT TT (d + 3) 4 [.d (.int k)] S) P := by
  refine er_callT (fd := f_close_times) rfl rfl ?_
  show Rs (exSs _ c_close_times [.d (.int k)] S) _
  unfold c_close_times
  refine rs_cons.mpr ?_
  simp only [w_vr, w_cn, w_bin, w_neg, v_nt, w_cmp, w_cmp2, w_an, w_or, w_one, v_ite, w_tup, w_lst, w_call, w_bi, w_ix, w_sl, w_rv, w_dsp, w_lc, w_sget, w_slen, w_spop, w_nil, w_cons, w_star, w_anil, w_avr, w_aex, w_tnil, v_tcons, w_iex, w_irng1, w_irng2, w_ienm, w_izip, w_iscr, w_evB, w_asg, w_own, w_par, w_pnil, w_pcons, w_app, w_frz, w_sset, w_cels, v_ifs, te_cmp, te_cmp2, te_nt, te_one, te_an, te_or, te_ite, te_vr, te_cn, te_call, te_bi, te_ix, te_slen, te_bin, w_frs, w_jex, w_jrng1, w_jrng2, w_jenm, w_jzip, w_jscr, w_ret, w_exs, w_pas, w_brk, w_cnt, kn_nx, kn_rt, kn_bk, kn_ct, n_add, n_sub, n_lt, n_le, n_gt, n_ge, n_eq, n_ne, n_is, n_isn, t_bool, t_none, b_int, b_intb, b_abs, b_lenL, b_lenT, b_tupL, b_lstL, b_lstT, eo_some, er_some, rs_some, rs_nil, negO, revO, enumO, zipO, scrO, argO, intO, vwD, isSrc, isCel, cOk, Sl.vw, Sl.fz, lf, lf.lfAll, layS, isB, g_nm, g_tp, g_nil, g_cons, Option.bind_some, Option.map_some, List.cons_append, List.nil_append, setS, setSl, Src.get, Src.put, itemsD, seqD, iN_none, iN_int, iN_bool, iN_str, iN_list, iN_tup, iN_dict, List.map_cons, List.map_nil, List.getElem?_cons_zero, List.getElem?_cons_succ, List.set_cons_zero, List.set_cons_succ, List.foldl_cons, List.foldl_nil, List.length_cons, List.length_nil, if_true, if_false, Bool.false_eq_true, ne_eq, reduceCtorEq, not_false_eq_true, implies_true, true_and, and_true, Bool.not_true, Bool.not_false, Bool.not_eq_true', decide_eq_true (show 2 < k by omega)]
  exact e_parts h1 h2 n3 n7 n57 h
/-- what stands in the list of the degrees -/
def gK (j : Int) : Bool := j == 1 || j == 2 || j == 3 || j == 7 || j == 57
def gD : PyData → Option PyData
  | .int j => if gK j then some (.int j) else none
  | _ => none
def lets (m : Nat) : List PyData := ([1, 2, 3, 7, 57].filter fun (j : Nat) => decide (j ≤ m)).map fun (j : Nat) => .int j
theorem lets_step (m : Nat) : lets (m + 1) = lets m ++ (if gK (m + 1 : Nat) then [.int (m + 1 : Nat)] else []) := by
  by_cases h : m = 0 ∨ m = 1 ∨ m = 2 ∨ m = 6 ∨ m = 56
  · rcases h with rfl | rfl | rfl | rfl | rfl <;> rfl
  · have g : gK (m + 1 : Nat) = false := by
      unfold gK
      simp only [Bool.or_eq_false_iff, beq_eq_false_iff_ne, ne_eq]
      omega
    rw [g]
    have e : ∀ j ∈ [1, 2, 3, 7, 57], decide (j ≤ m + 1) = decide (j ≤ m) := fun j hj => by
      simp only [List.mem_cons, List.not_mem_nil, or_false] at hj
      apply decide_eq_decide.mpr
      omega
    unfold lets
    rw [List.filter_congr e]
    simp
theorem lets_up : ∀ m : Nat, (Pyl.upTo 1 m).filterMap gD = lets m
  | 0 => rfl
  | m + 1 => by
    rw [lets_step, ← lets_up m]
    unfold Pyl.upTo
    rw [List.range_succ, List.map_append, List.filterMap_append]
    congr 1
    have : (1 : Int) + (m : Nat) = ((m + 1 : Nat) : Int) := by omega
    simp only [List.map_cons, List.map_nil, List.filterMap_cons, List.filterMap_nil, gD, this]
    cases gK (m + 1 : Nat) <;> rfl
theorem lets_ok (m : Nat) : reprOk (.tuple (lets m)) = true := by
  have h : lets m = [] ∨ lets m = [.int 1] ∨ lets m = [.int 1, .int 2] ∨ lets m = [.int 1, .int 2, .int 3] ∨ lets m = [.int 1, .int 2, .int 3, .int 7] ∨ lets m = [.int 1, .int 2, .int 3, .int 7, .int 57] := by
    unfold lets
    by_cases h1 : 1 ≤ m
    · by_cases h2 : 2 ≤ m
      · by_cases h3 : 3 ≤ m
        · by_cases h7 : 7 ≤ m
          · by_cases h57 : 57 ≤ m
            · simp [List.filter, h1, h2, h3, h7, h57]
            · simp [List.filter, h1, h2, h3, h7, h57]
          · simp [List.filter, h1, h2, h3, h7, show ¬ 57 ≤ m by omega]
        · simp [List.filter, h1, h2, h3, show ¬ 7 ≤ m by omega, show ¬ 57 ≤ m by omega]
      · simp [List.filter, h1, h2, show ¬ 3 ≤ m by omega, show ¬ 7 ≤ m by omega, show ¬ 57 ≤ m by omega]
    · simp [List.filter, h1, show ¬ 2 ≤ m by omega, show ¬ 3 ≤ m by omega, show ¬ 7 ≤ m by omega, show ¬ 57 ≤ m by omega]
  rcases h with h | h | h | h | h | h <;> rw [h] <;> decide +kernel
theorem parts3 (d : Nat) (S : Src) : callT TT (d + 2) 5 [.d (.int 3)] S = some (.tuple [.int 1, .int (-2), .int 5, .int 4], S) := by kernel_rfl
theorem parts7 (d : Nat) (S : Src) : callT TT (d + 2) 5 [.d (.int 7)] S = some (.tuple [.int 2, .int (-3), .int 28, .int 21], S) := by kernel_rfl
theorem parts57 (d : Nat) (S : Src) : callT TT (d + 2) 5 [.d (.int 57)] S = some (.tuple [.int 7, .int (-8), .int 1729, .int 1520], S) := by kernel_rfl
theorem e_lets {d : Nat} {m : Int} {S : Src} {P : PyData → Src → Prop} (h1 : 1 ≤ m) (h2 : m ≤ 1000) (h : P (.tuple (lets m.toNat)) S) : Er (callT TT (d + 3) 1 [.d (.int m)] S) P := by
  refine er_callT (fd := f_let_degrees) rfl rfl ?_
  show Rs (exSs _ c_let_degrees [.d (.int m), .no] S) _
  unfold c_let_degrees
  refine rs_cons.mpr ?_
  simp only [w_vr, w_cn, w_bin, w_neg, v_nt, w_cmp, w_cmp2, w_an, w_or, w_one, v_ite, w_tup, w_lst, w_call, w_bi, w_ix, w_sl, w_rv, w_dsp, w_lc, w_sget, w_slen, w_spop, w_nil, w_cons, w_star, w_anil, w_avr, w_aex, w_tnil, v_tcons, w_iex, w_irng1, w_irng2, w_ienm, w_izip, w_iscr, w_evB, w_asg, w_own, w_par, w_pnil, w_pcons, w_app, w_frz, w_sset, w_cels, v_ifs, te_cmp, te_cmp2, te_nt, te_one, te_an, te_or, te_ite, te_vr, te_cn, te_call, te_bi, te_ix, te_slen, te_bin, w_frs, w_jex, w_jrng1, w_jrng2, w_jenm, w_jzip, w_jscr, w_ret, w_exs, w_pas, w_brk, w_cnt, kn_nx, kn_rt, kn_bk, kn_ct, n_add, n_sub, n_lt, n_le, n_gt, n_ge, n_eq, n_ne, n_is, n_isn, t_bool, t_none, b_int, b_intb, b_abs, b_lenL, b_lenT, b_tupL, b_lstL, b_lstT, eo_some, er_some, rs_some, rs_nil, negO, revO, enumO, zipO, scrO, argO, intO, vwD, isSrc, isCel, cOk, Sl.vw, Sl.fz, lf, lf.lfAll, layS, isB, g_nm, g_tp, g_nil, g_cons, Option.bind_some, Option.map_some, List.cons_append, List.nil_append, setS, setSl, Src.get, Src.put, itemsD, seqD, iN_none, iN_int, iN_bool, iN_str, iN_list, iN_tup, iN_dict, List.map_cons, List.map_nil, List.getElem?_cons_zero, List.getElem?_cons_succ, List.set_cons_zero, List.set_cons_succ, List.foldl_cons, List.foldl_nil, List.length_cons, List.length_nil, if_true, if_false, Bool.false_eq_true, ne_eq, reduceCtorEq, not_false_eq_true, implies_true, true_and, and_true, Bool.not_true, Bool.not_false, Bool.not_eq_true']
  have hr : rngD [.int 1, .int (m + 1)] = some (Pyl.upTo 1 m.toNat) := by
    have e : (m + 1 - 1).toNat = m.toNat := by omega
    have c : (small62 1 && small62 (m + 1) && okLen (m + 1 - 1).toNat) = true := by
      unfold small62 okLen
      simp only [Bool.and_eq_true, decide_eq_true_eq]
      omega
    simp only [rngD]
    rw [if_pos c, e]
  rw [hr]
  simp only [w_vr, w_cn, w_bin, w_neg, v_nt, w_cmp, w_cmp2, w_an, w_or, w_one, v_ite, w_tup, w_lst, w_call, w_bi, w_ix, w_sl, w_rv, w_dsp, w_lc, w_sget, w_slen, w_spop, w_nil, w_cons, w_star, w_anil, w_avr, w_aex, w_tnil, v_tcons, w_iex, w_irng1, w_irng2, w_ienm, w_izip, w_iscr, w_evB, w_asg, w_own, w_par, w_pnil, w_pcons, w_app, w_frz, w_sset, w_cels, v_ifs, te_cmp, te_cmp2, te_nt, te_one, te_an, te_or, te_ite, te_vr, te_cn, te_call, te_bi, te_ix, te_slen, te_bin, w_frs, w_jex, w_jrng1, w_jrng2, w_jenm, w_jzip, w_jscr, w_ret, w_exs, w_pas, w_brk, w_cnt, kn_nx, kn_rt, kn_bk, kn_ct, n_add, n_sub, n_lt, n_le, n_gt, n_ge, n_eq, n_ne, n_is, n_isn, t_bool, t_none, b_int, b_intb, b_abs, b_lenL, b_lenT, b_tupL, b_lstL, b_lstT, eo_some, er_some, rs_some, rs_nil, negO, revO, enumO, zipO, scrO, argO, intO, vwD, isSrc, isCel, cOk, Sl.vw, Sl.fz, lf, lf.lfAll, layS, isB, g_nm, g_tp, g_nil, g_cons, Option.bind_some, Option.map_some, List.cons_append, List.nil_append, setS, setSl, Src.get, Src.put, itemsD, seqD, iN_none, iN_int, iN_bool, iN_str, iN_list, iN_tup, iN_dict, List.map_cons, List.map_nil, List.getElem?_cons_zero, List.getElem?_cons_succ, List.set_cons_zero, List.set_cons_succ, List.foldl_cons, List.foldl_nil, List.length_cons, List.length_nil, if_true, if_false, Bool.false_eq_true, ne_eq, reduceCtorEq, not_false_eq_true, implies_true, true_and, and_true, Bool.not_true, Bool.not_false, Bool.not_eq_true']
  refine er_runP gD (fun x hx => ?_) ?_
  · unfold Pyl.upTo at hx
    obtain ⟨i, hi, rfl⟩ := List.mem_map.mp hx
    have hi := List.mem_range.mp hi
    generalize hj : (1 : Int) + (i : Nat) = j
    have j1 : 1 ≤ j := by omega
    have j2 : j ≤ 1000 := by omega
    have con : ∀ v : PyData, isNone v = false → callT TT (d + 2) 5 [.d (.int j)] S = some (v, S) → gK j = true → Er (callT TT (d + 2) 5 [.d (.int j)] S) fun x S1 => if isNone x = false then some (PyData.int j) = gD (.int j) ∧ S1 = S else none = gD (.int j) ∧ S1 = S := fun v nv e g => by
      refine Er.of e ?_
      simp only [nv, if_true, gD, g, and_self]
    simp only [w_vr, w_cn, w_bin, w_neg, v_nt, w_cmp, w_cmp2, w_an, w_or, w_one, v_ite, w_tup, w_lst, w_call, w_bi, w_ix, w_sl, w_rv, w_dsp, w_lc, w_sget, w_slen, w_spop, w_nil, w_cons, w_star, w_anil, w_avr, w_aex, w_tnil, v_tcons, w_iex, w_irng1, w_irng2, w_ienm, w_izip, w_iscr, w_evB, w_asg, w_own, w_par, w_pnil, w_pcons, w_app, w_frz, w_sset, w_cels, v_ifs, te_cmp, te_cmp2, te_nt, te_one, te_an, te_or, te_ite, te_vr, te_cn, te_call, te_bi, te_ix, te_slen, te_bin, w_frs, w_jex, w_jrng1, w_jrng2, w_jenm, w_jzip, w_jscr, w_ret, w_exs, w_pas, w_brk, w_cnt, kn_nx, kn_rt, kn_bk, kn_ct, n_add, n_sub, n_lt, n_le, n_gt, n_ge, n_eq, n_ne, n_is, n_isn, t_bool, t_none, b_int, b_intb, b_abs, b_lenL, b_lenT, b_tupL, b_lstL, b_lstT, eo_some, er_some, rs_some, rs_nil, negO, revO, enumO, zipO, scrO, argO, intO, vwD, isSrc, isCel, cOk, Sl.vw, Sl.fz, lf, lf.lfAll, layS, isB, g_nm, g_tp, g_nil, g_cons, Option.bind_some, Option.map_some, List.cons_append, List.nil_append, setS, setSl, Src.get, Src.put, itemsD, seqD, iN_none, iN_int, iN_bool, iN_str, iN_list, iN_tup, iN_dict, List.map_cons, List.map_nil, List.getElem?_cons_zero, List.getElem?_cons_succ, List.set_cons_zero, List.set_cons_succ, List.foldl_cons, List.foldl_nil, List.length_cons, List.length_nil, if_true, if_false, Bool.false_eq_true, ne_eq, reduceCtorEq, not_false_eq_true, implies_true, true_and, and_true, Bool.not_true, Bool.not_false, Bool.not_eq_true', w_turn, wipeV, setAllV]
    refine if_dec (fun c => ?_) fun c => ?_
    · have : j = 1 ∨ j = 2 := by omega
      rcases this with rfl | rfl <;> rfl
    · by_cases n3 : j = 3
      · subst n3; exact con _ rfl (parts3 d S) rfl
      by_cases n7 : j = 7
      · subst n7; exact con _ rfl (parts7 d S) rfl
      by_cases n57 : j = 57
      · subst n57; exact con _ rfl (parts57 d S) rfl
      refine e_parts (by omega) (by omega) n3 n7 n57 ?_
      have g : gK j = false := by
        unfold gK
        simp only [Bool.or_eq_false_iff, beq_eq_false_iff_ne, ne_eq]
        omega
      simp only [isNone, Bool.true_eq_false, Bool.false_eq_true, if_false, gD, g, and_self]
  · rw [lets_up]
    exact h
theorem e_of {d : Nat} {xs : List Int} {S : Src} {P : PyData → Src → Prop} (hS : SOk S) (h1 : 1 ≤ xs.length) (h2 : xs.length < 1000) (h : ∀ k ∈ xs, ∀ S', SOk S' → P (.int k) S') : Er (callT TT (d + 2) 2 [.src, .d (.list (xs.map .int))] S) P := by
  refine er_callT (fd := f__law_of) rfl rfl ?_
  show Rs (exSs _ c__law_of [.src, .d (.list (xs.map .int))] S) _
  unfold c__law_of
  refine rs_cons.mpr ?_
  simp only [w_vr, w_cn, w_bin, w_neg, v_nt, w_cmp, w_cmp2, w_an, w_or, w_one, v_ite, w_tup, w_lst, w_call, w_bi, w_ix, w_sl, w_rv, w_dsp, w_lc, w_sget, w_slen, w_spop, w_nil, w_cons, w_star, w_anil, w_avr, w_aex, w_tnil, v_tcons, w_iex, w_irng1, w_irng2, w_ienm, w_izip, w_iscr, w_evB, w_asg, w_own, w_par, w_pnil, w_pcons, w_app, w_frz, w_sset, w_cels, v_ifs, te_cmp, te_cmp2, te_nt, te_one, te_an, te_or, te_ite, te_vr, te_cn, te_call, te_bi, te_ix, te_slen, te_bin, w_frs, w_jex, w_jrng1, w_jrng2, w_jenm, w_jzip, w_jscr, w_ret, w_exs, w_pas, w_brk, w_cnt, kn_nx, kn_rt, kn_bk, kn_ct, n_add, n_sub, n_lt, n_le, n_gt, n_ge, n_eq, n_ne, n_is, n_isn, t_bool, t_none, b_int, b_intb, b_abs, b_lenL, b_lenT, b_tupL, b_lstL, b_lstT, eo_some, er_some, rs_some, rs_nil, negO, revO, enumO, zipO, scrO, argO, intO, vwD, isSrc, isCel, cOk, Sl.vw, Sl.fz, lf, lf.lfAll, layS, isB, g_nm, g_tp, g_nil, g_cons, Option.bind_some, Option.map_some, List.cons_append, List.nil_append, setS, setSl, Src.get, Src.put, itemsD, seqD, iN_none, iN_int, iN_bool, iN_str, iN_list, iN_tup, iN_dict, List.map_cons, List.map_nil, List.getElem?_cons_zero, List.getElem?_cons_succ, List.set_cons_zero, List.set_cons_succ, List.foldl_cons, List.foldl_nil, List.length_cons, List.length_nil, if_true, if_false, Bool.false_eq_true, ne_eq, reduceCtorEq, not_false_eq_true, implies_true, true_and, and_true, Bool.not_true, Bool.not_false, Bool.not_eq_true', List.length_map]
  refine e_pick hS (by omega) (by omega) fun v S' v0 v1 hS' => ?_
  have e : ixD (.list (xs.map PyData.int)) (.int v) = some (.int (xs[v.toNat]'(by omega))) := by
    simp only [ixD, atD, L2.atI, L2.ixN, List.length_map]
    simp only [show 0 ≤ v from v0, decide_true, if_true, show v < (xs.length : Int) from v1]
    simp
  rw [e]
  simp only [w_vr, w_cn, w_bin, w_neg, v_nt, w_cmp, w_cmp2, w_an, w_or, w_one, v_ite, w_tup, w_lst, w_call, w_bi, w_ix, w_sl, w_rv, w_dsp, w_lc, w_sget, w_slen, w_spop, w_nil, w_cons, w_star, w_anil, w_avr, w_aex, w_tnil, v_tcons, w_iex, w_irng1, w_irng2, w_ienm, w_izip, w_iscr, w_evB, w_asg, w_own, w_par, w_pnil, w_pcons, w_app, w_frz, w_sset, w_cels, v_ifs, te_cmp, te_cmp2, te_nt, te_one, te_an, te_or, te_ite, te_vr, te_cn, te_call, te_bi, te_ix, te_slen, te_bin, w_frs, w_jex, w_jrng1, w_jrng2, w_jenm, w_jzip, w_jscr, w_ret, w_exs, w_pas, w_brk, w_cnt, kn_nx, kn_rt, kn_bk, kn_ct, n_add, n_sub, n_lt, n_le, n_gt, n_ge, n_eq, n_ne, n_is, n_isn, t_bool, t_none, b_int, b_intb, b_abs, b_lenL, b_lenT, b_tupL, b_lstL, b_lstT, eo_some, er_some, rs_some, rs_nil, negO, revO, enumO, zipO, scrO, argO, intO, vwD, isSrc, isCel, cOk, Sl.vw, Sl.fz, lf, lf.lfAll, layS, isB, g_nm, g_tp, g_nil, g_cons, Option.bind_some, Option.map_some, List.cons_append, List.nil_append, setS, setSl, Src.get, Src.put, itemsD, seqD, iN_none, iN_int, iN_bool, iN_str, iN_list, iN_tup, iN_dict, List.map_cons, List.map_nil, List.getElem?_cons_zero, List.getElem?_cons_succ, List.set_cons_zero, List.set_cons_succ, List.foldl_cons, List.foldl_nil, List.length_cons, List.length_nil, if_true, if_false, Bool.false_eq_true, ne_eq, reduceCtorEq, not_false_eq_true, implies_true, true_and, and_true, Bool.not_true, Bool.not_false, Bool.not_eq_true']
  exact h _ (List.getElem_mem _) S' hS'
def gM (m : Int) : PyData → Option PyData
  | .int j => if j ≤ m then some (.int j) else none
  | _ => none
theorem gM_lets {m : Int} (hm : 0 ≤ m) : ∀ l : List Nat, (l.map fun (j : Nat) => PyData.int j).filterMap (gM m) = (l.filter fun j => decide (j ≤ m.toNat)).map fun (j : Nat) => PyData.int j
  | [] => rfl
  | j :: l => by
    rw [List.map_cons, List.filterMap_cons, List.filter_cons]
    by_cases c : j ≤ m.toNat
    · have : (j : Int) ≤ m := by omega
      simp only [gM, this, if_true, decide_eq_true c, List.map_cons, gM_lets hm l]
    · have : ¬ (j : Int) ≤ m := by omega
      simp only [gM, this, if_false, decide_eq_false c, Bool.false_eq_true, gM_lets hm l]
theorem law_true (ns : List Int) (hl : ns.length ≤ 63) : lawT told.T 12 told.mkr told.names.length told.i told.rest ns = some (.bool true) := by
  refine lawT_of SOk (mkA_ok hl) fun S hS => ?_
  show Rs (exSs (callT TT 12) c_law [.scr ns, .src, .no, .no, .no, .no, .no, .no, .no, .no, .no] S) _
  unfold c_law
  refine rs_cons.mpr ?_
  simp only [w_vr, w_cn, w_bin, w_neg, v_nt, w_cmp, w_cmp2, w_an, w_or, w_one, v_ite, w_tup, w_lst, w_call, w_bi, w_ix, w_sl, w_rv, w_dsp, w_lc, w_sget, w_slen, w_spop, w_nil, w_cons, w_star, w_anil, w_avr, w_aex, w_tnil, v_tcons, w_iex, w_irng1, w_irng2, w_ienm, w_izip, w_iscr, w_evB, w_asg, w_own, w_par, w_pnil, w_pcons, w_app, w_frz, w_sset, w_cels, v_ifs, te_cmp, te_cmp2, te_nt, te_one, te_an, te_or, te_ite, te_vr, te_cn, te_call, te_bi, te_ix, te_slen, te_bin, w_frs, w_jex, w_jrng1, w_jrng2, w_jenm, w_jzip, w_jscr, w_ret, w_exs, w_pas, w_brk, w_cnt, kn_nx, kn_rt, kn_bk, kn_ct, n_add, n_sub, n_lt, n_le, n_gt, n_ge, n_eq, n_ne, n_is, n_isn, t_bool, t_none, b_int, b_intb, b_abs, b_lenL, b_lenT, b_tupL, b_lstL, b_lstT, eo_some, er_some, rs_some, rs_nil, negO, revO, enumO, zipO, scrO, argO, intO, vwD, isSrc, isCel, cOk, Sl.vw, Sl.fz, lf, lf.lfAll, layS, isB, g_nm, g_tp, g_nil, g_cons, Option.bind_some, Option.map_some, List.cons_append, List.nil_append, setS, setSl, Src.get, Src.put, itemsD, seqD, iN_none, iN_int, iN_bool, iN_str, iN_list, iN_tup, iN_dict, List.map_cons, List.map_nil, List.getElem?_cons_zero, List.getElem?_cons_succ, List.set_cons_zero, List.set_cons_succ, List.foldl_cons, List.foldl_nil, List.length_cons, List.length_nil, if_true, if_false, Bool.false_eq_true, ne_eq, reduceCtorEq, not_false_eq_true, implies_true, true_and, and_true, Bool.not_true, Bool.not_false, Bool.not_eq_true']
  refine e_pick hS (by decide) (by decide) fun v S1 v0 v1 h1 => ?_
  simp only [w_vr, w_cn, w_bin, w_neg, v_nt, w_cmp, w_cmp2, w_an, w_or, w_one, v_ite, w_tup, w_lst, w_call, w_bi, w_ix, w_sl, w_rv, w_dsp, w_lc, w_sget, w_slen, w_spop, w_nil, w_cons, w_star, w_anil, w_avr, w_aex, w_tnil, v_tcons, w_iex, w_irng1, w_irng2, w_ienm, w_izip, w_iscr, w_evB, w_asg, w_own, w_par, w_pnil, w_pcons, w_app, w_frz, w_sset, w_cels, v_ifs, te_cmp, te_cmp2, te_nt, te_one, te_an, te_or, te_ite, te_vr, te_cn, te_call, te_bi, te_ix, te_slen, te_bin, w_frs, w_jex, w_jrng1, w_jrng2, w_jenm, w_jzip, w_jscr, w_ret, w_exs, w_pas, w_brk, w_cnt, kn_nx, kn_rt, kn_bk, kn_ct, n_add, n_sub, n_lt, n_le, n_gt, n_ge, n_eq, n_ne, n_is, n_isn, t_bool, t_none, b_int, b_intb, b_abs, b_lenL, b_lenT, b_tupL, b_lstL, b_lstT, eo_some, er_some, rs_some, rs_nil, negO, revO, enumO, zipO, scrO, argO, intO, vwD, isSrc, isCel, cOk, Sl.vw, Sl.fz, lf, lf.lfAll, layS, isB, g_nm, g_tp, g_nil, g_cons, Option.bind_some, Option.map_some, List.cons_append, List.nil_append, setS, setSl, Src.get, Src.put, itemsD, seqD, iN_none, iN_int, iN_bool, iN_str, iN_list, iN_tup, iN_dict, List.map_cons, List.map_nil, List.getElem?_cons_zero, List.getElem?_cons_succ, List.set_cons_zero, List.set_cons_succ, List.foldl_cons, List.foldl_nil, List.length_cons, List.length_nil, if_true, if_false, Bool.false_eq_true, ne_eq, reduceCtorEq, not_false_eq_true, implies_true, true_and, and_true, Bool.not_true, Bool.not_false, Bool.not_eq_true']
  generalize hm : 1 + v = m
  have m1 : 1 ≤ m := by omega
  have m2 : m ≤ 1000 := by omega
  refine rs_cons.mpr ?_
  simp only [w_vr, w_cn, w_bin, w_neg, v_nt, w_cmp, w_cmp2, w_an, w_or, w_one, v_ite, w_tup, w_lst, w_call, w_bi, w_ix, w_sl, w_rv, w_dsp, w_lc, w_sget, w_slen, w_spop, w_nil, w_cons, w_star, w_anil, w_avr, w_aex, w_tnil, v_tcons, w_iex, w_irng1, w_irng2, w_ienm, w_izip, w_iscr, w_evB, w_asg, w_own, w_par, w_pnil, w_pcons, w_app, w_frz, w_sset, w_cels, v_ifs, te_cmp, te_cmp2, te_nt, te_one, te_an, te_or, te_ite, te_vr, te_cn, te_call, te_bi, te_ix, te_slen, te_bin, w_frs, w_jex, w_jrng1, w_jrng2, w_jenm, w_jzip, w_jscr, w_ret, w_exs, w_pas, w_brk, w_cnt, kn_nx, kn_rt, kn_bk, kn_ct, n_add, n_sub, n_lt, n_le, n_gt, n_ge, n_eq, n_ne, n_is, n_isn, t_bool, t_none, b_int, b_intb, b_abs, b_lenL, b_lenT, b_tupL, b_lstL, b_lstT, eo_some, er_some, rs_some, rs_nil, negO, revO, enumO, zipO, scrO, argO, intO, vwD, isSrc, isCel, cOk, Sl.vw, Sl.fz, lf, lf.lfAll, layS, isB, g_nm, g_tp, g_nil, g_cons, Option.bind_some, Option.map_some, List.cons_append, List.nil_append, setS, setSl, Src.get, Src.put, itemsD, seqD, iN_none, iN_int, iN_bool, iN_str, iN_list, iN_tup, iN_dict, List.map_cons, List.map_nil, List.getElem?_cons_zero, List.getElem?_cons_succ, List.set_cons_zero, List.set_cons_succ, List.foldl_cons, List.foldl_nil, List.length_cons, List.length_nil, if_true, if_false, Bool.false_eq_true, ne_eq, reduceCtorEq, not_false_eq_true, implies_true, true_and, and_true, Bool.not_true, Bool.not_false, Bool.not_eq_true']
  refine e_lets m1 m2 ?_
  rw [b_repr (lets_ok _)]
  refine ⟨rfl, er_runP (gM m) (fun x hx => ?_) ?_⟩
  · obtain ⟨j, rfl⟩ : ∃ j : Int, x = .int j := by
      simp only [List.mem_cons, List.not_mem_nil, or_false] at hx
      rcases hx with rfl | rfl | rfl | rfl | rfl <;> exact ⟨_, rfl⟩
    simp only [w_vr, w_cn, w_bin, w_neg, v_nt, w_cmp, w_cmp2, w_an, w_or, w_one, v_ite, w_tup, w_lst, w_call, w_bi, w_ix, w_sl, w_rv, w_dsp, w_lc, w_sget, w_slen, w_spop, w_nil, w_cons, w_star, w_anil, w_avr, w_aex, w_tnil, v_tcons, w_iex, w_irng1, w_irng2, w_ienm, w_izip, w_iscr, w_evB, w_asg, w_own, w_par, w_pnil, w_pcons, w_app, w_frz, w_sset, w_cels, v_ifs, te_cmp, te_cmp2, te_nt, te_one, te_an, te_or, te_ite, te_vr, te_cn, te_call, te_bi, te_ix, te_slen, te_bin, w_frs, w_jex, w_jrng1, w_jrng2, w_jenm, w_jzip, w_jscr, w_ret, w_exs, w_pas, w_brk, w_cnt, kn_nx, kn_rt, kn_bk, kn_ct, n_add, n_sub, n_lt, n_le, n_gt, n_ge, n_eq, n_ne, n_is, n_isn, t_bool, t_none, b_int, b_intb, b_abs, b_lenL, b_lenT, b_tupL, b_lstL, b_lstT, eo_some, er_some, rs_some, rs_nil, negO, revO, enumO, zipO, scrO, argO, intO, vwD, isSrc, isCel, cOk, Sl.vw, Sl.fz, lf, lf.lfAll, layS, isB, g_nm, g_tp, g_nil, g_cons, Option.bind_some, Option.map_some, List.cons_append, List.nil_append, setS, setSl, Src.get, Src.put, itemsD, seqD, iN_none, iN_int, iN_bool, iN_str, iN_list, iN_tup, iN_dict, List.map_cons, List.map_nil, List.getElem?_cons_zero, List.getElem?_cons_succ, List.set_cons_zero, List.set_cons_succ, List.foldl_cons, List.foldl_nil, List.length_cons, List.length_nil, if_true, if_false, Bool.false_eq_true, ne_eq, reduceCtorEq, not_false_eq_true, implies_true, true_and, and_true, Bool.not_true, Bool.not_false, Bool.not_eq_true', w_turn, wipeV, setAllV]
    refine if_dec (fun c => ?_) fun c => ?_
    · simp only [gM, c, if_true]
    · simp only [gM, c, if_false]
  rw [show [PyData.int 1, .int 2, .int 3, .int 7, .int 57] = [1, 2, 3, 7, 57].map (fun (j : Nat) => PyData.int j) from rfl, gM_lets (by omega)]
  show Eo (biD .repr [.tuple (lets m.toNat)]) _
  rw [b_repr (lets_ok _), n_ne_same]
  simp only [w_vr, w_cn, w_bin, w_neg, v_nt, w_cmp, w_cmp2, w_an, w_or, w_one, v_ite, w_tup, w_lst, w_call, w_bi, w_ix, w_sl, w_rv, w_dsp, w_lc, w_sget, w_slen, w_spop, w_nil, w_cons, w_star, w_anil, w_avr, w_aex, w_tnil, v_tcons, w_iex, w_irng1, w_irng2, w_ienm, w_izip, w_iscr, w_evB, w_asg, w_own, w_par, w_pnil, w_pcons, w_app, w_frz, w_sset, w_cels, v_ifs, te_cmp, te_cmp2, te_nt, te_one, te_an, te_or, te_ite, te_vr, te_cn, te_call, te_bi, te_ix, te_slen, te_bin, w_frs, w_jex, w_jrng1, w_jrng2, w_jenm, w_jzip, w_jscr, w_ret, w_exs, w_pas, w_brk, w_cnt, kn_nx, kn_rt, kn_bk, kn_ct, n_add, n_sub, n_lt, n_le, n_gt, n_ge, n_eq, n_ne, n_is, n_isn, t_bool, t_none, b_int, b_intb, b_abs, b_lenL, b_lenT, b_tupL, b_lstL, b_lstT, eo_some, er_some, rs_some, rs_nil, negO, revO, enumO, zipO, scrO, argO, intO, vwD, isSrc, isCel, cOk, Sl.vw, Sl.fz, lf, lf.lfAll, layS, isB, g_nm, g_tp, g_nil, g_cons, Option.bind_some, Option.map_some, List.cons_append, List.nil_append, setS, setSl, Src.get, Src.put, itemsD, seqD, iN_none, iN_int, iN_bool, iN_str, iN_list, iN_tup, iN_dict, List.map_cons, List.map_nil, List.getElem?_cons_zero, List.getElem?_cons_succ, List.set_cons_zero, List.set_cons_succ, List.foldl_cons, List.foldl_nil, List.length_cons, List.length_nil, if_true, if_false, Bool.false_eq_true, ne_eq, reduceCtorEq, not_false_eq_true, implies_true, true_and, and_true, Bool.not_true, Bool.not_false, Bool.not_eq_true']
  refine rs_cons.mpr ?_
  simp only [w_vr, w_cn, w_bin, w_neg, v_nt, w_cmp, w_cmp2, w_an, w_or, w_one, v_ite, w_tup, w_lst, w_call, w_bi, w_ix, w_sl, w_rv, w_dsp, w_lc, w_sget, w_slen, w_spop, w_nil, w_cons, w_star, w_anil, w_avr, w_aex, w_tnil, v_tcons, w_iex, w_irng1, w_irng2, w_ienm, w_izip, w_iscr, w_evB, w_asg, w_own, w_par, w_pnil, w_pcons, w_app, w_frz, w_sset, w_cels, v_ifs, te_cmp, te_cmp2, te_nt, te_one, te_an, te_or, te_ite, te_vr, te_cn, te_call, te_bi, te_ix, te_slen, te_bin, w_frs, w_jex, w_jrng1, w_jrng2, w_jenm, w_jzip, w_jscr, w_ret, w_exs, w_pas, w_brk, w_cnt, kn_nx, kn_rt, kn_bk, kn_ct, n_add, n_sub, n_lt, n_le, n_gt, n_ge, n_eq, n_ne, n_is, n_isn, t_bool, t_none, b_int, b_intb, b_abs, b_lenL, b_lenT, b_tupL, b_lstL, b_lstT, eo_some, er_some, rs_some, rs_nil, negO, revO, enumO, zipO, scrO, argO, intO, vwD, isSrc, isCel, cOk, Sl.vw, Sl.fz, lf, lf.lfAll, layS, isB, g_nm, g_tp, g_nil, g_cons, Option.bind_some, Option.map_some, List.cons_append, List.nil_append, setS, setSl, Src.get, Src.put, itemsD, seqD, iN_none, iN_int, iN_bool, iN_str, iN_list, iN_tup, iN_dict, List.map_cons, List.map_nil, List.getElem?_cons_zero, List.getElem?_cons_succ, List.set_cons_zero, List.set_cons_succ, List.foldl_cons, List.foldl_nil, List.length_cons, List.length_nil, if_true, if_false, Bool.false_eq_true, ne_eq, reduceCtorEq, not_false_eq_true, implies_true, true_and, and_true, Bool.not_true, Bool.not_false, Bool.not_eq_true']
  refine ⟨Pyl.upTo 0 8, rfl, ?_⟩
  refine Rs.imp (P := fun f ρ S => f = .nx ∧ SOk S ∧ ∃ x3 x4 x5 x6 x7 x8 x9 x10, ρ = [.scr ns, .src, .d (.int m), x3, x4, x5, x6, x7, x8, x9, x10]) (rs_for (fun xs ρ S => SOk S ∧ ∃ x3 x4 x5 x6 x7 x8 x9 x10, ρ = [.scr ns, .src, .d (.int m), x3, x4, x5, x6, x7, x8, x9, x10]) ?_ (fun ρ S h => ⟨rfl, h⟩) _ _ _ ⟨h1, _, _, _, _, _, _, _, _, rfl⟩) ?_
  · rintro x xs ρ S ⟨hS, x3, x4, x5, x6, x7, x8, x9, x10, rfl⟩
    simp only [rs_obind, w_vr, w_cn, w_bin, w_neg, v_nt, w_cmp, w_cmp2, w_an, w_or, w_one, v_ite, w_tup, w_lst, w_call, w_bi, w_ix, w_sl, w_rv, w_dsp, w_lc, w_sget, w_slen, w_spop, w_nil, w_cons, w_star, w_anil, w_avr, w_aex, w_tnil, v_tcons, w_iex, w_irng1, w_irng2, w_ienm, w_izip, w_iscr, w_evB, w_asg, w_own, w_par, w_pnil, w_pcons, w_app, w_frz, w_sset, w_cels, v_ifs, te_cmp, te_cmp2, te_nt, te_one, te_an, te_or, te_ite, te_vr, te_cn, te_call, te_bi, te_ix, te_slen, te_bin, w_frs, w_jex, w_jrng1, w_jrng2, w_jenm, w_jzip, w_jscr, w_ret, w_exs, w_pas, w_brk, w_cnt, kn_nx, kn_rt, kn_bk, kn_ct, n_add, n_sub, n_lt, n_le, n_gt, n_ge, n_eq, n_ne, n_is, n_isn, t_bool, t_none, b_int, b_intb, b_abs, b_lenL, b_lenT, b_tupL, b_lstL, b_lstT, eo_some, er_some, rs_some, rs_nil, negO, revO, enumO, zipO, scrO, argO, intO, vwD, isSrc, isCel, cOk, Sl.vw, Sl.fz, lf, lf.lfAll, layS, isB, g_nm, g_tp, g_nil, g_cons, Option.bind_some, Option.map_some, List.cons_append, List.nil_append, setS, setSl, Src.get, Src.put, itemsD, seqD, iN_none, iN_int, iN_bool, iN_str, iN_list, iN_tup, iN_dict, List.map_cons, List.map_nil, List.getElem?_cons_zero, List.getElem?_cons_succ, List.set_cons_zero, List.set_cons_succ, List.foldl_cons, List.foldl_nil, List.length_cons, List.length_nil, if_true, if_false, Bool.false_eq_true, ne_eq, reduceCtorEq, not_false_eq_true, implies_true, true_and, and_true, Bool.not_true, Bool.not_false, Bool.not_eq_true']
    refine rs_cons.mpr ?_
    simp only [w_vr, w_cn, w_bin, w_neg, v_nt, w_cmp, w_cmp2, w_an, w_or, w_one, v_ite, w_tup, w_lst, w_call, w_bi, w_ix, w_sl, w_rv, w_dsp, w_lc, w_sget, w_slen, w_spop, w_nil, w_cons, w_star, w_anil, w_avr, w_aex, w_tnil, v_tcons, w_iex, w_irng1, w_irng2, w_ienm, w_izip, w_iscr, w_evB, w_asg, w_own, w_par, w_pnil, w_pcons, w_app, w_frz, w_sset, w_cels, v_ifs, te_cmp, te_cmp2, te_nt, te_one, te_an, te_or, te_ite, te_vr, te_cn, te_call, te_bi, te_ix, te_slen, te_bin, w_frs, w_jex, w_jrng1, w_jrng2, w_jenm, w_jzip, w_jscr, w_ret, w_exs, w_pas, w_brk, w_cnt, kn_nx, kn_rt, kn_bk, kn_ct, n_add, n_sub, n_lt, n_le, n_gt, n_ge, n_eq, n_ne, n_is, n_isn, t_bool, t_none, b_int, b_intb, b_abs, b_lenL, b_lenT, b_tupL, b_lstL, b_lstT, eo_some, er_some, rs_some, rs_nil, negO, revO, enumO, zipO, scrO, argO, intO, vwD, isSrc, isCel, cOk, Sl.vw, Sl.fz, lf, lf.lfAll, layS, isB, g_nm, g_tp, g_nil, g_cons, Option.bind_some, Option.map_some, List.cons_append, List.nil_append, setS, setSl, Src.get, Src.put, itemsD, seqD, iN_none, iN_int, iN_bool, iN_str, iN_list, iN_tup, iN_dict, List.map_cons, List.map_nil, List.getElem?_cons_zero, List.getElem?_cons_succ, List.set_cons_zero, List.set_cons_succ, List.foldl_cons, List.foldl_nil, List.length_cons, List.length_nil, if_true, if_false, Bool.false_eq_true, ne_eq, reduceCtorEq, not_false_eq_true, implies_true, true_and, and_true, Bool.not_true, Bool.not_false, Bool.not_eq_true']
    refine e_pick hS (by decide) (by decide) fun v2 S2 v20 v21 h2 => ?_
    simp only [w_vr, w_cn, w_bin, w_neg, v_nt, w_cmp, w_cmp2, w_an, w_or, w_one, v_ite, w_tup, w_lst, w_call, w_bi, w_ix, w_sl, w_rv, w_dsp, w_lc, w_sget, w_slen, w_spop, w_nil, w_cons, w_star, w_anil, w_avr, w_aex, w_tnil, v_tcons, w_iex, w_irng1, w_irng2, w_ienm, w_izip, w_iscr, w_evB, w_asg, w_own, w_par, w_pnil, w_pcons, w_app, w_frz, w_sset, w_cels, v_ifs, te_cmp, te_cmp2, te_nt, te_one, te_an, te_or, te_ite, te_vr, te_cn, te_call, te_bi, te_ix, te_slen, te_bin, w_frs, w_jex, w_jrng1, w_jrng2, w_jenm, w_jzip, w_jscr, w_ret, w_exs, w_pas, w_brk, w_cnt, kn_nx, kn_rt, kn_bk, kn_ct, n_add, n_sub, n_lt, n_le, n_gt, n_ge, n_eq, n_ne, n_is, n_isn, t_bool, t_none, b_int, b_intb, b_abs, b_lenL, b_lenT, b_tupL, b_lstL, b_lstT, eo_some, er_some, rs_some, rs_nil, negO, revO, enumO, zipO, scrO, argO, intO, vwD, isSrc, isCel, cOk, Sl.vw, Sl.fz, lf, lf.lfAll, layS, isB, g_nm, g_tp, g_nil, g_cons, Option.bind_some, Option.map_some, List.cons_append, List.nil_append, setS, setSl, Src.get, Src.put, itemsD, seqD, iN_none, iN_int, iN_bool, iN_str, iN_list, iN_tup, iN_dict, List.map_cons, List.map_nil, List.getElem?_cons_zero, List.getElem?_cons_succ, List.set_cons_zero, List.set_cons_succ, List.foldl_cons, List.foldl_nil, List.length_cons, List.length_nil, if_true, if_false, Bool.false_eq_true, ne_eq, reduceCtorEq, not_false_eq_true, implies_true, true_and, and_true, Bool.not_true, Bool.not_false, Bool.not_eq_true', n_mul (mulOk_l (show (2 : Int).natAbs < 2 ^ 64 by decide))]
    generalize hs : 3 + 2 * v2 = s
    have s1 : 3 ≤ s := by omega
    have s2 : s < 2000 := by omega
    refine rs_cons.mpr ?_
    simp only [w_vr, w_cn, w_bin, w_neg, v_nt, w_cmp, w_cmp2, w_an, w_or, w_one, v_ite, w_tup, w_lst, w_call, w_bi, w_ix, w_sl, w_rv, w_dsp, w_lc, w_sget, w_slen, w_spop, w_nil, w_cons, w_star, w_anil, w_avr, w_aex, w_tnil, v_tcons, w_iex, w_irng1, w_irng2, w_ienm, w_izip, w_iscr, w_evB, w_asg, w_own, w_par, w_pnil, w_pcons, w_app, w_frz, w_sset, w_cels, v_ifs, te_cmp, te_cmp2, te_nt, te_one, te_an, te_or, te_ite, te_vr, te_cn, te_call, te_bi, te_ix, te_slen, te_bin, w_frs, w_jex, w_jrng1, w_jrng2, w_jenm, w_jzip, w_jscr, w_ret, w_exs, w_pas, w_brk, w_cnt, kn_nx, kn_rt, kn_bk, kn_ct, n_add, n_sub, n_lt, n_le, n_gt, n_ge, n_eq, n_ne, n_is, n_isn, t_bool, t_none, b_int, b_intb, b_abs, b_lenL, b_lenT, b_tupL, b_lstL, b_lstT, eo_some, er_some, rs_some, rs_nil, negO, revO, enumO, zipO, scrO, argO, intO, vwD, isSrc, isCel, cOk, Sl.vw, Sl.fz, lf, lf.lfAll, layS, isB, g_nm, g_tp, g_nil, g_cons, Option.bind_some, Option.map_some, List.cons_append, List.nil_append, setS, setSl, Src.get, Src.put, itemsD, seqD, iN_none, iN_int, iN_bool, iN_str, iN_list, iN_tup, iN_dict, List.map_cons, List.map_nil, List.getElem?_cons_zero, List.getElem?_cons_succ, List.set_cons_zero, List.set_cons_succ, List.foldl_cons, List.foldl_nil, List.length_cons, List.length_nil, if_true, if_false, Bool.false_eq_true, ne_eq, reduceCtorEq, not_false_eq_true, implies_true, true_and, and_true, Bool.not_true, Bool.not_false, Bool.not_eq_true', n_mul (mulOk_l (show s.natAbs < 2 ^ 64 by omega)), n_fdiv (show (0 : Int) < 4 by decide) (by decide)]
    refine ⟨.int 1000000, rfl, ?_⟩
    simp only [w_vr, w_cn, w_bin, w_neg, v_nt, w_cmp, w_cmp2, w_an, w_or, w_one, v_ite, w_tup, w_lst, w_call, w_bi, w_ix, w_sl, w_rv, w_dsp, w_lc, w_sget, w_slen, w_spop, w_nil, w_cons, w_star, w_anil, w_avr, w_aex, w_tnil, v_tcons, w_iex, w_irng1, w_irng2, w_ienm, w_izip, w_iscr, w_evB, w_asg, w_own, w_par, w_pnil, w_pcons, w_app, w_frz, w_sset, w_cels, v_ifs, te_cmp, te_cmp2, te_nt, te_one, te_an, te_or, te_ite, te_vr, te_cn, te_call, te_bi, te_ix, te_slen, te_bin, w_frs, w_jex, w_jrng1, w_jrng2, w_jenm, w_jzip, w_jscr, w_ret, w_exs, w_pas, w_brk, w_cnt, kn_nx, kn_rt, kn_bk, kn_ct, n_add, n_sub, n_lt, n_le, n_gt, n_ge, n_eq, n_ne, n_is, n_isn, t_bool, t_none, b_int, b_intb, b_abs, b_lenL, b_lenT, b_tupL, b_lstL, b_lstT, eo_some, er_some, rs_some, rs_nil, negO, revO, enumO, zipO, scrO, argO, intO, vwD, isSrc, isCel, cOk, Sl.vw, Sl.fz, lf, lf.lfAll, layS, isB, g_nm, g_tp, g_nil, g_cons, Option.bind_some, Option.map_some, List.cons_append, List.nil_append, setS, setSl, Src.get, Src.put, itemsD, seqD, iN_none, iN_int, iN_bool, iN_str, iN_list, iN_tup, iN_dict, List.map_cons, List.map_nil, List.getElem?_cons_zero, List.getElem?_cons_succ, List.set_cons_zero, List.set_cons_succ, List.foldl_cons, List.foldl_nil, List.length_cons, List.length_nil, if_true, if_false, Bool.false_eq_true, ne_eq, reduceCtorEq, not_false_eq_true, implies_true, true_and, and_true, Bool.not_true, Bool.not_false, Bool.not_eq_true']
    refine e_pick h2 (by decide) (by decide) fun v3 S3 v30 v31 h3 => ?_
    simp only [w_vr, w_cn, w_bin, w_neg, v_nt, w_cmp, w_cmp2, w_an, w_or, w_one, v_ite, w_tup, w_lst, w_call, w_bi, w_ix, w_sl, w_rv, w_dsp, w_lc, w_sget, w_slen, w_spop, w_nil, w_cons, w_star, w_anil, w_avr, w_aex, w_tnil, v_tcons, w_iex, w_irng1, w_irng2, w_ienm, w_izip, w_iscr, w_evB, w_asg, w_own, w_par, w_pnil, w_pcons, w_app, w_frz, w_sset, w_cels, v_ifs, te_cmp, te_cmp2, te_nt, te_one, te_an, te_or, te_ite, te_vr, te_cn, te_call, te_bi, te_ix, te_slen, te_bin, w_frs, w_jex, w_jrng1, w_jrng2, w_jenm, w_jzip, w_jscr, w_ret, w_exs, w_pas, w_brk, w_cnt, kn_nx, kn_rt, kn_bk, kn_ct, n_add, n_sub, n_lt, n_le, n_gt, n_ge, n_eq, n_ne, n_is, n_isn, t_bool, t_none, b_int, b_intb, b_abs, b_lenL, b_lenT, b_tupL, b_lstL, b_lstT, eo_some, er_some, rs_some, rs_nil, negO, revO, enumO, zipO, scrO, argO, intO, vwD, isSrc, isCel, cOk, Sl.vw, Sl.fz, lf, lf.lfAll, layS, isB, g_nm, g_tp, g_nil, g_cons, Option.bind_some, Option.map_some, List.cons_append, List.nil_append, setS, setSl, Src.get, Src.put, itemsD, seqD, iN_none, iN_int, iN_bool, iN_str, iN_list, iN_tup, iN_dict, List.map_cons, List.map_nil, List.getElem?_cons_zero, List.getElem?_cons_succ, List.set_cons_zero, List.set_cons_succ, List.foldl_cons, List.foldl_nil, List.length_cons, List.length_nil, if_true, if_false, Bool.false_eq_true, ne_eq, reduceCtorEq, not_false_eq_true, implies_true, true_and, and_true, Bool.not_true, Bool.not_false, Bool.not_eq_true']
    refine e_pick h3 (by decide) (by decide) fun v4 S4 v40 v41 h4 => ?_
    simp only [w_vr, w_cn, w_bin, w_neg, v_nt, w_cmp, w_cmp2, w_an, w_or, w_one, v_ite, w_tup, w_lst, w_call, w_bi, w_ix, w_sl, w_rv, w_dsp, w_lc, w_sget, w_slen, w_spop, w_nil, w_cons, w_star, w_anil, w_avr, w_aex, w_tnil, v_tcons, w_iex, w_irng1, w_irng2, w_ienm, w_izip, w_iscr, w_evB, w_asg, w_own, w_par, w_pnil, w_pcons, w_app, w_frz, w_sset, w_cels, v_ifs, te_cmp, te_cmp2, te_nt, te_one, te_an, te_or, te_ite, te_vr, te_cn, te_call, te_bi, te_ix, te_slen, te_bin, w_frs, w_jex, w_jrng1, w_jrng2, w_jenm, w_jzip, w_jscr, w_ret, w_exs, w_pas, w_brk, w_cnt, kn_nx, kn_rt, kn_bk, kn_ct, n_add, n_sub, n_lt, n_le, n_gt, n_ge, n_eq, n_ne, n_is, n_isn, t_bool, t_none, b_int, b_intb, b_abs, b_lenL, b_lenT, b_tupL, b_lstL, b_lstT, eo_some, er_some, rs_some, rs_nil, negO, revO, enumO, zipO, scrO, argO, intO, vwD, isSrc, isCel, cOk, Sl.vw, Sl.fz, lf, lf.lfAll, layS, isB, g_nm, g_tp, g_nil, g_cons, Option.bind_some, Option.map_some, List.cons_append, List.nil_append, setS, setSl, Src.get, Src.put, itemsD, seqD, iN_none, iN_int, iN_bool, iN_str, iN_list, iN_tup, iN_dict, List.map_cons, List.map_nil, List.getElem?_cons_zero, List.getElem?_cons_succ, List.set_cons_zero, List.set_cons_succ, List.foldl_cons, List.foldl_nil, List.length_cons, List.length_nil, if_true, if_false, Bool.false_eq_true, ne_eq, reduceCtorEq, not_false_eq_true, implies_true, true_and, and_true, Bool.not_true, Bool.not_false, Bool.not_eq_true']
    have q1 : s * s ≤ 3996001 := by
      have : s * s ≤ 1999 * 1999 := Int.mul_le_mul (by omega) (by omega) (by omega) (by omega)
      omega
    have q0 : 9 ≤ s * s := by
      have : 3 * 3 ≤ s * s := Int.mul_le_mul (by omega) (by omega) (by omega) (by omega)
      omega
    refine ⟨rfl, e_of (xs := [(s * s + 3) / 4, 3 + v3, 3 + v4, 3, 7, 57]) h4 (by simp) (by simp) fun k hk S5 h5 => ?_⟩
    have k1 : 3 ≤ k ∧ k < 1000000 := by
      simp only [List.mem_cons, List.not_mem_nil, or_false] at hk
      omega
    by_cases con : k = 3 ∨ k = 7 ∨ k = 57
    · rcases con with rfl | rfl | rfl
      · refine ⟨.nx, [.scr ns, .src, .d (.int m), .d x, .d (.int (-2)), .d (.int 3), .d (.tuple [.int 1, .int (-2), .int 5, .int 4]), .d (.int 10), .d (.int 1), .d (.int 5), .d (.int 4)], S5, by kernel_rfl, h5, _, _, _, _, _, _, _, _, rfl⟩
      · refine ⟨.nx, [.scr ns, .src, .d (.int m), .d x, .d (.int (-3)), .d (.int 7), .d (.tuple [.int 2, .int (-3), .int 28, .int 21]), .d (.int 50), .d (.int 2), .d (.int 28), .d (.int 21)], S5, by kernel_rfl, h5, _, _, _, _, _, _, _, _, rfl⟩
      · refine ⟨.nx, [.scr ns, .src, .d (.int m), .d x, .d (.int (-8)), .d (.int 57), .d (.tuple [.int 7, .int (-8), .int 1729, .int 1520]), .d (.int 3250), .d (.int 7), .d (.int 1729), .d (.int 1520)], S5, by kernel_rfl, h5, _, _, _, _, _, _, _, _, rfl⟩
    · refine rs_cons.mpr ?_
      simp only [w_vr, w_cn, w_bin, w_neg, v_nt, w_cmp, w_cmp2, w_an, w_or, w_one, v_ite, w_tup, w_lst, w_call, w_bi, w_ix, w_sl, w_rv, w_dsp, w_lc, w_sget, w_slen, w_spop, w_nil, w_cons, w_star, w_anil, w_avr, w_aex, w_tnil, v_tcons, w_iex, w_irng1, w_irng2, w_ienm, w_izip, w_iscr, w_evB, w_asg, w_own, w_par, w_pnil, w_pcons, w_app, w_frz, w_sset, w_cels, v_ifs, te_cmp, te_cmp2, te_nt, te_one, te_an, te_or, te_ite, te_vr, te_cn, te_call, te_bi, te_ix, te_slen, te_bin, w_frs, w_jex, w_jrng1, w_jrng2, w_jenm, w_jzip, w_jscr, w_ret, w_exs, w_pas, w_brk, w_cnt, kn_nx, kn_rt, kn_bk, kn_ct, n_add, n_sub, n_lt, n_le, n_gt, n_ge, n_eq, n_ne, n_is, n_isn, t_bool, t_none, b_int, b_intb, b_abs, b_lenL, b_lenT, b_tupL, b_lstL, b_lstT, eo_some, er_some, rs_some, rs_nil, negO, revO, enumO, zipO, scrO, argO, intO, vwD, isSrc, isCel, cOk, Sl.vw, Sl.fz, lf, lf.lfAll, layS, isB, g_nm, g_tp, g_nil, g_cons, Option.bind_some, Option.map_some, List.cons_append, List.nil_append, setS, setSl, Src.get, Src.put, itemsD, seqD, iN_none, iN_int, iN_bool, iN_str, iN_list, iN_tup, iN_dict, List.map_cons, List.map_nil, List.getElem?_cons_zero, List.getElem?_cons_succ, List.set_cons_zero, List.set_cons_succ, List.foldl_cons, List.foldl_nil, List.length_cons, List.length_nil, if_true, if_false, Bool.false_eq_true, ne_eq, reduceCtorEq, not_false_eq_true, implies_true, true_and, and_true, Bool.not_true, Bool.not_false, Bool.not_eq_true']
      have n3 : k ≠ 3 := fun e => con (.inl e)
      have n7 : k ≠ 7 := fun e => con (.inr (.inl e))
      have n57 : k ≠ 57 := fun e => con (.inr (.inr e))
      refine e_times k1.1 k1.2 n3 n7 n57 ?_
      refine rs_cons.mpr ?_
      simp only [w_vr, w_cn, w_bin, w_neg, v_nt, w_cmp, w_cmp2, w_an, w_or, w_one, v_ite, w_tup, w_lst, w_call, w_bi, w_ix, w_sl, w_rv, w_dsp, w_lc, w_sget, w_slen, w_spop, w_nil, w_cons, w_star, w_anil, w_avr, w_aex, w_tnil, v_tcons, w_iex, w_irng1, w_irng2, w_ienm, w_izip, w_iscr, w_evB, w_asg, w_own, w_par, w_pnil, w_pcons, w_app, w_frz, w_sset, w_cels, v_ifs, te_cmp, te_cmp2, te_nt, te_one, te_an, te_or, te_ite, te_vr, te_cn, te_call, te_bi, te_ix, te_slen, te_bin, w_frs, w_jex, w_jrng1, w_jrng2, w_jenm, w_jzip, w_jscr, w_ret, w_exs, w_pas, w_brk, w_cnt, kn_nx, kn_rt, kn_bk, kn_ct, n_add, n_sub, n_lt, n_le, n_gt, n_ge, n_eq, n_ne, n_is, n_isn, t_bool, t_none, b_int, b_intb, b_abs, b_lenL, b_lenT, b_tupL, b_lstL, b_lstT, eo_some, er_some, rs_some, rs_nil, negO, revO, enumO, zipO, scrO, argO, intO, vwD, isSrc, isCel, cOk, Sl.vw, Sl.fz, lf, lf.lfAll, layS, isB, g_nm, g_tp, g_nil, g_cons, Option.bind_some, Option.map_some, List.cons_append, List.nil_append, setS, setSl, Src.get, Src.put, itemsD, seqD, iN_none, iN_int, iN_bool, iN_str, iN_list, iN_tup, iN_dict, List.map_cons, List.map_nil, List.getElem?_cons_zero, List.getElem?_cons_succ, List.set_cons_zero, List.set_cons_succ, List.foldl_cons, List.foldl_nil, List.length_cons, List.length_nil, if_true, if_false, Bool.false_eq_true, ne_eq, reduceCtorEq, not_false_eq_true, implies_true, true_and, and_true, Bool.not_true, Bool.not_false, Bool.not_eq_true']
      refine e_close k1.1 k1.2 n3 n7 n57 ?_
      rw [b_repr rfl, b_repr rfl, n_ne_same]
      simp only [w_vr, w_cn, w_bin, w_neg, v_nt, w_cmp, w_cmp2, w_an, w_or, w_one, v_ite, w_tup, w_lst, w_call, w_bi, w_ix, w_sl, w_rv, w_dsp, w_lc, w_sget, w_slen, w_spop, w_nil, w_cons, w_star, w_anil, w_avr, w_aex, w_tnil, v_tcons, w_iex, w_irng1, w_irng2, w_ienm, w_izip, w_iscr, w_evB, w_asg, w_own, w_par, w_pnil, w_pcons, w_app, w_frz, w_sset, w_cels, v_ifs, te_cmp, te_cmp2, te_nt, te_one, te_an, te_or, te_ite, te_vr, te_cn, te_call, te_bi, te_ix, te_slen, te_bin, w_frs, w_jex, w_jrng1, w_jrng2, w_jenm, w_jzip, w_jscr, w_ret, w_exs, w_pas, w_brk, w_cnt, kn_nx, kn_rt, kn_bk, kn_ct, n_add, n_sub, n_lt, n_le, n_gt, n_ge, n_eq, n_ne, n_is, n_isn, t_bool, t_none, b_int, b_intb, b_abs, b_lenL, b_lenT, b_tupL, b_lstL, b_lstT, eo_some, er_some, rs_some, rs_nil, negO, revO, enumO, zipO, scrO, argO, intO, vwD, isSrc, isCel, cOk, Sl.vw, Sl.fz, lf, lf.lfAll, layS, isB, g_nm, g_tp, g_nil, g_cons, Option.bind_some, Option.map_some, List.cons_append, List.nil_append, setS, setSl, Src.get, Src.put, itemsD, seqD, iN_none, iN_int, iN_bool, iN_str, iN_list, iN_tup, iN_dict, List.map_cons, List.map_nil, List.getElem?_cons_zero, List.getElem?_cons_succ, List.set_cons_zero, List.set_cons_succ, List.foldl_cons, List.foldl_nil, List.length_cons, List.length_nil, if_true, if_false, Bool.false_eq_true, ne_eq, reduceCtorEq, not_false_eq_true, implies_true, true_and, and_true, Bool.not_true, Bool.not_false, Bool.not_eq_true']
      refine ⟨rfl, false, ?_, false, rfl, ?_⟩
      · show some ([PyData.int 3, .int 7, .int 57].any fun z => PyData.eqv z (.int k)) = some false
        simp only [List.any_cons, List.any_nil, eqv_int, decide_eq_false (Ne.symm n3), decide_eq_false (Ne.symm n7), decide_eq_false (Ne.symm n57), Bool.or_self]
      simp only [w_vr, w_cn, w_bin, w_neg, v_nt, w_cmp, w_cmp2, w_an, w_or, w_one, v_ite, w_tup, w_lst, w_call, w_bi, w_ix, w_sl, w_rv, w_dsp, w_lc, w_sget, w_slen, w_spop, w_nil, w_cons, w_star, w_anil, w_avr, w_aex, w_tnil, v_tcons, w_iex, w_irng1, w_irng2, w_ienm, w_izip, w_iscr, w_evB, w_asg, w_own, w_par, w_pnil, w_pcons, w_app, w_frz, w_sset, w_cels, v_ifs, te_cmp, te_cmp2, te_nt, te_one, te_an, te_or, te_ite, te_vr, te_cn, te_call, te_bi, te_ix, te_slen, te_bin, w_frs, w_jex, w_jrng1, w_jrng2, w_jenm, w_jzip, w_jscr, w_ret, w_exs, w_pas, w_brk, w_cnt, kn_nx, kn_rt, kn_bk, kn_ct, n_add, n_sub, n_lt, n_le, n_gt, n_ge, n_eq, n_ne, n_is, n_isn, t_bool, t_none, b_int, b_intb, b_abs, b_lenL, b_lenT, b_tupL, b_lstL, b_lstT, eo_some, er_some, rs_some, rs_nil, negO, revO, enumO, zipO, scrO, argO, intO, vwD, isSrc, isCel, cOk, Sl.vw, Sl.fz, lf, lf.lfAll, layS, isB, g_nm, g_tp, g_nil, g_cons, Option.bind_some, Option.map_some, List.cons_append, List.nil_append, setS, setSl, Src.get, Src.put, itemsD, seqD, iN_none, iN_int, iN_bool, iN_str, iN_list, iN_tup, iN_dict, List.map_cons, List.map_nil, List.getElem?_cons_zero, List.getElem?_cons_succ, List.set_cons_zero, List.set_cons_succ, List.foldl_cons, List.foldl_nil, List.length_cons, List.length_nil, if_true, if_false, Bool.false_eq_true, ne_eq, reduceCtorEq, not_false_eq_true, implies_true, true_and, and_true, Bool.not_true, Bool.not_false, Bool.not_eq_true']
      refine rs_cons.mpr ?_
      simp only [w_vr, w_cn, w_bin, w_neg, v_nt, w_cmp, w_cmp2, w_an, w_or, w_one, v_ite, w_tup, w_lst, w_call, w_bi, w_ix, w_sl, w_rv, w_dsp, w_lc, w_sget, w_slen, w_spop, w_nil, w_cons, w_star, w_anil, w_avr, w_aex, w_tnil, v_tcons, w_iex, w_irng1, w_irng2, w_ienm, w_izip, w_iscr, w_evB, w_asg, w_own, w_par, w_pnil, w_pcons, w_app, w_frz, w_sset, w_cels, v_ifs, te_cmp, te_cmp2, te_nt, te_one, te_an, te_or, te_ite, te_vr, te_cn, te_call, te_bi, te_ix, te_slen, te_bin, w_frs, w_jex, w_jrng1, w_jrng2, w_jenm, w_jzip, w_jscr, w_ret, w_exs, w_pas, w_brk, w_cnt, kn_nx, kn_rt, kn_bk, kn_ct, n_add, n_sub, n_lt, n_le, n_gt, n_ge, n_eq, n_ne, n_is, n_isn, t_bool, t_none, b_int, b_intb, b_abs, b_lenL, b_lenT, b_tupL, b_lstL, b_lstT, eo_some, er_some, rs_some, rs_nil, negO, revO, enumO, zipO, scrO, argO, intO, vwD, isSrc, isCel, cOk, Sl.vw, Sl.fz, lf, lf.lfAll, layS, isB, g_nm, g_tp, g_nil, g_cons, Option.bind_some, Option.map_some, List.cons_append, List.nil_append, setS, setSl, Src.get, Src.put, itemsD, seqD, iN_none, iN_int, iN_bool, iN_str, iN_list, iN_tup, iN_dict, List.map_cons, List.map_nil, List.getElem?_cons_zero, List.getElem?_cons_succ, List.set_cons_zero, List.set_cons_succ, List.foldl_cons, List.foldl_nil, List.length_cons, List.length_nil, if_true, if_false, Bool.false_eq_true, ne_eq, reduceCtorEq, not_false_eq_true, implies_true, true_and, and_true, Bool.not_true, Bool.not_false, Bool.not_eq_true']
      exact ⟨h5, _, _, _, _, _, _, _, _, rfl⟩
  rintro f ρ S ⟨rfl, hS, x3, x4, x5, x6, x7, x8, x9, x10, rfl⟩
  refine kn_nx.mpr ?_
  exact ⟨.rt (.bool true), [.scr ns, .src, .d (.int m), x3, x4, x5, x6, x7, x8, x9, x10], S, by kernel_rfl, rfl⟩
end K17

open PySem PySem.W PySem.Calls PyProof.Rows
theorem PySem.Challenge.cw_evenlytied_k17_whole_degrees_let_holds : PySem.Challenge.rw_evenlytied_k17_whole_degrees_let.Holds := by
  w_on; o_law
  refine HandSHeadRun.head_any (r := K17.R) (q := view K17.R.prog [10]) (H := K17.hk) (ob := K17.ob) (M := 600) (loose := K17.loose) (d := HandSHeadRun.topDef K17.R.prog 10) (kwd := []) K17.ob_eq
    (by kernel_rfl) (fun s => by kernel_rfl) K17.run (by kernel_rfl) (by kernel_rfl) (by kernel_rfl) (by rfl) (by first | assumption | decide +kernel) (by decide +kernel) ⟨rfl, rfl, rfl, rfl, rfl, by decide +kernel⟩ ?hw ?hc
  case hw => w_witness2
  case hc =>
    refine Pyl.walkG (l := PySem.Challenge.rw_evenlytied_k17_whole_degrees_let) (n := 63) (k := 12 + 2) (x := K17.told.x) rfl (by decide) (by kernel_rfl) ⟨rfl, by decide, by decide⟩ ?F
    intro w mg fa h Y G hmg0
    obtain ⟨K, KX, c⟩ := Y
    have hn : (HandSHeadRun.topDef K17.R.prog 10).name = ("law" : PySem.Str) := by kernel_rfl
    rw [hn] at hmg0
    obtain ⟨fd, hb, hF⟩ := Pyl.toldG (t := K17.told) (d := 12) (n := 63) K17.told_ok K17.told_bd (by decide) K17.law_true KX G hmg0 c
    exact ⟨K, fd, KX, hb, fun base _ _ => hF _ w base⟩


