import PyProof.Rows.All
import Wide.All
import OpenK.AllK
import Wide.FinOn
import HandS.ForMost
import KE.DataMinMax
import KE.DataEq
import KE.DataFind
import KE.DataCmp
import KE.DataIsa
import KE.SortData
import HandS.HeadHook1
import HandS.TupAny
import HandS.TupMul
import HandS.Wide
import HandS.Style
import HandS.Deep
import HandS.Text
import HandS.Codes
import HandS.WordsDict
import HandS.RaiseMore
import HandS.Conv
import HandS.More
import HandS.IsInst
import HandS.Steps
import HandS.Property
import HandS.Strs
import HandS.Small
import HandS.TryOnly
import HandS.Iter
import KE.GoesMore
import HandS.Zip
import HandS.Comp
import HandS.Defaults
import HandS.Exc
import PyProof.TupleOfSeq
import HandS.HeadHook2
import HandS.Ends
import HandS.HeadEnd
import HandS.Head0
import HandS.Head1
import HandS.Head2
import HandS.Dict
import HandS.Star
import HandS.NamedTupSort
import OpenK.KWalk
import PyProof.InstEq
import PyProof.ReprBulk
import PyProof.Rows.ReprShort
import PySem.Challenge.RW_heardplaces_k04_rules_equal
set_option Elab.async false
set_option linter.all false
set_option maxRecDepth 100000
/-! HpSem: values, a small language without places, its functional semantics (predicate transformers). -/
namespace HP
open PySem PySem.W

/-- values; lists, dicts and instances that nobody changes any more are values, too -/
inductive D where
  | non
  | bl (b : Bool)
  | int (i : Int)
  | str (s : Str)
  | tup (xs : List D)
  | lst (xs : List D)
  | dct (ks vs : List D)
  | ins (c : Str) (ns : List Str) (vs : List D)
  | ref (n : Nat)
  | exc (c : Str) (vs : List D)
  | scr (xs : List D)

/-- a thing that can be changed: its content -/
inductive Cont where
  | lst (xs : List D)
  | dct (ks vs : List D)
  | ins (c : Str) (ns : List Str) (vs : List D)

def Cont.frz : Cont → D
  | .lst xs => .lst xs
  | .dct ks vs => .dct ks vs
  | .ins c ns vs => .ins c ns vs

/-- what an expression hands on: a value, or a new container that nobody else holds -/
inductive Out where
  | val (d : D)
  | own (c : Cont)
def Out.frz : Out → D
  | .val d => d
  | .own c => c.frz

inductive Slot where
  | unb
  | val (d : D)
  | own (c : Cont)
def Out.slot : Out → Slot
  | .val d => .val d
  | .own c => .own c

abbrev Slots := List Slot
abbrev Store := List Cont

structure Exc where
  c : Str
  arg : Option D

abbrev QO := Out → Slots → Store → Prop
abbrev QD := D → Slots → Store → Prop
abbrev QB := Bool → Slots → Store → Prop
abbrev QN := Slots → Store → Prop
abbrev QX := Exc → Slots → Store → Prop
/-- a def: arguments, store, what is wanted of its answer, of its exception -/
abbrev Fn := List D → Store → (Out → Store → Prop) → (Exc → Store → Prop) → Prop

def optK {α : Type} : Option α → (α → Prop) → Prop
  | none, _ => False
  | some a, k => k a
@[simp] theorem optK_some {α : Type} (a : α) (k : α → Prop) : optK (some a) k = k a := rfl
@[simp] theorem optK_none {α : Type} (k : α → Prop) : optK none k = False := rfl

/-! ### plain data -/
mutual
def D.plain : D → Bool
  | .non => true
  | .bl _ => true
  | .int _ => true
  | .str _ => true
  | .tup xs => plains xs
  | .lst xs => plains xs
  | .dct _ _ => false
  | .ins _ _ _ => false
  | .ref _ => false
  | .exc _ _ => false
  | .scr _ => false
def plains : List D → Bool
  | [] => true
  | x :: xs => x.plain && plains xs
end
mutual
def D.dep : D → Nat
  | .tup xs => deps xs + 1
  | .lst xs => deps xs + 1
  | .dct _ _ => 0
  | .non => 0
  | .bl _ => 0
  | .int _ => 0
  | .str _ => 0
  | .ins _ _ _ => 0
  | .ref _ => 0
  | .exc _ _ => 0
  | .scr _ => 0
def deps : List D → Nat
  | [] => 0
  | x :: xs => max x.dep (deps xs)
end
def D.ok (d : D) : Bool := d.plain && decide (d.dep ≤ 60)
mutual
/-- the library's data -/
def D.py : D → PyData
  | .non => .none
  | .bl b => .bool b
  | .int i => .int i
  | .str x => .str x
  | .tup xs => .tuple (pys xs)
  | .lst xs => .list (pys xs)
  | .dct _ _ => .none
  | .ins _ _ _ => .none
  | .ref _ => .none
  | .exc _ _ => .none
  | .scr _ => .none
def pys : List D → List PyData
  | [] => []
  | x :: xs => x.py :: pys xs
end
/-- Python's == of plain data -/
def eqD (a b : D) : Bool := PyData.eqv a.py b.py
/-- .. of any list and the empty one -/
def eqNil : D → D → Option Bool
  | .lst xs, .lst [] => some xs.isEmpty
  | _, _ => none
def eqSem (a b : D) : Option Bool := if a.ok && b.ok then some (eqD a b) else eqNil a b
/-- Python's < of data of one form -/
def ltD (a b : D) : Bool := dataLt a.py b.py
def notNon : D → Bool
  | .non => false
  | _ => true
def ltSem (a b : D) : Option Bool := if a.ok && b.ok && alike a.py b.py && notNon a then some (ltD a b) else none

/-- as many items as a list may have -/
def big : Nat := 16777216
/-- the text of repr -/
def reprSem (d : D) : Option Str := if d.ok && d.py.showable && decide (d.py.shown.length ≤ big) then some d.py.shown else none
def strSem : D → Option Str
  | .int i => if i.natAbs.log2 < 1920 then some (Str.ofString (toString i)) else none
  | .str x => some x
  | _ => none

def cutD {α : Type} (xs : List α) (lo hi : Option Int) : List α := (xs.drop (HT.sIx xs.length 0 lo)).take (HT.sIx xs.length xs.length hi - HT.sIx xs.length 0 lo)

/-- the items of what can be walked -/
def itemsOf : D → Option (List D)
  | .tup xs => some xs
  | .lst xs => some xs
  | .scr xs => some xs
  | .dct ks _ => some ks
  | .str x => some (x.cps.toList.map fun c => .str ⟨#[c]⟩)
  | _ => none
/-- what a for walks -/
def walkOf : D → Option (List D)
  | .tup xs => some xs
  | .lst xs => some xs
  | .scr xs => some xs
  | .str x => some (x.cps.toList.map fun c => .str ⟨#[c]⟩)
  | _ => none
/-- what list() walks -/
def listOf : D → Option (List D)
  | .tup xs => some xs
  | .lst xs => some xs
  | .scr xs => some xs
  | .dct ks _ => some ks
  | _ => none
def seqOf : D → Option (List D)
  | .tup xs => some xs
  | .lst xs => some xs
  | _ => none

mutual
/-- what a dict's key counts for -/
def D.key : D → Option D
  | .bl b => some (.int (if b then 1 else 0))
  | .int i => some (.int i)
  | .str x => some (.str x)
  | .non => some .non
  | .tup xs => (keys xs).map .tup
  | _ => none
def keys : List D → Option (List D)
  | [] => some []
  | x :: xs => match x.key, keys xs with
    | some k, some ks => some (k :: ks)
    | _, _ => none
end
/-- a key of a dict: a text, an int, or a tuple (of such, nested) -/
def keyOk : D → Bool
  | .int _ => true
  | .str _ => true
  | .tup xs => (keys xs).isSome && decide (deps xs ≤ 6)
  | _ => false
def isTup : D → Bool
  | .tup _ => true
  | _ => false
/-- the place of a key among keys: by Python's == -/
def keyAt (ks : List D) (k : D) : Option Nat := ks.findIdx? fun x => eqD x k
def getD (ks vs : List D) (k : D) : Option D := (keyAt ks k).bind fun i => vs[i]?
def putD (ks vs : List D) (k v : D) : List D × List D := match keyAt ks k with
  | some i => (ks, vs.set i v)
  | none => (ks ++ [k], vs ++ [v])
/-- keys of one sort, told apart -/
def keyFits (ks : List D) (k : D) : Bool := keyOk k && !isTup k
def mergeD : List D → List D → List (D × D) → Option (List D × List D)
  | ks, vs, [] => some (ks, vs)
  | ks, vs, (k, v) :: r => if keyFits ks k then mergeD (putD ks vs k v).1 (putD ks vs k v).2 r else none

/-! ### the small language -/
inductive BinO where
  | add | sub | mul | fdiv | mod | pow | bor | shl
inductive CmpO where
  | eq | ne | lt | le | gt | ge | is | isn | in_ | nin
inductive Bi where
  | len | abs | int | str | repr | max | min | all | any | sorted | list | tuple | dict | lenset | sortedset | vals | zipl | zipd
inductive Bm where
  | join | split | index | tindex | count | get
inductive Mm where
  | append | pop | insert | extend | clear
/-- the classes of isinstance -/
inductive Cl where
  | int | bool | str | tuple | list | dict | own (c : Str)

inductive Tg where
  | name (i : Nat)
  | tup (ts : List Tg)

mutual
inductive E where
  | lit (d : D)
  | var (i : Nat)
  | bin (o : BinO) (a b : E)
  | neg (a : E)
  | cmp (o : CmpO) (a b : E)
  | chain (o p : CmpO) (a b c : E)
  | not_ (a : E)
  | and_ (a b : E)
  | or_ (a b : E)
  | ife (c a b : E)
  | tup (es : Es)
  | lst (es : Es)
  | dct (kvs : Es)
  | ix (a b : E)
  | sl (a : E) (lo hi : Es)
  | rev (a : E)
  | fld (c : Str) (a : E) (n : Str)
  | prop (c : Str) (g : Fn) (a : E)
  | call (g : Fn) (args : Es)
  | callp (g : Fn) (perm : List Nat) (args : Es)
  | meth (c m : Str) (g : Fn) (o : E) (args : Es)
  | mk (c : Str) (g : Fn) (args : Es)
  | alloc (e : E)
  | bi (b : Bi) (args : Es)
  | isi (all : List Str) (cs : List Cl) (a : E)
  | rng (tup : Bool) (args : Es)
  | bm (m : Bm) (o : E) (args : Es)
  | mm (m : Mm) (o : E) (args : Es)
  | lc (vs : List Nat) (elt : E) (c : Cs)
  | dc (vs : List Nat) (k v : E) (c : Cs)
  | eqo (n : Bool) (c : Str) (g : Fn) (a b : E)
inductive Es where
  | nil
  | cons (e : E) (es : Es)
  | star (e : E) (es : Es)
inductive It where
  | seq (e : E)
  | rng1 (a : E)
  | rng2 (a b : E)
  | enum (e : E) (k : Es)
  | zip (es : Es)
  | items (e : E)
  | vals (e : E)
inductive Cs where
  | one (t : Tg) (it : It) (ifs : Es)
  | more (t : Tg) (it : It) (ifs : Es) (vs : List Nat) (c : Cs)
end

mutual
inductive S where
  | asg (t : Tg) (e : E)
  | par (is : List Nat) (es : Es)
  | aug (i : Nat) (o : BinO) (e : E)
  | setix (o k v : E)
  | setfld (c : Str) (o : E) (n : Str) (v : E)
  | augfld (o : E) (n : Str) (b : BinO) (v : E)
  | ex (e : E)
  | ret (e : E)
  | retn
  | ife (c : E) (a b : Ss)
  | for_ (t : Tg) (it : It) (b : Ss)
  | while_ (c : E) (b : Ss)
  | pass
  | brk
  | cont
  | raise (c : Str) (f : Bool) (e : E)
  | try_ (b : Ss) (c : Str) (n : Option Nat) (h : Ss)
inductive Ss where
  | nil
  | cons (s : S) (r : Ss)
end

/-! ### operations by values -/
def isNum : D → Bool
  | .int _ => true
  | _ => false
def binSem : BinO → D → D → Option Out
  | .add, .int i, .int j => some (.val (.int (i + j)))
  | .add, .str x, .str y => if x.length + y.length ≤ big then some (.val (.str (x ++ y))) else none
  | .add, .tup xs, .tup ys => if xs.length + ys.length ≤ big then some (.val (.tup (xs ++ ys))) else none
  | .add, .lst xs, .lst ys => if xs.length + ys.length ≤ big then some (.own (.lst (xs ++ ys))) else none
  | .sub, .int i, .int j => some (.val (.int (i - j)))
  | .mul, .int i, .int j => if i.natAbs < 18446744073709551616 || j.natAbs < 18446744073709551616 || i.natAbs.log2 + j.natAbs.log2 < 1000000 then some (.val (.int (i * j))) else none
  | .mul, .lst xs, .int k => if -1000000 ≤ k && k ≤ 1000000 && xs.length * k.toNat ≤ big then some (.own (.lst (List.replicate k.toNat xs).flatten)) else none
  | .mul, .tup xs, .int k => if 2 ≤ k && k ≤ 1000 && 1 ≤ xs.length && xs.length ≤ 1000 then some (.val (.tup (List.replicate k.toNat xs).flatten)) else if k = 1 ∧ 1 ≤ xs.length then some (.val (.tup xs)) else none
  | .fdiv, .int i, .int j => if 0 < j && j.natAbs.log2 < 9000 then some (.val (.int (i / j))) else none
  | .mod, .int i, .int j => if 0 < j then some (.val (.int (i % j))) else none
  | .pow, .int i, .int j => if 0 ≤ j && j ≤ 1000000 && i.natAbs < 18446744073709551616 then some (.val (.int (i ^ j.toNat))) else none
  | .bor, .int i, .int j => some (.val (.int (Builtin.bitOr i j)))
  | .shl, .int i, .int j => if 0 ≤ j && j ≤ 1000000 && i.natAbs < 18446744073709551616 then some (.val (.int (i * 2 ^ j.toNat))) else none
  | _, _, _ => none
def isIn (x : D) : D → Option Bool
  | .tup ys => if x.ok && plains ys && decide (deps ys ≤ 60) then some (ys.any fun y => eqD y x) else none
  | .lst ys => if x.ok && plains ys && decide (deps ys ≤ 60) then some (ys.any fun y => eqD y x) else none
  | .dct ks _ => if keyFits ks x then some (keyAt ks x).isSome else none
  | .str y => match x with
    | .str z => if z.length = 1 then some (y.cps.toList.any fun c => z.cps.toList == [c]) else none
    | _ => none
  | _ => none
def isSem : D → D → Option Bool
  | x, .non => some (!notNon x)
  | .bl a, .bl b => some (a == b)
  | _, _ => none
def cmpSem : CmpO → D → D → Option Bool
  | .eq, a, b => eqSem a b
  | .ne, a, b => (eqSem a b).map (!·)
  | .lt, .int a, .int b => some (decide (a < b))
  | .lt, a, b => ltSem a b
  | .gt, .int a, .int b => some (decide (b < a))
  | .gt, a, b => ltSem b a
  | .le, .int a, .int b => some (decide (a ≤ b))
  | .le, a, b => (ltSem b a).map (!·)
  | .ge, .int a, .int b => some (decide (b ≤ a))
  | .ge, a, b => (ltSem a b).map (!·)
  | .is, a, b => isSem a b
  | .isn, a, b => (isSem a b).map (!·)
  | .in_, a, b => isIn a b
  | .nin, a, b => (isIn a b).map (!·)
def truth : D → Option Bool
  | .non => some false
  | .bl b => some b
  | .int i => some (decide (i ≠ 0))
  | .str x => if x.length ≤ big then some (decide (x.length ≠ 0)) else none
  | .tup xs => some !xs.isEmpty
  | .lst xs => some !xs.isEmpty
  | .dct ks _ => some !ks.isEmpty
  | _ => none
def ixSem : D → D → Option D
  | .tup xs, .int i => L2.atI xs i
  | .lst xs, .int i => L2.atI xs i
  | .str x, .int i => if x.length ≤ big then (L2.atI x.cps.toList i).map fun c => .str ⟨#[c]⟩ else none
  | .dct ks vs, k => if keyFits ks k then getD ks vs k else none
  | _, _ => none
def slSem : D → Option Int → Option Int → Option Out
  | .tup xs, lo, hi => some (.val (.tup (cutD xs lo hi)))
  | .lst xs, lo, hi => some (.own (.lst (cutD xs lo hi)))
  | .str x, lo, hi => if x.length ≤ big then some (.val (.str ⟨(cutD x.cps.toList lo hi).toArray⟩)) else none
  | _, _, _ => none
def lookF : List Str → List D → Str → Option D
  | n :: ns, v :: vs, x => if n = x then some v else lookF ns vs x
  | _, _, _ => none
def putF : List Str → List D → Str → D → List Str × List D
  | n :: ns, v :: vs, x, y => if n = x then (n :: ns, y :: vs) else ((n :: (putF ns vs x y).1), (v :: (putF ns vs x y).2))
  | ns, vs, x, y => (ns ++ [x], vs ++ [y])

def allBl : List D → Option (List Bool)
  | [] => some []
  | .bl b :: r => (allBl r).map (b :: ·)
  | _ :: _ => none
def allStr : List D → Option (List Str)
  | [] => some []
  | .str b :: r => (allStr r).map (b :: ·)
  | _ :: _ => none
def allInt : List D → Option (List Int)
  | [] => some []
  | .int b :: r => (allInt r).map (b :: ·)
  | _ :: _ => none
/-- all are of one form: each is less or not than each -/
def tupNe : D → Bool
  | .tup (_ :: _) => true
  | _ => false
def sortable (xs : List D) : Bool := (xs.all fun x => x.ok && notNon x && xs.all fun y => alike x.py y.py) && ((xs.all tupNe) || xs.all fun x => !isTup x)
/-- what max and min do: the first of the greatest (least) -/
def maxL (x : D) (xs : List D) : D := xs.foldl (fun a y => if ltD a y then y else a) x
def minL (x : D) (xs : List D) : D := xs.foldl (fun a y => if ltD y a then y else a) x
def leD (x y : D) : Bool := !ltD y x
def sortD (xs : List D) : List D := xs.mergeSort leD
def dedup : List D → List D → List D
  | acc, [] => acc
  | acc, x :: xs => if acc.any fun y => eqD y x then dedup acc xs else dedup (acc ++ [x]) xs
/-- the texts, each once, in the order in which they come first -/
def nubS : List Str → List Str → List Str
  | acc, [] => acc
  | acc, x :: xs => if acc.contains x then nubS acc xs else nubS (acc ++ [x]) xs
def pairOf : D → Option (D × D)
  | .tup [k, v] => some (k, v)
  | _ => none
def pairsOf : List D → Option (List (D × D))
  | [] => some []
  | x :: r => match pairOf x, pairsOf r with
    | some p, some ps => some (p :: ps)
    | _, _ => none
def zipD : List D → List D → List D
  | x :: xs, y :: ys => .tup [x, y] :: zipD xs ys
  | _, _ => []
def biSem : Bi → List D → Option Out
  | .len, [.str x] => if x.length ≤ big then some (.val (.int x.length)) else none
  | .len, [.tup xs] => some (.val (.int xs.length))
  | .len, [.lst xs] => some (.val (.int xs.length))
  | .len, [.scr xs] => some (.val (.int xs.length))
  | .len, [.dct ks _] => some (.val (.int ks.length))
  | .abs, [.int i] => some (.val (.int (if i < 0 then -i else i)))
  | .int, [.int i] => some (.val (.int i))
  | .int, [.bl b] => some (.val (.int (if b then 1 else 0)))
  | .int, [.str x] => if x.length ≤ 640 then (PySem.intText? x).map fun n => .val (.int n) else none
  | .str, [d] => (strSem d).map fun x => .val (.str x)
  | .repr, [d] => (reprSem d).map fun x => .val (.str x)
  | .max, [.int i, .int j] => some (.val (.int (if j > i then j else i)))
  | .min, [.int i, .int j] => some (.val (.int (if j < i then j else i)))
  | .max, [.lst (x :: xs)] => if sortable (x :: xs) then some (.val (maxL x xs)) else none
  | .min, [.lst (x :: xs)] => if sortable (x :: xs) then some (.val (minL x xs)) else none
  | .all, [.lst xs] => (allBl xs).map fun bs => .val (.bl (bs.all id))
  | .any, [.lst xs] => (allBl xs).map fun bs => .val (.bl (bs.any id))
  | .sorted, [d] => (seqOf d).bind fun xs => if sortable xs && decide (xs.length ≤ big) then some (.own (.lst (sortD xs))) else none
  | .list, [d] => (listOf d).map fun xs => .own (.lst xs)
  | .tuple, [d] => (seqOf d).map fun xs => .val (.tup xs)
  | .dict, [.dct ks vs] => some (.own (.dct ks vs))
  | .dict, [.lst xs] => ((pairsOf xs).bind fun ps => mergeD [] [] ps).map fun p => .own (.dct p.1 p.2)
  | .lenset, [.tup xs] => (allStr xs).bind fun ss => if ss.length < 4000 then some (.val (.int ((nubS [] ss).length : Nat))) else none
  | .lenset, [.lst xs] => (allStr xs).bind fun ss => if ss.length < 4000 then some (.val (.int ((nubS [] ss).length : Nat))) else none
  | .sortedset, [d] => (seqOf d).bind fun xs => (allInt xs).bind fun ns => if decide (xs.length < 60) then some (.own (.lst (sortD (dedup [] xs)))) else none
  | .vals, [.dct _ vs] => some (.own (.lst vs))
  | .zipl, [a, b] => (seqOf a).bind fun xs => (seqOf b).bind fun ys => if xs.length = ys.length then some (.own (.lst (zipD xs ys))) else none
  | .zipd, [a, b] => (seqOf a).bind fun xs => (seqOf b).bind fun ys => if xs.length = ys.length then (mergeD [] [] (xs.zip ys)).map fun p => .own (.dct p.1 p.2) else none
  | _, _ => none
def isCl : Cl → D → Bool
  | .int, d => (match d with | .int _ => true | .bl _ => true | _ => false)
  | .bool, d => (match d with | .bl _ => true | _ => false)
  | .str, d => (match d with | .str _ => true | _ => false)
  | .tuple, d => (match d with | .tup _ => true | _ => false)
  | .list, d => (match d with | .lst _ => true | _ => false)
  | .dict, d => (match d with | .dct _ _ => true | _ => false)
  | .own c, d => (match d with | .ins c' _ _ => decide (c' = c) | _ => false)
/-- the name of a value's built-in type -/
def tyN : D → Option String
  | .non => some "NoneType"
  | .bl _ => some "bool"
  | .int _ => some "int"
  | .str _ => some "str"
  | .tup _ => some "tuple"
  | .lst _ => some "list"
  | .dct _ _ => some "dict"
  | _ => none
/-- isinstance(d, one of cs); all: the program's own classes -/
def isiSem (all : List Str) (cs : List Cl) (d : D) : Option Bool := match d with
  | .ins c _ _ => if all.contains c then some (cs.any fun k => isCl k d) else none
  | d => if (tyN d).isSome then some (cs.any fun k => isCl k d) else none
def rngSem : List D → Option (Int × Int)
  | [.int n] => some (0, n)
  | [.int a, .int b] => some (a, b)
  | _ => none
def upTo (a : Int) : Nat → List D
  | 0 => []
  | n + 1 => .int a :: upTo (a + 1) n
/-- the ints from a below b -/
def rngD (a b : Int) : List D := upTo a (b - a).toNat
def rngOk (a b : Int) : Bool := decide (-1000000 ≤ a) && decide (a ≤ 1000000) && decide (-1000000 ≤ b) && decide (b ≤ 1000000)
/-- nothing that could be changed -/
def isFlat : D → Bool
  | .lst _ => false
  | .dct _ _ => false
  | .ins _ _ _ => false
  | _ => true
def bmSem : Bm → D → List D → Option Out
  | .join, .str x, [d] => (seqOf d).bind fun xs => (allStr xs).bind fun ss =>
      if (ss.map (·.length)).sum + ss.length * x.length ≤ big then some (.val (.str (Txt.join x ss))) else none
  | .split, .str x, [.str y] => if decide (1 ≤ y.length) && decide (x.length + 2 ≤ big) then some (.own (.lst ((Txt.split x y).map .str))) else none
  | .tindex, .tup xs, [.str y] => (allStr xs).bind fun ss => (ss.findIdx? fun z => decide (z = y)).map fun (i : Nat) => .val (.int (i : Nat))
  | .index, .lst xs, [y] => if y.ok && plains xs && decide (deps xs ≤ 60) then (xs.findIdx? fun z => eqD z y).map fun (i : Nat) => .val (.int (i : Nat)) else none
  | .count, .lst xs, [y] => if y.ok && plains xs && decide (deps xs ≤ 60) then some (.val (.int (xs.countP fun x => eqD x y : Nat))) else none
  | .get, .dct ks vs, [k] => if keyFits ks k then some (.val ((getD ks vs k).getD .non)) else none
  | .get, .dct ks vs, [k, d] => if keyFits ks k && isFlat d then some (.val ((getD ks vs k).getD d)) else none
  | _, _, _ => none
/-- a changing method: the container behind it, and what it hands back -/
def mmSem : Mm → Cont → List D → Option (Cont × D)
  | .append, .lst xs, [x] => if xs.length < big then some (.lst (xs ++ [x]), .non) else none
  | .pop, .lst xs, [] => match xs.getLast? with
    | some y => some (.lst xs.dropLast, y)
    | none => none
  | .pop, .lst xs, [.int i] => match L2.ixN xs.length i with
    | some j => (xs[j]?).map fun y => (.lst (xs.eraseIdx j), y)
    | none => none
  | .insert, .lst xs, [.int i, x] => if 0 ≤ i && i < 1000000 && decide (xs.length < big) then some (.lst (xs.take i.toNat ++ [x] ++ xs.drop i.toNat), .non) else none
  | .extend, .lst xs, [.lst ys] => if xs.length + ys.length ≤ big then some (.lst (xs ++ ys), .non) else none
  | .clear, .lst _, [] => some (.lst [], .non)
  | _, _, _ => none
def isLst : D → Bool
  | .lst _ => true
  | _ => false
/-- the receiver of a method that changes nothing -/
def Bm.ok : Bm → D → Bool
  | .join, .str _ => true
  | .split, .str _ => true
  | .index, .lst _ => true
  | .tindex, .tup _ => true
  | .count, .lst _ => true
  | .get, .dct _ _ => true
  | _, _ => false
/-- o[k] = v -/
def setSem : Cont → D → D → Option Cont
  | .lst xs, .int i, v => (L2.ixN xs.length i).map fun j => .lst (xs.set j v)
  | .dct ks vs, k, v => if keyFits ks k && decide (ks.length < 1000000) then some (.dct (putD ks vs k v).1 (putD ks vs k v).2) else none
  | _, _, _ => none

/-! ### the semantics -/
/-- an operand: a local name (looked up when it is used), or a value -/
inductive Opd where
  | slot (i : Nat)
  | val (d : D)
/-- what stands behind a reference, as a value -/
def view (s : Store) : D → D
  | .ref n => match s[n]? with
    | some c => c.frz
    | none => .ref n
  | d => d
def Slot.look (s : Store) : Slot → Option D
  | .unb => none
  | .val d => some (view s d)
  | .own c => some c.frz
/-- an operand's value where it is used -/
def vres (σ : Slots) (s : Store) : Opd → Option D
  | .slot i => (σ[i]?.getD .unb).look s
  | .val d => some (view s d)
def ress (σ : Slots) (s : Store) : List Opd → Option (List D)
  | [] => some []
  | o :: os => match vres σ s o, ress σ s os with
    | some d, some ds => some (d :: ds)
    | _, _ => none
def bound : Slot → Bool
  | .unb => false
  | _ => true
/-- reading a name for keeps: its container may be changed no more -/
def Slot.froze : Slot → Slot
  | .own c => .val c.frz
  | s => s
def wipeS (σ : Slots) : List Nat → Slots
  | [] => σ
  | v :: vs => (wipeS σ vs).set v .unb
/-- what a name stood for ahead of a comprehension that has it, too: a value comes back -/
def Slot.keep : Option Slot → Slot
  | some (.val d) => .val d
  | _ => .unb
def backS (σ0 σ : Slots) : List Nat → Slots
  | [] => σ
  | v :: vs => (backS σ0 σ vs).set v (Slot.keep σ0[v]?)
def setsS : Slots → List Nat → List Out → Slots
  | σ, i :: is, o :: os => setsS (σ.set i o.slot) is os
  | σ, _, _ => σ
def isIns (c : Str) : D → Bool
  | .ins c' _ _ => decide (c' = c)
  | _ => false
/-- the instance has no field of that name -/
def noField (m : Str) : D → Bool
  | .ins _ ns _ => !ns.contains m
  | _ => false
mutual
def wTg : Tg → D → Slots → Store → QN → Prop
  | .name i, d, σ, s, K => K (σ.set i (.val d)) s
  | .tup ts, d, σ, s, K => match d with
    | .tup xs => xs.length = ts.length ∧ wTgs ts xs σ s K
    | .lst xs => xs.length = ts.length ∧ wTgs ts xs σ s K
    | _ => False
def wTgs : List Tg → List D → Slots → Store → QN → Prop
  | [], xs, σ, s, K => xs = [] ∧ K σ s
  | t :: ts, xs, σ, s, K => match xs with
    | [] => False
    | x :: xs => wTg t x σ s fun σ s => wTgs ts xs σ s K
end
def wLoop {A : Type} (f : D → A → Slots → Store → (A → Slots → Store → Prop) → Prop) : List D → A → Slots → Store → (A → Slots → Store → Prop) → Prop
  | [], a, σ, s, K => K a σ s
  | x :: xs, a, σ, s, K => f x a σ s fun a σ s => wLoop f xs a σ s K
def enumD (k : Int) : List D → List D
  | [] => []
  | x :: xs => .tup [.int k, x] :: enumD (k + 1) xs
def zip3D : List D → List D → List D → List D
  | x :: xs, y :: ys, z :: zs => .tup [x, y, z] :: zip3D xs ys zs
  | _, _, _ => []
def pick (ds : List D) (perm : List Nat) : List D := perm.map fun i => ds.getD i .non
/-- what comprehensions keep of an answer -/
def noX : QX := fun _ _ _ => False
/-- whose own == is asked beside an instance of the class c: an instance of it, or a value of a built-in type -/
def eqTy (c : Str) : D → Bool
  | .ins c' _ _ => decide (c' = c)
  | d => (tyN d).isSome
/-- changing what a target names -/
def upCont (o : Opd) (σ : Slots) (s : Store) (f : Cont → Option (Cont × D)) (K : D → Slots → Store → Prop) : Prop := match o with
  | .slot i => match σ[i]? with
    | some (.own c) => optK (f c) fun p => K p.2 (σ.set i (.own p.1)) s
    | _ => False
  | .val (.ref n) => optK (s[n]?) fun c => optK (f c) fun p => K p.2 σ (s.set n p.1)
  | .val _ => False

abbrev SE := Slots → Store → QO → QX → Prop
abbrev ST := Slots → Store → QB → QX → Prop
/-- as an operand: a name is not read for keeps -/
def asOp (e : E) (r : SE) (σ : Slots) (s : Store) (K : Opd → Slots → Store → Prop) (X : QX) : Prop := match e with
  | .var i => match σ[i]? with
    | some (.val d) => K (.val d) σ s
    | some (.own _) => K (.slot i) σ s
    | _ => False
  | _ => r σ s (fun o σ s => K (.val o.frz) σ s) X
/-- as a test: by its truth -/
def asT (e : E) (r : SE) : ST := fun σ s K X => asOp e r σ s (fun x σ s => optK (vres σ s x) fun x => optK (truth x) fun c => K c σ s) X
structure W where
  v : SE
  t : ST
def dft (e : E) (r : SE) : W := ⟨r, asT e r⟩
/-- a truth value -/
def ofT (t : ST) : W := ⟨fun σ s K X => t σ s (fun r σ s => K (.val (.bl r)) σ s) X, t⟩
abbrev Acc := List D × List D
abbrev WCs := List Nat → Slots → Store → Acc → (Acc → Slots → Store → (Acc → Slots → Store → Prop) → Prop) → (Acc → Slots → Store → Prop) → QX → Prop
/-- the answers of a list of expressions in the three ways that they are asked -/
structure Ws where
  vals : Slots → Store → (List D → Slots → Store → Prop) → QX → Prop
  opds : Slots → Store → (List Opd → Slots → Store → Prop) → QX → Prop
  outs : Slots → Store → (List Out → Slots → Store → Prop) → QX → Prop
  ifs : Slots → Store → QB → Prop

mutual
def w : E → W
  | .lit d => dft (.lit d) fun σ s K _ => K (.val d) σ s
  | .var i => dft (.var i) fun σ s K _ => match σ[i]? with
    | some (.val d) => K (.val d) σ s
    | some (.own c) => K (.val c.frz) (σ.set i (.val c.frz)) s
    | _ => False
  | .bin o a b => dft (.bin o a b) fun σ s K X => asOp a (w a).v σ s (fun x σ s => asOp b (w b).v σ s (fun y σ s => optK (vres σ s x) fun x => optK (vres σ s y) fun y => optK (binSem o x y) fun r => K r σ s) X) X
  | .neg a => dft (.neg a) fun σ s K X => asOp a (w a).v σ s (fun x σ s => optK (vres σ s x) fun x => match x with | .int i => K (.val (.int (-i))) σ s | _ => False) X
  | .cmp o a b => ofT fun σ s K X => asOp a (w a).v σ s (fun x σ s => asOp b (w b).v σ s (fun y σ s => optK (vres σ s x) fun x => optK (vres σ s y) fun y => optK (cmpSem o x y) fun r => K r σ s) X) X
  | .chain o p a b c => ofT fun σ s K X => asOp a (w a).v σ s (fun x σ s => asOp b (w b).v σ s (fun y σ s => optK (vres σ s x) fun xd => optK (vres σ s y) fun yd => optK (cmpSem o xd yd) fun r =>
      if r then asOp c (w c).v σ s (fun z σ s => optK (vres σ s y) fun yd => optK (vres σ s z) fun zd => optK (cmpSem p yd zd) fun r => K r σ s) X else K false σ s) X) X
  | .not_ a => ⟨fun σ s K X => (w a).v σ s (fun o σ s => match o with | .val (.bl b) => K (.val (.bl !b)) σ s | _ => False) X, fun σ s K X => (w a).t σ s (fun b σ s => K (!b) σ s) X⟩
  | .and_ a b => ⟨fun σ s K X => (w a).v σ s (fun x σ s => match x with | .val (.bl c) => if c then (w b).v σ s K X else K (.val (.bl false)) σ s | _ => False) X,
      fun σ s K X => (w a).t σ s (fun c σ s => if c then (w b).t σ s K X else K false σ s) X⟩
  | .or_ a b => ⟨fun σ s K X => (w a).v σ s (fun x σ s => match x with | .val (.bl c) => if c then K (.val (.bl true)) σ s else (w b).v σ s K X | _ => False) X,
      fun σ s K X => (w a).t σ s (fun c σ s => if c then K true σ s else (w b).t σ s K X) X⟩
  | .ife c a b => ⟨fun σ s K X => (w c).t σ s (fun r σ s => if r then (w a).v σ s K X else (w b).v σ s K X) X,
      fun σ s K X => (w c).t σ s (fun r σ s => if r then (w a).t σ s K X else (w b).t σ s K X) X⟩
  | .tup es => dft (.tup es) fun σ s K X => (ws es).vals σ s (fun ds σ s => if ds.length ≤ big then K (.val (.tup ds)) σ s else False) X
  | .lst es => dft (.lst es) fun σ s K X => (ws es).vals σ s (fun ds σ s => if ds.length ≤ big then K (.own (.lst ds)) σ s else False) X
  | .dct es => dft (.dct es) fun σ s K X => wPs es σ s (fun ps σ s => if ps.length ≤ 15 then optK (mergeD [] [] ps) fun p => K (.own (.dct p.1 p.2)) σ s else False) X
  | .ix a b => dft (.ix a b) fun σ s K X => asOp a (w a).v σ s (fun x σ s => asOp b (w b).v σ s (fun y σ s => optK (vres σ s x) fun x => optK (vres σ s y) fun y => optK (ixSem x y) fun r => K (.val r) σ s) X) X
  | .sl a lo hi => dft (.sl a lo hi) fun σ s K X => asOp a (w a).v σ s (fun x σ s => wO lo σ s (fun l σ s => wO hi σ s (fun h σ s => optK (vres σ s x) fun x => optK (slSem x l h) fun r => K r σ s) X) X) X
  | .rev a => dft (.rev a) fun σ s K X => asOp a (w a).v σ s (fun x σ s => optK (vres σ s x) fun x => match x with | .lst xs => K (.own (.lst xs.reverse)) σ s | _ => False) X
  | .fld c a n => dft (.fld c a n) fun σ s K X => asOp a (w a).v σ s (fun x σ s => optK (vres σ s x) fun x => match x with | .ins c' ns vs => if c' = c then optK (lookF ns vs n) fun r => K (.val r) σ s else False | _ => False) X
  | .prop c g a => dft (.prop c g a) fun σ s K X => (w a).v σ s (fun x σ s => isIns c (view s x.frz) = true ∧ g [x.frz] s (fun o s => K o σ s) fun _ _ => False) X
  | .call g es => dft (.call g es) fun σ s K X => (ws es).vals σ s (fun ds σ s => g ds s (fun o s => K o σ s) fun e s => X e σ s) X
  | .callp g perm es => dft (.callp g perm es) fun σ s K X => (ws es).vals σ s (fun ds σ s => if ds.length = perm.length then g (pick ds perm) s (fun o s => K o σ s) fun e s => X e σ s else False) X
  | .meth c m g o es => dft (.meth c m g o es) fun σ s K X => (w o).v σ s (fun x σ s => isIns c (view s x.frz) = true ∧ noField m (view s x.frz) = true ∧ (ws es).vals σ s (fun ds σ s => g (x.frz :: ds) s (fun o s => K o σ s) fun e s => X e σ s) X) X
  | .mk c g es => dft (.mk c g es) fun σ s K X => (ws es).vals σ s (fun ds σ s => g ds s (fun o s => K o σ s) fun e s => X e σ s) X
  | .alloc e => dft (.alloc e) fun σ s K X => (w e).v σ s (fun o σ s => match o with | .own c => K (.val (.ref s.length)) σ (s ++ [c]) | .val _ => False) X
  | .bi b es => dft (.bi b es) fun σ s K X => (ws es).opds σ s (fun xs σ s => optK (ress σ s xs) fun xs => optK (biSem b xs) fun r => K r σ s) X
  | .isi all cs a => ofT fun σ s K X => asOp a (w a).v σ s (fun x σ s => optK (vres σ s x) fun x => optK (isiSem all cs x) fun r => K r σ s) X
  | .rng t es => dft (.rng t es) fun σ s K X => (ws es).opds σ s (fun xs σ s => optK (ress σ s xs) fun xs => optK (rngSem xs) fun p => if rngOk p.1 p.2 then K (if t then .val (.tup (rngD p.1 p.2)) else .own (.lst (rngD p.1 p.2))) σ s else False) X
  | .bm m o es => dft (.bm m o es) fun σ s K X => asOp o (w o).v σ s (fun x σ s => optK (vres σ s x) fun x0 => Bm.ok m x0 = true ∧ (ws es).opds σ s (fun xs σ s => optK (vres σ s x) fun x => optK (ress σ s xs) fun xs => optK (bmSem m x xs) fun r => K r σ s) X) X
  | .mm m o es => dft (.mm m o es) fun σ s K X => asOp o (w o).v σ s (fun x σ s => optK (vres σ s x) fun x0 => isLst x0 = true ∧ (ws es).vals σ s (fun ds σ s => upCont x σ s (fun c => mmSem m c ds) fun d σ s => K (.val d) σ s) X) X
  | .lc vs e c => dft (.lc vs e c) fun σ s K X => wCs c vs σ s ([], []) (fun acc σ s k => (w e).v σ s (fun o σ s => if acc.1.length < big then k (acc.1 ++ [o.frz], []) σ s else False) noX) (fun acc σ' s => K (.own (.lst acc.1)) (backS σ σ' vs) s) X
  | .dc vs ek ev c => dft (.dc vs ek ev c) fun σ s K X => wCs c vs σ s ([], []) (fun acc σ s k => (w ek).v σ s (fun x σ s => (w ev).v σ s (fun y σ s =>
      if keyFits acc.1 x.frz && decide (acc.1.length < 1000000) then k (putD acc.1 acc.2 x.frz y.frz) σ s else False) noX) noX) (fun acc σ' s => K (.own (.dct acc.1 acc.2)) (backS σ σ' vs) s) X
  | .eqo n c g a b => ofT fun σ s K X => (w a).v σ s (fun x σ s => (w b).v σ s (fun y σ s => isIns c (view s x.frz) = true ∧ eqTy c (view s y.frz) = true ∧ g [x.frz, y.frz] s (fun o s => match o with | .val (.bl r) => K (if n then !r else r) σ s | _ => False) fun _ _ => False) X) X
def ws : Es → Ws
  | .nil => ⟨fun σ s K _ => K [] σ s, fun σ s K _ => K [] σ s, fun σ s K _ => K [] σ s, fun σ s K => K true σ s⟩
  | .cons e es => ⟨fun σ s K X => (w e).v σ s (fun o σ s => (ws es).vals σ s (fun ds σ s => K (o.frz :: ds) σ s) X) X,
      fun σ s K X => asOp e (w e).v σ s (fun o σ s => (ws es).opds σ s (fun ds σ s => K (o :: ds) σ s) X) X,
      fun σ s K X => (w e).v σ s (fun o σ s => (ws es).outs σ s (fun ds σ s => K (o :: ds) σ s) X) X,
      fun σ s K => (w e).t σ s (fun c σ s => if c then (ws es).ifs σ s K else K false σ s) noX⟩
  | .star e es => ⟨fun σ s K X => (w e).v σ s (fun o σ s => optK (seqOf (view s o.frz)) fun xs => (ws es).vals σ s (fun ds σ s => K (xs ++ ds) σ s) X) X,
      fun _ _ _ _ => False, fun _ _ _ _ => False, fun _ _ _ => False⟩
/-- keys and values of a display, in turns -/
def wPs : Es → Slots → Store → (List (D × D) → Slots → Store → Prop) → QX → Prop
  | .nil, σ, s, K, _ => K [] σ s
  | .cons k (.cons v r), σ, s, K, X => (w k).v σ s (fun x σ s => (w v).v σ s (fun y σ s => wPs r σ s (fun ps σ s => K ((x.frz, y.frz) :: ps) σ s) X) X) X
  | _, _, _, _, _ => False
/-- a part of a slice -/
def wO : Es → Slots → Store → (Option Int → Slots → Store → Prop) → QX → Prop
  | .nil, σ, s, K, _ => K none σ s
  | .cons e _, σ, s, K, X => asOp e (w e).v σ s (fun x σ s => optK (vres σ s x) fun x => match x with | .int i => K (some i) σ s | _ => False) X
  | .star _ _, _, _, _, _ => False
/-- the items that a for walks -/
def wIt : It → Slots → Store → (List D → Slots → Store → Prop) → QX → Prop
  | .seq e, σ, s, K, X => (w e).v σ s (fun o σ s => optK (walkOf o.frz) fun xs => K xs σ s) X
  | .rng1 a, σ, s, K, X => asOp a (w a).v σ s (fun x σ s => optK (vres σ s x) fun x => match x with | .int n => if rngOk 0 n then K (upTo 0 n.toNat) σ s else False | _ => False) X
  | .rng2 a b, σ, s, K, X => asOp a (w a).v σ s (fun x σ s => asOp b (w b).v σ s (fun y σ s => optK (vres σ s x) fun x => optK (vres σ s y) fun y => match x, y with
      | .int m, .int n => if rngOk m n then K (upTo m (n - m).toNat) σ s else False
      | _, _ => False) X) X
  | .enum e k, σ, s, K, X => (w e).v σ s (fun o σ s => optK (seqOf o.frz) fun xs => (ws k).opds σ s (fun ks σ s => optK (ress σ s ks) fun ks => match ks with
      | [] => K (enumD 0 xs) σ s
      | [.int i] => if rngOk i i then K (enumD i xs) σ s else False
      | _ => False) X) X
  | .zip es, σ, s, K, X => (ws es).vals σ s (fun ds σ s => match ds with
      | [.lst xs, .lst ys] => K (zipD xs ys) σ s
      | [.tup xs, .tup ys] => K (zipD xs ys) σ s
      | _ => False) X
  | .items e, σ, s, K, X => (w e).v σ s (fun o σ s => match o.frz with | .dct ks vs => K (zipD ks vs) σ s | _ => False) X
  | .vals e, σ, s, K, X => (w e).v σ s (fun o σ s => match o.frz with | .dct _ vs => K vs σ s | _ => False) X
/-- the clauses of a comprehension; a is what is made so far -/
def wCs : Cs → WCs
  | .one t it ifs => fun vs σ s a f K X => wIt it σ s (fun items σ s => wLoop (fun x a σ s k => wTg t x (wipeS σ vs) s fun σ s => (ws ifs).ifs σ s fun c σ s => if c then f a σ s k else k a σ s) items a σ s K) X
  | .more t it ifs us c => fun vs σ s a f K X => wIt it σ s (fun items σ s => wLoop (fun x a σ s k => wTg t x (wipeS σ vs) s fun σ s => (ws ifs).ifs σ s fun b σ s => if b then wCs c us σ s a f k noX else k a σ s) items a σ s K) X
end
abbrev wE (e : E) : SE := (w e).v
abbrev wT (e : E) : ST := (w e).t
abbrev wA (e : E) := asOp e (w e).v

/-- what is wanted behind a statement -/
structure Post where
  nx : QN
  rt : Out → Store → Prop
  bk : QN
  ct : QN
  ex : QX
/-- as many turns as a while may take -/
def turns : Nat := 1000000000
def wWhile (c : Slots → Store → QB → Prop) (b : Slots → Store → QN → QN → Prop) : Nat → Slots → Store → QN → Prop
  | 0, _, _, _ => False
  | n + 1, σ, s, K => c σ s fun r σ s => if r then b σ s (fun σ s => wWhile c b n σ s K) K else K σ s
/-- class c is d, or d is above it -/
def isSub (c d : Str) : Bool := decide (c = d) || decide (d = ("PlaceError" : Str)) || decide (d = ("ValueError" : Str))
mutual
def wS : S → Slots → Store → Post → Prop
  | .asg (.name i) e, σ, s, P => wE e σ s (fun o σ s => P.nx (σ.set i o.slot) s) P.ex
  | .asg (.tup ts) e, σ, s, P => wE e σ s (fun o σ s => wTg (.tup ts) o.frz σ s P.nx) P.ex
  | .par is es, σ, s, P => (ws es).outs σ s (fun os σ s => os.length = is.length ∧ P.nx (setsS σ is os) s) P.ex
  | .aug i o e, σ, s, P => match σ[i]? with
    | some (.val (.int x)) => wA e σ s (fun y σ s => optK (vres σ s y) fun y => optK (binSem o (.int x) y) fun r => match r with | .val (.int z) => P.nx (σ.set i (.val (.int z))) s | _ => False) P.ex
    | _ => False
  | .setix o k v, σ, s, P => wE v σ s (fun y σ s => wA o σ s (fun x σ s => wE k σ s (fun i σ s => upCont x σ s (fun c => (setSem c i.frz y.frz).map fun c => (c, .non)) fun _ σ s => P.nx σ s) P.ex) P.ex) P.ex
  | .setfld cn o n v, σ, s, P => wE v σ s (fun y σ s => wA o σ s (fun x σ s => upCont x σ s (fun c => match c with
      | .ins c ns vs => if c = cn && decide (ns.length < 100) then some (.ins c (putF ns vs n y.frz).1 (putF ns vs n y.frz).2, .non) else none
      | _ => none) fun _ σ s => P.nx σ s) P.ex) P.ex
  | .augfld o n b v, σ, s, P => wA o σ s (fun x σ s => wA v σ s (fun y σ s => optK (vres σ s y) fun y => upCont x σ s (fun c => match c with
      | .ins c ns vs => match lookF ns vs n with
        | some (.int i) => match binSem b (.int i) y with
          | some (.val (.int z)) => some (.ins c (putF ns vs n (.int z)).1 (putF ns vs n (.int z)).2, .non)
          | _ => none
        | _ => none
      | _ => none) fun _ σ s => P.nx σ s) P.ex) P.ex
  | .ex e, σ, s, P => wE e σ s (fun _ σ s => P.nx σ s) P.ex
  | .ret (.var i), σ, s, P => match σ[i]? with
    | some (.val d) => P.rt (.val d) s
    | some (.own c) => P.rt (.own c) s
    | _ => False
  | .ret e, σ, s, P => wE e σ s (fun o _ s => P.rt o s) P.ex
  | .retn, _, s, P => P.rt (.val .non) s
  | .ife c a b, σ, s, P => wT c σ s (fun r σ s => if r then wSs a σ s P else wSs b σ s P) P.ex
  | .for_ t it b, σ, s, P => wIt it σ s (fun items σ s => wLoop (fun x (_ : Unit) σ s k => wTg t x σ s fun σ s => wSs b σ s { P with nx := fun σ s => k () σ s, ct := fun σ s => k () σ s, bk := P.nx }) items () σ s fun _ σ s => P.nx σ s) P.ex
  | .while_ c b, σ, s, P => wWhile (fun σ s K => wT c σ s K P.ex) (fun σ s k d => wSs b σ s { P with nx := k, ct := k, bk := d }) turns σ s P.nx
  | .pass, σ, s, P => P.nx σ s
  | .brk, σ, s, P => P.bk σ s
  | .cont, σ, s, P => P.ct σ s
  | .raise c f e, σ, s, P => wE e σ s (fun o σ s => P.ex ⟨c, if f then some o.frz else none⟩ σ s) P.ex
  | .try_ b c n h, σ, s, P => wSs b σ s { P with ex := fun e σ s => if isSub e.c c then wSs h (match n with | some i => σ.set i (.val (.exc e.c e.arg.toList)) | none => σ) s P else P.ex e σ s }
def wSs : Ss → Slots → Store → Post → Prop
  | .nil, σ, s, P => P.nx σ s
  | .cons st r, σ, s, P => wS st σ s { P with nx := fun σ s => wSs r σ s P }
end
/-- a def of n parameters, m names in all -/
def mkFn (n m : Nat) (b : Ss) : Fn := fun ds s Q X => ds.length = n ∧
  wSs b (ds.map .val ++ List.replicate (m - n) .unb) s ⟨fun _ s => Q (.val .non) s, Q, fun _ _ => False, fun _ _ => False, fun e _ s => X e s⟩
/-- a class's maker by its __init__: the new instance in slot 0 -/
def mkIn (c : Str) (n m : Nat) (b : Ss) : Fn := fun ds s Q X => ds.length = n ∧
  wSs b (.own (.ins c [] []) :: ds.map .val ++ List.replicate (m - n - 1) .unb) s
    ⟨fun (σ : Slots) s => match σ[0]? with | some (Slot.own k) => Q (.own k) s | _ => False, fun _ _ => False, fun _ _ => False, fun _ _ => False, fun e _ s => X e s⟩
end HP

set_option maxHeartbeats 2000000
/-! HpRel: how the values and containers of the small language stand in the abstract heap. -/
namespace HP
open PySem L2

def keyD : Key → D
  | .inl i => .int i
  | .inr x => .str x

/-- a tuple whose object is known to have no dict of its own: made by a step that was walked, or the module's -/
def SqX (K : PySem.W.Frag) (F : Hp) (a : Addr) (vs : List V) : Prop :=
  (∃ o : Obj, F a = some (.frz o (.tup vs)) ∧ o.dict = none) ∨
  ∃ (o : Obj) (its : Array Value) (n : Nat), K.lookup a = some o ∧ o.cls = .type "tuple" ∧ o.data = .seq its n ∧ its.size ≤ sizeLine ∧ Vals vs its.toList ∧ o.dict = none
theorem SqX.sqT {K : PySem.W.Frag} {F : Hp} {a : Addr} {vs : List V} (h : SqX K F a vs) : SqT K F a vs := by
  rcases h with ⟨o, h, _⟩ | ⟨o, its, n, h1, h2, h3, h4, h5, _⟩
  · exact .inl (.inr ⟨o, h⟩)
  · exact .inr ⟨o, its, n, h1, h2, h3, h4, h5⟩
theorem sqX_mono {K : PySem.W.Frag} {F F' : Hp} {a : Addr} {vs : List V} (s : Same F F') (h : SqX K F a vs) : SqX K F' a vs := by
  rcases h with ⟨o, h, e⟩ | h
  · exact .inl ⟨o, s _ _ h, e⟩
  · exact .inr h
mutual
/-- the value d stands as v; F: what nobody changes; M: where the store's things stand -/
inductive RV (K : PySem.W.Frag) (F : Hp) (M : List Addr) : D → V → Prop
  | non : RV K F M .non .non
  | bl (b : Bool) : RV K F M (.bl b) (.bl b)
  | int (i : Int) : RV K F M (.int i) (.int i)
  | str (x : Str) : RV K F M (.str x) (.str x)
  | tup {a : Addr} {ds : List D} {vs : List V} : SqX K F a vs → RVs K F M ds vs → RV K F M (.tup ds) (.ref a)
  | lst {a : Addr} {ds : List D} {vs : List V} : F a = some (.lst vs) → RVs K F M ds vs → RV K F M (.lst ds) (.ref a)
  | scr {a : Addr} {ds : List D} {vs : List V} : SqL K F a vs → RVs K F M ds vs → RV K F M (.scr ds) (.ref a)
  | dct {a : Addr} {ks vs : List D} {kvs : List (Key × V)} : F a = some (.dK kvs) → ks = kvs.map (fun p => keyD p.1) → (kvs.map (·.1)).Nodup → RVs K F M vs (kvs.map (·.2)) → RV K F M (.dct ks vs) (.ref a)
  | ins {a dx : Addr} {c : Str} {ns : List Str} {vs : List D} {fs : List (Str × V)} : F a = some (.ins (He.ga K c) dx fs) → ns = fs.map (·.1) → RVs K F M vs (fs.map (·.2)) → RV K F M (.ins c ns vs) (.ref a)
  | ref {n : Nat} {a : Addr} : M[n]? = some a → RV K F M (.ref n) (.ref a)
inductive RVs (K : PySem.W.Frag) (F : Hp) (M : List Addr) : List D → List V → Prop
  | nil : RVs K F M [] []
  | cons {d : D} {ds : List D} {v : V} {vs : List V} : RV K F M d v → RVs K F M ds vs → RVs K F M (d :: ds) (v :: vs)
end

def Ext (M M' : List Addr) : Prop := ∃ L, M' = M ++ L
theorem Ext.refl (M : List Addr) : Ext M M := ⟨[], by simp⟩
theorem Ext.trans {M M1 M2 : List Addr} (a : Ext M M1) (b : Ext M1 M2) : Ext M M2 := by
  obtain ⟨l, rfl⟩ := a
  obtain ⟨m, rfl⟩ := b
  exact ⟨l ++ m, by simp⟩
theorem Ext.at {M M' : List Addr} (e : Ext M M') {n : Nat} {a : Addr} (h : M[n]? = some a) : M'[n]? = some a := by
  obtain ⟨l, rfl⟩ := e
  rw [List.getElem?_append_left (List.getElem?_eq_some_iff.mp h).1]
  exact h

section
variable {K : PySem.W.Frag} {F F' : Hp} {M M' : List Addr}
theorem sqT_mono {a : Addr} {vs : List V} (s : Same F F') (h : SqT K F a vs) : SqT K F' a vs := by
  rcases h with (h | ⟨o, h⟩) | h
  · exact .inl (.inl (s _ _ h))
  · exact .inl (.inr ⟨o, s _ _ h⟩)
  · exact .inr h
mutual
theorem RV.mon (s : Same F F') (e : Ext M M') : ∀ {d : D} {v : V}, RV K F M d v → RV K F' M' d v
  | _, _, .non => .non
  | _, _, .bl b => .bl b
  | _, _, .int i => .int i
  | _, _, .str x => .str x
  | _, _, .tup h r => .tup (sqX_mono s h) (RVs.mon s e r)
  | _, _, .lst h r => .lst (s _ _ h) (RVs.mon s e r)
  | _, _, .scr h r => .scr (s.seq h) (RVs.mon s e r)
  | _, _, .dct h h1 h2 r => .dct (s _ _ h) h1 h2 (RVs.mon s e r)
  | _, _, .ins h h1 r => .ins (s _ _ h) h1 (RVs.mon s e r)
  | _, _, .ref h => .ref (e.at h)
theorem RVs.mon (s : Same F F') (e : Ext M M') : ∀ {ds : List D} {vs : List V}, RVs K F M ds vs → RVs K F' M' ds vs
  | _, _, .nil => .nil
  | _, _, .cons a b => .cons (RV.mon s e a) (RVs.mon s e b)
end
theorem RV.mono {d : D} {v : V} (h : RV K F M d v) (s : Same F F') (e : Ext M M') : RV K F' M' d v := RV.mon s e h
theorem RVs.mono {d : List D} {v : List V} (h : RVs K F M d v) (s : Same F F') (e : Ext M M') : RVs K F' M' d v := RVs.mon s e h
theorem RVs.length : ∀ {ds : List D} {vs : List V}, RVs K F M ds vs → ds.length = vs.length
  | _, _, .nil => rfl
  | _, _, .cons _ b => by rw [List.length_cons, List.length_cons, b.length]
theorem RVs.get : ∀ {ds : List D} {vs : List V} {i : Nat} {d : D}, RVs K F M ds vs → ds[i]? = some d → ∃ v, vs[i]? = some v ∧ RV K F M d v
  | _, _, _, _, .nil, h => by simp at h
  | _, _, 0, _, .cons a _, h => by
    simp at h
    subst h
    exact ⟨_, rfl, a⟩
  | _, _, i + 1, d, .cons _ b, h => by
    obtain ⟨v, h1, h2⟩ := RVs.get (i := i) (d := d) b (by simpa using h)
    exact ⟨v, by simpa using h1, h2⟩
theorem RVs.getV : ∀ {ds : List D} {vs : List V} {i : Nat} {v : V}, RVs K F M ds vs → vs[i]? = some v → ∃ d, ds[i]? = some d ∧ RV K F M d v
  | _, _, _, _, .nil, h => by simp at h
  | _, _, 0, _, .cons a _, h => by
    simp at h
    subst h
    exact ⟨_, rfl, a⟩
  | _, _, i + 1, d, .cons _ b, h => by
    obtain ⟨v, h1, h2⟩ := RVs.getV (i := i) (v := d) b (by simpa using h)
    exact ⟨v, by simpa using h1, h2⟩
theorem RVs.append : ∀ {ds es : List D} {vs ws : List V}, RVs K F M ds vs → RVs K F M es ws → RVs K F M (ds ++ es) (vs ++ ws)
  | _, _, _, _, .nil, s => s
  | _, _, _, _, .cons a b, s => .cons a (b.append s)
theorem RVs.take : ∀ {ds : List D} {vs : List V} (n : Nat), RVs K F M ds vs → RVs K F M (ds.take n) (vs.take n)
  | _, _, 0, _ => .nil
  | _, _, _ + 1, .nil => .nil
  | _, _, n + 1, .cons a b => .cons a (b.take n)
theorem RVs.drop : ∀ {ds : List D} {vs : List V} (n : Nat), RVs K F M ds vs → RVs K F M (ds.drop n) (vs.drop n)
  | _, _, 0, r => r
  | _, _, _ + 1, .nil => .nil
  | _, _, n + 1, .cons _ b => b.drop n
theorem RVs.set : ∀ {ds : List D} {vs : List V} {d : D} {v : V} (i : Nat), RV K F M d v → RVs K F M ds vs → RVs K F M (ds.set i d) (vs.set i v)
  | _, _, _, _, _, _, .nil => .nil
  | _, _, _, _, 0, r, .cons _ b => .cons r b
  | _, _, _, _, i + 1, r, .cons a b => .cons a (b.set i r)
theorem RVs.eraseIdx : ∀ {ds : List D} {vs : List V} (i : Nat), RVs K F M ds vs → RVs K F M (ds.eraseIdx i) (vs.eraseIdx i)
  | _, _, _, .nil => .nil
  | _, _, 0, .cons _ b => b
  | _, _, i + 1, .cons a b => .cons a (b.eraseIdx i)
theorem RVs.reverse {ds : List D} {vs : List V} (h : RVs K F M ds vs) : RVs K F M ds.reverse vs.reverse := by
  induction ds generalizing vs with
  | nil => cases h; exact .nil
  | cons d ds ih =>
    cases h with
    | cons a b =>
      rw [List.reverse_cons, List.reverse_cons]
      exact (ih b).append (.cons a .nil)
theorem RVs.rep {ds : List D} {vs : List V} (h : RVs K F M ds vs) : ∀ k : Nat, RVs K F M (List.replicate k ds).flatten (List.replicate k vs).flatten
  | 0 => .nil
  | k + 1 => by
    rw [List.replicate_succ, List.replicate_succ, List.flatten_cons, List.flatten_cons]
    exact h.append (h.rep k)
theorem RVs.cut {ds : List D} {vs : List V} (h : RVs K F M ds vs) (lo hi : Option Int) : RVs K F M (cutD ds lo hi) (L2.cutV vs lo hi) := by
  unfold cutD L2.cutV
  rw [h.length]
  exact (h.drop _).take _
theorem RVs.dropLast {ds : List D} {vs : List V} (h : RVs K F M ds vs) : RVs K F M ds.dropLast vs.dropLast := by
  rw [List.dropLast_eq_take, List.dropLast_eq_take, h.length]
  exact h.take _
theorem RVs.strs : ∀ {ss : List Str}, RVs K F M (ss.map D.str) (ss.map V.str)
  | [] => .nil
  | x :: r => .cons (.str x) RVs.strs

/-- the container c stands at a -/
inductive CR (K : PySem.W.Frag) (F : Hp) (M : List Addr) (H : Hp) (a : Addr) : Cont → Prop
  | lst {xs : List D} {vs : List V} : H a = some (.lst vs) → RVs K F M xs vs → CR K F M H a (.lst xs)
  | dct {ks vs : List D} {kvs : List (Key × V)} : H a = some (.dK kvs) → ks = kvs.map (fun p => keyD p.1) → (kvs.map (·.1)).Nodup → RVs K F M vs (kvs.map (·.2)) → CR K F M H a (.dct ks vs)
  | ins {dx : Addr} {c : Str} {ns : List Str} {vs : List D} {fs : List (Str × V)} : H a = some (.ins (He.ga K c) dx fs) → ns = fs.map (·.1) → RVs K F M vs (fs.map (·.2)) → CR K F M H a (.ins c ns vs)
theorem CR.has {H : Hp} {a : Addr} {c : Cont} (h : CR K F M H a c) : ∃ o, H a = some o := by
  cases h with
  | lst e _ => exact ⟨_, e⟩
  | dct e _ _ _ => exact ⟨_, e⟩
  | ins e _ _ => exact ⟨_, e⟩
theorem CR.mono {H H' : Hp} {a : Addr} {c : Cont} (h : CR K F M H a c) (s : Same F F') (e : Ext M M') (ha : ∀ o, H a = some o → H' a = some o) : CR K F' M' H' a c := by
  cases h with
  | lst q r => exact .lst (ha _ q) (r.mono s e)
  | dct q r1 r2 r => exact .dct (ha _ q) r1 r2 (r.mono s e)
  | ins q r1 r => exact .ins (ha _ q) r1 (r.mono s e)
/-- read as a value, in a heap that has it and what is frozen -/
theorem CR.rv {H : Hp} {a : Addr} {c : Cont} (s : Same F H) (h : CR K F M H a c) : RV K H M c.frz (.ref a) := by
  cases h with
  | lst q r => exact .lst q (r.mono s (.refl M))
  | dct q r1 r2 r => exact .dct q r1 r2 (r.mono s (.refl M))
  | ins q r1 r => exact .ins q r1 (r.mono s (.refl M))

theorem same_upd {a : Addr} {o : HO} (h : F a = none) : Same F (upd F a o) := fun b u e => by
  rw [upd_ne (ne_of_none e h)]
  exact e
theorem same_upd2 {H : Hp} {a : Addr} {o : HO} (s : Same F H) (h : H a = some o) : Same (upd F a o) H := fun b u e => by
  by_cases q : b = a
  · subst q
    rw [upd_same] at e
    cases e
    exact h
  · rw [upd_ne q] at e
    exact s _ _ e

inductive SlotR (K : PySem.W.Frag) (F : Hp) (M : List Addr) (P : Hp) (H : Hp) (v : Option (Option V)) : Slot → Prop
  | unb : SlotR K F M P H v .unb
  | val {d : D} {x : V} : v = some (some x) → RV K F M d x → SlotR K F M P H v (.val d)
  | own {c : Cont} {a : Addr} : v = some (some (.ref a)) → CR K F M H a c → F a = none → P a = none → a ∉ M → SlotR K F M P H v (.own c)
theorem SlotR.ov {P H : Hp} {v : Option (Option V)} {c : Cont} (h : SlotR K F M P H v (.own c)) : ∃ a, v = some (some (.ref a)) ∧ CR K F M H a c ∧ F a = none ∧ P a = none ∧ a ∉ M := by
  cases h with
  | own a b c d e => exact ⟨_, a, b, c, d, e⟩
theorem SlotR.vv {P H : Hp} {v : Option (Option V)} {d : D} (h : SlotR K F M P H v (.val d)) : ∃ x, v = some (some x) ∧ RV K F M d x := by
  cases h with
  | val a b => exact ⟨_, a, b⟩

/-- THE RELATION: F what nobody changes; M where the store stands; P what the callers want kept -/
structure Rel (K : PySem.W.Frag) (F : Hp) (M : List Addr) (P : Hp) (σD : Slots) (s : Store) (σ : St) (H : Hp) : Prop where
  sF : Same F H
  sP : Same P H
  mlen : M.length = s.length
  mem : ∀ (n : Nat) a c, M[n]? = some a → s[n]? = some c → CR K F M H a c ∧ F a = none ∧ P a = none
  nd : M.Nodup
  fp : ∀ a o, P a = some o → F a = none
  slen : σD.length = σ.length
  slot : ∀ (i : Nat) sl, σD[i]? = some sl → SlotR K F M P H σ[i]? sl
  dist : ∀ (i j : Nat) c c' a, σD[i]? = some (.own c) → σD[j]? = some (.own c') → σ[i]? = some (some (.ref a)) → σ[j]? = some (some (.ref a)) → i = j

/-- an address that is free of the relation's changing things -/
structure Off (F : Hp) (M : List Addr) (P : Hp) (σD : Slots) (σ : St) (a : Addr) : Prop where
  f : F a = none
  p : P a = none
  m : a ∉ M
  o : ∀ (i : Nat) c, σD[i]? = some (.own c) → σ[i]? ≠ some (some (.ref a))

variable {P : Hp} {σD σD' : Slots} {s s' : Store} {σ σ' : St} {H H' : Hp}
theorem mem_at {M : List Addr} {a : Addr} (h : a ∈ M) : ∃ n : Nat, M[n]? = some a := List.mem_iff_getElem?.mp h
theorem Rel.mat (R : Rel K F M P σD s σ H) {n : Nat} {a : Addr} (h : M[n]? = some a) : ∃ c, s[n]? = some c := by
  have h1 := (List.getElem?_eq_some_iff.mp h).1
  rw [R.mlen] at h1
  exact ⟨_, List.getElem?_eq_getElem h1⟩
theorem Rel.mat' (R : Rel K F M P σD s σ H) {n : Nat} {c : Cont} (h : s[n]? = some c) : ∃ a, M[n]? = some a := by
  have h1 := (List.getElem?_eq_some_iff.mp h).1
  rw [← R.mlen] at h1
  exact ⟨_, List.getElem?_eq_getElem h1⟩
/-- an address that is not tracked is off -/
theorem Rel.off (R : Rel K F M P σD s σ H) {a : Addr} (h : H a = none) : Off F M P σD σ a where
  f := R.sF.free h
  p := R.sP.free h
  m := fun hm => by
    obtain ⟨n, hn⟩ := mem_at hm
    obtain ⟨c, hc⟩ := R.mat hn
    obtain ⟨o, ho⟩ := (R.mem n a c hn hc).1.has
    rw [h] at ho
    cases ho
  o := fun i c hi e => by
    obtain ⟨b, hb, hc, _⟩ := (R.slot i _ hi).ov
    rw [e] at hb
    cases hb
    obtain ⟨o, ho⟩ := hc.has
    rw [h] at ho
    cases ho
theorem SlotR.mono {v : Option (Option V)} {sl : Slot} (h : SlotR K F M P H v sl) (sf : Same F F') (e : Ext M M')
    (hv : ∀ a, v = some (some (.ref a)) → F a = none → P a = none → a ∉ M → (∃ c, sl = .own c) → (∀ o, H a = some o → H' a = some o) ∧ F' a = none ∧ a ∉ M') : SlotR K F' M' P H' v sl := by
  cases h with
  | unb => exact .unb
  | val q r => exact .val q (r.mono sf e)
  | own q r1 r2 r3 r4 =>
    obtain ⟨h1, h2, h3⟩ := hv _ q r2 r3 r4 ⟨_, rfl⟩
    exact .own q (r1.mono sf e h1) h2 r3 h3
/-- the heap grows beside the changing things -/
theorem Rel.grow (R : Rel K F M P σD s σ H) (sf : Same F F') (sH : Same F' H') (k : Same H H') (hf : ∀ a, a ∈ M ∨ (∃ (i : Nat) (c : Cont), σD[i]? = some (.own c) ∧ σ[i]? = some (some (.ref a))) ∨ (∃ o, P a = some o) → F' a = none) : Rel K F' M P σD s σ H' where
  sF := sH
  sP := R.sP.trans k
  mlen := R.mlen
  mem := fun n a c h1 h2 => by
    obtain ⟨r1, r2, r3⟩ := R.mem n a c h1 h2
    exact ⟨r1.mono sf (.refl M) (k a), hf a (.inl (List.mem_of_getElem? h1)), r3⟩
  nd := R.nd
  fp := fun a o h => hf a (.inr (.inr ⟨o, h⟩))
  slen := R.slen
  slot := fun i sl hi => (R.slot i sl hi).mono sf (.refl M) fun a h1 h2 h3 h4 ⟨c, hc⟩ => ⟨k a, hf a (.inr (.inl ⟨i, c, by rw [← hc]; exact hi, h1⟩)), h4⟩
  dist := R.dist
/-- a new object that nobody needs -/
theorem Rel.junk (R : Rel K F M P σD s σ H) {p : Addr} {o : HO} (h : H p = none) : Rel K F M P σD s σ (upd H p o) :=
  R.grow (.refl F) (R.sF.trans (same_upd h)) (same_upd h) fun a ha => by
    rcases ha with ha | ⟨i, c, h1, h2⟩ | ⟨u, hu⟩
    · obtain ⟨n, hn⟩ := mem_at ha
      obtain ⟨c, hc⟩ := R.mat hn
      exact (R.mem n a c hn hc).2.1
    · obtain ⟨b, hb, _, h3, _⟩ := (R.slot i _ h1).ov
      rw [h2] at hb
      cases hb
      exact h3
    · exact R.fp a u hu
/-- an off object is frozen as it stands -/
theorem Rel.freeze (R : Rel K F M P σD s σ H) {p : Addr} {o : HO} (q : Off F M P σD σ p) (h : H p = some o) : Rel K (upd F p o) M P σD s σ H :=
  R.grow (same_upd q.f) (same_upd2 R.sF h) (.refl H) fun a ha => by
    rcases ha with ha | ⟨i, c, h1, h2⟩ | ⟨u, hu⟩
    · have hne : a ≠ p := fun e => q.m (e ▸ ha)
      rw [upd_ne hne]
      obtain ⟨n, hn⟩ := mem_at ha
      obtain ⟨c, hc⟩ := R.mat hn
      exact (R.mem n a c hn hc).2.1
    · have hne : a ≠ p := fun e => q.o i c h1 (e ▸ h2)
      rw [upd_ne hne]
      obtain ⟨b, hb, _, h3, _⟩ := (R.slot i _ h1).ov
      rw [h2] at hb
      cases hb
      exact h3
    · have hne : a ≠ p := fun e => by rw [e, q.p] at hu; cases hu
      rw [upd_ne hne]
      exact R.fp a u hu
theorem CR.frzF {c : Cont} {a : Addr} {o : HO} (hf : F a = none) (ho : H a = some o) (h : CR K F M H a c) : RV K (upd F a o) M c.frz (.ref a) := by
  have s := same_upd (o := o) hf
  cases h with
  | lst q r =>
    rw [ho] at q; cases q
    exact .lst upd_same (r.mono s (.refl M))
  | dct q r1 r2 r =>
    rw [ho] at q; cases q
    exact .dct upd_same r1 r2 (r.mono s (.refl M))
  | ins q r1 r =>
    rw [ho] at q; cases q
    exact .ins upd_same r1 (r.mono s (.refl M))
end
end HP

set_option maxHeartbeats 2000000
/-! HpTup: the steps that make a tuple, with the object that they make (it has no dict: methods of tuples ask that). -/
namespace HP
open PySem L2 PySem.Spec
open PyProof.Rows hiding St

/-- a new tuple of these is wanted -/
def NewT (H : Hp) (ys : List V) (Q : VK) : Prop := ∀ p o, H p = none → Obj.dict o = none → Q (.ref p) (upd H p (.frz o (.tup ys)))
section
variable {X : Cx} {pins : List (Addr × Obj)} {σ : St} {H : Hp} {s : Shared} {Q : VK}
theorem NewT.end (I : Inv X pins σ H s) {ys : List V} {us : List Value} (q : NewT H ys Q) (r : Vals ys us) (hz : ys.length ≤ sizeLine) :
    EP X pins σ Q (.ref s.heap.objs.size) { s with heap := s.heap.push { cls := .type "tuple", data := .seq us.toArray } } :=
  ⟨.ref s.heap.objs.size, _, I.laid (t' := s.toks) (o := .frz { cls := .type "tuple", data := .seq us.toArray } (.tup ys)) (fun b ob e => Heap.get?_push_of_some _ e) (Nat.le_refl _)
    ⟨Heap.get?_push_size _ rfl, hz, us, r, IsTup.new _ _⟩, rfl, q _ _ (I.hok.fresh (Nat.le_refl _)) rfl⟩
end
section
variable {X : Cx} {es : List Expr} {t : TA} {pos : Pos}
theorem pe_tupX {x1} (h : PA X es t) : PE X (.Tuple es x1 pos) (fun σ H Q => t σ H fun xs H1 => xs.length ≤ sizeLine ∧ NewT H1 xs Q) := ⟨fun pins s σ H Q I hq =>
  wpAny_Tuple_spliced (thn (h.run pos pins s σ H _ I hq) fun us s1 ⟨_, _, I1, r, z, q⟩ => ⟨by rw [← r.length]; exact z, q.end I1 r z⟩)⟩
theorem op_catX : OpR X (binaryOp .Add) (fun x y H Q => ∃ a b xs ys, x = .ref a ∧ y = .ref b ∧ SqT X.K H a xs ∧ SqT X.K H b ys ∧ xs.length + ys.length ≤ sizeLine ∧
    (xs = [] → Q (.ref b) H) ∧ (xs ≠ [] → ys = [] → Q (.ref a) H) ∧ (xs ≠ [] → ys ≠ [] → NewT H (xs ++ ys) Q)) := by
  intro pins s σ H x y v u Q I rx ry h
  obtain ⟨a, b, xs, ys, rfl, rfl, ha, hb, hz, q0, q1, q2⟩ := h
  cases rx
  cases ry
  obtain ⟨i1, r1, p1, _⟩ := I.tuple ha
  obtain ⟨i2, r2, p2, _⟩ := I.tuple hb
  by_cases hx : xs = []
  · have e1 : i1 = [] := r1.nil_iff.mpr hx
    subst e1
    exact cat_tup0 p1 p2 ⟨V.ref b, H, I, rfl, q0 hx⟩
  · refine HT.cat_tup p1 p2 (fun z => hx (r1.nil_iff.mp z)) (fun z => ⟨V.ref a, H, I, rfl, q1 hx (r2.nil_iff.mp z)⟩) (fun z => (q2 hx fun e => z (r2.nil_iff.mpr e)).end I (r1.append r2) ?_) ?_
    · rw [List.length_append]
      exact hz
    · rw [← r1.length, ← r2.length]
      exact hz
theorem sl_tupX : SlR X (fun x lo hi H Q => ∃ a xs, x = .ref a ∧ SqT X.K H a xs ∧ (HT.sIx xs.length 0 lo = 0 ∧ HT.sIx xs.length xs.length hi = xs.length → Q (.ref a) H) ∧
    (¬ (HT.sIx xs.length 0 lo = 0 ∧ HT.sIx xs.length xs.length hi = xs.length) → NewT H (cutV xs lo hi) Q)) := by
  intro pins s σ H x v vl vu lo hi sl Q I rx hs pl pu h
  obtain ⟨a, xs, rfl, hx, q1, q2⟩ := h
  cases rx
  obtain ⟨its, r, ht, hz⟩ := I.tuple hx
  have hn : its.toArray.size = xs.length := by rw [List.size_toArray, r.length]
  refine ⟨"tuple", _, PyProof.Rows.slot_tuple_getitem.lookup, ht.typeIs, ?_⟩
  by_cases hw : HT.sIx xs.length 0 lo = 0 ∧ HT.sIx xs.length xs.length hi = xs.length
  · exact getItem_tuple_whole ht hs pl pu (by rw [hn]; exact hw) ⟨V.ref a, H, I, rfl, q1 hw⟩
  · refine HT.getItem_tuple_cut ht hs pl pu (by rw [hn]; exact hw) ?_ (by rw [hn]; exact hz)
    rw [hn]
    exact (q2 hw).end I ((r.drop _).take _) (Nat.le_trans (cutV_length xs lo hi) hz)
theorem call_tupleX : CallR X (.type "tuple") (fun xs H Q => ∃ p ys, xs = [.ref p] ∧ ((SqL X.K H p ys ∧ NewT H ys Q) ∨ (SqT X.K H p ys ∧ Q (.ref p) H))) := by
  intro pins s σ H xs us Q I r h
  obtain ⟨p, ys, rfl, h⟩ := h
  obtain ⟨u, rfl, rx⟩ := vals1 r
  cases rx
  rcases h with ⟨hq, q⟩ | ⟨hq, q⟩
  · obtain ⟨its, r1, pl, hz⟩ := I.list hq
    have e := r1.length
    refine call_tuple_list pl.isList (fun h' kp => ?_) (by rw [List.size_toArray, ← e]; exact hz)
    have I1 : Inv X pins σ H { s with heap := h' } := I.kept (t' := s.toks) kp
    exact q.end I1 r1 hz
  · obtain ⟨its, r1, pl, _⟩ := I.tuple hq
    exact call_tuple_same pl ⟨V.ref p, H, I, rfl, q⟩
theorem op_repX : OpR X (binaryOp .Mult) (fun x y H Q => ∃ l k xs, x = .ref l ∧ y = .int k ∧ SqT X.K H l xs ∧ xs ≠ [] ∧ 2 ≤ k ∧ k ≤ 1000 ∧ xs.length ≤ 1000 ∧ NewT H (List.replicate k.toNat xs).flatten Q) := by
  intro pins s σ H x y v u Q I rx ry h
  obtain ⟨l, k, xs, rfl, rfl, hT, hne, h1, h2, hz, q⟩ := h
  cases rx
  obtain ⟨t, rfl⟩ := ry
  obtain ⟨its, r, ⟨⟨cls, dd, data, sl⟩, ho, hc, n, hd⟩, _⟩ := I.tuple hT
  simp only at hc hd
  subst hc hd
  have hl : its.length = xs.length := r.length.symm
  have hn : its ≠ [] := fun e => hne (r.nil_iff.mp e)
  have hs0 : its.toArray.size = xs.length := by rw [List.size_toArray, hl]
  have he : its.toArray.isEmpty = false := by
    cases its with
    | nil => exact absurd rfl hn
    | cons _ _ => rfl
  have hm : ((its.toArray.size : Nat) : Int) * k ≤ 1000000 := by
    rw [hs0]
    exact Int.le_trans (Int.mul_le_mul_of_nonneg_right (c := k) (show ((xs.length : Nat) : Int) ≤ 1000 by omega) (by omega)) (by omega)
  have hm2 : k.toNat * xs.length ≤ 1000 * 1000 := Nat.mul_le_mul (by omega) hz
  have hf : (List.replicate k.toNat xs).flatten.length ≤ sizeLine := by
    rw [PyProof.Rows.lm_len_rep_flat, sizeLine_eq]
    omega
  have a0 : (decide (k < -(2 ^ 63)) || decide (k ≥ 2 ^ 63)) = false := by rw [decide_eq_false (by omega), decide_eq_false (by omega)]; rfl
  have a1 : (its.toArray.isEmpty || k == 1) = false := by rw [he, Bool.false_or]; exact beq_eq_false_iff_ne.mpr (by omega)
  have a2 : (decide (k ≤ 0) || its.toArray.isEmpty) = false := by rw [he, Bool.or_false]; exact decide_eq_false (by omega)
  have a4 : Builtin.Tuple.tupleTooMany (((its.toArray.size : Nat) : Int) * k) = false := by
    unfold Builtin.Tuple.tupleTooMany
    rw [sizeLine_eq]
    exact decide_eq_false (by omega)
  have a5 : (List.foldl (fun x1 x2 => x1 ++ x2) #[] (List.replicate k.toNat its.toArray)).size ≤ sizeLine := by
    rw [size_rep, List.size_toArray, ← (r.rep k.toNat).length]
    exact hf
  have last : EP X pins σ Q (.ref s.heap.objs.size) { s with heap := s.heap.push { cls := Value.type "tuple", data := Data.seq (List.foldl (fun x1 x2 => x1 ++ x2) #[] (List.replicate k.toNat its.toArray)) } } := by
    rw [size_rep]
    exact q.end I (r.rep k.toNat) hf
  exact wpAny_binaryOp_repeat_ref (T := "tuple") (U := "int") (by decide) ⟨_, ho, rfl⟩ (fun s' => typeIs_int s' k t) noFill_tuple_mul F.fills_int_mul F.slot_int_rmul repeat_tuple F.slot_int_index.lookup
    (call_meets F.slot_int_rmul (typeIs_int s k t) F.entry_int_rmul (F.args_int_rmul_2 _ _) (int_rmul_tuple k t l its.toArray n dd sl) ⟨ho, rfl, ⟨_, ho, rfl⟩, call_meets F.slot_tuple_mul ⟨_, ho, rfl⟩ F.entry_tuple_mul (F.args_tuple_mul_2 _ _) (tuple_mulW l its.toArray n dd sl k t a0 a1 a2 (by omega) a4 a5) ⟨ho, last⟩⟩)
theorem tuple_mul1 (l : Addr) (items : Array Value) (n : Nat) (dd : Option Addr) (sl : Array (Option Value)) (u : Tok) (c1 : items.isEmpty = false) :
    Meets (Builtin.«tuple.__mul__» ⟨[.ref l, .int 1 u], []⟩) (fun _ R s => s.heap.get? l = some { cls := .type "tuple", dict := dd, data := .seq items n, slots := sl } ∧ R (.ok (.ret (Value.ref l))) s) :=
  .of_wp fun prog w A R s h => by
    obtain ⟨hp, g, d, tk, os⟩ := s
    obtain ⟨hl, h⟩ := h
    have f1 := AutoSeq1.idx_int
    wp_walk using wpAny_loadPart' hl
    exact ⟨_, rfl, h⟩
theorem op_rep1 : OpR X (binaryOp .Mult) (fun x y H Q => ∃ l xs, x = .ref l ∧ y = .int 1 ∧ SqT X.K H l xs ∧ xs ≠ [] ∧ Q (.ref l) H) := by
  intro pins s σ H x y v u Q I rx ry h
  obtain ⟨l, xs, rfl, rfl, hT, hne, q⟩ := h
  cases rx
  obtain ⟨t, rfl⟩ := ry
  obtain ⟨its, r, ⟨⟨cls, dd, data, sl⟩, ho, hc, n, hd⟩, _⟩ := I.tuple hT
  simp only at hc hd
  subst hc hd
  have hn : its ≠ [] := fun e => hne (r.nil_iff.mp e)
  have he : its.toArray.isEmpty = false := by
    cases its with
    | nil => exact absurd rfl hn
    | cons _ _ => rfl
  have last : EP X pins σ Q (.ref l) s := ⟨V.ref l, H, I, rfl, q⟩
  exact wpAny_binaryOp_repeat_ref (T := "tuple") (U := "int") (by decide) ⟨_, ho, rfl⟩ (fun s' => typeIs_int s' 1 t) noFill_tuple_mul F.fills_int_mul F.slot_int_rmul repeat_tuple F.slot_int_index.lookup
    (call_meets F.slot_int_rmul (typeIs_int s 1 t) F.entry_int_rmul (F.args_int_rmul_2 _ _) (int_rmul_tuple 1 t l its.toArray n dd sl) ⟨ho, rfl, ⟨_, ho, rfl⟩, call_meets F.slot_tuple_mul ⟨_, ho, rfl⟩ F.entry_tuple_mul (F.args_tuple_mul_2 _ _) (tuple_mul1 l its.toArray n dd sl t he) ⟨ho, last⟩⟩)
end
end HP

set_option maxHeartbeats 2000000
/-! HpOps: the operations by values are the model's. -/
namespace HP
open PySem L2

section
variable {K : PySem.W.Frag} {F F' : Hp} {M M' : List Addr} {H H' : Hp}
/-- a value as an operand: it may be a container that is still changed -/
def RVt (K : PySem.W.Frag) (F : Hp) (M : List Addr) (H : Hp) (d : D) (v : V) : Prop := RV K F M d v ∨ ∃ c a, d = Cont.frz c ∧ v = .ref a ∧ CR K F M H a c
theorem RVt.of {d : D} {v : V} (h : RV K F M d v) : RVt K F M H d v := .inl h
theorem RVt.non {v : V} (h : RVt K F M H .non v) : v = .non := by
  rcases h with h | ⟨c, a, e, _⟩
  · cases h; rfl
  · cases c <;> cases e
theorem RVt.bl {v : V} {b : Bool} (h : RVt K F M H (.bl b) v) : v = .bl b := by
  rcases h with h | ⟨c, a, e, _⟩
  · cases h; rfl
  · cases c <;> cases e
theorem RVt.int {v : V} {i : Int} (h : RVt K F M H (.int i) v) : v = .int i := by
  rcases h with h | ⟨c, a, e, _⟩
  · cases h; rfl
  · cases c <;> cases e
theorem RVt.str {v : V} {x : Str} (h : RVt K F M H (.str x) v) : v = .str x := by
  rcases h with h | ⟨c, a, e, _⟩
  · cases h; rfl
  · cases c <;> cases e
theorem RVt.tup {v : V} {xs : List D} (s : Same F H) (h : RVt K F M H (.tup xs) v) : ∃ a vs, v = .ref a ∧ SqT K H a vs ∧ SqX K F a vs ∧ RVs K F M xs vs := by
  rcases h with h | ⟨c, a, e, _⟩
  · cases h with
    | tup h r => exact ⟨_, _, rfl, sqT_mono s h.sqT, h, r⟩
  · cases c <;> cases e
theorem RVt.lst {v : V} {xs : List D} (s : Same F H) (h : RVt K F M H (.lst xs) v) : ∃ a vs, v = .ref a ∧ H a = some (.lst vs) ∧ RVs K F M xs vs := by
  rcases h with h | ⟨c, a, e, e2, hc⟩
  · cases h with
    | lst h r => exact ⟨_, _, rfl, s _ _ h, r⟩
  · cases hc with
    | lst q r =>
      cases e
      exact ⟨a, _, e2, q, r⟩
    | dct => cases e
    | ins => cases e
theorem RVt.scr {v : V} {xs : List D} (s : Same F H) (h : RVt K F M H (.scr xs) v) : ∃ a vs, v = .ref a ∧ SqL K H a vs ∧ RVs K F M xs vs := by
  rcases h with h | ⟨c, a, e, e2, hc⟩
  · cases h with
    | scr h r => exact ⟨_, _, rfl, s.seq h, r⟩
  · cases c <;> cases e
theorem RVt.dct {v : V} {ks vs : List D} (s : Same F H) (h : RVt K F M H (.dct ks vs) v) : ∃ a, ∃ kvs : List (Key × V), v = .ref a ∧ H a = some (.dK kvs) ∧ ks = kvs.map (fun p => keyD p.1) ∧ (kvs.map (·.1)).Nodup ∧ RVs K F M vs (kvs.map (·.2)) := by
  rcases h with h | ⟨c, a, e, e2, hc⟩
  · cases h with
    | dct h h1 h2 r => exact ⟨_, _, rfl, s _ _ h, h1, h2, r⟩
  · cases hc with
    | dct q h1 h2 r =>
      cases e
      exact ⟨a, _, e2, q, h1, h2, r⟩
    | lst => cases e
    | ins => cases e
theorem RVt.ins {v : V} {c : Str} {ns : List Str} {vs : List D} (s : Same F H) (h : RVt K F M H (.ins c ns vs) v) : ∃ a dx, ∃ fs : List (Str × V), v = .ref a ∧ H a = some (.ins (He.ga K c) dx fs) ∧ ns = fs.map (·.1) ∧ RVs K F M vs (fs.map (·.2)) := by
  rcases h with h | ⟨c, a, e, e2, hc⟩
  · cases h with
    | ins h h1 r => exact ⟨_, _, _, rfl, s _ _ h, h1, r⟩
  · cases hc with
    | ins q h1 r =>
      cases e
      exact ⟨a, _, _, e2, q, h1, r⟩
    | lst => cases e
    | dct => cases e
theorem RVt.ref {v : V} {n : Nat} (h : RVt K F M H (.ref n) v) : ∃ a, v = .ref a ∧ M[n]? = some a := by
  rcases h with h | ⟨c, a, e, _⟩
  · cases h with
    | ref h => exact ⟨_, rfl, h⟩
  · cases c <;> cases e

/-- what an operation hands back, the heap behind it -/
inductive OutN (K : PySem.W.Frag) (F : Hp) (M : List Addr) (H : Hp) : Hp → Out → V → Prop
  | old {d : D} {v : V} : RV K F M d v → OutN K F M H H (.val d) v
  | new {d : D} {p : Addr} {o : HO} : H p = none → RV K (upd F p o) M d (.ref p) → OutN K F M H (upd H p o) (.val d) (.ref p)
  | own {c : Cont} {p : Addr} {o : HO} : H p = none → CR K F M (upd H p o) p c → OutN K F M H (upd H p o) (.own c) (.ref p)
theorem OutN.lst {xs : List D} {vs : List V} {p : Addr} (h : H p = none) (r : RVs K F M xs vs) : OutN K F M H (upd H p (.lst vs)) (.own (.lst xs)) (.ref p) := .own h (.lst upd_same r)
theorem OutN.tup {xs : List D} {vs : List V} {p : Addr} {o : Obj} (s : Same F H) (h : H p = none) (e : o.dict = none) (r : RVs K F M xs vs) : OutN K F M H (upd H p (.frz o (.tup vs))) (.val (.tup xs)) (.ref p) :=
  .new h (.tup (.inl ⟨o, upd_same, e⟩) (r.mono (same_upd (s.free h)) (.refl M)))

abbrev QN2 := V → Hp → Prop
/-- the reading of a two-place operation by the language's own -/
def r2D (K : PySem.W.Frag) (f : D → D → Option Out) : R2 := fun x y H Q => ∃ F M dx dy, Same F H ∧ RVt K F M H dx x ∧ RVt K F M H dy y ∧ optK (f dx dy) fun o => ∀ H' v, OutN K F M H H' o v → Q v H'
theorem optK_ex {α : Type} {o : Option α} {k : α → Prop} (h : optK o k) : ∃ a, o = some a ∧ k a := by
  cases o with
  | none => exact h.elim
  | some a => exact ⟨a, rfl, h⟩
end

theorem big_eq : big = sizeLine := by rw [sizeLine_eq]; rfl

section
variable {X : Cx}
theorem op_Add (hu : X.A.units < cLine) : OpR X (binaryOp .Add) (r2D X.K (binSem .add)) := by
  intro pins s σ H x y v u Q I rx ry h
  obtain ⟨F, M, dx, dy, sF, hx, hy, h⟩ := h
  obtain ⟨o, ho, h⟩ := optK_ex h
  cases dx <;> cases dy <;> simp only [binSem] at ho <;> try (cases ho; done)
  · cases ho
    obtain rfl := hx.int
    obtain rfl := hy.int
    exact op_add pins s σ H _ _ v u Q I rx ry ⟨_, _, rfl, rfl, h _ _ (.old (.int _))⟩
  · split at ho <;> cases ho
    rename_i hz
    obtain rfl := hx.str
    obtain rfl := hy.str
    exact op_add_str pins s σ H _ _ v u Q I rx ry ⟨_, _, rfl, rfl, by rw [← big_eq]; exact hz, h _ _ (.old (.str _))⟩
  · split at ho <;> cases ho
    rename_i hz
    obtain ⟨a, vs, rfl, h1, h2, h3⟩ := hx.tup sF
    obtain ⟨b, ws, rfl, g1, g2, g3⟩ := hy.tup sF
    refine op_catX pins s σ H _ _ v u Q I rx ry ⟨a, b, vs, ws, rfl, rfl, h1, g1, by rw [← big_eq, ← h3.length, ← g3.length]; exact hz, fun e => ?_, fun e e2 => ?_, fun e e2 p o hp ho => ?_⟩
    · subst e
      cases h3
      exact h _ _ (.old (.tup g2 g3))
    · subst e2
      cases g3
      rw [List.append_nil] at h
      exact h _ _ (.old (.tup h2 h3))
    · exact h _ _ (.tup sF hp ho (h3.append g3))
  · split at ho <;> cases ho
    rename_i hz
    obtain ⟨a, vs, rfl, h1, h3⟩ := hx.lst sF
    obtain ⟨b, ws, rfl, g1, g3⟩ := hy.lst sF
    exact op_cat pins s σ H _ _ v u Q I rx ry ⟨a, b, vs, ws, rfl, rfl, h1, g1, by rw [← big_eq, ← h3.length, ← g3.length]; exact hz, fun p hp => h _ _ (.lst hp (h3.append g3))⟩
theorem op_Sub : OpR X (binaryOp .Sub) (r2D X.K (binSem .sub)) := by
  intro pins s σ H x y v u Q I rx ry h
  obtain ⟨F, M, dx, dy, sF, hx, hy, h⟩ := h
  obtain ⟨o, ho, h⟩ := optK_ex h
  cases dx <;> cases dy <;> simp only [binSem] at ho <;> try (cases ho; done)
  cases ho
  obtain rfl := hx.int
  obtain rfl := hy.int
  exact op_sub pins s σ H _ _ v u Q I rx ry ⟨_, _, rfl, rfl, h _ _ (.old (.int _))⟩
theorem op_Mul : OpR X (binaryOp .Mult) (r2D X.K (binSem .mul)) := by
  intro pins s σ H x y v u Q I rx ry h
  obtain ⟨F, M, dx, dy, sF, hx, hy, h⟩ := h
  obtain ⟨o, ho, h⟩ := optK_ex h
  cases dx <;> cases dy <;> simp only [binSem] at ho <;> try (cases ho; done)
  · split at ho <;> cases ho
    rename_i hz
    obtain rfl := hx.int
    obtain rfl := hy.int
    simp only [Bool.or_eq_true, decide_eq_true_eq] at hz
    rcases hz with (hz | hz) | hz
    · exact op_mul pins s σ H _ _ v u Q I rx ry ⟨_, _, rfl, rfl, .inl ⟨by omega, by omega⟩, h _ _ (.old (.int _))⟩
    · exact op_mul pins s σ H _ _ v u Q I rx ry ⟨_, _, rfl, rfl, .inr ⟨by omega, by omega⟩, h _ _ (.old (.int _))⟩
    · exact op_mulW pins s σ H _ _ v u Q I rx ry ⟨_, _, rfl, rfl, hz, h _ _ (.old (.int _))⟩
  · obtain ⟨a, vs, rfl, h1, h2, h3⟩ := hx.tup sF
    obtain rfl := hy.int
    have hl := h3.length
    split at ho
    · cases ho
      rename_i hz
      simp only [Bool.and_eq_true, decide_eq_true_eq] at hz
      obtain ⟨⟨⟨z1, z2⟩, z3⟩, z4⟩ := hz
      exact op_repX pins s σ H _ _ v u Q I rx ry ⟨a, _, vs, rfl, rfl, h1, by intro e; rw [e, List.length_nil] at hl; omega, z1, z2, by omega, fun p o hp ho => h _ _ (.tup sF hp ho (h3.rep _))⟩
    · split at ho <;> cases ho
      rename_i hz
      have h9 := h
      obtain ⟨rfl, z3⟩ := hz
      exact op_rep1 pins s σ H _ _ v u Q I rx ry ⟨a, vs, rfl, rfl, h1, by intro e; rw [e, List.length_nil] at hl; omega, h9 _ _ (.old (.tup h2 h3))⟩
  · split at ho <;> cases ho
    rename_i hz
    obtain ⟨a, vs, rfl, h1, h3⟩ := hx.lst sF
    obtain rfl := hy.int
    simp only [Bool.and_eq_true, decide_eq_true_eq] at hz
    obtain ⟨⟨z1, z2⟩, z3⟩ := hz
    exact op_rep pins s σ H _ _ v u Q I rx ry ⟨a, _, vs, rfl, rfl, h1, by omega, by omega, by rw [← big_eq, ← h3.length]; exact z3, fun p hp => h _ _ (.lst hp (h3.rep _))⟩
theorem op_Fdiv : OpR X (binaryOp .FloorDiv) (r2D X.K (binSem .fdiv)) := by
  intro pins s σ H x y v u Q I rx ry h
  obtain ⟨F, M, dx, dy, sF, hx, hy, h⟩ := h
  obtain ⟨o, ho, h⟩ := optK_ex h
  cases dx <;> cases dy <;> simp only [binSem] at ho <;> try (cases ho; done)
  split at ho <;> cases ho
  rename_i hz
  simp only [Bool.and_eq_true, decide_eq_true_eq] at hz
  obtain rfl := hx.int
  obtain rfl := hy.int
  exact op_fdivW pins s σ H _ _ v u Q I rx ry ⟨_, _, rfl, rfl, hz, h _ _ (.old (.int _))⟩
theorem op_Mod : OpR X (binaryOp .Mod) (r2D X.K (binSem .mod)) := by
  intro pins s σ H x y v u Q I rx ry h
  obtain ⟨F, M, dx, dy, sF, hx, hy, h⟩ := h
  obtain ⟨o, ho, h⟩ := optK_ex h
  cases dx <;> cases dy <;> simp only [binSem] at ho <;> try (cases ho; done)
  split at ho <;> cases ho
  rename_i hz
  obtain rfl := hx.int
  obtain rfl := hy.int
  exact op_mod pins s σ H _ _ v u Q I rx ry ⟨_, _, rfl, rfl, hz, h _ _ (.old (.int _))⟩
theorem op_Pow : OpR X (binaryOp .Pow) (r2D X.K (binSem .pow)) := by
  intro pins s σ H x y v u Q I rx ry h
  obtain ⟨F, M, dx, dy, sF, hx, hy, h⟩ := h
  obtain ⟨o, ho, h⟩ := optK_ex h
  cases dx <;> cases dy <;> simp only [binSem] at ho <;> try (cases ho; done)
  split at ho <;> cases ho
  rename_i hz
  simp only [Bool.and_eq_true, decide_eq_true_eq] at hz
  obtain rfl := hx.int
  obtain rfl := hy.int
  exact op_pow pins s σ H _ _ v u Q I rx ry ⟨_, _, rfl, rfl, ⟨hz.1.1, hz.1.2, hz.2⟩, h _ _ (.old (.int _))⟩
theorem op_Bor : OpR X (binaryOp .BitOr) (r2D X.K (binSem .bor)) := by
  intro pins s σ H x y v u Q I rx ry h
  obtain ⟨F, M, dx, dy, sF, hx, hy, h⟩ := h
  obtain ⟨o, ho, h⟩ := optK_ex h
  cases dx <;> cases dy <;> simp only [binSem] at ho <;> try (cases ho; done)
  cases ho
  obtain rfl := hx.int
  obtain rfl := hy.int
  exact op_or pins s σ H _ _ v u Q I rx ry ⟨_, _, rfl, rfl, h _ _ (.old (.int _))⟩
theorem op_Shl : OpR X (binaryOp .LShift) (r2D X.K (binSem .shl)) := by
  intro pins s σ H x y v u Q I rx ry h
  obtain ⟨F, M, dx, dy, sF, hx, hy, h⟩ := h
  obtain ⟨o, ho, h⟩ := optK_ex h
  cases dx <;> cases dy <;> simp only [binSem] at ho <;> try (cases ho; done)
  split at ho <;> cases ho
  rename_i hz
  simp only [Bool.and_eq_true, decide_eq_true_eq] at hz
  obtain rfl := hx.int
  obtain rfl := hy.int
  exact op_shl pins s σ H _ _ v u Q I rx ry ⟨_, _, rfl, rfl, ⟨hz.1.1, hz.1.2, hz.2⟩, h _ _ (.old (.int _))⟩
end
end HP

set_option maxHeartbeats 2000000
/-! HpOps2: comparisons, truth, subscripts of the language are the model's. -/
namespace HP
open PySem L2

mutual
theorem py_plain : ∀ d : D, d.plain = true → d.py.plain = true
  | .non, _ => rfl
  | .bl _, _ => rfl
  | .int _, _ => rfl
  | .str _, _ => rfl
  | .tup xs, h => by
    simp only [D.py, PyData.plain]
    exact py_plains xs (by simpa [D.plain] using h)
  | .lst xs, h => by
    simp only [D.py, PyData.plain]
    exact py_plains xs (by simpa [D.plain] using h)
  | .dct _ _, h => by simp [D.plain] at h
  | .ins _ _ _, h => by simp [D.plain] at h
  | .ref _, h => by simp [D.plain] at h
  | .exc _ _, h => by simp [D.plain] at h
  | .scr _, h => by simp [D.plain] at h
theorem py_plains : ∀ xs : List D, plains xs = true → PyData.plainAll (pys xs) = true
  | [], _ => by simp [pys, PyData.plainAll]
  | x :: xs, h => by
    simp only [plains, Bool.and_eq_true] at h
    simp only [pys, PyData.plainAll, py_plain x h.1, py_plains xs h.2, Bool.and_self]
end
mutual
theorem py_dep : ∀ d : D, d.plain = true → d.py.depth = d.dep
  | .non, _ => by simp [D.py, D.dep, PyData.depth]
  | .bl _, _ => by simp [D.py, D.dep, PyData.depth]
  | .int _, _ => by simp [D.py, D.dep, PyData.depth]
  | .str _, _ => by simp [D.py, D.dep, PyData.depth]
  | .tup xs, h => by simp only [D.py, D.dep, PyData.depth, py_deps xs (by simpa [D.plain] using h)]
  | .lst xs, h => by simp only [D.py, D.dep, PyData.depth, py_deps xs (by simpa [D.plain] using h)]
  | .dct _ _, h => by simp [D.plain] at h
  | .ins _ _ _, h => by simp [D.plain] at h
  | .ref _, h => by simp [D.plain] at h
  | .exc _ _, h => by simp [D.plain] at h
  | .scr _, h => by simp [D.plain] at h
theorem py_deps : ∀ xs : List D, plains xs = true → PyData.depthAll (pys xs) = deps xs
  | [], _ => by simp [pys, deps, PyData.depthAll]
  | x :: xs, h => by
    simp only [plains, Bool.and_eq_true] at h
    simp only [pys, deps, PyData.depthAll, py_dep x h.1, py_deps xs h.2]
end
theorem pys_map : ∀ xs : List D, pys xs = xs.map D.py
  | [] => rfl
  | x :: xs => by simp [pys, pys_map xs]
mutual
theorem py_inj : ∀ d e : D, d.plain = true → e.plain = true → d.py = e.py → d = e
  | .non, e, _, he, h => by cases e <;> simp_all [D.py, D.plain]
  | .bl _, e, _, he, h => by cases e <;> simp_all [D.py, D.plain]
  | .int _, e, _, he, h => by cases e <;> simp_all [D.py, D.plain]
  | .str _, e, _, he, h => by cases e <;> simp_all [D.py, D.plain]
  | .tup xs, e, hd, he, h => by
    cases e with
    | tup ys =>
      simp only [D.py, PyData.tuple.injEq] at h
      rw [pys_inj xs ys (by simpa [D.plain] using hd) (by simpa [D.plain] using he) h]
    | _ => simp_all [D.py, D.plain]
  | .lst xs, e, hd, he, h => by
    cases e with
    | lst ys =>
      simp only [D.py, PyData.list.injEq] at h
      rw [pys_inj xs ys (by simpa [D.plain] using hd) (by simpa [D.plain] using he) h]
    | _ => simp_all [D.py, D.plain]
  | .dct _ _, _, h, _, _ => by simp [D.plain] at h
  | .ins _ _ _, _, h, _, _ => by simp [D.plain] at h
  | .ref _, _, h, _, _ => by simp [D.plain] at h
  | .exc _ _, _, h, _, _ => by simp [D.plain] at h
  | .scr _, _, h, _, _ => by simp [D.plain] at h
theorem pys_inj : ∀ xs ys : List D, plains xs = true → plains ys = true → pys xs = pys ys → xs = ys
  | [], [], _, _, _ => rfl
  | [], _ :: _, _, _, h => by simp [pys] at h
  | _ :: _, [], _, _, h => by simp [pys] at h
  | x :: xs, y :: ys, hx, hy, h => by
    simp only [plains, Bool.and_eq_true] at hx hy
    simp only [pys, List.cons.injEq] at h
    rw [py_inj x y hx.1 hy.1 h.1, pys_inj xs ys hx.2 hy.2 h.2]
end

section
variable {X : Cx} {pins : List (Addr × Obj)} {σ : St} {H : Hp} {s : Shared} {F : Hp} {M : List Addr}
mutual
/-- plain data is read off the heap -/
theorem RV.reads (I : Inv X pins σ H s) (sF : Same F H) : ∀ (d : D) (v : V) (u : Value), d.plain = true → RV X.K F M d v → RelV v u → ∃ as, Reads s.heap u d.py as
  | .non, _, _, _, .non, r => by cases r; exact ⟨_, .none⟩
  | .bl b, _, _, _, .bl _, r => by cases r; exact ⟨_, .bool b⟩
  | .int i, _, _, _, .int _, r => by obtain ⟨t, rfl⟩ := r; exact ⟨_, .int i t⟩
  | .str x, _, _, _, .str _, r => by obtain ⟨t, rfl⟩ := r; exact ⟨_, .str x t⟩
  | .tup xs, _, _, h, .tup q rs, r => by
    cases r
    obtain ⟨its, rv, ⟨o, ho, hc, n, hd⟩, _⟩ := I.tuple (sqT_mono sF q.sqT)
    obtain ⟨as, ra⟩ := RVs.reads I sF xs _ its (by simpa [D.plain] using h) rs rv
    simp only [D.py]
    exact ⟨_, .tuple ho hc hd (by simpa using ra)⟩
  | .lst xs, _, _, h, .lst q rs, r => by
    cases r
    obtain ⟨_, its, n, rv, ho⟩ := I.hok _ _ (sF _ _ q)
    obtain ⟨as, ra⟩ := RVs.reads I sF xs _ its (by simpa [D.plain] using h) rs rv
    simp only [D.py]
    exact ⟨_, .list ho rfl rfl (by simpa using ra)⟩
theorem RVs.reads (I : Inv X pins σ H s) (sF : Same F H) : ∀ (ds : List D) (vs : List V) (us : List Value), plains ds = true → RVs X.K F M ds vs → Vals vs us → ∃ as, ReadsAll s.heap us (pys ds) as
  | [], _, _, _, .nil, .nil => ⟨_, by simp only [pys]; exact .nil⟩
  | x :: xs, _, _, h, .cons a b, .cons p q => by
    simp only [plains, Bool.and_eq_true] at h
    obtain ⟨as, r1⟩ := RV.reads I sF x _ _ h.1 a p
    obtain ⟨bs, r2⟩ := RVs.reads I sF xs _ _ h.2 b q
    simp only [pys]
    exact ⟨_, .cons r1 r2⟩
end
theorem RVt.rv {d : D} {v : V} {K : PySem.W.Frag} (sF : Same F H) (h : RVt K F M H d v) : RV K H M d v := by
  rcases h with h | ⟨c, a, rfl, rfl, hc⟩
  · exact h.mono sF (.refl M)
  · exact hc.rv sF
theorem RVt.reads (I : Inv X pins σ H s) (sF : Same F H) {d : D} {v : V} {u : Value} (hp : d.plain = true) (h : RVt X.K F M H d v) (r : RelV v u) : ∃ as, Reads s.heap u d.py as := RV.reads I (.refl H) d v u hp (h.rv sF) r
end

section
variable {X : Cx}
/-- a two-place operation that tells a truth value -/
def rCmp (K : PySem.W.Frag) (f : D → D → Option Bool) : R2 := fun x y H Q => ∃ F M dx dy, Same F H ∧ RVt K F M H dx x ∧ RVt K F M H dy y ∧ optK (f dx dy) fun b => Q (.bl b) H
theorem D.ok_plain {d : D} (h : d.ok = true) : d.plain = true ∧ d.dep ≤ 60 := by
  unfold D.ok at h
  simpa using h
theorem eqSem_some {a b : D} {r : Bool} (h : eqSem a b = some r) : (a.ok = true ∧ b.ok = true ∧ r = eqD a b) ∨ ∃ xs, a = .lst xs ∧ b = .lst [] ∧ r = xs.isEmpty := by
  unfold eqSem at h
  split at h
  · rename_i h1
    simp only [Bool.and_eq_true] at h1
    cases h
    exact .inl ⟨h1.1, h1.2, rfl⟩
  · unfold eqNil at h
    split at h
    · cases h
      exact .inr ⟨_, rfl, rfl, rfl⟩
    · cases h
theorem ltSem_some {a b : D} {r : Bool} (h : ltSem a b = some r) : a.ok = true ∧ b.ok = true ∧ PySem.W.alike a.py b.py = true ∧ a.py ≠ .none ∧ r = ltD a b := by
  unfold ltSem at h
  split at h
  · rename_i h1
    simp only [Bool.and_eq_true] at h1
    cases h
    refine ⟨h1.1.1.1, h1.1.1.2, h1.1.2, ?_, rfl⟩
    have hp := (D.ok_plain h1.1.1.1).1
    have hn := h1.2
    cases a <;> simp_all [D.py, D.plain, notNon]
  · cases h
theorem op_EqS (hu : X.A.units + 64 < cLine) : OpR X (compareOp .Eq) (rCmp X.K eqSem) := by
  intro pins s σ H x y v u Q I rx ry h
  obtain ⟨F, M, dx, dy, sF, hx, hy, h⟩ := h
  obtain ⟨o, ho, h⟩ := optK_ex h
  rcases eqSem_some ho with ⟨h1, h2, rfl⟩ | ⟨xs, rfl, rfl, rfl⟩
  · obtain ⟨p1, d1⟩ := D.ok_plain h1
    obtain ⟨p2, d2⟩ := D.ok_plain h2
    obtain ⟨as, r1⟩ := hx.reads I sF p1 rx
    obtain ⟨bs, r2⟩ := hy.reads I sF p2 ry
    refine SeqAt.eq_plain r1 r2 (py_plain _ p1) (py_plain _ p2) ?_ ⟨.bl _, H, I, rfl, h⟩
    rw [py_dep _ p1]
    omega
  · obtain ⟨a, vs, rfl, ha, r1⟩ := hx.lst sF
    obtain ⟨b, ws, rfl, hb, r2⟩ := hy.lst sF
    cases r2
    cases (show v = Value.ref a from rx)
    cases (show u = Value.ref b from ry)
    obtain ⟨z, its, n, q1, _, o1⟩ := I.lstM ha
    obtain ⟨z2, its2, n2, q2, _, o2⟩ := I.lstM hb
    cases q2
    have l1 : s.heap.IsList a its.toArray := ⟨_, o1, rfl, _, rfl⟩
    have l2 : s.heap.IsList b #[] := ⟨_, o2, rfl, _, rfl⟩
    have hu0 : X.A.units < cLine := by omega
    have e1 := q1.length
    have e2 := r1.length
    by_cases hn : its = []
    · subst hn
      have : xs = [] := List.length_eq_zero_iff.mp (by rw [e2, e1]; rfl)
      subst this
      exact SeqAt.RcAt.lists (e := fun _ => true) l1 l2 rfl hu0 (fun j h1 => by simp at h1) X.prog X.w _ _ ⟨.bl _, H, I, by rfl, h⟩
    · have : xs ≠ [] := fun q => hn (List.length_eq_zero_iff.mp (by rw [← e1, ← e2, q]; rfl))
      have e : xs.isEmpty = false := by cases xs <;> simp_all
      rw [e] at h
      exact SeqAt.RcAt.lists_lengths l1 l2 (by simp [hn]) hu0 X.prog X.w _ _ ⟨.bl _, H, I, rfl, h⟩
theorem op_NeS (hu : X.A.units + 64 < cLine) : OpR X (compareOp .NotEq) (rCmp X.K fun a b => (eqSem a b).map (!·)) := by
  intro pins s σ H x y v u Q I rx ry h
  obtain ⟨F, M, dx, dy, sF, hx, hy, h⟩ := h
  obtain ⟨o, ho, h⟩ := optK_ex h
  obtain ⟨r, hr, rfl⟩ := Option.map_eq_some_iff.mp ho
  rcases eqSem_some hr with ⟨h1, h2, rfl⟩ | ⟨xs, rfl, rfl, rfl⟩
  · obtain ⟨p1, d1⟩ := D.ok_plain h1
    obtain ⟨p2, d2⟩ := D.ok_plain h2
    obtain ⟨as, r1⟩ := hx.reads I sF p1 rx
    obtain ⟨bs, r2⟩ := hy.reads I sF p2 ry
    refine SeqAt.ne_plain r1 r2 (py_plain _ p1) (py_plain _ p2) ?_ ⟨.bl _, H, I, rfl, h⟩
    rw [py_dep _ p1]
    omega
  · obtain ⟨a, vs, rfl, ha, r1⟩ := hx.lst sF
    obtain ⟨b, ws, rfl, hb, r2⟩ := hy.lst sF
    cases r2
    cases (show v = Value.ref a from rx)
    cases (show u = Value.ref b from ry)
    obtain ⟨z, its, n, q1, _, o1⟩ := I.lstM ha
    obtain ⟨z2, its2, n2, q2, _, o2⟩ := I.lstM hb
    cases q2
    have l1 : s.heap.IsList a its.toArray := ⟨_, o1, rfl, _, rfl⟩
    have l2 : s.heap.IsList b #[] := ⟨_, o2, rfl, _, rfl⟩
    have hu0 : X.A.units < cLine := by omega
    have e1 := q1.length
    have e2 := r1.length
    by_cases hn : its = []
    · subst hn
      have : xs = [] := List.length_eq_zero_iff.mp (by rw [e2, e1]; rfl)
      subst this
      exact SeqAt.RcNeAt.lists (e := fun _ => true) l1 l2 rfl hu0 (fun j h1 => by simp at h1) X.prog X.w _ _ ⟨.bl _, H, I, by rfl, h⟩
    · have : xs ≠ [] := fun q => hn (List.length_eq_zero_iff.mp (by rw [← e1, ← e2, q]; rfl))
      have e : xs.isEmpty = false := by cases xs <;> simp_all
      rw [e] at h
      exact SeqAt.RcNeAt.lists_lengths l1 l2 (by simp [hn]) hu0 X.prog X.w _ _ ⟨.bl _, H, I, rfl, h⟩
/-- the four orders -/
theorem op_LtS (hu : X.A.units + 64 < cLine) : OpR X (compareOp .Lt) (rCmp X.K ltSem) := by
  intro pins s σ H x y v u Q I rx ry h
  obtain ⟨F, M, dx, dy, sF, hx, hy, h⟩ := h
  obtain ⟨o, ho, h⟩ := optK_ex h
  obtain ⟨h1, h2, h3, h4, rfl⟩ := ltSem_some ho
  obtain ⟨p1, d1⟩ := D.ok_plain h1
  obtain ⟨p2, d2⟩ := D.ok_plain h2
  obtain ⟨as, r1⟩ := hx.reads I sF p1 rx
  obtain ⟨bs, r2⟩ := hy.reads I sF p2 ry
  refine PySem.W.lt_data r1 r2 h3 h4 ?_ ⟨.bl _, H, I, rfl, h⟩
  rw [py_dep _ p1]
  omega
theorem alike_symm {a b : PyData} (h : PySem.W.alike a b = true) : PySem.W.alike b a = true := by rw [PySem.W.alike_comm]; exact h
theorem alike_none {a b : PyData} (h : PySem.W.alike a b = true) (hn : a ≠ .none) : b ≠ .none := fun e => by
  subst e
  cases a <;> simp_all [PySem.W.alike]
theorem op_GtS (hu : X.A.units + 64 < cLine) : OpR X (compareOp .Gt) (rCmp X.K fun a b => ltSem b a) := by
  intro pins s σ H x y v u Q I rx ry h
  obtain ⟨F, M, dx, dy, sF, hx, hy, h⟩ := h
  obtain ⟨o, ho, h⟩ := optK_ex h
  obtain ⟨h2, h1, h3, h4, rfl⟩ := ltSem_some ho
  obtain ⟨p1, d1⟩ := D.ok_plain h1
  obtain ⟨p2, d2⟩ := D.ok_plain h2
  obtain ⟨as, r1⟩ := hx.reads I sF p1 rx
  obtain ⟨bs, r2⟩ := hy.reads I sF p2 ry
  refine PySem.W.gt_data r1 r2 (alike_symm h3) (alike_none h3 h4) ?_ ⟨.bl _, H, I, rfl, h⟩
  rw [py_dep _ p1]
  omega
theorem op_LeS (hu : X.A.units + 64 < cLine) : OpR X (compareOp .LtE) (rCmp X.K fun a b => (ltSem b a).map (!·)) := by
  intro pins s σ H x y v u Q I rx ry h
  obtain ⟨F, M, dx, dy, sF, hx, hy, h⟩ := h
  obtain ⟨o, ho, h⟩ := optK_ex h
  obtain ⟨r, hr, rfl⟩ := Option.map_eq_some_iff.mp ho
  obtain ⟨h2, h1, h3, h4, rfl⟩ := ltSem_some hr
  obtain ⟨p1, d1⟩ := D.ok_plain h1
  obtain ⟨p2, d2⟩ := D.ok_plain h2
  obtain ⟨as, r1⟩ := hx.reads I sF p1 rx
  obtain ⟨bs, r2⟩ := hy.reads I sF p2 ry
  refine PySem.W.le_data r1 r2 (alike_symm h3) (alike_none h3 h4) ?_ ⟨.bl _, H, I, rfl, h⟩
  rw [py_dep _ p1]
  omega
theorem op_GeS (hu : X.A.units + 64 < cLine) : OpR X (compareOp .GtE) (rCmp X.K fun a b => (ltSem a b).map (!·)) := by
  intro pins s σ H x y v u Q I rx ry h
  obtain ⟨F, M, dx, dy, sF, hx, hy, h⟩ := h
  obtain ⟨o, ho, h⟩ := optK_ex h
  obtain ⟨r, hr, rfl⟩ := Option.map_eq_some_iff.mp ho
  obtain ⟨h1, h2, h3, h4, rfl⟩ := ltSem_some hr
  obtain ⟨p1, d1⟩ := D.ok_plain h1
  obtain ⟨p2, d2⟩ := D.ok_plain h2
  obtain ⟨as, r1⟩ := hx.reads I sF p1 rx
  obtain ⟨bs, r2⟩ := hy.reads I sF p2 ry
  refine PySem.W.ge_data r1 r2 h3 h4 ?_ ⟨.bl _, H, I, rfl, h⟩
  rw [py_dep _ p1]
  omega
theorem optK_map {α β : Type} {o : Option α} {f : α → β} {k : β → Prop} (h : optK (o.map f) k) : optK o fun a => k (f a) := by
  cases o with
  | none => exact h
  | some a => exact h
theorem op_Lt (hu : X.A.units + 64 < cLine) : OpR X (compareOp .Lt) (rCmp X.K (cmpSem .lt)) := by
  intro pins s σ H x y v u Q I rx ry h
  obtain ⟨F, M, dx, dy, sF, hx, hy, h⟩ := h
  unfold cmpSem at h
  split at h <;> try (rename_i q1 q2; cases q1; done)
  any_goals cases ‹CmpO.lt = _›
  all_goals first
    | (obtain rfl := hx.int; obtain rfl := hy.int; exact op_lt pins s σ H _ _ v u Q I rx ry ⟨_, _, rfl, rfl, h⟩)
    | exact op_LtS hu pins s σ H x y v u Q I rx ry ⟨F, M, _, _, sF, hx, hy, h⟩
end
end HP

set_option maxHeartbeats 2000000
/-! HpOps3: the other comparisons, truth, subscripts, slices. -/
namespace HP
open PySem L2

def BinO.py : BinO → Operator
  | .add => .Add | .sub => .Sub | .mul => .Mult | .fdiv => .FloorDiv | .mod => .Mod | .pow => .Pow | .bor => .BitOr | .shl => .LShift
def CmpO.py : CmpO → CmpOp
  | .eq => .Eq | .ne => .NotEq | .lt => .Lt | .le => .LtE | .gt => .Gt | .ge => .GtE | .is => .Is | .isn => .IsNot | .in_ => .In | .nin => .NotIn

section
variable {X : Cx}
theorem op_Gt (hu : X.A.units + 64 < cLine) : OpR X (compareOp .Gt) (rCmp X.K (cmpSem .gt)) := by
  intro pins s σ H x y v u Q I rx ry h
  obtain ⟨F, M, dx, dy, sF, hx, hy, h⟩ := h
  unfold cmpSem at h
  split at h <;> try (rename_i q1 q2; cases q1; done)
  any_goals cases ‹CmpO.gt = _›
  all_goals first
    | (obtain rfl := hx.int; obtain rfl := hy.int; exact op_gt pins s σ H _ _ v u Q I rx ry ⟨_, _, rfl, rfl, h⟩)
    | exact op_GtS hu pins s σ H x y v u Q I rx ry ⟨F, M, _, _, sF, hx, hy, h⟩
theorem op_Le (hu : X.A.units + 64 < cLine) : OpR X (compareOp .LtE) (rCmp X.K (cmpSem .le)) := by
  intro pins s σ H x y v u Q I rx ry h
  obtain ⟨F, M, dx, dy, sF, hx, hy, h⟩ := h
  unfold cmpSem at h
  split at h <;> try (rename_i q1 q2; cases q1; done)
  any_goals cases ‹CmpO.le = _›
  all_goals first
    | (obtain rfl := hx.int; obtain rfl := hy.int; exact op_le pins s σ H _ _ v u Q I rx ry ⟨_, _, rfl, rfl, h⟩)
    | exact op_LeS hu pins s σ H x y v u Q I rx ry ⟨F, M, _, _, sF, hx, hy, h⟩
theorem op_Ge (hu : X.A.units + 64 < cLine) : OpR X (compareOp .GtE) (rCmp X.K (cmpSem .ge)) := by
  intro pins s σ H x y v u Q I rx ry h
  obtain ⟨F, M, dx, dy, sF, hx, hy, h⟩ := h
  unfold cmpSem at h
  split at h <;> try (rename_i q1 q2; cases q1; done)
  any_goals cases ‹CmpO.ge = _›
  all_goals first
    | (obtain rfl := hx.int; obtain rfl := hy.int; exact op_ge pins s σ H _ _ v u Q I rx ry ⟨_, _, rfl, rfl, h⟩)
    | exact op_GeS hu pins s σ H x y v u Q I rx ry ⟨F, M, _, _, sF, hx, hy, h⟩
theorem RVt.notNon {K : PySem.W.Frag} {F : Hp} {M : List Addr} {H : Hp} {d : D} {v : V} (h : RVt K F M H d v) (hv : v = .non) : d = .non := by
  subst hv
  rcases h with h | ⟨c, a, e, e2, _⟩
  · cases h; rfl
  · cases e2
theorem isSem_non {K : PySem.W.Frag} {F : Hp} {M : List Addr} {H : Hp} {d : D} {v : V} (h : RVt K F M H d v) : (!notNon d) = decide (v = .non) := by
  by_cases hv : v = .non
  · have := h.notNon hv
    subst this
    simp [hv, notNon]
  · have : d ≠ .non := fun e => by
      subst e
      exact hv h.non
    cases d <;> simp_all [notNon]
theorem isSem_non' {K : PySem.W.Frag} {F : Hp} {M : List Addr} {H : Hp} {d : D} {v : V} (h : RVt K F M H d v) : notNon d = !decide (v = .non) := by
  rw [← isSem_non h, Bool.not_not]
theorem isSem_cases {a b : D} {r : Bool} (h : isSem a b = some r) : (b = .non ∧ r = !notNon a) ∨ ∃ x y, a = .bl x ∧ b = .bl y ∧ r = (x == y) := by
  unfold isSem at h
  split at h
  · cases h; exact .inl ⟨rfl, rfl⟩
  · cases h; exact .inr ⟨_, _, rfl, rfl, rfl⟩
  · cases h
theorem op_Is : OpR X (compareOp .Is) (rCmp X.K (cmpSem .is)) := by
  intro pins s σ H x y v u Q I rx ry h
  obtain ⟨F, M, dx, dy, sF, hx, hy, h⟩ := h
  obtain ⟨o, ho, h⟩ := optK_ex h
  simp only [cmpSem] at ho
  rcases isSem_cases ho with ⟨rfl, rfl⟩ | ⟨a, b, rfl, rfl, rfl⟩
  · obtain rfl := hy.non
    rw [isSem_non hx] at h
    exact op_isN pins s σ H _ _ v u Q I rx ry ⟨rfl, h⟩
  · obtain rfl := hx.bl
    obtain rfl := hy.bl
    exact op_isBl pins s σ H _ _ v u Q I rx ry ⟨_, _, rfl, rfl, by rw [Bool.beq_eq_decide_eq] at h; exact h⟩
theorem op_IsN : OpR X (compareOp .IsNot) (rCmp X.K (cmpSem .isn)) := by
  intro pins s σ H x y v u Q I rx ry h
  obtain ⟨F, M, dx, dy, sF, hx, hy, h⟩ := h
  obtain ⟨o, ho, h⟩ := optK_ex h
  simp only [cmpSem] at ho
  obtain ⟨r, hr, rfl⟩ := Option.map_eq_some_iff.mp ho
  rcases isSem_cases hr with ⟨rfl, rfl⟩ | ⟨a, b, rfl, rfl, rfl⟩
  · obtain rfl := hy.non
    rw [isSem_non hx] at h
    exact op_notN pins s σ H _ _ v u Q I rx ry ⟨rfl, h⟩
  · obtain rfl := hx.bl
    obtain rfl := hy.bl
    exact op_notBl pins s σ H _ _ v u Q I rx ry ⟨_, _, rfl, rfl, by rw [Bool.beq_eq_decide_eq] at h; exact h⟩

/-! ### dicts -/
theorem keyD_inj {a b : Key} : eqD (keyD a) (keyD b) = decide (a = b) := by
  cases a <;> cases b <;> simp [eqD, keyD, D.py, PyData.eqv]
  all_goals rename_i a b
  all_goals by_cases h : a = b
  all_goals simp_all
theorem keyAt_map {β : Type} (k : Key) : ∀ kvs : List (Key × β), keyAt (kvs.map fun p => keyD p.1) (keyD k) = kvs.findIdx? fun p => decide (p.1 = k)
  | [] => rfl
  | p :: r => by
    have ih := keyAt_map k r
    unfold keyAt at ih ⊢
    rw [List.map_cons, List.findIdx?_cons, List.findIdx?_cons, ih, keyD_inj]
/-- a fit key of a dict whose keys are ints and texts -/
theorem keyFits_of {k : D} {K : PySem.W.Frag} {F : Hp} {M : List Addr} {H : Hp} {v : V} (h : RVt K F M H k v) {ks : List D} (hf : keyFits ks k = true) : ∃ q : Key, k = keyD q ∧ v = kV q := by
  unfold keyFits at hf
  simp only [Bool.and_eq_true] at hf
  cases k with
  | int i =>
    obtain rfl := h.int
    exact ⟨.inl i, rfl, rfl⟩
  | str x =>
    obtain rfl := h.str
    exact ⟨.inr x, rfl, rfl⟩
  | tup xs => simp [isTup] at hf
  | _ => simp [keyOk] at hf
theorem getD_val {K : PySem.W.Frag} {F : Hp} {M : List Addr} (q : Key) : ∀ {kvs : List (Key × V)} {vs : List D}, RVs K F M vs (kvs.map (·.2)) →
    (getD (kvs.map fun p => keyD p.1) vs (keyD q) = none ∧ valV kvs q = none) ∨ ∃ d v, getD (kvs.map fun p => keyD p.1) vs (keyD q) = some d ∧ valV kvs q = some v ∧ RV K F M d v
  | [], _, _ => .inl ⟨by unfold getD; rw [keyAt_map]; rfl, rfl⟩
  | p :: r, _, .cons (ds := ds) (d := d) h0 hr => by
    by_cases e : p.1 = q
    · refine .inr ⟨d, p.2, ?_, valV_pos e, h0⟩
      unfold getD
      rw [keyAt_map, List.findIdx?_cons, decide_eq_true e]
      rfl
    · have hs : getD ((p :: r).map fun p => keyD p.1) (d :: ds) (keyD q) = getD (r.map fun p => keyD p.1) ds (keyD q) := by
        unfold getD
        rw [keyAt_map, keyAt_map, List.findIdx?_cons, decide_eq_false e]
        cases r.findIdx? (fun p => decide (p.1 = q)) <;> simp
      rw [hs, valV_neg e]
      exact getD_val q hr
theorem keyAt_get (q : Key) (kvs : List (Key × V)) : (keyAt (kvs.map fun p => keyD p.1) (keyD q)).isSome = (valV kvs q).isSome := by
  rw [keyAt_map, ← valV_any]
  induction kvs with
  | nil => rfl
  | cons p r ih => 
    rw [List.findIdx?_cons, List.any_cons]
    cases h2 : decide (p.1 = q) with
    | true => rfl
    | false => simp [Option.isSome_map, ih]

/-! ### in -/
theorem isIn_tup {b : Bool} {x : D} {ys : List D} (h : (if x.ok && plains ys && decide (deps ys ≤ 60) then some (ys.any fun y => eqD y x) else none) = some b) : x.ok = true ∧ plains ys = true ∧ deps ys ≤ 60 ∧ b = ys.any fun y => eqD y x := by
  split at h
  · rename_i h1
    simp only [Bool.and_eq_true, decide_eq_true_eq] at h1
    cases h
    exact ⟨h1.1.1, h1.1.2, h1.2, rfl⟩
  · cases h
theorem any_pys (ys : List D) (x : D) : ((pys ys).any fun y => PyData.eqv y x.py) = ys.any fun y => eqD y x := by
  rw [pys_map, List.any_map]
  rfl
theorem op_In0 (hu : X.A.units + 64 < cLine) (n : Bool) : OpR X (compareOp (if n then .NotIn else .In)) (rCmp X.K fun a b => if n then (isIn a b).map (!·) else isIn a b) := by
  intro pins s σ H x y v u Q I rx ry h
  obtain ⟨F, M, dx, dy, sF, hx, hy, h⟩ := h
  have hb : ∃ b, isIn dx dy = some b ∧ Q (.bl (if n then !b else b)) H := by
    cases n with
    | true =>
      obtain ⟨o, ho, h⟩ := optK_ex h
      obtain ⟨r, hr, rfl⟩ := Option.map_eq_some_iff.mp ho
      exact ⟨r, hr, h⟩
    | false =>
      obtain ⟨o, ho, h⟩ := optK_ex h
      exact ⟨o, ho, h⟩
  obtain ⟨b, ho, h⟩ := hb
  cases dy <;> simp only [isIn] at ho <;> try (cases ho; done)
  · rename_i y
    cases dx <;> try (simp at ho; done)
    rename_i z
    simp only at ho
    split at ho
    · rename_i hz
      cases ho
      obtain rfl := hx.str
      obtain rfl := hy.str
      obtain ⟨c, hc⟩ : ∃ c, z = ⟨#[c]⟩ := by
        obtain ⟨a⟩ := z
        have : a.size = 1 := hz
        obtain ⟨c, hc⟩ := Array.size_eq_one_iff.mp this
        exact ⟨c, by rw [hc]⟩
      subst hc
      have e : (y.cps.toList.any fun c' => [c] == [c']) = decide (c ∈ y.cps.toList) := by
        rw [Bool.eq_iff_iff]
        simp only [List.any_eq_true, decide_eq_true_eq, beq_iff_eq, List.cons.injEq, and_true]
        constructor
        · rintro ⟨a, h1, h2⟩
          rw [h2]
          exact h1
        · exact fun hh => ⟨c, hh, rfl⟩
      simp only [e] at h
      cases n
      · exact op_in_sign pins s σ H _ _ v u Q I rx ry ⟨c, y, rfl, rfl, h⟩
      · exact op_notIn_sign pins s σ H _ _ v u Q I rx ry ⟨c, y, rfl, rfl, h⟩
    · cases ho
  · obtain ⟨h1, h2, h3, rfl⟩ := isIn_tup ho
    obtain ⟨p1, d1⟩ := D.ok_plain h1
    obtain ⟨as, r1⟩ := hx.reads I sF p1 rx
    obtain ⟨bs, r2⟩ := hy.reads I sF (by simpa [D.plain] using h2) ry
    simp only [D.py] at r2
    have hd : ∀ ys : List D, X.A.units + 1 + min (PyData.depthAll (pys ys)) dx.py.depth < cLine := fun ys => by
      rw [py_dep _ p1]
      omega
    cases n
    · refine SeqAt.in_tuple_data r2 r1 (py_plains _ h2) (py_plain _ p1) (hd _) ?_
      exact ⟨.bl _, H, I, rfl, by rw [any_pys]; exact h⟩
    · refine SeqAt.notIn_tuple_data r2 r1 (py_plains _ h2) (py_plain _ p1) (hd _) ?_
      exact ⟨.bl _, H, I, rfl, by rw [any_pys]; exact h⟩
  · obtain ⟨h1, h2, h3, rfl⟩ := isIn_tup ho
    obtain ⟨p1, d1⟩ := D.ok_plain h1
    obtain ⟨as, r1⟩ := hx.reads I sF p1 rx
    obtain ⟨bs, r2⟩ := hy.reads I sF (by simpa [D.plain] using h2) ry
    simp only [D.py] at r2
    have hd : ∀ ys : List D, X.A.units + 1 + min (PyData.depthAll (pys ys)) dx.py.depth < cLine := fun ys => by
      rw [py_dep _ p1]
      omega
    cases n
    · refine SeqAt.in_list_data r2 r1 (py_plains _ h2) (py_plain _ p1) (hd _) ?_
      exact ⟨.bl _, H, I, rfl, by rw [any_pys]; exact h⟩
    · refine SeqAt.notIn_list_data r2 r1 (py_plains _ h2) (py_plain _ p1) (hd _) ?_
      exact ⟨.bl _, H, I, rfl, by rw [any_pys]; exact h⟩
  · split at ho
    · rename_i hf
      cases ho
      obtain ⟨a, kvs, rfl, h1, h2, h3, h4⟩ := hy.dct sF
      subst h2
      obtain ⟨q, rfl, rfl⟩ := keyFits_of hx hf
      cases (show u = Value.ref a from ry)
      rw [keyAt_get q kvs] at h
      cases n
      · exact d_in (by omega) I (DGet.k h1) rx fun s' I' => ⟨.bl _, H, I', rfl, h⟩
      · exact d_notIn (by omega) I (DGet.k h1) rx fun s' I' => ⟨.bl _, H, I', rfl, h⟩
    · cases ho
/-- every comparison -/
theorem op_cmp (hu : X.A.units + 64 < cLine) : ∀ o : CmpO, OpR X (compareOp o.py) (rCmp X.K (cmpSem o))
  | .eq => op_EqS hu
  | .ne => op_NeS hu
  | .lt => op_Lt hu
  | .le => op_Le hu
  | .gt => op_Gt hu
  | .ge => op_Ge hu
  | .is => op_Is
  | .isn => op_IsN
  | .in_ => op_In0 hu false
  | .nin => op_In0 hu true
theorem op_bin (hu : X.A.units < cLine) : ∀ o : BinO, OpR X (binaryOp o.py) (r2D X.K (binSem o))
  | .add => op_Add hu
  | .sub => op_Sub
  | .mul => op_Mul
  | .fdiv => op_Fdiv
  | .mod => op_Mod
  | .pow => op_Pow
  | .bor => op_Bor
  | .shl => op_Shl

/-! ### truth -/
theorem tru_D : TruR X (fun x H Q => ∃ F M d, Same F H ∧ RVt X.K F M H d x ∧ optK (truth d) fun b => Q b H) := by
  intro pins s σ H x v Q I rx h
  obtain ⟨F, M, d, sF, hx, h⟩ := h
  obtain ⟨o, ho, h⟩ := optK_ex h
  refine tru_ok pins s σ H x v Q I rx ⟨o, ?_, h⟩
  cases d <;> simp only [truth] at ho <;> try (cases ho; done)
  · cases ho
    obtain rfl := hx.non
    rfl
  · cases ho
    obtain rfl := hx.bl
    rfl
  · cases ho
    obtain rfl := hx.int
    show decide (_ ≠ _) = (_ != _)
    rw [bne, Bool.eq_iff_iff]
    simp
  · split at ho <;> cases ho
    obtain rfl := hx.str
    rename_i hz
    refine ⟨by rw [← big_eq]; exact hz, ?_⟩
    rw [bne, Bool.eq_iff_iff]
    simp
  · cases ho
    obtain ⟨a, vs, rfl, h1, h2, h3⟩ := hx.tup sF
    refine .inr (.inl ⟨vs, h1, ?_⟩)
    cases h3 <;> rfl
  · cases ho
    obtain ⟨a, vs, rfl, h1, h3⟩ := hx.lst sF
    refine .inl ⟨vs, .inl (.inl h1), ?_⟩
    cases h3 <;> rfl
  · cases ho
    obtain ⟨a, kvs, rfl, h1, rfl, h3, h4⟩ := hx.dct sF
    refine .inr (.inr ⟨kvs, h1, ?_⟩)
    cases kvs <;> rfl
end
end HP

set_option maxHeartbeats 2000000
/-! HpOps4: subscripts, slices, calls of builtins. -/
namespace HP
open PySem L2

theorem RVs.toV {K : PySem.W.Frag} {F : Hp} {M : List Addr} : ∀ {ss : List Str} {vs : List V}, RVs K F M (ss.map D.str) vs → vs = ss.map V.str
  | [], _, .nil => rfl
  | _ :: _, _, .cons (.str _) r => by rw [r.toV]; rfl
theorem RVs.bls {K : PySem.W.Frag} {F : Hp} {M : List Addr} : ∀ {bs : List Bool} {vs : List V}, RVs K F M (bs.map D.bl) vs → vs = bs.map V.bl
  | [], _, .nil => rfl
  | _ :: _, _, .cons (.bl _) r => by rw [r.bls]; rfl
theorem allStr_eq : ∀ {xs : List D} {ss : List Str}, allStr xs = some ss → xs = ss.map D.str
  | [], _, h => by cases h; rfl
  | x :: r, ss, h => by
    cases x <;> simp only [allStr] at h <;> try (cases h; done)
    obtain ⟨l, hl, rfl⟩ := Option.map_eq_some_iff.mp h
    rw [allStr_eq hl]
    rfl
theorem allBl_eq : ∀ {xs : List D} {ss : List Bool}, allBl xs = some ss → xs = ss.map D.bl
  | [], _, h => by cases h; rfl
  | x :: r, ss, h => by
    cases x <;> simp only [allBl] at h <;> try (cases h; done)
    obtain ⟨l, hl, rfl⟩ := Option.map_eq_some_iff.mp h
    rw [allBl_eq hl]
    rfl
theorem atI_rel {K : PySem.W.Frag} {F : Hp} {M : List Addr} {ds : List D} {vs : List V} {i : Int} {d : D} (h : RVs K F M ds vs) (e : L2.atI ds i = some d) : ∃ v, L2.atI vs i = some v ∧ RV K F M d v := by
  unfold L2.atI at e ⊢
  rw [← h.length]
  obtain ⟨j, hj, e2⟩ := Option.bind_eq_some_iff.mp e
  obtain ⟨v, hv, r⟩ := h.get e2
  exact ⟨v, by rw [hj]; exact hv, r⟩

theorem rel_ins {K : PySem.W.Frag} {F : Hp} {M : List Addr} : ∀ (kvs : List (Key × V)), RVs K F M (kvs.map fun p => keyD p.1) (kvs.map fun p => kV p.1)
  | [] => .nil
  | (.inl i, _) :: r => .cons (.int i) (rel_ins r)
  | (.inr x, _) :: r => .cons (.str x) (rel_ins r)
section
variable {X : Cx}
def rIxD (K : PySem.W.Frag) : R2 := fun x y H Q => ∃ F M dx dy, Same F H ∧ RVt K F M H dx x ∧ RVt K F M H dy y ∧ optK (ixSem dx dy) fun d => ∀ v, RV K F M d v → Q v H
theorem ix_D (hu : X.A.units + 64 < cLine) : IxR X (rIxD X.K) := by
  intro value slice pins s σ H x y v u Q I rx ry h hs
  obtain ⟨F, M, dx, dy, sF, hx, hy, h⟩ := h
  replace h := optK_ex h
  obtain ⟨o, ho, h⟩ := h
  cases dx <;> try (simp [ixSem] at ho; done)
  · cases dy <;> simp only [ixSem] at ho <;> try (cases ho; done)
    split at ho <;> try (cases ho; done)
    rename_i hz
    obtain ⟨c, hc, rfl⟩ := Option.map_eq_some_iff.mp ho
    obtain rfl := hx.str
    obtain rfl := hy.int
    exact ix_seq value slice pins s σ H _ _ v u Q I rx ry (.inr (.inr ⟨_, _, c, rfl, rfl, by rw [← big_eq]; exact hz, hc, h _ (.str _)⟩)) hs
  · cases dy <;> simp only [ixSem] at ho <;> try (cases ho; done)
    obtain ⟨a, vs, rfl, h1, h2, h3⟩ := hx.tup sF
    obtain rfl := hy.int
    obtain ⟨w, hw, r⟩ := atI_rel h3 ho
    exact ix_seq value slice pins s σ H _ _ v u Q I rx ry (.inr (.inl ⟨a, vs, _, w, rfl, rfl, h1, hw, h _ r⟩)) hs
  · cases dy <;> simp only [ixSem] at ho <;> try (cases ho; done)
    obtain ⟨a, vs, rfl, h1, h3⟩ := hx.lst sF
    obtain rfl := hy.int
    obtain ⟨w, hw, r⟩ := atI_rel h3 ho
    exact ix_seq value slice pins s σ H _ _ v u Q I rx ry (.inl ⟨a, vs, _, w, rfl, rfl, .inl (.inl h1), hw, h _ r⟩) hs
  · rename_i ks ws
    simp only [ixSem] at ho
    split at ho <;> try (cases ho; done)
    rename_i hf
    obtain ⟨a, kvs, rfl, h1, h2, h3, h4⟩ := hx.dct sF
    subst h2
    obtain ⟨q, rfl, rfl⟩ := keyFits_of hy hf
    cases (show v = Value.ref a from rx)
    rcases getD_val q h4 with ⟨g1, _⟩ | ⟨d, w, g1, g2, r⟩
    · rw [g1] at ho; cases ho
    · rw [g1] at ho; cases ho
      have g : DGet H a (kV q) (some w) := by rw [← g2]; exact DGet.k h1
      exact PyProof.Rows.tail_any (dict_typeIs I g) PySem.F.slot_dict_getitem.lookup (d_getItem (by omega) I g ry fun w' s3 I3 rw' => ⟨w, H, I3, rw', h _ r⟩) hs

def rSlD (K : PySem.W.Frag) : V → Option Int → Option Int → Hp → VK → Prop := fun x lo hi H Q => ∃ F M d, Same F H ∧ RVt K F M H d x ∧ optK (slSem d lo hi) fun o => ∀ H' v, OutN K F M H H' o v → Q v H'
theorem cut_all {α : Type} {xs : List α} {lo hi : Option Int} (h : HT.sIx xs.length 0 lo = 0 ∧ HT.sIx xs.length xs.length hi = xs.length) : cutD xs lo hi = xs := by
  unfold cutD
  rw [h.1, h.2]
  simp
theorem sl_D : SlR X (rSlD X.K) := by
  intro pins s σ H x v vl vu lo hi sl Q I rx hs pl pu h
  obtain ⟨F, M, d, sF, hx, h⟩ := h
  replace h := optK_ex h
  obtain ⟨o, ho, h⟩ := h
  cases d <;> simp only [slSem] at ho <;> try (cases ho; done)
  · split at ho <;> cases ho
    rename_i z hz
    obtain rfl := hx.str
    refine sl_str pins s σ H _ v vl vu lo hi sl Q I rx hs pl pu ⟨z, rfl, by rw [← big_eq]; exact hz, h _ _ ?_⟩
    have e : cutS z lo hi = ⟨(cutD z.cps.toList lo hi).toArray⟩ := by
      unfold cutS cutD
      have hl : z.cps.toList.length = z.length := by simp [Str.length]
      rw [hl]
    rw [e]
    exact .old (.str _)
  · cases ho
    obtain ⟨a, vs, rfl, h1, h2, h3⟩ := hx.tup sF
    refine sl_tupX pins s σ H _ v vl vu lo hi sl Q I rx hs pl pu ⟨a, vs, rfl, h1, fun e => ?_, fun e p o hp ho => h _ _ (.tup sF hp ho (h3.cut lo hi))⟩
    rw [← h3.length] at e
    rw [cut_all e] at h
    exact h _ _ (.old (.tup h2 h3))
  · cases ho
    obtain ⟨a, vs, rfl, h1, h3⟩ := hx.lst sF
    exact sl_list pins s σ H _ v vl vu lo hi sl Q I rx hs pl pu ⟨a, vs, rfl, .inl (.inl h1), fun p hp => h _ _ (.lst hp (h3.cut lo hi))⟩

/-! ### arguments -/
inductive RVts (K : PySem.W.Frag) (F : Hp) (M : List Addr) (H : Hp) : List D → List V → Prop
  | nil : RVts K F M H [] []
  | cons {d : D} {ds : List D} {v : V} {vs : List V} : RVt K F M H d v → RVts K F M H ds vs → RVts K F M H (d :: ds) (v :: vs)
theorem RVts.one {K : PySem.W.Frag} {F : Hp} {M : List Addr} {H : Hp} {d : D} {vs : List V} (h : RVts K F M H [d] vs) : ∃ v, vs = [v] ∧ RVt K F M H d v := by
  cases h with
  | cons a b => cases b; exact ⟨_, rfl, a⟩
theorem RVts.two {K : PySem.W.Frag} {F : Hp} {M : List Addr} {H : Hp} {d e : D} {vs : List V} (h : RVts K F M H [d, e] vs) : ∃ v w, vs = [v, w] ∧ RVt K F M H d v ∧ RVt K F M H e w := by
  cases h with
  | cons a b =>
    obtain ⟨w, rfl, hw⟩ := b.one
    exact ⟨_, _, rfl, a, hw⟩
/-- the reading of a call by the language's own -/
def rcD (K : PySem.W.Frag) (f : List D → Option Out) : List V → Hp → VK → Prop := fun xs H Q => ∃ F M ds, Same F H ∧ RVts K F M H ds xs ∧ optK (f ds) fun o => ∀ H' v, OutN K F M H H' o v → Q v H'

theorem cr_len : CallR X (.builtin "len") (rcD X.K (biSem .len)) := by
  intro pins s σ H xs us Q I r h
  obtain ⟨F, M, ds, sF, hx, h⟩ := h
  replace h := optK_ex h
  obtain ⟨o, ho, h⟩ := h
  unfold biSem at ho
  split at ho <;> try (cases ‹Bi.len = _›; done)
  · split at ho <;> cases ho
    rename_i hz
    obtain ⟨v, rfl, hv⟩ := hx.one
    obtain rfl := hv.str
    exact call_len pins s σ H _ us Q I r ⟨_, _, rfl, ⟨by rw [← big_eq]; exact hz, rfl⟩, h _ _ (.old (.int _))⟩
  · cases ho
    obtain ⟨v, rfl, hv⟩ := hx.one
    obtain ⟨a, vs, rfl, h1, h2, h3⟩ := hv.tup sF
    exact call_len pins s σ H _ us Q I r ⟨_, _, rfl, .inr ⟨vs, h1, rfl⟩, by rw [h3.length] at h; exact h _ _ (.old (.int _))⟩
  · cases ho
    obtain ⟨v, rfl, hv⟩ := hx.one
    obtain ⟨a, vs, rfl, h1, h3⟩ := hv.lst sF
    exact call_len pins s σ H _ us Q I r ⟨_, _, rfl, .inl ⟨vs, .inl (.inl h1), rfl⟩, by rw [h3.length] at h; exact h _ _ (.old (.int _))⟩
  · cases ho
    obtain ⟨v, rfl, hv⟩ := hx.one
    obtain ⟨a, vs, rfl, h1, h3⟩ := hv.scr sF
    exact call_len pins s σ H _ us Q I r ⟨_, _, rfl, .inl ⟨vs, h1, rfl⟩, by rw [h3.length] at h; exact h _ _ (.old (.int _))⟩
  · cases ho
    obtain ⟨v, rfl, hv⟩ := hx.one
    obtain ⟨a, kvs, rfl, h1, rfl, h3, h4⟩ := hv.dct sF
    exact call_lenD pins s σ H _ us Q I r ⟨a, kvs, rfl, h1, by rw [List.length_map] at h; exact h _ _ (.old (.int _))⟩
  · cases ho
theorem cr_abs : CallR X (.builtin "abs") (rcD X.K (biSem .abs)) := by
  intro pins s σ H xs us Q I r h
  obtain ⟨F, M, ds, sF, hx, h⟩ := h
  replace h := optK_ex h
  obtain ⟨o, ho, h⟩ := h
  unfold biSem at ho
  split at ho <;> try (cases ‹Bi.abs = _›; done)
  · cases ho
    obtain ⟨v, rfl, hv⟩ := hx.one
    obtain rfl := hv.int
    exact call_abs pins s σ H _ us Q I r ⟨_, rfl, h _ _ (.old (.int _))⟩
  · cases ho
theorem cr_int : CallR X (.type "int") (rcD X.K (biSem .int)) := by
  intro pins s σ H xs us Q I r h
  obtain ⟨F, M, ds, sF, hx, h⟩ := h
  replace h := optK_ex h
  obtain ⟨o, ho, h⟩ := h
  unfold biSem at ho
  split at ho <;> try (cases ‹Bi.int = _›; done)
  · cases ho
    obtain ⟨v, rfl, hv⟩ := hx.one
    obtain rfl := hv.int
    exact call_int1 pins s σ H _ us Q I r (.inl ⟨_, rfl, h _ _ (.old (.int _))⟩)
  · cases ho
    obtain ⟨v, rfl, hv⟩ := hx.one
    obtain rfl := hv.bl
    exact call_int1 pins s σ H _ us Q I r (.inr ⟨_, rfl, h _ _ (.old (.int _))⟩)
  · split at ho <;> try (cases ho; done)
    rename_i hz
    obtain ⟨n, hn, rfl⟩ := Option.map_eq_some_iff.mp ho
    obtain ⟨v, rfl, hv⟩ := hx.one
    obtain rfl := hv.str
    exact call_int_str pins s σ H _ us Q I r ⟨_, n, rfl, hn, hz, h _ _ (.old (.int _))⟩
  · cases ho
theorem cr_str : CallR X (.type "str") (rcD X.K (biSem .str)) := by
  intro pins s σ H xs us Q I r h
  obtain ⟨F, M, ds, sF, hx, h⟩ := h
  replace h := optK_ex h
  obtain ⟨o, ho, h⟩ := h
  unfold biSem at ho
  split at ho <;> try (cases ‹Bi.str = _›; done)
  · obtain ⟨n, hn, rfl⟩ := Option.map_eq_some_iff.mp ho
    obtain ⟨v, rfl, hv⟩ := hx.one
    rename_i d _
    cases d <;> simp only [strSem] at hn <;> try (cases hn; done)
    · split at hn <;> cases hn
      rename_i hz
      obtain rfl := hv.int
      exact call_str_int pins s σ H _ us Q I r ⟨_, rfl, hz, h _ _ (.old (.str _))⟩
    · cases hn
      obtain rfl := hv.str
      exact SkE.call_str_str pins s σ H _ us Q I r ⟨_, rfl, h _ _ (.old (.str _))⟩
  · cases ho
theorem cr_allD (hc : X.calm = true) : CallR X (.builtin "all") (rcD X.K (biSem .all)) := by
  intro pins s σ H xs us Q I r h
  obtain ⟨F, M, ds, sF, hx, h⟩ := h
  replace h := optK_ex h
  obtain ⟨o, ho, h⟩ := h
  unfold biSem at ho
  split at ho <;> try (cases ‹Bi.all = _›; done)
  · obtain ⟨bs, hb, rfl⟩ := Option.map_eq_some_iff.mp ho
    obtain ⟨v, rfl, hv⟩ := hx.one
    obtain ⟨a, vs, rfl, h1, h3⟩ := hv.lst sF
    rw [allBl_eq hb] at h3
    obtain rfl := h3.bls
    exact L2.cr_all hc pins s σ H _ us Q I r ⟨a, bs, rfl, .inl (.inl h1), h _ _ (.old (.bl _))⟩
  · cases ho
theorem cr_anyD (hc : X.calm = true) : CallR X (.builtin "any") (rcD X.K (biSem .any)) := by
  intro pins s σ H xs us Q I r h
  obtain ⟨F, M, ds, sF, hx, h⟩ := h
  replace h := optK_ex h
  obtain ⟨o, ho, h⟩ := h
  unfold biSem at ho
  split at ho <;> try (cases ‹Bi.any = _›; done)
  · obtain ⟨bs, hb, rfl⟩ := Option.map_eq_some_iff.mp ho
    obtain ⟨v, rfl, hv⟩ := hx.one
    obtain ⟨a, vs, rfl, h1, h3⟩ := hv.lst sF
    rw [allBl_eq hb] at h3
    obtain rfl := h3.bls
    exact L2.cr_any hc pins s σ H _ us Q I r ⟨a, bs, rfl, .inl (.inl h1), h _ _ (.old (.bl _))⟩
  · cases ho
theorem cr_list (hc : X.calm = true) : CallR X (.type "list") (rcD X.K (biSem .list)) := by
  intro pins s σ H xs us Q I r h
  obtain ⟨F, M, ds, sF, hx, h⟩ := h
  replace h := optK_ex h
  obtain ⟨o, ho, h⟩ := h
  unfold biSem at ho
  split at ho <;> try (cases ‹Bi.list = _›; done)
  · obtain ⟨ys, hb, rfl⟩ := Option.map_eq_some_iff.mp ho
    obtain ⟨v, rfl, hv⟩ := hx.one
    rename_i d _
    cases d <;> simp only [listOf] at hb <;> try (cases hb; done)
    · cases hb
      obtain ⟨a, vs, rfl, h1, h2, h3⟩ := hv.tup sF
      exact call_list_of pins s σ H _ us Q I r ⟨a, vs, rfl, .inr h1, fun l hl => h _ _ (.lst hl h3)⟩
    · cases hb
      obtain ⟨a, vs, rfl, h1, h3⟩ := hv.lst sF
      exact call_list_of pins s σ H _ us Q I r ⟨a, vs, rfl, .inl (.inl (.inl h1)), fun l hl => h _ _ (.lst hl h3)⟩
    · cases hb
      obtain ⟨a, kvs, rfl, h1, rfl, h3, h4⟩ := hv.dct sF
      refine call_list_dK hc pins s σ H _ us Q I r ⟨a, kvs, rfl, h1, fun q hq => h _ _ (.lst hq ?_)⟩
      exact rel_ins kvs
    · cases hb
      obtain ⟨a, vs, rfl, h1, h3⟩ := hv.scr sF
      exact call_list_of pins s σ H _ us Q I r ⟨a, vs, rfl, .inl h1, fun l hl => h _ _ (.lst hl h3)⟩
  · cases ho
theorem cr_tuple : CallR X (.type "tuple") (rcD X.K (biSem .tuple)) := by
  intro pins s σ H xs us Q I r h
  obtain ⟨F, M, ds, sF, hx, h⟩ := h
  replace h := optK_ex h
  obtain ⟨o, ho, h⟩ := h
  unfold biSem at ho
  split at ho <;> try (cases ‹Bi.tuple = _›; done)
  · obtain ⟨ys, hb, rfl⟩ := Option.map_eq_some_iff.mp ho
    obtain ⟨v, rfl, hv⟩ := hx.one
    rename_i d _
    cases d <;> simp only [seqOf] at hb <;> try (cases hb; done)
    · cases hb
      obtain ⟨a, vs, rfl, h1, h2, h3⟩ := hv.tup sF
      exact call_tupleX pins s σ H _ us Q I r ⟨a, vs, rfl, .inr ⟨h1, h _ _ (.old (.tup h2 h3))⟩⟩
    · cases hb
      obtain ⟨a, vs, rfl, h1, h3⟩ := hv.lst sF
      exact call_tupleX pins s σ H _ us Q I r ⟨a, vs, rfl, .inl ⟨.inl (.inl h1), fun l o hl ho => h _ _ (.tup sF hl ho h3)⟩⟩
  · cases ho
theorem cr_dict : CallR X (.type "dict") (rcD X.K fun ds => match ds with | [.dct ks vs] => some (.own (.dct ks vs)) | _ => none) := by
  intro pins s σ H xs us Q I r h
  obtain ⟨F, M, ds, sF, hx, h⟩ := h
  replace h := optK_ex h
  obtain ⟨o, ho, h⟩ := h
  dsimp only at ho
  split at ho <;> cases ho
  obtain ⟨v, rfl, hv⟩ := hx.one
  obtain ⟨a, kvs, rfl, h1, rfl, h3, h4⟩ := hv.dct sF
  exact call_dictD pins s σ H _ us Q I r ⟨a, kvs, rfl, .inl h1, fun p hp => h _ _ (.own hp (.dct upd_same rfl h3 h4))⟩
theorem cr_max2 (hc : X.calm = true) : CallR X (.builtin "max") (rcD X.K fun ds => match ds with | [.int i, .int j] => some (.val (.int (if j > i then j else i))) | _ => none) := by
  intro pins s σ H xs us Q I r h
  obtain ⟨F, M, ds, sF, hx, h⟩ := h
  replace h := optK_ex h
  obtain ⟨o, ho, h⟩ := h
  dsimp only at ho
  split at ho <;> cases ho
  obtain ⟨v, w, rfl, hv, hw⟩ := hx.two
  obtain rfl := hv.int
  obtain rfl := hw.int
  exact call_max2 hc pins s σ H _ us Q I r ⟨_, _, rfl, h _ _ (.old (.int _))⟩
theorem cr_min2 (hc : X.calm = true) : CallR X (.builtin "min") (rcD X.K fun ds => match ds with | [.int i, .int j] => some (.val (.int (if j < i then j else i))) | _ => none) := by
  intro pins s σ H xs us Q I r h
  obtain ⟨F, M, ds, sF, hx, h⟩ := h
  replace h := optK_ex h
  obtain ⟨o, ho, h⟩ := h
  dsimp only at ho
  split at ho <;> cases ho
  obtain ⟨v, w, rfl, hv, hw⟩ := hx.two
  obtain rfl := hv.int
  obtain rfl := hw.int
  exact call_min2 hc pins s σ H _ us Q I r ⟨_, _, rfl, h _ _ (.old (.int _))⟩
end
end HP

set_option maxHeartbeats 2000000
/-! HpRel2: what the relation allows: freezing, storing, changing, laying. -/
namespace HP
open PySem L2

section
variable {K : PySem.W.Frag} {F F' : Hp} {M M' : List Addr} {P : Hp} {σD σD' : Slots} {s s' : Store} {σ σ' : St} {H H' : Hp}

/-- what an expression hands on stands as v -/
def OutR (K : PySem.W.Frag) (F : Hp) (M : List Addr) (P : Hp) (σD : Slots) (σ : St) (H : Hp) : Out → V → Prop
  | .val d, v => RV K F M d v
  | .own c, v => ∃ a, v = .ref a ∧ CR K F M H a c ∧ Off F M P σD σ a
/-- an operand stands as v -/
def OpdR (K : PySem.W.Frag) (F : Hp) (M : List Addr) (σ : St) : Opd → V → Prop
  | .slot i, v => σ[i]? = some (some v)
  | .val d, v => RV K F M d v
theorem OpdR.mono {x : Opd} {v : V} (h : OpdR K F M σ x v) (s : Same F F') (e : Ext M M') : OpdR K F' M' σ x v := by
  cases x with
  | slot i => exact h
  | val d => exact RV.mono h s e
theorem Rel.view (R : Rel K F M P σD s σ H) {d : D} {v : V} (h : RV K F M d v) : RVt K F M H (view s d) v := by
  cases h with
  | @ref n a hm =>
    obtain ⟨c, hc⟩ := R.mat hm
    simp only [HP.view, hc]
    exact .inr ⟨c, a, rfl, rfl, (R.mem n a c hm hc).1⟩
  | non => exact .inl .non
  | bl b => exact .inl (.bl b)
  | int i => exact .inl (.int i)
  | str x => exact .inl (.str x)
  | tup a b => exact .inl (.tup a b)
  | lst a b => exact .inl (.lst a b)
  | scr a b => exact .inl (.scr a b)
  | dct a b c d => exact .inl (.dct a b c d)
  | ins a b c => exact .inl (.ins a b c)
theorem Rel.res (R : Rel K F M P σD s σ H) {x : Opd} {v : V} {d : D} (h : OpdR K F M σ x v) (e : vres σD s x = some d) : RVt K F M H d v := by
  cases x with
  | val d' =>
    cases e
    exact R.view h
  | slot i =>
    simp only [vres] at e
    cases hi : σD[i]? with
    | none =>
      rw [hi] at e
      cases e
    | some sl =>
      rw [hi] at e
      cases sl with
      | unb => cases e
      | val d' =>
        cases e
        obtain ⟨w, hw, r⟩ := (R.slot i _ hi).vv
        cases hw.symm.trans h
        exact R.view r
      | own c =>
        cases e
        obtain ⟨a, ha, r, _⟩ := (R.slot i _ hi).ov
        cases ha.symm.trans h
        exact .inr ⟨c, a, rfl, rfl, r⟩
inductive OpdsR (K : PySem.W.Frag) (F : Hp) (M : List Addr) (σ : St) : List Opd → List V → Prop
  | nil : OpdsR K F M σ [] []
  | cons {x : Opd} {v : V} {xs : List Opd} {vs : List V} : OpdR K F M σ x v → OpdsR K F M σ xs vs → OpdsR K F M σ (x :: xs) (v :: vs)
theorem OpdsR.mono {xs : List Opd} {vs : List V} (h : OpdsR K F M σ xs vs) (s : Same F F') (e : Ext M M') : OpdsR K F' M' σ xs vs := by
  induction h with
  | nil => exact .nil
  | cons a _ ih => exact .cons (a.mono s e) ih
theorem Rel.ress (R : Rel K F M P σD s σ H) {xs : List Opd} {vs : List V} (h : OpdsR K F M σ xs vs) : ∀ {ds : List D}, ress σD s xs = some ds → RVts K F M H ds vs := by
  induction h with
  | nil =>
    intro ds e
    cases e
    exact .nil
  | @cons x v xs vs a _ ih =>
    intro ds e
    unfold HP.ress at e
    cases hx : vres σD s x with
    | none => rw [hx] at e; simp at e
    | some d =>
      cases hr : HP.ress σD s xs with
      | none => rw [hx, hr] at e; simp at e
      | some r =>
        rw [hx, hr] at e
        cases e
        exact .cons (R.res a hx) (ih hr)

theorem getElem?_set_cases {α : Type} {xs : List α} {i j : Nat} {x y : α} (h : (xs.set i x)[j]? = some y) : (i = j ∧ y = x) ∨ (i ≠ j ∧ xs[j]? = some y) := by
  by_cases e : i = j
  · subst e
    rw [List.getElem?_set_self'] at h
    cases hx : xs[i]? with
    | none => rw [hx] at h; cases h
    | some z => rw [hx] at h; exact .inl ⟨rfl, (Option.some.inj h).symm⟩
  · rw [List.getElem?_set_ne e] at h
    exact .inr ⟨e, h⟩
/-- an own slot is frozen -/
theorem Rel.freezeSlot (R : Rel K F M P σD s σ H) {i : Nat} {c : Cont} (hi : σD[i]? = some (.own c)) :
    ∃ F' a, Same F F' ∧ σ[i]? = some (some (.ref a)) ∧ Rel K F' M P (σD.set i (.val c.frz)) s σ H ∧ RV K F' M c.frz (.ref a) := by
  obtain ⟨a, ha, r, hf, hp, hm⟩ := (R.slot i _ hi).ov
  obtain ⟨o, ho⟩ := r.has
  have sF : Same F (upd F a o) := same_upd hf
  have rv := r.frzF hf ho
  refine ⟨upd F a o, a, sF, ha, ⟨same_upd2 R.sF ho, R.sP, R.mlen, fun n b c' h1 h2 => ?_, R.nd, fun b u hu => ?_, by rw [List.length_set]; exact R.slen, fun j sl hj => ?_, fun j k c1 c2 b h1 h2 h3 h4 => ?_⟩, rv⟩
  · obtain ⟨r1, r2, r3⟩ := R.mem n b c' h1 h2
    have hne : b ≠ a := fun e => hm (e ▸ List.mem_of_getElem? h1)
    exact ⟨r1.mono sF (.refl M) fun _ x => x, by rw [upd_ne hne]; exact r2, r3⟩
  · have hne : b ≠ a := fun e => by rw [e, hp] at hu; cases hu
    rw [upd_ne hne]
    exact R.fp b u hu
  · rcases getElem?_set_cases hj with ⟨rfl, rfl⟩ | ⟨hne, hj⟩
    · exact .val ha rv
    · refine (R.slot j sl hj).mono sF (.refl M) fun b h1 h2 h3 h4 ⟨c', hc'⟩ => ⟨fun _ x => x, ?_, h4⟩
      subst hc'
      have hne2 : b ≠ a := fun e => hne (R.dist i j c c' b hi hj (by rw [ha, e]) h1)
      rw [upd_ne hne2]
      exact h2
  · rcases getElem?_set_cases h1 with ⟨_, e⟩ | ⟨_, h1⟩
    · cases e
    · rcases getElem?_set_cases h2 with ⟨_, e⟩ | ⟨_, h2⟩
      · cases e
      · exact R.dist j k c1 c2 b h1 h2 h3 h4
/-- what is handed on is frozen -/
theorem Rel.frz (R : Rel K F M P σD s σ H) {o : Out} {v : V} (h : OutR K F M P σD σ H o v) : ∃ F', Same F F' ∧ Rel K F' M P σD s σ H ∧ RV K F' M o.frz v := by
  cases o with
  | val d => exact ⟨F, .refl F, R, h⟩
  | own c =>
    obtain ⟨a, rfl, r, q⟩ := h
    obtain ⟨o, ho⟩ := r.has
    exact ⟨upd F a o, same_upd q.f, R.freeze q ho, r.frzF q.f ho⟩
/-- a name is bound -/
theorem Rel.put (R : Rel K F M P σD s σ H) {o : Out} {v : V} (i : Nat) (h : OutR K F M P σD σ H o v) : Rel K F M P (σD.set i o.slot) s (σ.set i (some v)) H := by
  refine ⟨R.sF, R.sP, R.mlen, R.mem, R.nd, R.fp, by rw [List.length_set, List.length_set]; exact R.slen, fun j sl hj => ?_, fun j k c1 c2 b h1 h2 h3 h4 => ?_⟩
  · rcases getElem?_set_cases hj with ⟨rfl, rfl⟩ | ⟨hne, hj⟩
    · have hl : i < σ.length := by
        have := (List.getElem?_eq_some_iff.mp hj).1
        rw [List.length_set, R.slen] at this
        exact this
      have hv : (σ.set i (some v))[i]? = some (some v) := by rw [List.getElem?_set_self hl]
      cases o with
      | val d => exact .val hv h
      | own c =>
        obtain ⟨a, rfl, r, q⟩ := h
        exact .own hv r q.f q.p q.m
    · rw [List.getElem?_set_ne hne]
      exact R.slot j sl hj
  · rcases getElem?_set_cases h1 with ⟨rfl, e1⟩ | ⟨n1, g1⟩
    · rcases getElem?_set_cases h2 with ⟨rfl, _⟩ | ⟨n2, g2⟩
      · rfl
      · rw [List.getElem?_set_ne n2] at h4
        exfalso
        cases o with
        | val d => cases e1
        | own c =>
          obtain ⟨a, rfl, r, q⟩ := h
          have h5 := (getElem?_set_cases h3)
          rcases h5 with ⟨_, e5⟩ | ⟨n5, _⟩
          · cases e5
            exact q.o k c2 g2 h4
          · exact n5 rfl
    · rcases getElem?_set_cases h2 with ⟨rfl, e2⟩ | ⟨n2, g2⟩
      · rw [List.getElem?_set_ne n1] at h3
        exfalso
        cases o with
        | val d => cases e2
        | own c =>
          obtain ⟨a, rfl, r, q⟩ := h
          rcases getElem?_set_cases h4 with ⟨_, e5⟩ | ⟨n5, _⟩
          · cases e5
            exact q.o j c1 g1 h3
          · exact n5 rfl
      · rw [List.getElem?_set_ne n1] at h3
        rw [List.getElem?_set_ne n2] at h4
        exact R.dist j k c1 c2 b g1 g2 h3 h4
theorem upd_same2 {P : Hp} {H : Hp} {a : Addr} {o : HO} (s : Same P H) (h : P a = none) : Same P (upd H a o) := fun b u e => by
  rw [upd_ne (ne_of_none e h)]
  exact s _ _ e
/-- an own slot's container is changed -/
theorem Rel.updSlot (R : Rel K F M P σD s σ H) {i : Nat} {c c' : Cont} {a : Addr} {o : HO} (hi : σD[i]? = some (.own c)) (ha : σ[i]? = some (some (.ref a))) (hc : CR K F M (upd H a o) a c') :
    Rel K F M P (σD.set i (.own c')) s σ (upd H a o) := by
  obtain ⟨a', ha', r, hf, hp, hm⟩ := (R.slot i _ hi).ov
  cases ha.symm.trans ha'
  refine ⟨upd_same2 R.sF hf, upd_same2 R.sP hp, R.mlen, fun n b c' h1 h2 => ?_, R.nd, R.fp, by rw [List.length_set]; exact R.slen, fun j sl hj => ?_, fun j k c1 c2 b h1 h2 h3 h4 => ?_⟩
  · obtain ⟨r1, r2, r3⟩ := R.mem n b c' h1 h2
    have hne : b ≠ a := fun e => hm (e ▸ List.mem_of_getElem? h1)
    exact ⟨r1.mono (.refl F) (.refl M) fun _ x => by rw [upd_ne hne]; exact x, r2, r3⟩
  · rcases getElem?_set_cases hj with ⟨rfl, rfl⟩ | ⟨hne, hj⟩
    · exact .own ha hc hf hp hm
    · refine (R.slot j sl hj).mono (.refl F) (.refl M) fun b h1 h2 h3 h4 ⟨c', hc'⟩ => ⟨fun _ x => ?_, h2, h4⟩
      subst hc'
      have hne2 : b ≠ a := fun e => hne (R.dist i j c c' b hi hj (by rw [ha, e]) h1)
      rw [upd_ne hne2]
      exact x
  · have f1 : ∃ c0, σD[j]? = some (.own c0) := by
      rcases getElem?_set_cases h1 with ⟨rfl, _⟩ | ⟨_, h1⟩
      · exact ⟨_, hi⟩
      · exact ⟨_, h1⟩
    have f2 : ∃ c0, σD[k]? = some (.own c0) := by
      rcases getElem?_set_cases h2 with ⟨rfl, _⟩ | ⟨_, h2⟩
      · exact ⟨_, hi⟩
      · exact ⟨_, h2⟩
    obtain ⟨_, f1⟩ := f1
    obtain ⟨_, f2⟩ := f2
    exact R.dist j k _ _ b f1 f2 h3 h4
theorem nodup_at {M : List Addr} (h : M.Nodup) {i j : Nat} {a : Addr} (hi : M[i]? = some a) (hj : M[j]? = some a) : i = j := by
  obtain ⟨h1, e1⟩ := List.getElem?_eq_some_iff.mp hi
  obtain ⟨h2, e2⟩ := List.getElem?_eq_some_iff.mp hj
  have hp := List.pairwise_iff_getElem.mp h
  rcases Nat.lt_trichotomy i j with q | q | q
  · exact absurd (e1.trans e2.symm) (hp i j h1 h2 q)
  · exact q
  · exact absurd (e2.trans e1.symm) (hp j i h2 h1 q)
/-- a thing of the store is changed -/
theorem Rel.updMem (R : Rel K F M P σD s σ H) {n : Nat} {c c' : Cont} {a : Addr} {o : HO} (hn : M[n]? = some a) (hs : s[n]? = some c) (hc : CR K F M (upd H a o) a c') :
    Rel K F M P σD (s.set n c') σ (upd H a o) := by
  obtain ⟨r, hf, hp⟩ := R.mem n a c hn hs
  refine ⟨upd_same2 R.sF hf, upd_same2 R.sP hp, by rw [List.length_set]; exact R.mlen, fun m b c2 h1 h2 => ?_, R.nd, R.fp, R.slen, fun j sl hj => ?_, R.dist⟩
  · rcases getElem?_set_cases h2 with ⟨rfl, rfl⟩ | ⟨hne, h2⟩
    · cases hn.symm.trans h1
      exact ⟨hc, hf, hp⟩
    · obtain ⟨r1, r2, r3⟩ := R.mem m b c2 h1 h2
      have hne2 : b ≠ a := fun e => hne (nodup_at R.nd hn (e ▸ h1))
      exact ⟨r1.mono (.refl F) (.refl M) fun _ x => by rw [upd_ne hne2]; exact x, r2, r3⟩
  · refine (R.slot j sl hj).mono (.refl F) (.refl M) fun b h1 h2 h3 h4 ⟨c', hc'⟩ => ⟨fun _ x => ?_, h2, h4⟩
    have hne2 : b ≠ a := fun e => h4 (e ▸ List.mem_of_getElem? hn)
    rw [upd_ne hne2]
    exact x
/-- a new container becomes a thing of the store -/
theorem Rel.alloc (R : Rel K F M P σD s σ H) {c : Cont} {a : Addr} (hc : CR K F M H a c) (q : Off F M P σD σ a) : Rel K F (M ++ [a]) P σD (s ++ [c]) σ H ∧ RV K F (M ++ [a]) (.ref s.length) (.ref a) := by
  have ex : Ext M (M ++ [a]) := ⟨[a], rfl⟩
  refine ⟨⟨R.sF, R.sP, by rw [List.length_append, List.length_append, R.mlen]; rfl, fun n b c2 h1 h2 => ?_, ?_, R.fp, R.slen, fun j sl hj => ?_, R.dist⟩, .ref ?_⟩
  · by_cases hn : n < M.length
    · rw [List.getElem?_append_left hn] at h1
      rw [List.getElem?_append_left (by rw [← R.mlen]; exact hn)] at h2
      obtain ⟨r1, r2, r3⟩ := R.mem n b c2 h1 h2
      exact ⟨r1.mono (.refl F) ex fun _ x => x, r2, r3⟩
    · have hn1 : M.length ≤ n := Nat.le_of_not_lt hn
      rw [List.getElem?_append_right hn1] at h1
      rw [List.getElem?_append_right (by rw [← R.mlen]; exact hn1)] at h2
      have e0 : n - M.length = 0 := by
        have := (List.getElem?_eq_some_iff.mp h1).1
        simp at this
        omega
      rw [e0] at h1
      rw [← R.mlen, e0] at h2
      cases h1
      cases h2
      exact ⟨hc.mono (.refl F) ex fun _ x => x, q.f, q.p⟩
  · rw [List.nodup_append]
    refine ⟨R.nd, by simp, fun b hb c hc e => ?_⟩
    simp at hc
    subst hc
    exact q.m (e ▸ hb)
  · refine (R.slot j sl hj).mono (.refl F) ex fun b h1 h2 h3 h4 ⟨c', hc'⟩ => ⟨fun _ x => x, h2, fun hb => ?_⟩
    rw [List.mem_append] at hb
    rcases hb with hb | hb
    · exact h4 hb
    · simp at hb
      subst hb
      subst hc'
      exact q.o j c' hj h1
  · rw [← R.mlen]
    simp
/-- a result of an operation as what is handed on -/
theorem Rel.out (R : Rel K F M P σD s σ H) {o : Out} {v : V} (h : OutN K F M H H' o v) : ∃ F', Same F F' ∧ Rel K F' M P σD s σ H' ∧ OutR K F' M P σD σ H' o v := by
  cases h with
  | old r => exact ⟨F, .refl F, R, r⟩
  | @new d p ob hp r =>
    have q := R.off hp
    exact ⟨upd F p ob, same_upd q.f, (R.junk hp).freeze q upd_same, r⟩
  | @own c p ob hp r => exact ⟨F, .refl F, R.junk hp, p, rfl, r, R.off hp⟩
theorem OutR.mono {o : Out} {v : V} (h : OutR K F M P σD σ H (.val o.frz) v) (s : Same F F') (e : Ext M M') : OutR K F' M' P σD σ H (.val o.frz) v := RV.mono h s e
end
end HP

set_option maxHeartbeats 2000000
/-! HpExp: readings by the functional semantics; the rules of expressions. -/
namespace HP
open PySem L2

def tE (X : Cx) (r : SE) : TE := fun σ H Q => ∃ F M P σD s K, Rel X.K F M P σD s σ H ∧ r σD s K noX ∧
  ∀ o σD' s' F' M' H' v, K o σD' s' → Same F F' → Ext M M' → Rel X.K F' M' P σD' s' σ H' → OutR X.K F' M' P σD' σ H' o v → Q v H'
def tOd (X : Cx) (e : E) (r : SE) : TE := fun σ H Q => ∃ F M P σD s K, Rel X.K F M P σD s σ H ∧ asOp e r σD s K noX ∧
  ∀ x σD' s' F' M' H' v, K x σD' s' → Same F F' → Ext M M' → Rel X.K F' M' P σD' s' σ H' → OpdR X.K F' M' σ x v → Q v H'
def tTt (X : Cx) (r : ST) : TT := fun σ H Q => ∃ F M P σD s K, Rel X.K F M P σD s σ H ∧ r σD s K noX ∧
  ∀ b σD' s' F' M' H', K b σD' s' → Same F F' → Ext M M' → Rel X.K F' M' P σD' s' σ H' → Q b H'
def tVals (X : Cx) (r : Slots → Store → (List D → Slots → Store → Prop) → QX → Prop) : TA := fun σ H Q => ∃ F M P σD s K, Rel X.K F M P σD s σ H ∧ r σD s K noX ∧
  ∀ x σD' s' F' M' H' v, K x σD' s' → Same F F' → Ext M M' → Rel X.K F' M' P σD' s' σ H' → RVs X.K F' M' x v → Q v H'
def tOpds (X : Cx) (r : Slots → Store → (List Opd → Slots → Store → Prop) → QX → Prop) : TA := fun σ H Q => ∃ F M P σD s K, Rel X.K F M P σD s σ H ∧ r σD s K noX ∧
  ∀ x σD' s' F' M' H' v, K x σD' s' → Same F F' → Ext M M' → Rel X.K F' M' P σD' s' σ H' → OpdsR X.K F' M' σ x v → Q v H'
def tOptI (X : Cx) (r : Slots → Store → (Option Int → Slots → Store → Prop) → QX → Prop) : TO := fun σ H Q => ∃ F M P σD s K, Rel X.K F M P σD s σ H ∧ r σD s K noX ∧
  ∀ x σD' s' F' M' H', K x σD' s' → Same F F' → Ext M M' → Rel X.K F' M' P σD' s' σ H' → Q x H'

/-- the expression e is read as i: as a value, as an operand, as a test -/
structure SEx (X : Cx) (e : Expr) (i : E) : Prop where
  v : PE X e (tE X (w i).v)
  o : PE X e (tOd X i (w i).v)
  t : PT X e (tTt X (w i).t)
/-- arguments -/
structure SAs (X : Cx) (es : List Expr) (is : Es) : Prop where
  v : PA X es (tVals X (ws is).vals)
  o : PA X es (tOpds X (ws is).opds)

section
variable {X : Cx} {e a b c : Expr} {i ia ib ic : E} {pos : Pos}
theorem peImp {t t' : TE} (h : PE X e t) (k : ∀ σ H Q, t' σ H Q → t σ H Q) : PE X e t' := ⟨fun pins s σ H Q I q => h.run pins s σ H Q I (k σ H Q q)⟩
theorem ptImp {t t' : TT} (h : PT X e t) (k : ∀ σ H Q, t' σ H Q → t σ H Q) : PT X e t' := ⟨fun pins s σ H Q I q => h.run pins s σ H Q I (k σ H Q q)⟩
theorem pwImp {t t' : TT} (h : PW X e t) (k : ∀ σ H Q, t' σ H Q → t σ H Q) : PW X e t' := ⟨fun wh pins s σ H Q I q => h.run wh pins s σ H Q I (k σ H Q q)⟩
theorem paImp {es : List Expr} {t t' : TA} (h : PA X es t) (k : ∀ σ H Q, t' σ H Q → t σ H Q) : PA X es t' := ⟨fun p pins s σ H Q I q => h.run p pins s σ H Q I (k σ H Q q)⟩
theorem poImp {o : Option Expr} {t t' : TO} (h : PO X o t) (k : ∀ σ H Q, t' σ H Q → t σ H Q) : PO X o t' := ⟨fun pins s σ H Q I q => h.run pins s σ H Q I (k σ H Q q)⟩

/-- as an operand: what is handed on is frozen -/
def Dft (i : E) : Prop := ∀ (r : SE) (σ : Slots) (s : Store) (K : Opd → Slots → Store → Prop) (x : QX), asOp i r σ s K x = r σ s (fun o σ s => K (.val o.frz) σ s) x
theorem od_of (hi : Dft i) (h : PE X e (tE X (w i).v)) : PE X e (tOd X i (w i).v) := peImp h fun σ H Q ⟨F, M, P, σD, s, K, R, h, hK⟩ => by
  rw [hi] at h
  refine ⟨F, M, P, σD, s, _, R, h, fun o σ' s' F' M' H' v k sf ex R' q => ?_⟩
  obtain ⟨F2, sf2, R2, rv⟩ := R'.frz q
  exact hK _ _ _ F2 M' H' v k (sf.trans sf2) ex R2 rv
theorem truV {K : PySem.W.Frag} {F : Hp} {M : List Addr} {H : Hp} {d : D} {x : V} {o : Bool} (sF : Same F H) (hx : RVt K F M H d x) (ho : truth d = some o) : TruV K x H o := by
  cases d <;> simp only [truth] at ho <;> try (cases ho; done)
  · cases ho
    obtain rfl := hx.non
    rfl
  · cases ho
    obtain rfl := hx.bl
    rfl
  · cases ho
    obtain rfl := hx.int
    show decide (_ ≠ _) = (_ != _)
    rw [bne, Bool.eq_iff_iff]
    simp
  · split at ho <;> cases ho
    obtain rfl := hx.str
    rename_i hz
    refine ⟨by rw [← big_eq]; exact hz, ?_⟩
    rw [bne, Bool.eq_iff_iff]
    simp
  · cases ho
    obtain ⟨a, vs, rfl, h1, h2, h3⟩ := hx.tup sF
    refine .inr (.inl ⟨vs, h1, ?_⟩)
    cases h3 <;> rfl
  · cases ho
    obtain ⟨a, vs, rfl, h1, h3⟩ := hx.lst sF
    refine .inl ⟨vs, .inl (.inl h1), ?_⟩
    cases h3 <;> rfl
  · cases ho
    obtain ⟨a, kvs, rfl, h1, rfl, h3, h4⟩ := hx.dct sF
    refine .inr (.inr ⟨kvs, h1, ?_⟩)
    cases kvs <;> rfl
/-- how a test of e is looked at: by its truth -/
def TruE (X : Cx) (e : Expr) : Prop := ∀ whole, isTrue e X.env whole = (do let v ← whole; standAt e.pos; holding [v] (truthy v))
theorem tt_of (he : TruE X e) (h : PE X e (tOd X i (w i).v)) : PT X e (tTt X (asT i (w i).v)) := ptImp (pt_truth h he) fun σ H Q ⟨F, M, P, σD, s, K, R, h, hK⟩ => by
  refine ⟨F, M, P, σD, s, _, R, h, fun x σ' s' F' M' H' v k sf ex R' q => ?_⟩
  obtain ⟨d, hd, k⟩ := optK_ex k
  obtain ⟨o, ho, k⟩ := optK_ex k
  exact ⟨o, truV R'.sF (R'.res q hd) ho, hK _ _ _ _ _ _ k sf ex R'⟩
theorem sex_dft {t : TE} {r : SE} (hw : w i = dft i r) (hi : Dft i) (he : TruE X e) (hp : PE X e t) (rd : ∀ σ H Q, tE X r σ H Q → t σ H Q) : SEx X e i := by
  have v : PE X e (tE X (w i).v) := peImp hp fun σ H Q h => by
    rw [hw] at h
    exact rd σ H Q h
  refine ⟨v, od_of hi v, ?_⟩
  have ht : (w i).t = asT i (w i).v := by rw [hw]; rfl
  rw [ht]
  exact tt_of he (od_of hi v)

theorem se_lit {d : D} {x : V} (he : TruE X e) (h : PE X e (tC x)) (r : ∀ F M, RV X.K F M d x) : SEx X e (.lit d) :=
  sex_dft (w.eq_1 d) (fun _ _ _ _ _ => rfl) he h fun σ H Q ⟨F, M, P, σD, s, K, R, h, hK⟩ => hK _ _ _ F M H x h (.refl F) (.refl M) R (r F M)
theorem se_int {n : Int} {j} : SEx X (.Constant (.int n) j pos) (.lit (.int n)) := se_lit (fun _ => rfl) pe_int fun _ _ => .int n
theorem se_bl {n : Bool} {j} : SEx X (.Constant (.bool n) j pos) (.lit (.bl n)) := se_lit (fun _ => rfl) pe_bl fun _ _ => .bl n
theorem se_str {n : Str} {j} : SEx X (.Constant (.str n) j pos) (.lit (.str n)) := se_lit (fun _ => rfl) pe_str fun _ _ => .str n
theorem se_non {j} : SEx X (.Constant .none j pos) (.lit .non) := se_lit (fun _ => rfl) pe_non fun _ _ => .non
theorem se_var {n : Nat} {x : Str} (hN : X.N[n]? = some x) (hv : Vis X.env.scope x) (hd : (x == ("__debug__" : Str)) = false) (hcd : (x == ("__classdict__" : Str)) = false) : SEx X (.Name x pos) (.var n) := by
  have p : PE X (.Name x pos) (tVar n) := pe_var hN hv hd hcd
  have o : PE X (.Name x pos) (tOd X (.var n) (w (.var n)).v) := peImp p fun σ H Q ⟨F, M, P, σD, s, K, R, h, hK⟩ => by
    simp only [asOp] at h
    cases hs : σD[n]? with
    | none => rw [hs] at h; exact h.elim
    | some sl =>
      rw [hs] at h
      cases sl with
      | unb => exact h.elim
      | val d =>
        obtain ⟨v, hv, r⟩ := (R.slot n _ hs).vv
        exact ⟨v, hv, hK _ _ _ F M H v h (.refl F) (.refl M) R r⟩
      | own c =>
        obtain ⟨a, ha, _⟩ := (R.slot n _ hs).ov
        exact ⟨_, ha, hK _ _ _ F M H _ h (.refl F) (.refl M) R ha⟩
  refine ⟨peImp p fun σ H Q ⟨F, M, P, σD, s, K, R, h, hK⟩ => ?_, o, tt_of (fun _ => rfl) o⟩
  rw [w.eq_2] at h
  simp only [dft] at h
  cases hs : σD[n]? with
  | none => rw [hs] at h; exact h.elim
  | some sl =>
    rw [hs] at h
    cases sl with
    | unb => exact h.elim
    | val d =>
      obtain ⟨v, hv, r⟩ := (R.slot n _ hs).vv
      exact ⟨v, hv, hK _ _ _ F M H v h (.refl F) (.refl M) R r⟩
    | own c =>
      obtain ⟨F', a, sf, ha, R', rv⟩ := R.freezeSlot hs
      exact ⟨_, ha, hK _ _ _ F' M H _ h sf (.refl M) R' rv⟩

theorem se_bin (hu : X.A.units < cLine) (o : BinO) (ha : SEx X a ia) (hb : SEx X b ib) : SEx X (.BinOp a o.py b pos) (.bin o ia ib) := by
  refine sex_dft (w.eq_3 o ia ib) (fun _ _ _ _ _ => rfl) (fun _ => rfl) (pe_op (op_bin hu o) ha.o hb.o) fun σ H Q ⟨F, M, P, σD, s, K, R, h, hK⟩ => ?_
  refine ⟨F, M, P, σD, s, _, R, h, fun x σ1 s1 F1 M1 H1 vx k1 sf1 e1 R1 ox => ⟨F1, M1, P, σ1, s1, _, R1, k1, fun y σ2 s2 F2 M2 H2 vy k2 sf2 e2 R2 oy => ?_⟩⟩
  obtain ⟨dx, hx, k2⟩ := optK_ex k2
  obtain ⟨dy, hy, k2⟩ := optK_ex k2
  obtain ⟨r, hr, k2⟩ := optK_ex k2
  refine ⟨F2, M2, dx, dy, R2.sF, R2.res (ox.mono sf2 e2) hx, R2.res oy hy, ?_⟩
  rw [hr]
  intro H' v q
  obtain ⟨F', sf', R', q'⟩ := R2.out q
  exact hK _ _ _ F' M2 H' v k2 (sf1.trans (sf2.trans sf')) (e1.trans e2) R' q'
theorem se_neg (ha : SEx X a ia) : SEx X (.UnaryOp .USub a pos) (.neg ia) := by
  refine sex_dft (w.eq_4 ia) (fun _ _ _ _ _ => rfl) (fun _ => rfl) (pe_un un_neg ha.o) fun σ H Q ⟨F, M, P, σD, s, K, R, h, hK⟩ => ?_
  refine ⟨F, M, P, σD, s, _, R, h, fun x σ1 s1 F1 M1 H1 vx k1 sf1 e1 R1 ox => ?_⟩
  obtain ⟨dx, hx, k1⟩ := optK_ex k1
  split at k1
  · have := (R1.res ox hx).int
    subst this
    exact ⟨_, rfl, hK _ _ _ F1 M1 H1 _ k1 sf1 e1 R1 (.int _)⟩
  · exact False.elim k1

/-- a truth value's readings -/
theorem sex_ofT {t : TE} {r : ST} (hw : w i = ofT r) (hi : Dft i) (hv : PE X e t) (ht : PT X e (tTest t)) (rd : ∀ σ H (Q : VK) (B : Bool → Hp → Prop), (∀ k H', B k H' → Q (.bl k) H') → tTt X r σ H B → t σ H Q) : SEx X e i := by
  have v : PE X e (tE X (w i).v) := peImp hv fun σ H Q ⟨F, M, P, σD, s, K, R, h, hK⟩ => by
    rw [hw] at h
    exact rd σ H Q (fun k H' => Q (.bl k) H') (fun _ _ q => q) ⟨F, M, P, σD, s, _, R, h, fun b σ' s' F' M' H' k sf ex R' => hK _ _ _ F' M' H' _ k sf ex R' (.bl b)⟩
  refine ⟨v, od_of hi v, ptImp ht fun σ H Q h => ?_⟩
  rw [hw] at h
  exact rd σ H _ Q (fun k H' q => ⟨k, rfl, q⟩) h
theorem se_cmp (hu : X.A.units + 64 < cLine) (o : CmpO) (ha : SEx X a ia) (hb : SEx X b ib) (hm : behindInMarks o.py b = false) : SEx X (.Compare a [o.py] [b] pos) (.cmp o ia ib) := by
  refine sex_ofT (w.eq_5 o ia ib) (fun _ _ _ _ _ => rfl) (pe_cmpR (op_cmp hu o) ha.o hb.o hm) (pt_cmpR (op_cmp hu o) ha.o hb.o hm) fun σ H Q B hB ⟨F, M, P, σD, s, K, R, h, hK⟩ => ?_
  refine ⟨F, M, P, σD, s, _, R, h, fun x σ1 s1 F1 M1 H1 vx k1 sf1 e1 R1 ox => ⟨F1, M1, P, σ1, s1, _, R1, k1, fun y σ2 s2 F2 M2 H2 vy k2 sf2 e2 R2 oy => ?_⟩⟩
  obtain ⟨dx, hx, k2⟩ := optK_ex k2
  obtain ⟨dy, hy, k2⟩ := optK_ex k2
  obtain ⟨r, hr, k2⟩ := optK_ex k2
  refine ⟨F2, M2, dx, dy, R2.sF, R2.res (ox.mono sf2 e2) hx, R2.res oy hy, ?_⟩
  rw [hr]
  exact hB _ _ (hK _ _ _ F2 M2 H2 k2 (sf1.trans sf2) (e1.trans e2) R2)
theorem se_chain (hu : X.A.units + 64 < cLine) (o p : CmpO) (ha : SEx X a ia) (hb : SEx X b ib) (hc : SEx X c ic) (hm : lastMarks [o.py, p.py] [b, c] = false) : SEx X (.Compare a [o.py, p.py] [b, c] pos) (.chain o p ia ib ic) := by
  refine sex_ofT (w.eq_6 o p ia ib ic) (fun _ _ _ _ _ => rfl) (pe_chain (op_cmp hu o) (op_cmp hu p) ha.o hb.o hc.o hm) (pt_chain (op_cmp hu o) (op_cmp hu p) ha.o hb.o hc.o hm) fun σ H Q B hB ⟨F, M, P, σD, s, K, R, h, hK⟩ => ?_
  refine ⟨F, M, P, σD, s, _, R, h, fun x σ1 s1 F1 M1 H1 vx k1 sf1 e1 R1 ox => ⟨F1, M1, P, σ1, s1, _, R1, k1, fun y σ2 s2 F2 M2 H2 vy k2 sf2 e2 R2 oy => ?_⟩⟩
  obtain ⟨dx, hx, k2⟩ := optK_ex k2
  obtain ⟨dy, hy, k2⟩ := optK_ex k2
  obtain ⟨r, hr, k2⟩ := optK_ex k2
  refine ⟨F2, M2, dx, dy, R2.sF, R2.res (ox.mono sf2 e2) hx, R2.res oy hy, ?_⟩
  rw [hr]
  refine ⟨r, rfl, ?_⟩
  cases r with
  | true =>
    rw [if_pos rfl] at k2
    refine ⟨F2, M2, P, σ2, s2, _, R2, k2, fun z σ3 s3 F3 M3 H3 vz k3 sf3 e3 R3 oz => ?_⟩
    obtain ⟨dy, hy, k3⟩ := optK_ex k3
    obtain ⟨dz, hz, k3⟩ := optK_ex k3
    obtain ⟨r, hr, k3⟩ := optK_ex k3
    refine ⟨F3, M3, dy, dz, R3.sF, R3.res (oy.mono sf3 e3) hy, R3.res oz hz, ?_⟩
    rw [hr]
    exact hB _ _ (hK _ _ _ F3 M3 H3 k3 (sf1.trans (sf2.trans sf3)) (e1.trans (e2.trans e3)) R3)
  | false =>
    rw [if_neg Bool.false_ne_true] at k2
    exact hB _ _ (hK _ _ _ F2 M2 H2 k2 (sf1.trans sf2) (e1.trans e2) R2)
end
end HP

set_option maxHeartbeats 2000000
/-! HpExp2: and, or, not; tuples, lists; subscripts; fields; builtins; methods of lists. -/
namespace HP
open PySem L2

section
variable {X : Cx} {e a b c : Expr} {i ia ib ic : E} {pos : Pos} {es : List Expr} {is : Es}

/-! ### truth values -/
theorem se_not (ha : SEx X a ia) : SEx X (.UnaryOp .Not a pos) (.not_ ia) := by
  have hv : PE X (.UnaryOp .Not a pos) (tE X (w (.not_ ia)).v) := peImp (pe_not ha.v) fun σ H Q ⟨F, M, P, σD, s, K, R, h, hK⟩ => by
    rw [w.eq_7] at h
    refine ⟨F, M, P, σD, s, _, R, h, fun o σ1 s1 F1 M1 H1 v k sf ex R1 q => ?_⟩
    split at k
    · cases q
      exact ⟨_, rfl, hK _ _ _ F1 M1 H1 _ k sf ex R1 (.bl _)⟩
    · exact k.elim
  refine ⟨hv, od_of (fun _ _ _ _ _ => rfl) hv, ptImp (pt_not ha.t) fun σ H Q ⟨F, M, P, σD, s, K, R, h, hK⟩ => ?_⟩
  rw [w.eq_7] at h
  exact ⟨F, M, P, σD, s, _, R, h, fun b σ' s' F' M' H' k sf ex R' => hK _ _ _ F' M' H' k sf ex R'⟩

/-- the rest of an and, of an or -/
structure SBo (X : Cx) (op : BoolOp) (es : List Expr) (pos : Pos) (i : E) : Prop where
  v : PE X (.BoolOp op es pos) (tE X (w i).v)
  t : PW X (.BoolOp op es pos) (tTt X (w i).t)
theorem sb_one {op : BoolOp} (ha : SEx X a ia) : SBo X op [a] pos ia := ⟨pe_one ha.v, by cases op; exact pw_and1 ha.t; exact pw_or1 ha.t⟩
theorem sb_and (ha : SEx X a ia) (hb : SBo X .And (b :: es) pos ib) : SBo X .And (a :: b :: es) pos (.and_ ia ib) := by
  refine ⟨peImp (pe_and ha.v hb.v) fun σ H Q ⟨F, M, P, σD, s, K, R, h, hK⟩ => ?_, pwImp (pw_and ha.t hb.t) fun σ H Q ⟨F, M, P, σD, s, K, R, h, hK⟩ => ?_⟩
  · rw [w.eq_8] at h
    refine ⟨F, M, P, σD, s, _, R, h, fun o σ1 s1 F1 M1 H1 v1 k sf1 e1 R1 q => ?_⟩
    split at k
    · rename_i c
      cases q
      refine ⟨c, rfl, ?_⟩
      cases c with
      | true =>
        rw [if_pos rfl] at k ⊢
        exact ⟨F1, M1, P, σ1, s1, _, R1, k, fun o σ2 s2 F2 M2 H2 v2 k2 sf2 e2 R2 q2 => hK _ _ _ F2 M2 H2 v2 k2 (sf1.trans sf2) (e1.trans e2) R2 q2⟩
      | false =>
        rw [if_neg Bool.false_ne_true] at k ⊢
        exact hK _ _ _ F1 M1 H1 _ k sf1 e1 R1 (.bl false)
    · exact k.elim
  · rw [w.eq_8] at h
    refine ⟨F, M, P, σD, s, _, R, h, fun c σ1 s1 F1 M1 H1 k sf1 e1 R1 => ?_⟩
    cases c with
    | true =>
      rw [if_pos rfl] at k ⊢
      exact ⟨F1, M1, P, σ1, s1, _, R1, k, fun o σ2 s2 F2 M2 H2 k2 sf2 e2 R2 => hK _ _ _ F2 M2 H2 k2 (sf1.trans sf2) (e1.trans e2) R2⟩
    | false =>
      rw [if_neg Bool.false_ne_true] at k ⊢
      exact hK _ _ _ F1 M1 H1 k sf1 e1 R1
theorem sb_or (ha : SEx X a ia) (hb : SBo X .Or (b :: es) pos ib) : SBo X .Or (a :: b :: es) pos (.or_ ia ib) := by
  refine ⟨peImp (pe_or ha.v hb.v) fun σ H Q ⟨F, M, P, σD, s, K, R, h, hK⟩ => ?_, pwImp (pw_or ha.t hb.t) fun σ H Q ⟨F, M, P, σD, s, K, R, h, hK⟩ => ?_⟩
  · rw [w.eq_9] at h
    refine ⟨F, M, P, σD, s, _, R, h, fun o σ1 s1 F1 M1 H1 v1 k sf1 e1 R1 q => ?_⟩
    split at k
    · rename_i c
      cases q
      refine ⟨c, rfl, ?_⟩
      cases c with
      | true =>
        rw [if_pos rfl] at k ⊢
        exact hK _ _ _ F1 M1 H1 _ k sf1 e1 R1 (.bl true)
      | false =>
        rw [if_neg Bool.false_ne_true] at k ⊢
        exact ⟨F1, M1, P, σ1, s1, _, R1, k, fun o σ2 s2 F2 M2 H2 v2 k2 sf2 e2 R2 q2 => hK _ _ _ F2 M2 H2 v2 k2 (sf1.trans sf2) (e1.trans e2) R2 q2⟩
    · exact k.elim
  · rw [w.eq_9] at h
    refine ⟨F, M, P, σD, s, _, R, h, fun c σ1 s1 F1 M1 H1 k sf1 e1 R1 => ?_⟩
    cases c with
    | true =>
      rw [if_pos rfl] at k ⊢
      exact hK _ _ _ F1 M1 H1 k sf1 e1 R1
    | false =>
      rw [if_neg Bool.false_ne_true] at k ⊢
      exact ⟨F1, M1, P, σ1, s1, _, R1, k, fun o σ2 s2 F2 M2 H2 k2 sf2 e2 R2 => hK _ _ _ F2 M2 H2 k2 (sf1.trans sf2) (e1.trans e2) R2⟩
theorem se_bo {op : BoolOp} (hi : Dft i) (h : SBo X op es pos i) : SEx X (.BoolOp op es pos) i := ⟨h.v, od_of hi h.v, h.t.pt⟩
theorem pt_ife {tA ta tb : TT} (hc : PT X c tA) (ha : PT X a ta) (hb : PT X b tb) : PT X (.IfExp c a b pos) (fun σ H Q => tA σ H fun r H1 => if r = true then ta σ H1 Q else tb σ H1 Q) := ⟨fun pins z σ H Q J h =>
  PyProof.Rows.isTrue_IfExp (thn (hc.run pins z σ H _ J h) fun d z1 ⟨H1, J1, q⟩ => by
    cases d with
    | true =>
      rw [if_pos rfl] at q ⊢
      exact ha.run pins z1 σ H1 _ J1 q
    | false =>
      rw [if_neg Bool.false_ne_true] at q ⊢
      exact hb.run pins z1 σ H1 _ J1 q)⟩
theorem se_ife (hc : SEx X c ic) (ha : SEx X a ia) (hb : SEx X b ib) : SEx X (.IfExp c a b pos) (.ife ic ia ib) := by
  have hv : PE X (.IfExp c a b pos) (tE X (w (.ife ic ia ib)).v) := peImp (pe_ifExp hc.t ha.v hb.v) fun σ H Q ⟨F, M, P, σD, s, K, R, h, hK⟩ => by
    rw [w.eq_10] at h
    refine ⟨F, M, P, σD, s, _, R, h, fun c σ1 s1 F1 M1 H1 k sf1 e1 R1 => ?_⟩
    cases c with
    | true =>
      rw [if_pos rfl] at k ⊢
      exact ⟨F1, M1, P, σ1, s1, _, R1, k, fun o σ2 s2 F2 M2 H2 v2 k2 sf2 e2 R2 q2 => hK _ _ _ F2 M2 H2 v2 k2 (sf1.trans sf2) (e1.trans e2) R2 q2⟩
    | false =>
      rw [if_neg Bool.false_ne_true] at k ⊢
      exact ⟨F1, M1, P, σ1, s1, _, R1, k, fun o σ2 s2 F2 M2 H2 v2 k2 sf2 e2 R2 q2 => hK _ _ _ F2 M2 H2 v2 k2 (sf1.trans sf2) (e1.trans e2) R2 q2⟩
  refine ⟨hv, od_of (fun _ _ _ _ _ => rfl) hv, ptImp (pt_ife hc.t ha.t hb.t) fun σ H Q ⟨F, M, P, σD, s, K, R, h, hK⟩ => ?_⟩
  rw [w.eq_10] at h
  refine ⟨F, M, P, σD, s, _, R, h, fun c σ1 s1 F1 M1 H1 k sf1 e1 R1 => ?_⟩
  cases c with
  | true =>
    rw [if_pos rfl] at k ⊢
    exact ⟨F1, M1, P, σ1, s1, _, R1, k, fun o σ2 s2 F2 M2 H2 k2 sf2 e2 R2 => hK _ _ _ F2 M2 H2 k2 (sf1.trans sf2) (e1.trans e2) R2⟩
  | false =>
    rw [if_neg Bool.false_ne_true] at k ⊢
    exact ⟨F1, M1, P, σ1, s1, _, R1, k, fun o σ2 s2 F2 M2 H2 k2 sf2 e2 R2 => hK _ _ _ F2 M2 H2 k2 (sf1.trans sf2) (e1.trans e2) R2⟩

/-! ### arguments -/
theorem sa_nil : SAs X [] .nil := ⟨paImp pa_nil fun σ H Q ⟨F, M, P, σD, s, K, R, h, hK⟩ => by
  rw [ws.eq_1] at h
  exact hK _ _ _ F M H _ h (.refl F) (.refl M) R .nil, paImp pa_nil fun σ H Q ⟨F, M, P, σD, s, K, R, h, hK⟩ => by
  rw [ws.eq_1] at h
  exact hK _ _ _ F M H _ h (.refl F) (.refl M) R .nil⟩
theorem sa_cons (hs : starEach (a :: es) X.env = (false, eval a X.env) :: starEach es X.env) (ha : SEx X a ia) (hr : SAs X es is) : SAs X (a :: es) (.cons ia is) := by
  refine ⟨paImp (pa_cons ha.v hr.v hs) fun σ H Q ⟨F, M, P, σD, s, K, R, h, hK⟩ => ?_, paImp (pa_cons ha.o hr.o hs) fun σ H Q ⟨F, M, P, σD, s, K, R, h, hK⟩ => ?_⟩
  · rw [ws.eq_2] at h
    refine ⟨F, M, P, σD, s, _, R, h, fun o σ1 s1 F1 M1 H1 v1 k sf1 e1 R1 q => ?_⟩
    obtain ⟨F', sf', R', rv⟩ := R1.frz q
    refine ⟨F', M1, P, σ1, s1, _, R', k, fun ds σ2 s2 F2 M2 H2 vs k2 sf2 e2 R2 q2 => ?_⟩
    exact hK _ _ _ F2 M2 H2 _ k2 (sf1.trans (sf'.trans sf2)) (e1.trans e2) R2 (.cons (rv.mono sf2 e2) q2)
  · rw [ws.eq_2] at h
    dsimp only at h
    refine ⟨F, M, P, σD, s, _, R, h, fun o σ1 s1 F1 M1 H1 v1 k sf1 e1 R1 q => ?_⟩
    refine ⟨F1, M1, P, σ1, s1, _, R1, k, fun ds σ2 s2 F2 M2 H2 vs k2 sf2 e2 R2 q2 => ?_⟩
    exact hK _ _ _ F2 M2 H2 _ k2 (sf1.trans sf2) (e1.trans e2) R2 (.cons (q.mono sf2 e2) q2)

/-! ### displays -/
theorem se_tup {x1} (h : SAs X es is) : SEx X (.Tuple es x1 pos) (.tup is) := by
  refine sex_dft (w.eq_11 is) (fun _ _ _ _ _ => rfl) (fun _ => rfl) (pe_tupX h.v) fun σ H Q ⟨F, M, P, σD, s, K, R, h, hK⟩ => ?_
  refine ⟨F, M, P, σD, s, _, R, h, fun ds σ1 s1 F1 M1 H1 vs k sf1 e1 R1 q => ?_⟩
  split at k
  · rename_i hz
    refine ⟨by rw [← q.length, ← big_eq]; exact hz, fun p o hp ho => ?_⟩
    obtain ⟨F', sf', R', q'⟩ := R1.out (OutN.tup R1.sF hp ho q)
    exact hK _ _ _ F' M1 _ _ k (sf1.trans sf') e1 R' q'
  · exact k.elim
theorem se_lst (h : SAs X es is) : SEx X (.List es pos) (.lst is) := by
  refine sex_dft (w.eq_12 is) (fun _ _ _ _ _ => rfl) (fun _ => rfl) (pe_lst h.v) fun σ H Q ⟨F, M, P, σD, s, K, R, h, hK⟩ => ?_
  refine ⟨F, M, P, σD, s, _, R, h, fun ds σ1 s1 F1 M1 H1 vs k sf1 e1 R1 q => ?_⟩
  split at k
  · rename_i hz
    refine ⟨by rw [← q.length, ← big_eq]; exact hz, fun p hp => ?_⟩
    obtain ⟨F', sf', R', q'⟩ := R1.out (OutN.lst (F := F1) hp q)
    exact hK _ _ _ F' M1 _ _ k (sf1.trans sf') e1 R' q'
  · exact k.elim

/-! ### subscripts, slices, fields -/
theorem se_ix (hu : X.A.units + 64 < cLine) (ha : SEx X a ia) (hb : SEx X b ib) (hs : PlainIx b) : SEx X (.Subscript a b pos) (.ix ia ib) := by
  refine sex_dft (w.eq_14 ia ib) (fun _ _ _ _ _ => rfl) (fun _ => rfl) (pe_ix (ix_D hu) ha.o hb.o hs) fun σ H Q ⟨F, M, P, σD, s, K, R, h, hK⟩ => ?_
  refine ⟨F, M, P, σD, s, _, R, h, fun x σ1 s1 F1 M1 H1 vx k1 sf1 e1 R1 ox => ⟨F1, M1, P, σ1, s1, _, R1, k1, fun y σ2 s2 F2 M2 H2 vy k2 sf2 e2 R2 oy => ?_⟩⟩
  obtain ⟨dx, hx, k2⟩ := optK_ex k2
  obtain ⟨dy, hy, k2⟩ := optK_ex k2
  obtain ⟨r, hr, k2⟩ := optK_ex k2
  refine ⟨F2, M2, dx, dy, R2.sF, R2.res (ox.mono sf2 e2) hx, R2.res oy hy, ?_⟩
  rw [hr]
  intro v q
  exact hK _ _ _ F2 M2 H2 v k2 (sf1.trans sf2) (e1.trans e2) R2 q
theorem so_none : PO X none (tOptI X (wO .nil)) := poImp po_none fun σ H Q ⟨F, M, P, σD, s, K, R, h, hK⟩ => by
  rw [wO] at h
  exact hK _ _ _ F M H h (.refl F) (.refl M) R
theorem so_some (ha : SEx X a ia) : PO X (some a) (tOptI X (wO (.cons ia .nil))) := poImp (po_some ha.o) fun σ H Q ⟨F, M, P, σD, s, K, R, h, hK⟩ => by
  rw [wO] at h
  refine ⟨F, M, P, σD, s, _, R, h, fun x σ1 s1 F1 M1 H1 vx k1 sf1 e1 R1 ox => ?_⟩
  obtain ⟨dx, hx, k1⟩ := optK_ex k1
  split at k1
  · have := (R1.res ox hx).int
    subst this
    exact ⟨_, rfl, hK _ _ _ F1 M1 H1 k1 sf1 e1 R1⟩
  · exact k1.elim
theorem se_sl {lo hi : Option Expr} {il ih : Es} {p2 : Pos} (ha : SEx X a ia) (hl : PO X lo (tOptI X (wO il))) (hh : PO X hi (tOptI X (wO ih))) : SEx X (.Subscript a (.Slice lo hi none p2) pos) (.sl ia il ih) := by
  refine sex_dft (w.eq_15 ia il ih) (fun _ _ _ _ _ => rfl) (fun _ => rfl) (pe_slice sl_D ha.o hl hh) fun σ H Q ⟨F, M, P, σD, s, K, R, h, hK⟩ => ?_
  refine ⟨F, M, P, σD, s, _, R, h, fun x σ1 s1 F1 M1 H1 vx k1 sf1 e1 R1 ox => ⟨F1, M1, P, σ1, s1, _, R1, k1, fun l σ2 s2 F2 M2 H2 k2 sf2 e2 R2 => ⟨F2, M2, P, σ2, s2, _, R2, k2, fun u σ3 s3 F3 M3 H3 k3 sf3 e3 R3 => ?_⟩⟩⟩
  obtain ⟨dx, hx, k3⟩ := optK_ex k3
  obtain ⟨r, hr, k3⟩ := optK_ex k3
  refine ⟨F3, M3, dx, R3.sF, R3.res (ox.mono (sf2.trans sf3) (e2.trans e3)) hx, ?_⟩
  rw [hr]
  intro H' v q
  obtain ⟨F', sf', R', q'⟩ := R3.out q
  exact hK _ _ _ F' M3 H' v k3 (sf1.trans (sf2.trans (sf3.trans sf'))) (e1.trans (e2.trans e3)) R' q'
theorem lookF_rel {K : PySem.W.Frag} {F : Hp} {M : List Addr} {n : Str} {r : D} : ∀ {fs : List (Str × V)} {vs : List D}, RVs K F M vs (fs.map (·.2)) → lookF (fs.map (·.1)) vs n = some r → ∃ v, fs.lookup n = some v ∧ RV K F M r v
  | [], _, .nil, h => by simp [lookF] at h
  | (k, v) :: fs, _, .cons a b, h => by
    simp only [List.map_cons, lookF] at h
    by_cases e : k = n
    · rw [if_pos e] at h
      cases h
      subst e
      exact ⟨v, by simp, a⟩
    · rw [if_neg e] at h
      obtain ⟨u, h1, h2⟩ := lookF_rel b h
      refine ⟨u, ?_, h2⟩
      rw [List.lookup_cons]
      have : (n == k) = false := by
        rw [beq_eq_false_iff_ne]
        exact fun q => e q.symm
      rw [this]
      exact h1
theorem se_fld {C n : Str} (ha : SEx X a ia) (hb : attributeBase a n X.env (eval a X.env) = eval a X.env) (hc : Cls X.K (He.ga X.K C)) (hn : NoAttr X.K (He.ga X.K C) n) : SEx X (.Attribute a n pos) (.fld C ia n) := by
  refine sex_dft (w.eq_17 C ia n) (fun _ _ _ _ _ => rfl) (fun _ => rfl) (pe_fld ha.o hb) fun σ H Q ⟨F, M, P, σD, s, K, R, h, hK⟩ => ?_
  refine ⟨F, M, P, σD, s, _, R, h, fun x σ1 s1 F1 M1 H1 vx k1 sf1 e1 R1 ox => ?_⟩
  replace k1 := optK_ex k1
  obtain ⟨dx, hx, k1⟩ := k1
  split at k1
  · split at k1
    · rename_i C' ns vs hC
      subst hC
      replace k1 := optK_ex k1
      obtain ⟨r, hr, k1⟩ := k1
      obtain ⟨p, dd, fs, rfl, h1, rfl, h2⟩ := (R1.res ox hx).ins R1.sF
      obtain ⟨v, h3, h4⟩ := lookF_rel h2 hr
      exact ⟨p, _, dd, fs, v, rfl, h1, hc, hn, h3, hK _ _ _ F1 M1 H1 v k1 sf1 e1 R1 h4⟩
    · exact k1.elim
  · exact k1.elim
/-- what is made becomes a thing of the store -/
theorem se_alloc (he : TruE X e) (h : SEx X e i) : SEx X e (.alloc i) := by
  refine sex_dft (w.eq_23 i) (fun _ _ _ _ _ => rfl) he h.v fun σ H Q ⟨F, M, P, σD, s, K, R, h, hK⟩ => ?_
  refine ⟨F, M, P, σD, s, _, R, h, fun o σ1 s1 F1 M1 H1 v k sf1 e1 R1 q => ?_⟩
  cases o with
  | val d => exact k.elim
  | own c =>
    obtain ⟨a, rfl, r, qo⟩ := q
    obtain ⟨R2, rv⟩ := R1.alloc r qo
    exact hK _ _ _ F1 _ H1 _ k sf1 (e1.trans ⟨[a], rfl⟩) R2 rv

/-! ### builtins -/
theorem se_callB {id : String} {x : Str} {p : Pos} {bi : Bi} (hcr : CallR X (.builtin id) (rcD X.K (biSem bi))) (hg : Gl X x) (hm : X.mg x = none) (hv : bootBuiltins x = some (.builtin id)) (hn : x ≠ "__name__") (hdb : (x == ("__debug__" : Str)) = false)
    (he : starEach (a :: es) X.env = (false, eval a X.env) :: starEach es X.env) (hpl : (backTo pos (starEach es X.env)).any (·.1) = false) (ht : TruE X (.Call (.Name x p) (a :: es) [] pos)) (ha : SAs X (a :: es) is) :
    SEx X (.Call (.Name x p) (a :: es) [] pos) (.bi bi is) := by
  refine sex_dft (w.eq_24 bi is) (fun _ _ _ _ _ => rfl) ht (pe_callB hcr hg hm hv ha.o hn hdb he hpl) fun σ H Q ⟨F, M, P, σD, s, K, R, h, hK⟩ => ?_
  refine ⟨F, M, P, σD, s, _, R, h, fun xs σ1 s1 F1 M1 H1 vs k sf1 e1 R1 q => ?_⟩
  obtain ⟨ds, hd, k⟩ := optK_ex k
  obtain ⟨r, hr, k⟩ := optK_ex k
  refine ⟨F1, M1, ds, R1.sF, R1.ress q hd, ?_⟩
  rw [hr]
  intro H' v q
  obtain ⟨F', sf', R', q'⟩ := R1.out q
  exact hK _ _ _ F' M1 H' v k (sf1.trans sf') e1 R' q'
theorem se_callTy {id : String} {x : Str} {p : Pos} {bi : Bi} (hcr : CallR X (.type id) (rcD X.K (biSem bi))) (hg : Gl X x) (hm : X.mg x = none) (hv : bootBuiltins x = some (.type id)) (hn : x ≠ "__name__") (hdb : (x == ("__debug__" : Str)) = false)
    (he : starEach (a :: es) X.env = (false, eval a X.env) :: starEach es X.env) (hpl : (backTo pos (starEach es X.env)).any (·.1) = false) (ht : TruE X (.Call (.Name x p) (a :: es) [] pos)) (ha : SAs X (a :: es) is) :
    SEx X (.Call (.Name x p) (a :: es) [] pos) (.bi bi is) := by
  refine sex_dft (w.eq_24 bi is) (fun _ _ _ _ _ => rfl) ht (pe_callTy hcr hg hm hv ha.o hn hdb he hpl) fun σ H Q ⟨F, M, P, σD, s, K, R, h, hK⟩ => ?_
  refine ⟨F, M, P, σD, s, _, R, h, fun xs σ1 s1 F1 M1 H1 vs k sf1 e1 R1 q => ?_⟩
  obtain ⟨ds, hd, k⟩ := optK_ex k
  obtain ⟨r, hr, k⟩ := optK_ex k
  refine ⟨F1, M1, ds, R1.sF, R1.ress q hd, ?_⟩
  rw [hr]
  intro H' v q
  obtain ⟨F', sf', R', q'⟩ := R1.out q
  exact hK _ _ _ F' M1 H' v k (sf1.trans sf') e1 R' q'
end
end HP

set_option maxHeartbeats 2000000
/-! HpFn: defs that are called where nothing is being printed (for repr): contracts and calls. -/
namespace HP
open PySem L2 PySem.Spec
open PyProof.Rows hiding St

/-- nothing is being printed -/
def Still (A : Around) : Prop := A.guards = some []
theorem Still.deeper {A : Around} (h : Still A) (env : Env) : Still (A.deeper env) := h
theorem Still.in1 {A : Around} (h : Still A) : Still A.in1 := h
/-- a def's promise -/
structure FnA (P : Program) (w : World) (K : PySem.W.Frag) (mg : Str → Option Value) (base : Heap) (CX : CXT) (k : Nat) (f : Addr) (fd : FuncData) (ps : List Str) (sp : Sp) : Prop where
  len : ∀ xs G Q Z, sp xs G Q Z → xs.length = ps.length
  go : ∀ (B : Around) (out : List Env) (z : Shared) (G : Hp) (args : Args) (ys : List Value) (xs : List V) (Q : VK) (Z : XK), Room k B → Still B → Env0 P w K mg base B out z G →
    BindsTo z fd args (ps.zip ys) → Vals xs ys → sp xs G Q Z → codeAny (model P w) B (.call (.ref f) args) (L2.CR CX out P w G z Q Z) z
section
variable {X : Cx} {CX : CXT} {k : Nat} {f C : Addr} {fd : FuncData} {ps : List Str} {sp : Sp} {Z : XK} {x m : Str} {p pos apos : Pos} {e o : Expr} {es : List Expr} {ta : TE} {t : TA}
theorem FnA.mono {P : Program} {w : World} {K : PySem.W.Frag} {mg : Str → Option Value} {base : Heap} {j : Nat} (F : FnA P w K mg base CX j f fd ps sp) (h : j ≤ k) : FnA P w K mg base CX k f fd ps sp :=
  ⟨F.len, fun B out z G args ys xs Q Z r => F.go B out z G args ys xs Q Z (r.mono h)⟩
/-- it runs; every parameter is given -/
theorem FnA.call {pins : List (Addr × Obj)} {σ : St} {G : Hp} {z : Shared} {Q : VK} {args : Args} {ws : List Value} {zs : List V} (F : FnA X.prog X.w X.K X.mg X.base CX k f fd ps sp) (hr : Room k X.A) (hs : Still X.A)
    (J : Inv X pins σ G z) (hb : (ws.length = ps.length) → BindsTo z fd args (ps.zip ws)) (hx : Passes CX X Z) (r : Vals zs ws) (h : sp zs G Q Z) :
    codeAny (model X.prog X.w) X.A (.call (.ref f) args) (fun r z' => match r with | .ok (.ret u) => EP X pins σ Q u z' | .ok _ => False | .error e => X.xe e z') z := by
  have hl : ws.length = ps.length := r.length ▸ F.len _ _ _ _ h
  refine codeAny_mono (F.go X.A X.stack z G args ws zs Q Z hr hs J.env0 (hb hl) r h) fun r z' q => ?_
  match r, q with
  | .error e, q => exact hx pins σ G z e z' J q
  | .ok (.ret u), q => exact J.after q
  | .ok .next, q => exact q.elim
  | .ok .brk, q => exact q.elim
  | .ok .cont, q => exact q.elim
theorem FnA.wp {pins : List (Addr × Obj)} {σ : St} {G : Hp} {z : Shared} {Q : VK} {us : List Value} {kw : List (Str × Value)} {ws : List Value} {zs : List V} (F : FnA X.prog X.w X.K X.mg X.base CX k f fd ps sp) (hr : Room k X.A) (hs : Still X.A)
    (J : Inv X pins σ G z) (hb : (ws.length = ps.length) → BindsTo z fd ⟨us, kw⟩ (ps.zip ws)) (hx : Passes CX X Z) (r : Vals zs ws) (h : sp zs G Q Z) :
    wpAny (model X.prog X.w) X.A (PySem.call (.ref f) us kw) (EP X pins σ Q) X.xe z := wpAny_call (F.call (args := ⟨us, kw⟩) hr hs J hb hx r h)
/-- f(a, ..) -/
theorem pa_callF (F : FnA X.prog X.w X.K X.mg X.base CX k f fd ps sp) (hr : Room k X.A) (hs : Still X.A) (hg : Gl X x) (hm : X.mg x = some (.ref f)) (hk : PySem.W.keepIn X.K (.ref f) = true) (hb : Binds X.K fd ps []) (hx : Passes CX X Z)
    (ha : PA X (e :: es) t) (hdb : (x == ("__debug__" : Str)) = false) (he : starEach (e :: es) X.env = (false, eval e X.env) :: starEach es X.env) (hpl : (backTo pos (starEach es X.env)).any (·.1) = false) :
    PE X (.Call (.Name x p) (e :: es) [] pos) (fun σ G Q => t σ G fun xs G1 => sp xs G1 Q Z) := ⟨fun pins z σ G Q J h =>
  wpAny_Call_Name_kw (ld_glob J hg hm (PySem.W.callWith_K (h₀ := X.base) J.ok.mod.kin hk (thn (ha.run pos pins z σ G _ J h) fun us z1 ⟨xs, G1, J1, r, q⟩ =>
    ⟨J1.kIn, F.wp hr hs J1 (fun hl => by have := hb z1 us J1.kIn (by rw [List.append_nil]; exact hl); rw [List.append_nil] at this; exact this) hx r q⟩) he hpl) hdb)⟩
theorem pa_callF0 (F : FnA X.prog X.w X.K X.mg X.base CX k f fd ps sp) (hr : Room k X.A) (hs : Still X.A) (hg : Gl X x) (hm : X.mg x = some (.ref f)) (hk : PySem.W.keepIn X.K (.ref f) = true) (hb : Binds X.K fd ps []) (hx : Passes CX X Z)
    (hdb : (x == ("__debug__" : Str)) = false) : PE X (.Call (.Name x p) [] [] pos) (fun σ G Q => sp [] G Q Z) := ⟨fun pins z σ G Q J h =>
  wpAny_Call_Name_kw (ld_glob J hg hm (PySem.W.callWith_K0 J.kIn hk (F.wp hr hs J (fun hl => by have := hb z [] J.kIn hl; exact this) hx .nil h)) hdb)⟩
/-- o.m(a, ..) -/
theorem pa_methF {pl : Sem Bool} (he : PE X o ta) (c : Cls X.K C) (hm : Meth X.K C m f) (F : FnA X.prog X.w X.K X.mg X.base CX k f fd ps sp) (hr : Room k X.A) (hs : Still X.A) (hb : Binds X.K fd ps []) (hx : Passes CX X Z) (ha : PA X (e :: es) t)
    (hst : starEach (e :: es) X.env = (false, eval e X.env) :: starEach es X.env) (hpl : (backTo pos (starEach es X.env)).any (·.1) = false)
    (ht : eval (.Call (.Attribute o m apos) (e :: es) [] pos) X.env = (do
      let u ← eval o X.env
      standAt apos.atName
      let (g, l) ← holding [u] (getMethod u m pl)
      callWith pos g l (backTo pos (starEach (e :: es) X.env)) (backToKw pos (keywordEach [] X.env)))) :
    PE X (.Call (.Attribute o m apos) (e :: es) [] pos) (fun σ G Q => ta σ G fun x G1 => ∃ a dx fs, x = .ref a ∧ G1 a = some (.ins C dx fs) ∧ fs.lookup m = none ∧ t σ G1 fun xs G2 => sp (x :: xs) G2 Q Z) := ⟨fun pins z σ G Q J h =>
  PySem.W.methodCall_KW (pl := pl) (thn (he.run pins z σ G _ J h) fun u z1 ⟨x, G1, J1, rx, a, dx, fs, ex, ea, l, q⟩ => by
    subst ex
    cases (show u = Value.ref a from rx)
    exact getmeth_ok J1 ea c hm l (PySem.W.callWith_K (first := [.ref a]) (h₀ := X.base) J.ok.mod.kin hm.kp (thn (ha.run pos pins z1 σ G1 _ J1 q) fun us z2 ⟨xs, G2, J2, r, q2⟩ =>
      ⟨J2.kIn, F.wp (us := .ref a :: us) (ws := .ref a :: us) (zs := .ref a :: xs) hr hs J2 (fun hl => by have := hb z2 (.ref a :: us) J2.kIn (by rw [List.append_nil]; exact hl); rw [List.append_nil] at this; exact this) hx (.cons rfl r) q2⟩) hst hpl)) ht⟩
theorem pa_methF0 {pl : Sem Bool} (he : PE X o ta) (c : Cls X.K C) (hm : Meth X.K C m f) (F : FnA X.prog X.w X.K X.mg X.base CX k f fd ps sp) (hr : Room k X.A) (hs : Still X.A) (hb : Binds X.K fd ps []) (hx : Passes CX X Z)
    (ht : eval (.Call (.Attribute o m apos) [] [] pos) X.env = (do
      let u ← eval o X.env
      standAt apos.atName
      let (g, l) ← holding [u] (getMethod u m pl)
      callWith pos g l (backTo pos (starEach [] X.env)) (backToKw pos (keywordEach [] X.env)))) :
    PE X (.Call (.Attribute o m apos) [] [] pos) (fun σ G Q => ta σ G fun x G1 => ∃ a dx fs, x = .ref a ∧ G1 a = some (.ins C dx fs) ∧ fs.lookup m = none ∧ sp [x] G1 Q Z) := ⟨fun pins z σ G Q J h =>
  PySem.W.methodCall_KW (pl := pl) (thn (he.run pins z σ G _ J h) fun u z1 ⟨x, G1, J1, rx, a, dx, fs, ex, ea, l, q⟩ => by
    subst ex
    cases (show u = Value.ref a from rx)
    exact getmeth_ok J1 ea c hm l (PySem.W.callWith_K0 (first := [.ref a]) J1.kIn hm.kp
      (F.wp (us := [.ref a]) (ws := [.ref a]) (zs := [.ref a]) hr hs J1 (fun hl => by have := hb z1 [.ref a] J1.kIn hl; exact this) hx (.cons rfl .nil) q))) ht⟩
/-- C(a, ..) -/
theorem FnA.made {pins : List (Addr × Obj)} {σ : St} {G : Hp} {z : Shared} {Q : VK} {us : List Value} {xs : List V} (Mc : Mk X.K C f) (F : FnA X.prog X.w X.K X.mg X.base CX k f fd ps sp) (hr : Room (k + 1) X.A) (hs : Still X.A) (hb : Binds X.K fd ps [])
    (hx : Passes CX X Z) (J : Inv X pins σ G z) (r : Vals xs us)
    (h : ∀ y dx, G y = none → G dx = none → dx ≠ y → sp (.ref y :: xs) (upd (upd G dx (.own y)) y (.ins C dx [])) (fun v G2 => v = .non ∧ Q (.ref y) G2) Z) :
    wpAny (model X.prog X.w) X.A (PySem.call (.ref C) us) (EP X pins σ Q) X.xe z := by
  have q0 := h (z.heap.objs.size + 1) z.heap.objs.size (J.hok.fresh (Nat.le_succ _)) (J.hok.fresh (Nat.le_refl _)) (Nat.ne_of_lt (Nat.lt_succ_self _))
  have J2 := Inv.made (C := C) J
  have rv : Vals (V.ref (z.heap.objs.size + 1) :: xs) (Value.ref (z.heap.objs.size + 1) :: us) := .cons rfl r
  have hl : (Value.ref (z.heap.objs.size + 1) :: us).length = ps.length := rv.length ▸ F.len _ _ _ _ q0
  have hb2 := hb _ (Value.ref (z.heap.objs.size + 1) :: us) J2.kIn (by rw [List.append_nil]; exact hl)
  rw [List.append_nil] at hb2
  refine wpAny_call (make_map (f := f) J.kIn Mc.makes Mc.init (beq_iff_eq.mp Mc.fn) (codeAny_mono (F.go _ X.stack _ _ ⟨Value.ref (z.heap.objs.size + 1) :: us, []⟩ (Value.ref (z.heap.objs.size + 1) :: us) _ _ Z (hr.make C us []) hs
    (J2.env0.make C us []) hb2 rv q0) fun r z' q => ?_))
  match r, q with
  | .error e, q => exact hx pins σ _ _ e z' J2 q
  | .ok (.ret u), q =>
    obtain ⟨v, G', J3, rv, ev, q3⟩ := J2.after q
    subst ev
    exact ⟨rv, ⟨V.ref (z.heap.objs.size + 1), G', J3, rfl, q3⟩⟩
  | .ok .next, q => exact q.elim
  | .ok .brk, q => exact q.elim
  | .ok .cont, q => exact q.elim
theorem pa_makeF (Mc : Mk X.K C f) (F : FnA X.prog X.w X.K X.mg X.base CX k f fd ps sp) (hr : Room (k + 1) X.A) (hs : Still X.A) (hg : Gl X x) (hm : X.mg x = some (.ref C)) (hb : Binds X.K fd ps []) (hx : Passes CX X Z)
    (ha : PA X (e :: es) t) (hdb : (x == ("__debug__" : Str)) = false) (he : starEach (e :: es) X.env = (false, eval e X.env) :: starEach es X.env) (hpl : (backTo pos (starEach es X.env)).any (·.1) = false) :
    PE X (.Call (.Name x p) (e :: es) [] pos) (fun σ G Q => t σ G fun xs G1 => ∀ y dx, G1 y = none → G1 dx = none → dx ≠ y →
      sp (.ref y :: xs) (upd (upd G1 dx (.own y)) y (.ins C dx [])) (fun v G2 => v = .non ∧ Q (.ref y) G2) Z) := ⟨fun pins z σ G Q J h =>
  wpAny_Call_Name_kw (ld_glob J hg hm (PySem.W.callWith_K (h₀ := X.base) J.ok.mod.kin Mc.kp (thn (ha.run pos pins z σ G _ J h) fun us z1 ⟨xs, G1, J1, r, q⟩ => ⟨J1.kIn, F.made Mc hr hs hb hx J1 r q⟩) he hpl) hdb)⟩
theorem pa_makeF0 (Mc : Mk X.K C f) (F : FnA X.prog X.w X.K X.mg X.base CX k f fd ps sp) (hr : Room (k + 1) X.A) (hs : Still X.A) (hg : Gl X x) (hm : X.mg x = some (.ref C)) (hb : Binds X.K fd ps []) (hx : Passes CX X Z)
    (hdb : (x == ("__debug__" : Str)) = false) :
    PE X (.Call (.Name x p) [] [] pos) (fun σ G Q => ∀ y dx, G y = none → G dx = none → dx ≠ y →
      sp [.ref y] (upd (upd G dx (.own y)) y (.ins C dx [])) (fun v G2 => v = .non ∧ Q (.ref y) G2) Z) := ⟨fun pins z σ G Q J h =>
  wpAny_Call_Name_kw (ld_glob J hg hm (PySem.W.callWith_K0 J.kIn Mc.kp (F.made (us := []) Mc hr hs hb hx J .nil h)) hdb)⟩
/-- f(a, .., k = v, ..): g puts the values in the parameters' order -/
theorem pa_callKF {ks : List Str} {kws : List Keyword} {tk : TA} {g : List Value → List Value → List Value} {gV : List V → List V → List V} (F : FnA X.prog X.w X.K X.mg X.base CX k f fd ps sp) (hr : Room k X.A) (hs : Still X.A) (hg : Gl X x) (hm : X.mg x = some (.ref f))
    (hk : PySem.W.keepIn X.K (.ref f) = true) (hb : KBinds X.K fd ps ks g gV) (hx : Passes CX X Z) (ha : PA X (e :: es) t) (hkw : PK X kws tk) (hall : (backToKw pos (keywordEach kws X.env)).all (·.1.isSome) = true)
    (hks : (backToKw pos (keywordEach kws X.env)).filterMap (·.1) = ks) (hdb : (x == ("__debug__" : Str)) = false) (he : starEach (e :: es) X.env = (false, eval e X.env) :: starEach es X.env)
    (hpl : ((backTo pos (starEach (e :: es) X.env)).any (·.1) || (backToKw pos (keywordEach kws X.env)).any (·.1.isNone)) = false) :
    PE X (.Call (.Name x p) (e :: es) kws pos) (fun σ G Q => t σ G fun xs G1 => tk σ G1 fun zs G2 => sp (gV xs zs) G2 Q Z) := ⟨fun pins z σ G Q J h =>
  wpAny_Call_Name_kw (ld_glob J hg hm (PySem.W.callWith_KW (h₀ := X.base) J.ok.mod.kin hk hall (thn (ha.run pos pins z σ G _ J h) fun us z1 ⟨xs, G1, J1, r, q⟩ =>
    thn (hkw.run pos pins z1 σ G1 _ J1 q) fun ws z2 ⟨zs, G2, J2, rz, q2⟩ => ⟨J2.kIn, by
      rw [hks]
      exact F.wp hr hs J2 (hb.to z2 us ws J2.kIn) hx (hb.rel r rz) q2⟩) hpl he) hdb)⟩
end

/-- THE RULE of a def by its body -/
theorem fnA_of {CX : CXT} {P : Program} {w : World} {K : PySem.W.Frag} {mg : Str → Option Value} {base : Heap} {k : Nat} {f : Addr} {name qual : Str} {params : Arguments} {body : List Stmt} {scope : Scope} {dV kV doc pm cdv ct oc : Value} {an od : Option Addr}
    {osl : Array (Option Value)} {N ps : List Str} {sp : Sp} (lk : K.lookup f = some ⟨oc, od, .func (PySem.W.fnOf name qual params body scope dV kV doc pm an cdv ct), osl⟩) (hcd : PySem.W.codeIn K cdv qual = true) (S : FnScope N ps scope)
    (len : ∀ xs G Q Z, sp xs G Q Z → xs.length = ps.length)
    (hbody : ∀ (B : Around) (out : List Env) (z : Shared) (G : Hp) (xs : List V) (Q : VK) (Z : XK), Room k (B.deeper (envOfC qual scope z.heap.objs.size f cdv)) → Still B → sp xs G Q Z →
      ∃ t, PSs (cxOf CX P w K mg base N qual scope f cdv B out z G Z) body t ∧ t { nx := fun _ G' => Q .non G', rt := Q } (start N xs) G) :
    FnA P w K mg base CX (k + 1) f (PySem.W.fnOf name qual params body scope dV kV doc pm an cdv ct) ps sp := by
  refine ⟨len, fun B out z G args ys xs Q Z hr hs e0 hb r h => ?_⟩
  have old : ∀ b o, base.get? b = some o → z.heap.get? b = some o := fun b o e => (e0.bs b o e).1
  have kin : K.In z.heap := e0.mod.kin.keeps old
  have lim : z.heap.NoLimit := e0.mod.nolimit.keeps old
  have kinds : ∀ y ∈ ps.zip ys, scope.names.lookup y.1 = some .local ∨ (scope.names.lookup y.1 = some .cell ∧ ((cellsFrom (z.heap.objs.size + 1) scope.names []).lookup y.1).isSome = true) := fun ⟨n, v⟩ hy =>
    (S.par n (List.of_mem_zip hy).1).imp (fun q => q) fun q => ⟨q, PySem.W.cellsFrom_some _ _ _ (.inl q)⟩
  refine codeAny_call_function hr.depth (kin _ _ lk) rfl S.co S.gen rfl (PySem.W.codeRec_of kin hcd) (hb _ _ _ _ (wpAny_newFunctionEnv_cells S.kind kinds fun env he z1 x => ?_))
  subst he
  refine ⟨lim.keeps x.toInCall.keep, codeAny_func ?_⟩
  obtain ⟨t, ht, hq⟩ := hbody B out z G xs Q Z (hr.deeper _) hs h
  have J : Inv (cxOf CX P w K mg base N qual scope f cdv B out z G Z) [] (start N xs) G z1 := inv_start S hr.hd e0 (len _ _ _ _ h) r x
  refine wpAny_mono (ht.run [] z1 (start N xs) G _ J hq) (fun fl z' q => ?_) fun e z' q => q
  match fl, q with
  | .ret u, ⟨v, σ', G', I2, rv, q⟩ => exact ⟨v, G', I2.os, I2.bare, I2.base, I2.hok, rv, q⟩
  | .next, ⟨σ', G', I2, q⟩ => exact ⟨V.non, G', I2.os, I2.bare, I2.base, I2.hok, rfl, q⟩
  | .brk, ⟨_, _, _, q⟩ => exact q.elim
  | .cont, ⟨_, _, _, q⟩ => exact q.elim
end HP

set_option maxHeartbeats 2000000
/-! HpExp3: calls of defs, of methods, of makers; methods of lists; dict displays. -/
namespace HP
open PySem L2

section
variable {K : PySem.W.Frag} {F F' : Hp} {M M' : List Addr} {P : Hp} {σD σD' : Slots} {s s' : Store} {σ σ' : St} {H H' : Hp}

/-! ### what a callee must keep -/
def OwnAt (σD : Slots) (σ : St) (a : Addr) : Prop := ∃ (i : Nat) (c : Cont), σD[i]? = some (.own c) ∧ σ[i]? = some (some (.ref a))
open Classical in
noncomputable def keepH (P : Hp) (σD : Slots) (σ : St) (H : Hp) : Hp := fun a => if (P a).isSome ∨ OwnAt σD σ a then H a else none
theorem keepH_none {a : Addr} (h : ¬ ((P a).isSome ∨ OwnAt σD σ a)) : keepH P σD σ H a = none := by
  unfold keepH
  rw [if_neg h]
theorem keepH_at {a : Addr} (h : (P a).isSome ∨ OwnAt σD σ a) : keepH P σD σ H a = H a := by
  unfold keepH
  rw [if_pos h]
theorem keepH_inv {a : Addr} (h : keepH P σD σ H a = none) (ho : ∃ o, H a = some o) : ¬ ((P a).isSome ∨ OwnAt σD σ a) := fun q => by
  rw [keepH_at q] at h
  obtain ⟨o, ho⟩ := ho
  rw [h] at ho
  cases ho
theorem Rel.ownF (R : Rel K F M P σD s σ H) {a : Addr} (h : OwnAt σD σ a) : F a = none ∧ P a = none ∧ a ∉ M ∧ ∃ o, H a = some o := by
  obtain ⟨i, c, h1, h2⟩ := h
  obtain ⟨b, hb, r, q⟩ := (R.slot i _ h1).ov
  cases h2.symm.trans hb
  exact ⟨q.1, q.2.1, q.2.2, r.has⟩
/-- into a callee -/
theorem Rel.enter (R : Rel K F M P σD s σ H) : Rel K F M (keepH P σD σ H) [] s [] H := by
  refine ⟨R.sF, fun a o h => ?_, R.mlen, fun n a c h1 h2 => ?_, R.nd, fun a o h => ?_, rfl, fun i sl h => by simp at h, fun i j c c' a h => by simp at h⟩
  · unfold keepH at h
    split at h
    · exact h
    · cases h
  · obtain ⟨r1, r2, r3⟩ := R.mem n a c h1 h2
    refine ⟨r1, r2, keepH_none fun q => ?_⟩
    rcases q with q | q
    · rw [r3] at q
      cases q
    · exact (R.ownF q).2.2.1 (List.mem_of_getElem? h1)
  · unfold keepH at h
    split at h
    · rename_i q
      rcases q with q | q
      · obtain ⟨o', ho'⟩ := Option.isSome_iff_exists.mp q
        exact R.fp a o' ho'
      · exact (R.ownF q).1
    · cases h
/-- and back -/
theorem Rel.back (R : Rel K F M P σD s σ H) (R' : Rel K F' M' (keepH P σD σ H) [] s' [] H') (sf : Same F F') (e : Ext M M') : Rel K F' M' P σD s' σ H' := by
  have kp : ∀ a o, P a = some o → keepH P σD σ H a = some o := fun a o h => by
    rw [keepH_at (.inl (by rw [h]; rfl))]
    exact R.sP a o h
  refine ⟨R'.sF, fun a o h => R'.sP a o (kp a o h), R'.mlen, fun n a c h1 h2 => ?_, R'.nd, fun a o h => R'.fp a o (kp a o h), R.slen, fun i sl h => ?_, R.dist⟩
  · obtain ⟨r1, r2, r3⟩ := R'.mem n a c h1 h2
    refine ⟨r1, r2, ?_⟩
    cases hp : P a with
    | none => rfl
    | some o =>
      rw [kp a o hp] at r3
      cases r3
  · refine (R.slot i sl h).mono sf e fun a h1 h2 h3 h4 ⟨c, hc⟩ => ?_
    subst hc
    have ho : OwnAt σD σ a := ⟨i, c, h, h1⟩
    have hk : keepH P σD σ H a = H a := keepH_at (.inr ho)
    obtain ⟨o, hH⟩ := (R.ownF ho).2.2.2
    refine ⟨fun o' h' => R'.sP a o' (by rw [hk]; exact h'), R'.fp a o (by rw [hk]; exact hH), fun hm => ?_⟩
    obtain ⟨n, hn⟩ := mem_at hm
    obtain ⟨c', hc'⟩ := R'.mat hn
    have := (R'.mem n a c' hn hc').2.2
    rw [hk, hH] at this
    cases this
theorem OutR.back (R : Rel K F M P σD s σ H) {o : Out} {v : V} (h : OutR K F' M' (keepH P σD σ H) [] [] H' o v) : OutR K F' M' P σD σ H' o v := by
  cases o with
  | val d => exact h
  | own c =>
    obtain ⟨a, rfl, r, q⟩ := h
    have hn : P a = none ∧ ¬ OwnAt σD σ a := by
      have hq := q.p
      unfold keepH at hq
      by_cases hz : (P a).isSome ∨ OwnAt σD σ a
      · rw [if_pos hz] at hq
        exfalso
        rcases hz with hz | hz
        · obtain ⟨o, ho⟩ := Option.isSome_iff_exists.mp hz
          rw [R.sP a o ho] at hq
          cases hq
        · obtain ⟨o, ho⟩ := (R.ownF hz).2.2.2
          rw [ho] at hq
          cases hq
      · refine ⟨?_, fun z => hz (.inr z)⟩
        cases hp : P a with
        | none => rfl
        | some o => exact absurd (.inl (by rw [hp]; rfl)) hz
    exact ⟨a, rfl, r, q.f, hn.1, q.m, fun i c hi hs => hn.2 ⟨i, c, hi, hs⟩⟩
end

/-- no exception leaves -/
def CX0 : CXT := fun _ _ _ _ _ _ => False
def E0 : XK := fun _ _ _ => False
theorem passes0 {X : Cx} {Z : XK} : Passes CX0 X Z := fun _ _ _ _ _ _ _ h => h.elim
/-- a def's promise by its functional semantics -/
def spG (K : PySem.W.Frag) (g : Fn) : Sp := fun vs H Q _ => ∃ F M P s Kq ds, Rel K F M P [] s [] H ∧ RVs K F M ds vs ∧ g ds s Kq (fun _ _ => False) ∧
  ∀ o s' F' M' H' v, Kq o s' → Same F F' → Ext M M' → Rel K F' M' P [] s' [] H' → OutR K F' M' P [] [] H' o v → Q v H'
/-- an __init__'s promise -/
def spI (K : PySem.W.Frag) (C : Str) (g : Fn) : Sp := fun vs H Q _ => ∃ x dx vs' F M P s Kq ds, vs = .ref x :: vs' ∧ H x = some (.ins (He.ga K C) dx []) ∧ Off F M P [] [] x ∧ Rel K F M P [] s [] H ∧ RVs K F M ds vs' ∧
  g ds s Kq (fun _ _ => False) ∧ ∀ o s' F' M' H', Kq o s' → Same F F' → Ext M M' → Rel K F' M' P [] s' [] H' → OutR K F' M' P [] [] H' o (.ref x) → Q .non H'

section
variable {X : Cx} {k : Nat} {f C : Addr} {fd : FuncData} {ps : List Str} {x m : Str} {p pos apos : Pos} {e o a : Expr} {es : List Expr} {is : Es} {g : Fn} {io : E}
/-- the callee's promise from a body -/
theorem spG_of {Z : XK} {σ : St} {G : Hp} {Q : VK} {F F0 : Hp} {M M0 : List Addr} {P : Hp} {σD : Slots} {s : Store} {K : QO} {ds : List D} {vs : List V} (R : Rel X.K F M P σD s σ G) (q : RVs X.K F M ds vs) (k : g ds s (fun o s => K o σD s) (fun _ _ => False)) (sf : Same F0 F) (ex : Ext M0 M)
    (hK : ∀ o σD' s' F' M' H' v, K o σD' s' → Same F0 F' → Ext M0 M' → Rel X.K F' M' P σD' s' σ H' → OutR X.K F' M' P σD' σ H' o v → Q v H') : spG X.K g vs G Q Z :=
  ⟨F, M, _, s, _, ds, R.enter, q, k, fun o s' F' M' H' v k' sf' ex' R' q' => hK o σD s' F' M' H' v k' (sf.trans sf') (ex.trans ex') (R.back R' sf' ex') (OutR.back R q')⟩
/-- f(a, ..) -/
theorem se_call (F : FnA X.prog X.w X.K X.mg X.base CX0 k f fd ps (spG X.K g)) (hr : Room k X.A) (hs : Still X.A) (hg : Gl X x) (hm : X.mg x = some (.ref f)) (hk : PySem.W.keepIn X.K (.ref f) = true) (hb : Binds X.K fd ps [])
    (hdb : (x == ("__debug__" : Str)) = false) (he : starEach (a :: es) X.env = (false, eval a X.env) :: starEach es X.env) (hpl : (backTo pos (starEach es X.env)).any (·.1) = false)
    (ht : TruE X (.Call (.Name x p) (a :: es) [] pos)) (ha : SAs X (a :: es) is) : SEx X (.Call (.Name x p) (a :: es) [] pos) (.call g is) := by
  refine sex_dft (w.eq_19 g is) (fun _ _ _ _ _ => rfl) ht (pa_callF (Z := E0) F hr hs hg hm hk hb passes0 ha.v hdb he hpl) fun σ H Q ⟨F, M, P, σD, s, K, R, h, hK⟩ => ?_
  exact ⟨F, M, P, σD, s, _, R, h, fun ds σ1 s1 F1 M1 H1 vs k1 sf1 e1 R1 q => spG_of R1 q k1 sf1 e1 hK⟩
theorem se_call0 (F : FnA X.prog X.w X.K X.mg X.base CX0 k f fd ps (spG X.K g)) (hr : Room k X.A) (hs : Still X.A) (hg : Gl X x) (hm : X.mg x = some (.ref f)) (hk : PySem.W.keepIn X.K (.ref f) = true) (hb : Binds X.K fd ps [])
    (hdb : (x == ("__debug__" : Str)) = false) (ht : TruE X (.Call (.Name x p) [] [] pos)) : SEx X (.Call (.Name x p) [] [] pos) (.call g .nil) := by
  refine sex_dft (w.eq_19 g .nil) (fun _ _ _ _ _ => rfl) ht (pa_callF0 (Z := E0) F hr hs hg hm hk hb passes0 hdb) fun σ H Q ⟨F, M, P, σD, s, K, R, h, hK⟩ => ?_
  rw [ws.eq_1] at h
  exact spG_of R .nil h (.refl F) (.refl M) hK
theorem isIns_rel {K : PySem.W.Frag} {F : Hp} {M : List Addr} {P : Hp} {σD : Slots} {s : Store} {σ : St} {H : Hp} {d : D} {v : V} {c : Str} (R : Rel K F M P σD s σ H) (q : RV K F M d v) (h : isIns c (view s d) = true) :
    ∃ a dx fs ns vs, v = .ref a ∧ H a = some (.ins (He.ga K c) dx fs) ∧ view s d = .ins c ns vs ∧ ns = fs.map (·.1) ∧ RVs K F M vs (fs.map (·.2)) := by
  have r := R.view q
  generalize hv : view s d = d' at h r
  cases d' <;> try (simp [isIns] at h; done)
  simp only [isIns, decide_eq_true_eq] at h
  subst h
  obtain ⟨a, dx, fs, rfl, h1, h2, h3⟩ := r.ins R.sF
  exact ⟨a, dx, fs, _, _, rfl, h1, rfl, h2, h3⟩
theorem lookup_none {fs : List (Str × V)} {m : Str} (h : (fs.map (·.1)).contains m = false) : fs.lookup m = none := by
  induction fs with
  | nil => rfl
  | cons p r ih =>
    simp only [List.map_cons, List.contains_cons, Bool.or_eq_false_iff] at h
    rw [List.lookup_cons, h.1]
    exact ih h.2
/-- o.m(a, ..) -/
theorem se_meth {Cn : Str} {pl : Sem Bool} (ho : SEx X o io) (c : Cls X.K (He.ga X.K Cn)) (hm : Meth X.K (He.ga X.K Cn) m f) (F : FnA X.prog X.w X.K X.mg X.base CX0 k f fd ps (spG X.K g)) (hr : Room k X.A) (hs : Still X.A) (hb : Binds X.K fd ps [])
    (hst : starEach (a :: es) X.env = (false, eval a X.env) :: starEach es X.env) (hpl : (backTo pos (starEach es X.env)).any (·.1) = false) (hte : TruE X (.Call (.Attribute o m apos) (a :: es) [] pos)) (ha : SAs X (a :: es) is)
    (ht : eval (.Call (.Attribute o m apos) (a :: es) [] pos) X.env = (do
      let u ← eval o X.env
      standAt apos.atName
      let (g, l) ← holding [u] (getMethod u m pl)
      callWith pos g l (backTo pos (starEach (a :: es) X.env)) (backToKw pos (keywordEach [] X.env)))) :
    SEx X (.Call (.Attribute o m apos) (a :: es) [] pos) (.meth Cn m g io is) := by
  refine sex_dft (w.eq_21 Cn m g io is) (fun _ _ _ _ _ => rfl) hte (pa_methF (Z := E0) ho.v c hm F hr hs hb passes0 ha.v hst hpl ht) fun σ H Q ⟨F, M, P, σD, s, K, R, h, hK⟩ => ?_
  refine ⟨F, M, P, σD, s, _, R, h, fun ou σ1 s1 F1 M1 H1 v k1 sf1 e1 R1 q => ?_⟩
  obtain ⟨F2, sf2, R2, rv⟩ := R1.frz q
  obtain ⟨k1, k3, k2⟩ := k1
  obtain ⟨a, dx, fs, ns, vs, rfl, h1, h2, rfl, h4⟩ := isIns_rel R2 rv k1
  rw [h2] at k3
  refine ⟨a, dx, fs, rfl, h1, lookup_none (by simpa [noField] using k3), ?_⟩
  exact ⟨F2, M1, P, σ1, s1, _, R2, k2, fun ds σ3 s3 F3 M3 H3 vs k4 sf3 e3 R3 q3 => spG_of R3 (.cons (rv.mono sf3 e3) q3) k4 (sf1.trans (sf2.trans sf3)) (e1.trans e3) hK⟩
theorem se_meth0 {Cn : Str} {pl : Sem Bool} (ho : SEx X o io) (c : Cls X.K (He.ga X.K Cn)) (hm : Meth X.K (He.ga X.K Cn) m f) (F : FnA X.prog X.w X.K X.mg X.base CX0 k f fd ps (spG X.K g)) (hr : Room k X.A) (hs : Still X.A) (hb : Binds X.K fd ps [])
    (hte : TruE X (.Call (.Attribute o m apos) [] [] pos))
    (ht : eval (.Call (.Attribute o m apos) [] [] pos) X.env = (do
      let u ← eval o X.env
      standAt apos.atName
      let (g, l) ← holding [u] (getMethod u m pl)
      callWith pos g l (backTo pos (starEach [] X.env)) (backToKw pos (keywordEach [] X.env)))) :
    SEx X (.Call (.Attribute o m apos) [] [] pos) (.meth Cn m g io .nil) := by
  refine sex_dft (w.eq_21 Cn m g io .nil) (fun _ _ _ _ _ => rfl) hte (pa_methF0 (Z := E0) ho.v c hm F hr hs hb passes0 ht) fun σ H Q ⟨F, M, P, σD, s, K, R, h, hK⟩ => ?_
  refine ⟨F, M, P, σD, s, _, R, h, fun ou σ1 s1 F1 M1 H1 v k1 sf1 e1 R1 q => ?_⟩
  obtain ⟨F2, sf2, R2, rv⟩ := R1.frz q
  obtain ⟨k1, k3, k2⟩ := k1
  obtain ⟨a, dx, fs, ns, vs, rfl, h1, h2, rfl, h4⟩ := isIns_rel R2 rv k1
  rw [h2] at k3
  rw [ws.eq_1] at k2
  refine ⟨a, dx, fs, rfl, h1, lookup_none (by simpa [noField] using k3), ?_⟩
  exact spG_of R2 (.cons rv .nil) k2 (sf1.trans sf2) e1 hK
/-- C(a, ..) -/
theorem spI_of {Cn : Str} {Z : XK} {σ : St} {G : Hp} {Q : VK} {F F0 : Hp} {M M0 : List Addr} {P : Hp} {σD : Slots} {s : Store} {K : QO} {ds : List D} {vs : List V} (R : Rel X.K F M P σD s σ G) (q : RVs X.K F M ds vs) (k : g ds s (fun o s => K o σD s) (fun _ _ => False)) (sf : Same F0 F) (ex : Ext M0 M)
    (hK : ∀ o σD' s' F' M' H' v, K o σD' s' → Same F0 F' → Ext M0 M' → Rel X.K F' M' P σD' s' σ H' → OutR X.K F' M' P σD' σ H' o v → Q v H') {y dx : Addr} (h1 : G y = none) (h2 : G dx = none) (h3 : dx ≠ y) :
    spI X.K Cn g (.ref y :: vs) (upd (upd G dx (.own y)) y (.ins (He.ga X.K Cn) dx [])) (fun v G2 => v = .non ∧ Q (.ref y) G2) Z := by
  have R1 := R.junk (o := .own y) h2
  have h1' : upd G dx (.own y) y = none := by rw [upd_ne (Ne.symm h3)]; exact h1
  have R2 := R1.junk (o := .ins (He.ga X.K Cn) dx []) h1'
  have q1 := (R1.enter).off h1'
  refine ⟨y, dx, vs, F, M, _, s, _, ds, rfl, upd_same, ?_, R2.enter, q, k, fun o s' F' M' H' k' sf' ex' R' q' => ⟨rfl, hK o σD s' F' M' H' _ k' (sf.trans sf') (ex.trans ex') (R2.back R' sf' ex') (OutR.back R2 q')⟩⟩
  refine ⟨q1.f, ?_, q1.m, fun i c h => by simp at h⟩
  have q2 := q1.p
  refine keepH_none fun z => ?_
  rcases z with z | z
  · rw [keepH_at (.inl z)] at q2
    obtain ⟨o, ho⟩ := Option.isSome_iff_exists.mp z
    rw [R1.sP y o ho] at q2
    cases q2
  · obtain ⟨o, ho⟩ := (R1.ownF z).2.2.2
    rw [h1'] at ho
    cases ho
theorem se_mk {Cn : Str} (Mc : Mk X.K (He.ga X.K Cn) f) (F : FnA X.prog X.w X.K X.mg X.base CX0 k f fd ps (spI X.K Cn g)) (hr : Room (k + 1) X.A) (hs : Still X.A) (hg : Gl X x) (hm : X.mg x = some (.ref (He.ga X.K Cn))) (hb : Binds X.K fd ps [])
    (hdb : (x == ("__debug__" : Str)) = false) (he : starEach (a :: es) X.env = (false, eval a X.env) :: starEach es X.env) (hpl : (backTo pos (starEach es X.env)).any (·.1) = false)
    (ht : TruE X (.Call (.Name x p) (a :: es) [] pos)) (ha : SAs X (a :: es) is) : SEx X (.Call (.Name x p) (a :: es) [] pos) (.mk Cn g is) := by
  refine sex_dft (w.eq_22 Cn g is) (fun _ _ _ _ _ => rfl) ht (pa_makeF (Z := E0) Mc F hr hs hg hm hb passes0 ha.v hdb he hpl) fun σ H Q ⟨F, M, P, σD, s, K, R, h, hK⟩ => ?_
  exact ⟨F, M, P, σD, s, _, R, h, fun ds σ1 s1 F1 M1 H1 vs k1 sf1 e1 R1 q y dx h1 h2 h3 => spI_of R1 q k1 sf1 e1 hK h1 h2 h3⟩
theorem se_mk0 {Cn : Str} (Mc : Mk X.K (He.ga X.K Cn) f) (F : FnA X.prog X.w X.K X.mg X.base CX0 k f fd ps (spI X.K Cn g)) (hr : Room (k + 1) X.A) (hs : Still X.A) (hg : Gl X x) (hm : X.mg x = some (.ref (He.ga X.K Cn))) (hb : Binds X.K fd ps [])
    (hdb : (x == ("__debug__" : Str)) = false) (ht : TruE X (.Call (.Name x p) [] [] pos)) : SEx X (.Call (.Name x p) [] [] pos) (.mk Cn g .nil) := by
  refine sex_dft (w.eq_22 Cn g .nil) (fun _ _ _ _ _ => rfl) ht (pa_makeF0 (Z := E0) Mc F hr hs hg hm hb passes0 hdb) fun σ H Q ⟨F, M, P, σD, s, K, R, h, hK⟩ => ?_
  rw [ws.eq_1] at h
  exact fun y dx h1 h2 h3 => spI_of R .nil h (.refl F) (.refl M) hK h1 h2 h3
end
end HP

set_option maxHeartbeats 2000000
/-! HpExp4: methods of lists and texts; dict displays. -/
namespace HP
open PySem L2

def rmD (K : PySem.W.Frag) (m : Mm) : V → List V → Hp → VK → Prop := fun x xs H Q => ∃ F M c l ds, Same F H ∧ x = .ref l ∧ CR K F M H l c ∧ RVs K F M ds xs ∧ optK (mmSem m c ds) fun p => ∀ o v, CR K F M (upd H l o) l p.1 → RV K F M p.2 v → Q v (upd H l o)
theorem RVs.one {K : PySem.W.Frag} {F : Hp} {M : List Addr} {d : D} {vs : List V} (h : RVs K F M [d] vs) : ∃ v, vs = [v] ∧ RV K F M d v := by
  cases h with
  | cons a b => cases b; exact ⟨_, rfl, a⟩
theorem RVs.two {K : PySem.W.Frag} {F : Hp} {M : List Addr} {d e : D} {vs : List V} (h : RVs K F M [d, e] vs) : ∃ v w, vs = [v, w] ∧ RV K F M d v ∧ RV K F M e w := by
  cases h with
  | cons a b =>
    obtain ⟨w, rfl, hw⟩ := b.one
    exact ⟨_, _, rfl, a, hw⟩
theorem RVs.lastV {K : PySem.W.Frag} {F : Hp} {M : List Addr} {ds : List D} {vs : List V} {d : D} (h : RVs K F M ds vs) (e : ds.getLast? = some d) : ∃ v, vs[vs.length - 1]? = some v ∧ RV K F M d v := by
  rw [List.getLast?_eq_getElem?] at e
  obtain ⟨v, hv, r⟩ := h.get e
  exact ⟨v, by rw [← h.length]; exact hv, r⟩
theorem CR.lstI {K : PySem.W.Frag} {F : Hp} {M : List Addr} {H : Hp} {l : Addr} {xs : List D} (h : CR K F M H l (.lst xs)) : ∃ vs, H l = some (.lst vs) ∧ RVs K F M xs vs := by
  cases h with
  | lst a b => exact ⟨_, a, b⟩

section
variable {X : Cx}
theorem mm_append : MtR X "list.append" (rmD X.K .append) := by
  intro pins s σ H x xs v us Q I rx rv h
  obtain ⟨F, M, c, l, ds, sF, rfl, hc, hd, h⟩ := h
  replace h := optK_ex h
  obtain ⟨p, hp, h⟩ := h
  unfold mmSem at hp
  split at hp <;> try (cases ‹Mm.append = _›; done)
  · split at hp <;> cases hp
    rename_i hz
    obtain ⟨vs, h1, h2⟩ := hc.lstI
    obtain ⟨y, rfl, hy⟩ := hd.one
    exact mt_append pins s σ H _ _ v us Q I rx rv ⟨l, vs, y, rfl, rfl, h1, by rw [← h2.length, ← big_eq]; exact hz, h _ _ (.lst upd_same (h2.append (.cons hy .nil))) .non⟩
  · cases hp
theorem mm_pop : MtR X "list.pop" (rmD X.K .pop) := by
  intro pins s σ H x xs v us Q I rx rv h
  obtain ⟨F, M, c, l, ds, sF, rfl, hc, hd, h⟩ := h
  replace h := optK_ex h
  obtain ⟨p, hp, h⟩ := h
  unfold mmSem at hp
  split at hp <;> try (cases ‹Mm.pop = _›; done)
  · split at hp <;> cases hp
    rename_i hz
    obtain ⟨vs, h1, h2⟩ := hc.lstI
    cases hd
    obtain ⟨y, hy, r⟩ := h2.lastV hz
    exact mt_pop pins s σ H _ _ v us Q I rx rv ⟨l, vs, y, rfl, rfl, h1, hy, h _ _ (.lst upd_same h2.dropLast) r⟩
  · split at hp <;> try (cases hp; done)
    rename_i j hj
    obtain ⟨y, hy, rfl⟩ := Option.map_eq_some_iff.mp hp
    obtain ⟨vs, h1, h2⟩ := hc.lstI
    obtain ⟨w, rfl, hw⟩ := hd.one
    cases hw
    obtain ⟨z, hz, r⟩ := h2.get hy
    obtain ⟨q1, q2, q3, q4⟩ := ixN_seq hj
    rw [h2.length] at q1 q3 q4
    obtain ⟨hs, _⟩ := I.lstM h1
    have hn := line63
    exact mt_popAt pins s σ H _ _ v us Q I rx rv ⟨l, vs, _, j, z, rfl, rfl, h1, by omega, by omega, q1, hz, h _ _ (.lst upd_same (h2.eraseIdx j)) r⟩
  · cases hp
theorem mm_insert : MtR X "list.insert" (rmD X.K .insert) := by
  intro pins s σ H x xs v us Q I rx rv h
  obtain ⟨F, M, c, l, ds, sF, rfl, hc, hd, h⟩ := h
  replace h := optK_ex h
  obtain ⟨p, hp, h⟩ := h
  unfold mmSem at hp
  split at hp <;> try (cases ‹Mm.insert = _›; done)
  · split at hp <;> cases hp
    rename_i hz
    simp only [Bool.and_eq_true, decide_eq_true_eq] at hz
    obtain ⟨vs, h1, h2⟩ := hc.lstI
    obtain ⟨w, y, rfl, hw, hy⟩ := hd.two
    cases hw
    exact mt_insert pins s σ H _ _ v us Q I rx rv ⟨l, vs, _, y, rfl, rfl, h1, by rw [← h2.length, ← big_eq]; exact hz.2, hz.1.1, by omega, h _ _ (.lst upd_same (((h2.take _).append (.cons hy .nil)).append (h2.drop _))) .non⟩
  · cases hp
theorem mm_extend : MtR X "list.extend" (rmD X.K .extend) := by
  intro pins s σ H x xs v us Q I rx rv h
  obtain ⟨F, M, c, l, ds, sF, rfl, hc, hd, h⟩ := h
  replace h := optK_ex h
  obtain ⟨p, hp, h⟩ := h
  unfold mmSem at hp
  split at hp <;> try (cases ‹Mm.extend = _›; done)
  · split at hp <;> cases hp
    rename_i hz
    obtain ⟨vs, h1, h2⟩ := hc.lstI
    obtain ⟨w, rfl, hw⟩ := hd.one
    obtain ⟨b, ws, rfl, g1, g2⟩ := RVt.lst sF (.inl hw)
    exact mt_extend pins s σ H _ _ v us Q I rx rv ⟨l, b, vs, ws, rfl, rfl, h1, g1, by rw [← h2.length, ← g2.length, ← big_eq]; exact hz, h _ _ (.lst upd_same (h2.append g2)) .non⟩
  · cases hp
theorem mm_clear : MtR X "list.clear" (rmD X.K .clear) := by
  intro pins s σ H x xs v us Q I rx rv h
  obtain ⟨F, M, c, l, ds, sF, rfl, hc, hd, h⟩ := h
  replace h := optK_ex h
  obtain ⟨p, hp, h⟩ := h
  unfold mmSem at hp
  split at hp <;> try (cases ‹Mm.clear = _›; done)
  · cases hp
    obtain ⟨vs, h1, h2⟩ := hc.lstI
    cases hd
    exact mt_clear pins s σ H _ _ v us Q I rx rv ⟨l, vs, rfl, rfl, h1, h _ _ (.lst upd_same .nil) .non⟩
  · cases hp
theorem upCont_rel {K : PySem.W.Frag} {F : Hp} {M : List Addr} {P : Hp} {σD : Slots} {s : Store} {σ : St} {H : Hp} {x : Opd} {v : V} {f : Cont → Option (Cont × D)} {k : D → Slots → Store → Prop} (R : Rel K F M P σD s σ H) (ox : OpdR K F M σ x v) (h : upCont x σD s f k) :
    ∃ c l p, v = .ref l ∧ CR K F M H l c ∧ f c = some p ∧ ∀ o, CR K F M (upd H l o) l p.1 → ∃ σD' s', k p.2 σD' s' ∧ Rel K F M P σD' s' σ (upd H l o) := by
  cases x with
  | slot i =>
    simp only [upCont] at h
    cases hi : σD[i]? with
    | none => rw [hi] at h; exact h.elim
    | some sl =>
      rw [hi] at h
      cases sl with
      | unb => exact h.elim
      | val d => exact h.elim
      | own c =>
        obtain ⟨p, hp, h⟩ := optK_ex h
        obtain ⟨a, ha, r, _⟩ := (R.slot i _ hi).ov
        cases ha.symm.trans ox
        exact ⟨c, a, p, rfl, r, hp, fun o hc => ⟨_, _, h, R.updSlot hi ha hc⟩⟩
  | val d =>
    cases d <;> try (exact h.elim)
    rename_i n
    simp only [upCont] at h
    obtain ⟨c, hc, h⟩ := optK_ex h
    obtain ⟨p, hp, h⟩ := optK_ex h
    cases ox with
    | ref hm => exact ⟨c, _, p, rfl, (R.mem n _ c hm hc).1, hp, fun o hc' => ⟨_, _, h, R.updMem hm hc hc'⟩⟩
theorem isLst_rel {K : PySem.W.Frag} {F : Hp} {M : List Addr} {H : Hp} {d : D} {v : V} (sF : Same F H) (r : RVt K F M H d v) (h : isLst d = true) : tyV K "list" v H := by
  cases d <;> try (simp [isLst] at h; done)
  obtain ⟨a, vs, rfl, h1, h2⟩ := r.lst sF
  exact .inl ⟨rfl, vs, .inl (.inl h1)⟩
section
variable {o e : Expr} {es : List Expr} {is : Es} {io : E} {name : Str} {apos pos : Pos} {id : String} {m : Mm}
/-- o.append(a), .. -/
theorem se_mm (slot : PySem.Slot "list" name id) (hty : typeOf (.builtin id) = pure (.type "method_descriptor")) (hm : MtR X id (rmD X.K m)) (ho : SEx X o io) (ha : SAs X (e :: es) is) (hbase : attributeBase o name X.env (eval o X.env) = eval o X.env)
    (hfew : ((backTo pos (starEach (e :: es) X.env)).all (fun x => !x.1) && (backToKw pos (keywordEach [] X.env)).all (fun x => x.1.isSome) && decide ((e :: es).length + ([] : List Keyword).length + (if ([] : List Keyword).isEmpty then 0 else 1) < 30)) = true)
    (hline : (apos.endLine == pos.line) = true) (hs : starEach (e :: es) X.env = (false, eval e X.env) :: starEach es X.env) (hpl : (backTo pos (starEach es X.env)).any (·.1) = false) (ht : TruE X (.Call (.Attribute o name apos) (e :: es) [] pos)) :
    SEx X (.Call (.Attribute o name apos) (e :: es) [] pos) (.mm m io is) := by
  refine sex_dft (w.eq_28 m io is) (fun _ _ _ _ _ => rfl) ht (pe_bm PySem.F.plainAttrs_list slot hty hm ho.o ha.v hbase hfew hline hs hpl) fun σ H Q ⟨F, M, P, σD, s, K, R, h, hK⟩ => ?_
  refine ⟨F, M, P, σD, s, _, R, h, fun x σ1 s1 F1 M1 H1 vx k1 sf1 e1 R1 ox => ?_⟩
  obtain ⟨d, hd, k1⟩ := optK_ex k1
  obtain ⟨k0, k1⟩ := k1
  refine ⟨isLst_rel R1.sF (R1.res ox hd) k0, ⟨F1, M1, P, σ1, s1, _, R1, k1, fun ds σ2 s2 F2 M2 H2 vs k2 sf2 e2 R2 q2 => ?_⟩⟩
  obtain ⟨c, l, p, rfl, hc, hp, hn⟩ := upCont_rel R2 (ox.mono sf2 e2) k2
  refine ⟨F2, M2, c, l, ds, R2.sF, rfl, hc, q2, ?_⟩
  rw [hp]
  intro o v hc' rv
  obtain ⟨σD', s', k', R'⟩ := hn o hc'
  exact hK _ _ _ F2 M2 _ _ k' (sf1.trans sf2) (e1.trans e2) R' rv
theorem se_mm0 (slot : PySem.Slot "list" name id) (hty : typeOf (.builtin id) = pure (.type "method_descriptor")) (hm : MtR X id (rmD X.K m)) (ho : SEx X o io) (hbase : attributeBase o name X.env (eval o X.env) = eval o X.env)
    (hline : (apos.endLine == pos.line) = true) (ht : TruE X (.Call (.Attribute o name apos) [] [] pos)) : SEx X (.Call (.Attribute o name apos) [] [] pos) (.mm m io .nil) := by
  refine sex_dft (w.eq_28 m io .nil) (fun _ _ _ _ _ => rfl) ht (pe_bm0 PySem.F.plainAttrs_list slot hty hm ho.o hbase hline) fun σ H Q ⟨F, M, P, σD, s, K, R, h, hK⟩ => ?_
  refine ⟨F, M, P, σD, s, _, R, h, fun x σ1 s1 F1 M1 H1 vx k1 sf1 e1 R1 ox => ?_⟩
  obtain ⟨d, hd, k1⟩ := optK_ex k1
  obtain ⟨k0, k1⟩ := k1
  rw [ws.eq_1] at k1
  dsimp only at k1
  obtain ⟨c, l, p, rfl, hc, hp, hn⟩ := upCont_rel R1 ox k1
  refine ⟨isLst_rel R1.sF (R1.res ox hd) k0, F1, M1, c, l, [], R1.sF, rfl, hc, .nil, ?_⟩
  rw [hp]
  intro o v hc' rv
  obtain ⟨σD', s', k', R'⟩ := hn o hc'
  exact hK _ _ _ F1 M1 _ _ k' sf1 e1 R' rv
end

/-! ### methods that change nothing -/
def rbD (K : PySem.W.Frag) (m : Bm) : V → List V → Hp → VK → Prop := fun x xs H Q => ∃ F M d ds, Same F H ∧ RVt K F M H d x ∧ RVts K F M H ds xs ∧ optK (bmSem m d ds) fun o => ∀ H' v, OutN K F M H H' o v → Q v H'
theorem seq_strs {K : PySem.W.Frag} {F : Hp} {M : List Addr} {H : Hp} {d : D} {v : V} {ss : List Str} (sF : Same F H) (hd : seqOf d = some (ss.map D.str)) (r : RVt K F M H d v) : ∃ a, v = .ref a ∧ (SqL K H a (ss.map V.str) ∨ SqT K H a (ss.map V.str)) := by
  cases d <;> simp only [seqOf] at hd <;> try (cases hd; done)
  · cases hd
    obtain ⟨a, vs, rfl, h1, h2, h3⟩ := r.tup sF
    have e := h3.toV
    subst e
    exact ⟨a, rfl, .inr h1⟩
  · cases hd
    obtain ⟨a, vs, rfl, h1, h3⟩ := r.lst sF
    have e := h3.toV
    subst e
    exact ⟨a, rfl, .inl (.inl (.inl h1))⟩
theorem bm_join : MtR X "str.join" (rbD X.K .join) := by
  intro pins s σ H x xs v us Q I rx rv h
  obtain ⟨F, M, d, ds, sF, hx, hd, h⟩ := h
  replace h := optK_ex h
  obtain ⟨p, hp, h⟩ := h
  unfold bmSem at hp
  split at hp <;> try (cases ‹Bm.join = _›; done)
  · replace hp := Option.bind_eq_some_iff.mp hp
    obtain ⟨ys, hy, hp⟩ := hp
    replace hp := Option.bind_eq_some_iff.mp hp
    obtain ⟨ss, hs, hp⟩ := hp
    split at hp <;> cases hp
    rename_i hz
    obtain rfl := hx.str
    obtain ⟨w, rfl, hw⟩ := hd.one
    have e := allStr_eq hs
    subst e
    obtain ⟨a, rfl, h1⟩ := seq_strs sF hy hw
    exact mt_join pins s σ H _ _ v us Q I rx rv ⟨_, a, ss, rfl, rfl, h1, hz, h _ _ (.old (.str _))⟩
  · cases hp
theorem bm_split : MtR X "str.split" (rbD X.K .split) := by
  intro pins s σ H x xs v us Q I rx rv h
  obtain ⟨F, M, d, ds, sF, hx, hd, h⟩ := h
  replace h := optK_ex h
  obtain ⟨p, hp, h⟩ := h
  unfold bmSem at hp
  split at hp <;> try (cases ‹Bm.split = _›; done)
  · split at hp <;> cases hp
    rename_i hz
    simp only [Bool.and_eq_true, decide_eq_true_eq] at hz
    obtain rfl := hx.str
    obtain ⟨w, rfl, hw⟩ := hd.one
    obtain rfl := hw.str
    exact mt_split pins s σ H _ _ v us Q I rx rv ⟨_, _, rfl, rfl, by rw [beq_eq_false_iff_ne]; omega, by rw [← big_eq]; exact hz.2, fun p hp => h _ _ (.lst hp .strs)⟩
  · cases hp
def Bm.T : Bm → String
  | .join => "str"
  | .split => "str"
  | .index => "list"
  | .tindex => "tuple"
  | .count => "list"
  | .get => "dict"
/-- of that built-in type, and without a dict of its own -/
def tyX (K : PySem.W.Frag) (T : String) (v : V) (H : Hp) : Prop := tyV K T v H ∨ (T = "tuple" ∧ ∃ a vs, v = .ref a ∧ SqX K H a vs)
theorem tyX_is {pins : List (Addr × Obj)} {σ : St} {H : Hp} {s : Shared} {T : String} {x : V} {v : Value} (I : Inv X pins σ H s) (r : RelV x v) (ty : tyX X.K T x H) :
    s.TypeIs v T ∧ ∀ a, v = .ref a → ∃ ob, s.heap.get? a = some ob ∧ ob.dict = none := by
  rcases ty with ty | ⟨rfl, a, vs, rfl, h⟩
  · exact tyV_is I r ty
  · cases (show v = Value.ref a from r)
    rcases h with ⟨o, h, e⟩ | ⟨o, its, n, hk, hc, _, _, _, e⟩
    · obtain ⟨h1, _, us, _, o2, h2, hc, _⟩ := I.hok _ _ h
      cases h1.symm.trans h2
      exact ⟨⟨o, h1, hc⟩, fun b hb => by cases hb; exact ⟨o, h1, e⟩⟩
    · have h1 := I.kIn a o hk
      exact ⟨⟨o, h1, hc⟩, fun b hb => by cases hb; exact ⟨o, h1, e⟩⟩
theorem bmok_rel {K : PySem.W.Frag} {F : Hp} {M : List Addr} {H : Hp} {d : D} {v : V} {m : Bm} (sF : Same F H) (r : RVt K F M H d v) (h : Bm.ok m d = true) : tyX K m.T v H := by
  cases m <;> cases d <;> try (simp [Bm.ok] at h; done)
  · obtain rfl := r.str
    exact .inl rfl
  · obtain rfl := r.str
    exact .inl rfl
  · obtain ⟨a, vs, rfl, h1, h2⟩ := r.lst sF
    exact .inl (.inl ⟨rfl, vs, .inl (.inl h1)⟩)
  · obtain ⟨a, vs, rfl, h1, h2, _⟩ := r.tup sF
    exact .inr ⟨rfl, a, vs, rfl, sqX_mono sF h2⟩
  · obtain ⟨a, vs, rfl, h1, h2⟩ := r.lst sF
    exact .inl (.inl ⟨rfl, vs, .inl (.inl h1)⟩)
  · obtain ⟨a, kvs, rfl, h1, _⟩ := r.dct sF
    exact .inl (.inr (.inr (.inl ⟨rfl, .inl ⟨kvs, h1⟩⟩)))
theorem pe_bmX {e o : Expr} {es : List Expr} {T id : String} {name : Str} {apos pos : Pos} {r : V → List V → Hp → VK → Prop} {to : TE} {t : TA} (pa : PlainAttrs T) (slot : PySem.Slot T name id) (hty : typeOf (.builtin id) = pure (.type "method_descriptor")) (hm : MtR X id r) (ho : PE X o to) (ha : PA X (e :: es) t)
    (hbase : attributeBase o name X.env (eval o X.env) = eval o X.env)
    (hfew : ((backTo pos (starEach (e :: es) X.env)).all (fun x => !x.1) && (backToKw pos (keywordEach [] X.env)).all (fun x => x.1.isSome) && decide ((e :: es).length + ([] : List Keyword).length + (if ([] : List Keyword).isEmpty then 0 else 1) < 30)) = true)
    (hline : (apos.endLine == pos.line) = true) (hs : starEach (e :: es) X.env = (false, eval e X.env) :: starEach es X.env) (hpl : (backTo pos (starEach es X.env)).any (·.1) = false) :
    PE X (.Call (.Attribute o name apos) (e :: es) [] pos) (fun σ H Q => to σ H fun x H1 => tyX X.K T x H1 ∧ t σ H1 fun xs H2 => r x xs H2 Q) := ⟨fun pins s σ H Q I h =>
  wpAny_Call_method_late hbase hfew hline rfl (thn (ho.run pins s σ H _ I h) fun v s1 ⟨x, H1, I1, r1, ty, q1⟩ => by
    obtain ⟨h1, h2⟩ := tyX_is I1 r1 ty
    have hA := ha.run pos pins s1 σ H1 _ I1 q1
    refine ⟨T, id, pa, slot, hty, h1, h2, ?_⟩
    rw [hs] at hA ⊢
    exact Calls.callWith_builtin (by show (false || (backTo pos (starEach es X.env)).any (·.1)) = false; rw [hpl]; rfl) (Calls.evalArgs_plain (thn hA fun us s2 ⟨xs, H2, I2, r2, q2⟩ => hm pins s2 σ H2 x xs v us Q I2 r1 r2 q2)))⟩
section
variable {o e : Expr} {es : List Expr} {is : Es} {io : E} {name : Str} {apos pos : Pos} {id : String} {m : Bm}
theorem se_bm (pa : PlainAttrs m.T) (slot : PySem.Slot m.T name id) (hty : typeOf (.builtin id) = pure (.type "method_descriptor")) (hm : MtR X id (rbD X.K m)) (ho : SEx X o io) (ha : SAs X (e :: es) is) (hbase : attributeBase o name X.env (eval o X.env) = eval o X.env)
    (hfew : ((backTo pos (starEach (e :: es) X.env)).all (fun x => !x.1) && (backToKw pos (keywordEach [] X.env)).all (fun x => x.1.isSome) && decide ((e :: es).length + ([] : List Keyword).length + (if ([] : List Keyword).isEmpty then 0 else 1) < 30)) = true)
    (hline : (apos.endLine == pos.line) = true) (hs : starEach (e :: es) X.env = (false, eval e X.env) :: starEach es X.env) (hpl : (backTo pos (starEach es X.env)).any (·.1) = false) (ht : TruE X (.Call (.Attribute o name apos) (e :: es) [] pos)) :
    SEx X (.Call (.Attribute o name apos) (e :: es) [] pos) (.bm m io is) := by
  refine sex_dft (w.eq_27 m io is) (fun _ _ _ _ _ => rfl) ht (pe_bmX pa slot hty hm ho.o ha.o hbase hfew hline hs hpl) fun σ H Q ⟨F, M, P, σD, s, K, R, h, hK⟩ => ?_
  refine ⟨F, M, P, σD, s, _, R, h, fun x σ1 s1 F1 M1 H1 vx k1 sf1 e1 R1 ox => ?_⟩
  obtain ⟨d, hd, k1⟩ := optK_ex k1
  obtain ⟨k0, k1⟩ := k1
  refine ⟨bmok_rel R1.sF (R1.res ox hd) k0, ⟨F1, M1, P, σ1, s1, _, R1, k1, fun xs σ2 s2 F2 M2 H2 vs k2 sf2 e2 R2 q2 => ?_⟩⟩
  obtain ⟨dx, hx, k2⟩ := optK_ex k2
  obtain ⟨ds, hds, k2⟩ := optK_ex k2
  obtain ⟨r, hr, k2⟩ := optK_ex k2
  refine ⟨F2, M2, dx, ds, R2.sF, R2.res (ox.mono sf2 e2) hx, R2.ress q2 hds, ?_⟩
  rw [hr]
  intro H' v q
  obtain ⟨F', sf', R', q'⟩ := R2.out q
  exact hK _ _ _ F' M2 H' v k2 (sf1.trans (sf2.trans sf')) (e1.trans e2) R' q'
end

/-! ### dict displays -/
theorem putD_len {ks vs : List D} {k v : D} (h : ks.length = vs.length) : (putD ks vs k v).1.length = (putD ks vs k v).2.length := by
  unfold putD
  cases keyAt ks k with
  | none => simp [h]
  | some i => simp [h]
theorem putK_cons_eq {p : Key × V} {r : List (Key × V)} {k : Key} {v : V} (e : p.1 = k) (hn : k ∉ r.map (·.1)) : putK (p :: r) k v = (p.1, v) :: r := by
  unfold putK
  rw [List.any_cons, decide_eq_true e, Bool.true_or, if_pos rfl, List.map_cons, if_pos e]
  congr 1
  clear e p
  induction r with
  | nil => rfl
  | cons q t ih =>
    simp only [List.map_cons, List.mem_cons, not_or] at hn
    rw [List.map_cons, if_neg (fun z => hn.1 z.symm), ih hn.2]
theorem putK_cons_ne {p : Key × V} {r : List (Key × V)} {k : Key} {v : V} (e : ¬ p.1 = k) : putK (p :: r) k v = p :: putK r k v := by
  unfold putK
  rw [List.any_cons, decide_eq_false e, Bool.false_or]
  split
  · rw [List.map_cons, if_neg e]
  · rfl
theorem putD_rel {K : PySem.W.Frag} {F : Hp} {M : List Addr} {q : Key} {d : D} {v : V} (rv : RV K F M d v) : ∀ {kvs : List (Key × V)} {ds : List D}, (kvs.map (·.1)).Nodup → RVs K F M ds (kvs.map (·.2)) →
    (putD (kvs.map fun p => keyD p.1) ds (keyD q) d).1 = (putK kvs q v).map (fun p => keyD p.1) ∧ RVs K F M (putD (kvs.map fun p => keyD p.1) ds (keyD q) d).2 ((putK kvs q v).map (·.2)) ∧ ((putK kvs q v).map (·.1)).Nodup
  | [], _, _, .nil => ⟨rfl, .cons rv .nil, by simp [putK]⟩
  | p :: r, _, nd, .cons (d := d0) (ds := ds) h0 hr => by
    simp only [List.map_cons, List.nodup_cons] at nd
    by_cases e : p.1 = q
    · have hp : putD ((p :: r).map fun p => keyD p.1) (d0 :: ds) (keyD q) d = ((p :: r).map fun p => keyD p.1, d :: ds) := by
        unfold putD
        rw [keyAt_map, List.findIdx?_cons, decide_eq_true e]
        rfl
      rw [hp, putK_cons_eq e (by rw [← e]; exact nd.1)]
      exact ⟨rfl, .cons rv hr, by simp only [List.map_cons, List.nodup_cons]; exact nd⟩
    · have hp : putD ((p :: r).map fun p => keyD p.1) (d0 :: ds) (keyD q) d = (keyD p.1 :: (putD (r.map fun p => keyD p.1) ds (keyD q) d).1, d0 :: (putD (r.map fun p => keyD p.1) ds (keyD q) d).2) := by
        unfold putD
        rw [keyAt_map, keyAt_map, List.findIdx?_cons, decide_eq_false e]
        cases r.findIdx? (fun p => decide (p.1 = q)) <;> simp
      obtain ⟨h1, h2, h3⟩ := putD_rel rv (q := q) nd.2 hr
      rw [hp, putK_cons_ne e]
      refine ⟨by rw [h1]; rfl, .cons h0 h2, ?_⟩
      simp only [List.map_cons, List.nodup_cons]
      refine ⟨fun z => ?_, h3⟩
      obtain ⟨y, hy, hz⟩ := List.mem_map.mp z
      unfold putK at hy
      split at hy
      · obtain ⟨u, hu, rfl⟩ := List.mem_map.mp hy
        refine nd.1 (List.mem_map.mpr ⟨u, hu, ?_⟩)
        rw [← hz]
        split <;> rfl
      · rcases List.mem_append.mp hy with hy | hy
        · exact nd.1 (List.mem_map.mpr ⟨y, hy, hz⟩)
        · simp at hy
          subst hy
          exact e hz.symm
inductive PRs (K : PySem.W.Frag) (F : Hp) (M : List Addr) : List (D × D) → List (V × V) → Prop
  | nil : PRs K F M [] []
  | cons {p : D × D} {q : V × V} {ps : List (D × D)} {qs : List (V × V)} : RV K F M p.1 q.1 → RV K F M p.2 q.2 → PRs K F M ps qs → PRs K F M (p :: ps) (q :: qs)
theorem PRs.length {K : PySem.W.Frag} {F : Hp} {M : List Addr} {ps : List (D × D)} {qs : List (V × V)} (h : PRs K F M ps qs) : ps.length = qs.length := by
  induction h with
  | nil => rfl
  | cons _ _ _ ih => rw [List.length_cons, List.length_cons, ih]
theorem mergeD_rel {K : PySem.W.Frag} {F : Hp} {M : List Addr} : ∀ {ps : List (D × D)} {qs : List (V × V)} {kvs : List (Key × V)} {ds : List D} {r : List D × List D}, PRs K F M ps qs → (kvs.map (·.1)).Nodup → RVs K F M ds (kvs.map (·.2)) →
    mergeD (kvs.map fun p => keyD p.1) ds ps = some r → ∃ more : List (Key × V), qs = more.map (fun kv => (kV kv.1, kv.2)) ∧ r.1 = (mergeK kvs more).map (fun p => keyD p.1) ∧ RVs K F M r.2 ((mergeK kvs more).map (·.2)) ∧ ((mergeK kvs more).map (·.1)).Nodup
  | [], _, kvs, ds, r, .nil, nd, hr, h => by
    simp only [mergeD, Option.some.injEq] at h
    subst h
    exact ⟨[], rfl, rfl, hr, nd⟩
  | (k, v) :: ps, _, kvs, ds, r, .cons h1 h2 h3, nd, hr, h => by
    simp only [mergeD] at h
    split at h <;> try (cases h; done)
    rename_i hf
    obtain ⟨q, rfl, hq⟩ := keyFits_of (H := F) (.inl h1) hf
    obtain ⟨g1, g2, g3⟩ := putD_rel h2 (q := q) nd hr
    rw [g1] at h
    obtain ⟨more, e1, e2, e3, e4⟩ := mergeD_rel h3 g3 g2 h
    refine ⟨(q, _) :: more, ?_, e2, e3, e4⟩
    rw [List.map_cons, ← e1, ← hq]
def tPs (X : Cx) (es : Es) : St → Hp → (List (V × V) → Hp → Prop) → Prop := fun σ H Q => ∃ F M P σD s K, Rel X.K F M P σD s σ H ∧ wPs es σD s K noX ∧
  ∀ x σD' s' F' M' H' v, K x σD' s' → Same F F' → Ext M M' → Rel X.K F' M' P σD' s' σ H' → PRs X.K F' M' x v → Q v H'
/-- the pairs of a display -/
structure SPs (X : Cx) (pos : Pos) (keys : List (Option Expr)) (values : List Expr) (is : Es) : Prop where
  ex : ∃ trs, PPs X pos keys values trs ∧ ∀ σ H Q, tPs X is σ H Q → tPairs trs σ H Q
theorem sp_nil {pos : Pos} : SPs X pos [] [] .nil := ⟨[], pps_nil, fun σ H Q ⟨F, M, P, σD, s, K, R, h, hK⟩ => by
  rw [wPs] at h
  exact hK _ _ _ F M H _ h (.refl F) (.refl M) R .nil⟩
theorem sp_cons {pos : Pos} {k v : Expr} {ks : List (Option Expr)} {vs : List Expr} {ik iv : E} {is : Es} (hk : SEx X k ik) (hv : SEx X v iv) (hr : SPs X pos ks vs is) : SPs X pos (some k :: ks) (v :: vs) (.cons ik (.cons iv is)) := by
  obtain ⟨trs, h1, h2⟩ := hr
  refine ⟨_, pps_cons hk.v hv.v h1, fun σ H Q ⟨F, M, P, σD, s, K, R, h, hK⟩ => ?_⟩
  rw [wPs] at h
  refine ⟨F, M, P, σD, s, _, R, h, fun o σ1 s1 F1 M1 H1 v1 k1 sf1 e1 R1 q1 => ?_⟩
  obtain ⟨G1, g1, R1, r1⟩ := R1.frz q1
  refine ⟨G1, M1, P, σ1, s1, _, R1, k1, fun o2 σ2 s2 F2 M2 H2 v2 k2 sf2 e2 R2 q2 => ?_⟩
  obtain ⟨G2, g2, R2, r2⟩ := R2.frz q2
  refine h2 σ H2 _ ⟨G2, M2, P, σ2, s2, _, R2, k2, fun ps σ3 s3 F3 M3 H3 qs k3 sf3 e3 R3 q3 => ?_⟩
  exact hK _ _ _ F3 M3 H3 _ k3 (sf1.trans (g1.trans (sf2.trans (g2.trans sf3)))) (e1.trans (e2.trans e3)) R3 (.cons (r1.mono (sf2.trans (g2.trans sf3)) (e2.trans e3)) (r2.mono sf3 e3) q3)
/-- an object is kept for the while -/
theorem Rel.guard {K : PySem.W.Frag} {F : Hp} {M : List Addr} {P : Hp} {σD : Slots} {s : Store} {σ : St} {H : Hp} {p : Addr} {o : HO} (R : Rel K F M P σD s σ H) (hp : H p = none) : Rel K F M (upd P p o) σD s σ (upd H p o) := by
  have R1 := R.junk (o := o) hp
  have q := R.off hp
  refine ⟨R1.sF, fun b u e => ?_, R1.mlen, fun n a c h1 h2 => ?_, R1.nd, fun a u e => ?_, R1.slen, fun i sl h => ?_, R1.dist⟩
  · by_cases z : b = p
    · subst z
      rw [upd_same] at e ⊢
      exact e
    · rw [upd_ne z] at e
      exact R1.sP b u e
  · obtain ⟨r1, r2, r3⟩ := R1.mem n a c h1 h2
    have hne : a ≠ p := fun z => q.m (z ▸ List.mem_of_getElem? h1)
    exact ⟨r1, r2, by rw [upd_ne hne]; exact r3⟩
  · by_cases z : a = p
    · subst z
      exact q.f
    · rw [upd_ne z] at e
      exact R1.fp a u e
  · have r := R1.slot i sl h
    cases r with
    | unb => exact .unb
    | val a b => exact .val a b
    | @own c a b1 b2 b3 b4 b5 =>
      have hne : a ≠ p := fun z => q.o i _ h (z ▸ b1)
      exact .own b1 b2 b3 (by rw [upd_ne hne]; exact b4) b5
theorem Rel.less {K : PySem.W.Frag} {F : Hp} {M : List Addr} {P P' : Hp} {σD : Slots} {s : Store} {σ : St} {H : Hp} (R : Rel K F M P' σD s σ H) (h : Same P P') : Rel K F M P σD s σ H := by
  refine ⟨R.sF, h.trans R.sP, R.mlen, fun n a c h1 h2 => ?_, R.nd, fun a u e => R.fp a u (h a u e), R.slen, fun i sl hi => ?_, R.dist⟩
  · obtain ⟨r1, r2, r3⟩ := R.mem n a c h1 h2
    exact ⟨r1, r2, h.free r3⟩
  · cases R.slot i sl hi with
    | unb => exact .unb
    | val a b => exact .val a b
    | own a b c d e => exact .own a b c (h.free d) e
/-- what was kept is off -/
theorem Rel.kept_off {K : PySem.W.Frag} {F : Hp} {M : List Addr} {P P' : Hp} {σD : Slots} {s : Store} {σ : St} {H : Hp} {p : Addr} {o : HO} (R : Rel K F M P' σD s σ H) (hp : P' p = some o) (hn : P p = none) : Off F M P σD σ p := by
  refine ⟨R.fp p o hp, hn, fun hm => ?_, fun i c h1 h2 => ?_⟩
  · obtain ⟨n, hn⟩ := mem_at hm
    obtain ⟨c, hc⟩ := R.mat hn
    have := (R.mem n p c hn hc).2.2
    rw [hp] at this
    cases this
  · obtain ⟨b, hb, _, _, hq, _⟩ := (R.slot i _ h1).ov
    rw [h2] at hb
    cases hb
    rw [hp] at hq
    cases hq
/-- an off object is changed -/
theorem Rel.updOff {K : PySem.W.Frag} {F : Hp} {M : List Addr} {P : Hp} {σD : Slots} {s : Store} {σ : St} {H : Hp} {p : Addr} {o : HO} (R : Rel K F M P σD s σ H) (q : Off F M P σD σ p) : Rel K F M P σD s σ (upd H p o) := by
  refine ⟨upd_same2 R.sF q.f, upd_same2 R.sP q.p, R.mlen, fun n a c h1 h2 => ?_, R.nd, R.fp, R.slen, fun i sl hi => ?_, R.dist⟩
  · obtain ⟨r1, r2, r3⟩ := R.mem n a c h1 h2
    have hne : a ≠ p := fun z => q.m (z ▸ List.mem_of_getElem? h1)
    exact ⟨r1.mono (.refl F) (.refl M) fun u x => by rw [upd_ne hne]; exact x, r2, r3⟩
  · refine (R.slot i sl hi).mono (.refl F) (.refl M) fun b h1 h2 h3 h4 ⟨c, hc⟩ => ⟨fun u x => ?_, h2, h4⟩
    subst hc
    have hne : b ≠ p := fun z => q.o i c hi (z ▸ h1)
    rw [upd_ne hne]
    exact x
theorem same_updP {P : Hp} {p : Addr} {o : HO} (h : P p = none) : Same P (upd P p o) := same_upd h
theorem se_dct {keys : List (Option Expr)} {values : List Expr} {is : Es} {pos : Pos} (hps : SPs X pos keys values is) (hall : keys.all (·.isSome) = true) (hl : keys.length = values.length) (h0 : keys ≠ []) (h15 : keys.length ≤ 15) :
    SEx X (.Dict keys values pos) (.dct is) := by
  obtain ⟨trs, h1, h2⟩ := hps
  refine sex_dft (w.eq_13 is) (fun _ _ _ _ _ => rfl) (fun _ => rfl) (pe_disp h1 hall hl h0 h15) fun σ H Q ⟨F, M, P, σD, s, K, R, h, hK⟩ p hp => ?_
  have q0 := R.off hp
  refine h2 σ _ _ ⟨F, M, _, σD, s, _, R.guard hp, h, fun ps σ1 s1 F1 M1 H1 qs k sf1 e1 R1 q => ?_⟩
  split at k <;> try (exact k.elim)
  rename_i hz
  obtain ⟨r, hr, k⟩ := optK_ex k
  obtain ⟨more, g1, g2, g3, g4⟩ := mergeD_rel (kvs := []) q (by simp) .nil hr
  have hq : qs.length ≤ 15 := by
    have := q.length
    omega
  refine ⟨R1.sP p _ upd_same, more, g1, by rw [g1, List.length_map] at hq; exact hq, ?_⟩
  have qo : Off F1 M1 P σ1 σ p := R1.kept_off upd_same q0.p
  have R2 := (R1.less (same_updP q0.p)).updOff (o := .dK (mergeK [] more)) qo
  refine hK _ _ _ F1 M1 _ _ k sf1 e1 R2 ⟨p, rfl, ?_, qo⟩
  rw [g2]
  exact .dct upd_same rfl g4 g3
end
end HP

set_option maxHeartbeats 2000000
/-! HpMeth: xs.index(x) of a list, t.index(x) of a tuple of texts, d.get(k), d.get(k, x). -/
namespace HP
open PySem L2 PySem.Spec PySem.W PySem.SeqAt
open PyProof.Rows hiding St

theorem RVt.flat {K : PySem.W.Frag} {F H : Hp} {M : List Addr} {d : D} {v : V} (h : RVt K F M H d v) (hf : isFlat d = true) : RV K F M d v := by
  rcases h with h | ⟨c, a, e, _⟩
  · exact h
  · cases c <;> (subst e; cases hf)
section
variable {X : Cx}
theorem bm_index (hu : X.A.units + 64 < cLine) : MtR X "list.index" (rbD X.K .index) := by
  intro pins s σ H x xs v us Q I rx rv h
  obtain ⟨F, M, d, ds, sF, hx, hd, h⟩ := h
  replace h := optK_ex h
  obtain ⟨p, hp, h⟩ := h
  have hp' : ∃ ys y, d = .lst ys ∧ ds = [y] ∧ (y.ok && plains ys && decide (deps ys ≤ 60)) = true ∧ ∃ j : Nat, ys.findIdx? (fun z => eqD z y) = some j ∧ p = .val (.int (j : Nat)) := by
    unfold bmSem at hp
    split at hp <;> try (cases ‹Bm.index = _›; done)
    · split at hp <;> try (cases hp; done)
      obtain ⟨j, hj, e⟩ := Option.map_eq_some_iff.mp hp
      exact ⟨_, _, rfl, rfl, by assumption, j, hj, e.symm⟩
    · cases hp
  obtain ⟨ys, y, rfl, rfl, hz, j, hj, rfl⟩ := hp'
  simp only [Bool.and_eq_true, decide_eq_true_eq] at hz
  obtain ⟨⟨z1, z2⟩, z3⟩ := hz
  obtain ⟨w, rfl, hw⟩ := hd.one
  obtain ⟨u, rfl, ru⟩ := vals1 rv
  obtain ⟨a, vs, rfl, h1, h2⟩ := hx.lst sF
  cases (show v = Value.ref a from rx)
  obtain ⟨hy, hyd⟩ := D.ok_plain z1
  obtain ⟨z, its, n, rv2, _, ho⟩ := I.lstM h1
  obtain ⟨as, rd⟩ := RVs.reads I sF _ _ its z2 h2 rv2
  obtain ⟨bs, r1⟩ := RVt.reads I sF hy hw ru
  have hpl : dataPlace (pys ys) y.py = some j := by
    unfold dataPlace
    rw [pys_map, List.findIdx?_map]
    exact hj
  obtain ⟨hj2, hit, hno⟩ := hit_at (vs := its.toArray) (by simpa using rd) (py_plains _ z2) hpl
  have hsz := rv2.length
  have hj3 : j < its.length := by simpa using hj2
  have hs := sizeLine_eq
  exact call_meets PySem.F.slot_list_index ⟨_, ho, rfl⟩ PySem.F.entry_list_index (PySem.F.args_list_index_2 _ _) (SeqAt.list_indexAt a its.toArray n none #[] u _ j hj2 (by omega) hit hno)
    ⟨ho, items_plain (vs := its.toArray) (by simpa using rd) r1 (py_plains _ z2) (py_plain _ hy) (by rw [py_dep _ hy]; omega), ⟨V.int (j : Nat), H, I.tok _, ⟨_, rfl⟩, h _ _ (.old (.int _))⟩⟩
theorem bm_count (hu : X.A.units + 64 < cLine) : MtR X "list.count" (rbD X.K .count) := by
  intro pins s σ H x xs v us Q I rx rv h
  obtain ⟨F, M, d, ds, sF, hx, hd, h⟩ := h
  replace h := optK_ex h
  obtain ⟨p, hp, h⟩ := h
  have hp' : ∃ ys y, d = .lst ys ∧ ds = [y] ∧ (y.ok && plains ys && decide (deps ys ≤ 60)) = true ∧ p = .val (.int (ys.countP fun x => eqD x y : Nat)) := by
    unfold bmSem at hp
    split at hp <;> try (cases ‹Bm.count = _›; done)
    · split at hp <;> try (cases hp; done)
      exact ⟨_, _, rfl, rfl, by assumption, (Option.some.inj hp).symm⟩
    · cases hp
  obtain ⟨ys, y, rfl, rfl, hz, rfl⟩ := hp'
  simp only [Bool.and_eq_true, decide_eq_true_eq] at hz
  obtain ⟨⟨z1, z2⟩, z3⟩ := hz
  obtain ⟨w, rfl, hw⟩ := hd.one
  obtain ⟨u, rfl, ru⟩ := vals1 rv
  obtain ⟨a, vs, rfl, h1, h2⟩ := hx.lst sF
  cases (show v = Value.ref a from rx)
  obtain ⟨hy, hyd⟩ := D.ok_plain z1
  obtain ⟨z, its, n, rv2, _, ho⟩ := I.lstM h1
  obtain ⟨as, rd⟩ := RVs.reads I sF _ _ its z2 h2 rv2
  obtain ⟨bs, r1⟩ := RVt.reads I sF hy hw ru
  refine count_list_data (vs := its.toArray) ⟨_, ho, rfl, _, rfl⟩ (by simpa using rd) r1 (py_plains _ z2) (py_plain _ hy) (by rw [py_dep _ hy]; omega) ⟨V.int ((pys ys).countP fun z => PyData.eqv z y.py : Nat), H, I.tok _, ⟨_, rfl⟩, ?_⟩
  rw [pys_map, List.countP_map]
  exact h _ _ (.old (.int _))
theorem bm_tindex : MtR X "tuple.index" (rbD X.K .tindex) := by
  intro pins s σ H x xs v us Q I rx rv h
  obtain ⟨F, M, d, ds, sF, hx, hd, h⟩ := h
  replace h := optK_ex h
  obtain ⟨p, hp, h⟩ := h
  have hp' : ∃ ys y ss, d = .tup ys ∧ ds = [.str y] ∧ allStr ys = some ss ∧ ∃ j : Nat, ss.findIdx? (fun z => decide (z = y)) = some j ∧ p = .val (.int (j : Nat)) := by
    unfold bmSem at hp
    split at hp <;> try (cases ‹Bm.tindex = _›; done)
    · replace hp := Option.bind_eq_some_iff.mp hp
      obtain ⟨ss, hs, hp⟩ := hp
      obtain ⟨j, hj, e⟩ := Option.map_eq_some_iff.mp hp
      exact ⟨_, _, ss, rfl, rfl, hs, j, hj, e.symm⟩
    · cases hp
  obtain ⟨ys, y, ss, rfl, rfl, hs, j, hj, rfl⟩ := hp'
  · skip
    have e := allStr_eq hs
    subst e
    obtain ⟨w, rfl, hw⟩ := hd.one
    obtain rfl := hw.str
    obtain ⟨a, vs, rfl, h1, _, h2⟩ := hx.tup sF
    have e := h2.toV
    subst e
    obtain ⟨hlt, g1, g2⟩ := List.findIdx?_eq_some_iff_getElem.mp hj
    refine mt_tup_index pins s σ H _ _ v us Q I rx rv ⟨a, ss, _, j, rfl, rfl, h1, ?_, fun m hm e => ?_, h _ _ (.old (.int _))⟩
    · rw [List.getElem?_eq_getElem hlt]
      exact congrArg some (of_decide_eq_true g1)
    · have hml : m < ss.length := by omega
      have := g2 m hm
      rw [List.getElem?_eq_getElem hml] at e
      have e := Option.some.inj e
      exact this (decide_eq_true e)
/-- d.get(k), d.get(k, x), by values -/
theorem dget_rel {K : PySem.W.Frag} {F H : Hp} {M : List Addr} {ks vs : List D} {k : D} {v u : V} (sF : Same F H) (hx : RVt K F M H (.dct ks vs) v) (hk : RVt K F M H k u) (hf : keyFits ks k = true) :
    ∃ a o, v = .ref a ∧ IsD H a ∧ DGet H a u o ∧ ∀ {e : D} {w : V}, RV K F M e w → RV K F M ((getD ks vs k).getD e) (o.getD w) := by
  obtain ⟨a, kvs, rfl, h1, rfl, h3, h4⟩ := hx.dct sF
  obtain ⟨q, rfl, rfl⟩ := keyFits_of hk hf
  refine ⟨a, valV kvs q, rfl, .inl ⟨kvs, .inl h1⟩, .inl ⟨kvs, q, .inl h1, rfl, rfl⟩, fun {e w} he => ?_⟩
  rcases getD_val q h4 with ⟨e1, e2⟩ | ⟨d, x, e1, e2, r⟩
  · rw [e1, e2]
    exact he
  · rw [e1, e2]
    exact r
theorem bm_get (hu : X.A.units + 1 < cLine) : MtR X "dict.get" (rbD X.K .get) := by
  intro pins s σ H x xs v us Q I rx rv h
  obtain ⟨F, M, d, ds, sF, hx, hd, h⟩ := h
  replace h := optK_ex h
  obtain ⟨p, hp, h⟩ := h
  unfold bmSem at hp
  split at hp <;> try (cases ‹Bm.get = _›; done)
  · split at hp <;> cases hp
    rename_i hf
    obtain ⟨w, rfl, hw⟩ := hd.one
    obtain ⟨a, o, rfl, _, g, r⟩ := dget_rel sF hx hw hf
    cases (show v = Value.ref a from rx)
    obtain ⟨u, rfl, ru⟩ := vals1 rv
    exact d_get1 hu I g ru fun w' s3 I3 rw' => ⟨_, H, I3, rw', h _ _ (.old (r .non))⟩
  · split at hp <;> cases hp
    rename_i hf
    obtain ⟨hf, hfl⟩ := Bool.and_eq_true_iff.mp hf
    obtain ⟨w, y, rfl, hw, hy⟩ := hd.two
    obtain ⟨a, o, rfl, _, g, r⟩ := dget_rel sF hx hw hf
    cases (show v = Value.ref a from rx)
    cases rv with
    | cons ru rv =>
      obtain ⟨uy, rfl, ruy⟩ := vals1 rv
      exact d_get2 hu I g ru ruy fun w' s3 I3 rw' => ⟨_, H, I3, rw', h _ _ (.old (r (hy.flat hfl)))⟩
  · cases hp
end
end HP

set_option maxHeartbeats 2000000
/-! HpStm: statements. -/
namespace HP
open PySem L2

/-- what is wanted behind a statement, from a state whose frozen things are F, whose store stands at M -/
structure EndsR (X : Cx) (J : St → Prop) (F : Hp) (M : List Addr) (P : Hp) (Pt : Post) (D : Ends) : Prop where
  nx : ∀ σD' s' F' M' σ' H', Pt.nx σD' s' → Same F F' → Ext M M' → J σ' → Rel X.K F' M' P σD' s' σ' H' → D.nx σ' H'
  bk : ∀ σD' s' F' M' σ' H', Pt.bk σD' s' → Same F F' → Ext M M' → J σ' → Rel X.K F' M' P σD' s' σ' H' → D.bk σ' H'
  ct : ∀ σD' s' F' M' σ' H', Pt.ct σD' s' → Same F F' → Ext M M' → J σ' → Rel X.K F' M' P σD' s' σ' H' → D.ct σ' H'
  rt : ∀ o σD' s' F' M' σ' H' v, Pt.rt o s' → Same F F' → Ext M M' → Rel X.K F' M' P σD' s' σ' H' → OutR X.K F' M' P σD' σ' H' o v → D.rt v H'
  ex : Pt.ex = noX
def tS (X : Cx) (J : St → Prop) (r : Slots → Store → Post → Prop) : TS := fun D σ H => ∃ F M P σD s Pt, Rel X.K F M P σD s σ H ∧ J σ ∧ r σD s Pt ∧ EndsR X J F M P Pt D
/-- the statement st is read as i -/
def SSt (X : Cx) (J : St → Prop) (st : Stmt) (i : S) : Prop := PS X st (tS X J (wS i))
def SSs (X : Cx) (J : St → Prop) (st : List Stmt) (i : Ss) : Prop := PSs X st (tS X J (wSs i))
/-- the names that may be bound -/
def JSet (J : St → Prop) (i : Nat) : Prop := ∀ σ v, J σ → J (σ.set i (some v))

section
variable {X : Cx} {J : St → Prop} {F F' : Hp} {M M' : List Addr} {P : Hp} {Pt Pt' : Post} {D D' : Ends} {e a b c : Expr} {ie ia ib ic : E} {pos : Pos} {st : Stmt} {sts : List Stmt} {i : S} {is : Ss}
theorem EndsR.mono (h : EndsR X J F M P Pt D) (s : Same F F') (x : Ext M M') : EndsR X J F' M' P Pt D :=
  ⟨fun a b c d e f k l m n o => h.nx a b c d e f k (s.trans l) (x.trans m) n o, fun a b c d e f k l m n o => h.bk a b c d e f k (s.trans l) (x.trans m) n o, fun a b c d e f k l m n o => h.ct a b c d e f k (s.trans l) (x.trans m) n o,
    fun a b c d e f g v k l m n o => h.rt a b c d e f g v k (s.trans l) (x.trans m) n o, h.ex⟩
theorem psImp {t t' : TS} (h : PS X st t) (k : ∀ D σ H, t' D σ H → t D σ H) : PS X st t' := ⟨fun pins s σ H D I q => h.run pins s σ H D I (k D σ H q)⟩
theorem pssImp {t t' : TS} (h : PSs X sts t) (k : ∀ D σ H, t' D σ H → t D σ H) : PSs X sts t' := ⟨fun pins s σ H D I q => h.run pins s σ H D I (k D σ H q)⟩

theorem ss_nil : SSs X J [] .nil := pssImp pss_nil fun D σ H ⟨F, M, P, σD, s, Pt, R, j, h, hE⟩ => by
  rw [wSs] at h
  exact hE.nx _ _ F M σ H h (.refl F) (.refl M) j R
theorem ss_cons (h1 : SSt X J st i) (h2 : SSs X J sts is) : SSs X J (st :: sts) (.cons i is) := pssImp (pss_cons h1 h2) fun D σ H ⟨F, M, P, σD, s, Pt, R, j, h, hE⟩ => by
  rw [wSs] at h
  refine ⟨F, M, P, σD, s, _, R, j, h, ?_, hE.bk, hE.ct, hE.rt, hE.ex⟩
  exact fun σD' s' F' M' σ' H' k sf ex j' R' => ⟨F', M', P, σD', s', Pt, R', j', k, hE.mono sf ex⟩
/-- a docstring is passed -/
theorem ss_doc {x k p p'} (h2 : SSs X J sts is) : SSs X J (.Expr (.Constant (.str x) k p) p' :: sts) is := pssImp (pss_cons ps_doc h2) fun D σ H h => h
theorem st_pass : SSt X J (.Pass pos) .pass := psImp ps_pass fun D σ H ⟨F, M, P, σD, s, Pt, R, j, h, hE⟩ => by
  rw [wS] at h
  exact hE.nx _ _ F M σ H h (.refl F) (.refl M) j R
theorem st_break : SSt X J (.Break pos) .brk := psImp ps_break fun D σ H ⟨F, M, P, σD, s, Pt, R, j, h, hE⟩ => by
  rw [wS] at h
  exact hE.bk _ _ F M σ H h (.refl F) (.refl M) j R
theorem st_cont : SSt X J (.Continue pos) .cont := psImp ps_continue fun D σ H ⟨F, M, P, σD, s, Pt, R, j, h, hE⟩ => by
  rw [wS] at h
  exact hE.ct _ _ F M σ H h (.refl F) (.refl M) j R
/-- never come to (no exception leaves) -/
theorem st_raise {C : Str} {f : Bool} {x : E} (hx : ∀ (σD : Slots) (s : Store) (K : QO), (w x).v σD s K noX → ∃ o σD' s', K o σD' s') : SSt X J st (.raise C f x) := psImp ps_never fun D σ H ⟨F, M, P, σD, s, Pt, R, j, h, hE⟩ => by
  rw [wS, hE.ex] at h
  obtain ⟨o, _, _, k⟩ := hx _ _ _ h
  exact k
theorem st_ex (he : SEx X e ie) (hs : swapsWith e none pos.line X.env = pure false) : SSt X J (.Expr e pos) (.ex ie) := psImp (ps_expr he.v hs) fun D σ H ⟨F, M, P, σD, s, Pt, R, j, h, hE⟩ => by
  rw [wS, hE.ex] at h
  exact ⟨F, M, P, σD, s, _, R, h, fun o σ1 s1 F1 M1 H1 v k sf ex R1 q => hE.nx _ _ F1 M1 σ H1 k sf ex j R1⟩
/-- the value of a name that is returned -/
theorem Rel.unbind {K : PySem.W.Frag} {σD : Slots} {s : Store} {σ : St} {H : Hp} (R : Rel K F M P σD s σ H) (n : Nat) : Rel K F M P (σD.set n .unb) s σ H := by
  refine ⟨R.sF, R.sP, R.mlen, R.mem, R.nd, R.fp, by rw [List.length_set]; exact R.slen, fun j sl hj => ?_, fun j k c1 c2 b h1 h2 h3 h4 => ?_⟩
  · rcases getElem?_set_cases hj with ⟨rfl, rfl⟩ | ⟨_, hj⟩
    · exact .unb
    · exact R.slot j sl hj
  · rcases getElem?_set_cases h1 with ⟨_, e⟩ | ⟨_, h1⟩
    · cases e
    · rcases getElem?_set_cases h2 with ⟨_, e⟩ | ⟨_, h2⟩
      · cases e
      · exact R.dist j k c1 c2 b h1 h2 h3 h4
theorem notVar_ret {x : E} (hn : ∀ n, x ≠ .var n) (σ : Slots) (s : Store) (P : Post) : wS (.ret x) σ s P = wE x σ s (fun o _ s => P.rt o s) P.ex := by
  cases x <;> first
    | (rw [wS] <;> intros <;> first | rfl | contradiction)
    | exact absurd rfl (hn _)
theorem st_ret (hn : ∀ n, ie ≠ .var n) (he : SEx X e ie) : SSt X J (.Return (some e) pos) (.ret ie) := psImp (ps_ret he.v) fun D σ H ⟨F, M, P, σD, s, Pt, R, j, h, hE⟩ => by
  rw [notVar_ret hn, hE.ex] at h
  exact ⟨F, M, P, σD, s, _, R, h, fun o σ1 s1 F1 M1 H1 v k sf ex R1 q => hE.rt o σ1 s1 F1 M1 σ H1 v k sf ex R1 q⟩
theorem st_retV {n : Nat} (p : PE X e (tVar n)) : SSt X J (.Return (some e) pos) (.ret (.var n)) := psImp (ps_ret p) fun D σ H ⟨F, M, P, σD, s, Pt, R, j, h, hE⟩ => by
  rw [wS] at h
  cases hs : σD[n]? with
  | none => rw [hs] at h; exact h.elim
  | some sl =>
    rw [hs] at h
    cases sl with
    | unb => exact h.elim
    | val d =>
      obtain ⟨v, hv, r⟩ := (R.slot n _ hs).vv
      exact ⟨v, hv, hE.rt _ σD s F M σ H v h (.refl F) (.refl M) R r⟩
    | own c =>
      obtain ⟨a, ha, r, q1, q2, q3⟩ := (R.slot n _ hs).ov
      refine ⟨_, ha, hE.rt _ _ s F M σ H _ h (.refl F) (.refl M) (R.unbind n) ⟨a, rfl, r, q1, q2, q3, fun j c' hj hz => ?_⟩⟩
      rcases getElem?_set_cases hj with ⟨_, e⟩ | ⟨hne, hj⟩
      · cases e
      · exact hne (R.dist n j c c' a hs hj ha hz)
theorem st_retN : SSt X J (.Return none pos) .retn := psImp ps_retN fun D σ H ⟨F, M, P, σD, s, Pt, R, j, h, hE⟩ => by
  rw [wS] at h
  exact hE.rt _ σD s F M σ H _ h (.refl F) (.refl M) R .non
theorem st_if {x y : List Stmt} {ix iy : Ss} (hc : SEx X c ic) (hx : SSs X J x ix) (hy : SSs X J y iy) : SSt X J (.If c x y pos) (.ife ic ix iy) := psImp (ps_if hc.t hx hy) fun D σ H ⟨F, M, P, σD, s, Pt, R, j, h, hE⟩ => by
  rw [wS, hE.ex] at h
  refine ⟨F, M, P, σD, s, _, R, h, fun b σ1 s1 F1 M1 H1 k sf ex R1 => ?_⟩
  cases b with
  | true =>
    rw [if_pos rfl] at k ⊢
    exact ⟨F1, M1, P, σ1, s1, Pt, R1, j, k, hE.mono sf ex⟩
  | false =>
    rw [if_neg Bool.false_ne_true] at k ⊢
    exact ⟨F1, M1, P, σ1, s1, Pt, R1, j, k, hE.mono sf ex⟩
/-- name = value -/
theorem st_set {n : Nat} {x : Str} {pos' : Pos} (hJ : JSet J n) (hN : X.N.Nodup) (hi : X.N[n]? = some x) (hx : Loc X.env.scope x) (he : SEx X e ie) (hs : swapsWith e (some (.Name x pos')) pos.line X.env = pure false) (hf : X.fn x = true ∨ X.env.scope.names.lookup x = some .local) :
    SSt X J (.Assign [.Name x pos'] e pos) (.asg (.name n) ie) := psImp (ps_set hN hi hx he.v hs hf) fun D σ H ⟨F, M, P, σD, s, Pt, R, j, h, hE⟩ => by
  rw [wS, hE.ex] at h
  exact ⟨F, M, P, σD, s, _, R, h, fun o σ1 s1 F1 M1 H1 v k sf ex R1 q => hE.nx _ _ F1 M1 _ H1 k sf ex (hJ _ _ j) (R1.put n q)⟩

/-! ### targets -/
/-- the value d stands as v; b: a pair that a loop hands out and that is taken apart at once -/
def RVb (b : Bool) (K : PySem.W.Frag) (F : Hp) (M : List Addr) (d : HP.D) (v : V) : Prop := RV K F M d v ∨ (b = true ∧ ∃ ds a vs, d = .tup ds ∧ v = .ref a ∧ SqT K F a vs ∧ RVs K F M ds vs)
theorem RVb.tup {b : Bool} {K : PySem.W.Frag} {F : Hp} {M : List Addr} {ds : List HP.D} {v : V} (h : RVb b K F M (.tup ds) v) : ∃ a vs, v = .ref a ∧ SqT K F a vs ∧ RVs K F M ds vs := by
  rcases h with h | ⟨_, ds', a, vs, e, rfl, h1, h2⟩
  · cases h with
    | tup h r => exact ⟨_, _, rfl, h.sqT, r⟩
  · cases e
    exact ⟨a, vs, rfl, h1, h2⟩
theorem RVb.strict {K : PySem.W.Frag} {F : Hp} {M : List Addr} {d : HP.D} {v : V} (h : RVb false K F M d v) : RV K F M d v := by
  rcases h with h | ⟨e, _⟩
  · exact h
  · cases e
def tTg (X : Cx) (J : St → Prop) (b : Bool) (t : Tg) : TG := fun v σ H Q => ∃ F M P σD s d K, Rel X.K F M P σD s σ H ∧ J σ ∧ RVb b X.K F M d v ∧ wTg t d σD s K ∧
  ∀ σD' s' F' M' σ' H', K σD' s' → Same F F' → Ext M M' → J σ' → Rel X.K F' M' P σD' s' σ' H' → Q σ' H'
def tTgs (X : Cx) (J : St → Prop) (t : List Tg) : TGs := fun v σ H Q => ∃ F M P σD s d K, Rel X.K F M P σD s σ H ∧ J σ ∧ RVs X.K F M d v ∧ wTgs t d σD s K ∧
  ∀ σD' s' F' M' σ' H', K σD' s' → Same F F' → Ext M M' → J σ' → Rel X.K F' M' P σD' s' σ' H' → Q σ' H'
def STg (X : Cx) (J : St → Prop) (b : Bool) (tg : Expr) (t : Tg) : Prop := PG X tg (tTg X J b t)
def STgs (X : Cx) (J : St → Prop) (tg : List Expr) (t : List Tg) : Prop := PGs X tg (tTgs X J t)
theorem pgImp {t t' : TG} (h : PG X e t) (k : ∀ v σ H Q, t' v σ H Q → t v σ H Q) : PG X e t' := ⟨fun pins s σ H v u Q I r q => h.run pins s σ H v u Q I r (k v σ H Q q)⟩
theorem pgsImp {es : List Expr} {t t' : TGs} (h : PGs X es t) (k : ∀ v σ H Q, t' v σ H Q → t v σ H Q) : PGs X es t' := ⟨fun pins s σ H v u Q I r q => h.run pins s σ H v u Q I r (k v σ H Q q)⟩
theorem tg_name {n : Nat} {x : Str} (hJ : JSet J n) (hN : X.N.Nodup) (hi : X.N[n]? = some x) (hx : Loc X.env.scope x) (hf : X.fn x = true ∨ X.env.scope.names.lookup x = some .local) : STg X J false (.Name x pos) (.name n) :=
  pgImp (pg_name hN hi hx hf) fun v σ H Q ⟨F, M, P, σD, s, d, K, R, j, r, h, hK⟩ => by
    rw [wTg] at h
    exact hK _ _ F M _ H h (.refl F) (.refl M) (hJ _ _ j) (R.put (o := .val d) n r.strict)
theorem tgs_nil : STgs X J [] [] := pgsImp pgs_nil fun v σ H Q ⟨F, M, P, σD, s, d, K, R, j, r, h, hK⟩ => by
  rw [wTgs] at h
  obtain ⟨rfl, h⟩ := h
  cases r
  exact ⟨rfl, hK _ _ F M _ H h (.refl F) (.refl M) j R⟩
theorem tgs_cons {es : List Expr} {t : Tg} {ts : List Tg} (h1 : STg X J false e t) (h2 : STgs X J es ts) (hs : (assignEach (e :: es) X.env).map (·.2) = assign e X.env :: (assignEach es X.env).map (·.2)) : STgs X J (e :: es) (t :: ts) :=
  pgsImp (pgs_cons h1 h2 hs) fun v σ H Q ⟨F, M, P, σD, s, d, K, R, j, r, h, hK⟩ => by
    cases r with
    | nil =>
      simp only [wTgs] at h
    | @cons d0 ds v0 vs r0 rr =>
      simp only [wTgs] at h
      refine ⟨v0, vs, rfl, F, M, P, σD, s, d0, _, R, j, .inl r0, h, fun σ1 s1 F1 M1 σ' H1 k sf ex j' R1 => ?_⟩
      exact ⟨F1, M1, P, σ1, s1, ds, _, R1, j', rr.mono sf ex, k, fun σ2 s2 F2 M2 σ'' H2 k2 sf2 ex2 j2 R2 => hK _ _ F2 M2 _ H2 k2 (sf.trans sf2) (ex.trans ex2) j2 R2⟩
theorem pgOr {t t' : TG} (h : PG X e t) (h' : PG X e t') : PG X e (fun v σ H Q => t v σ H Q ∨ t' v σ H Q) := ⟨fun pins s σ H v u Q I r q => q.elim (h.run pins s σ H v u Q I r) (h'.run pins s σ H v u Q I r)⟩
theorem RVb.lst {b : Bool} {K : PySem.W.Frag} {F : Hp} {M : List Addr} {ds : List HP.D} {v : V} (h : RVb b K F M (.lst ds) v) : ∃ a vs, v = .ref a ∧ F a = some (.lst vs) ∧ RVs K F M ds vs := by
  rcases h with h | ⟨_, ds', a, vs, e, _⟩
  · cases h with
    | lst h r => exact ⟨_, _, rfl, h, r⟩
  · cases e
theorem tg_tup {b : Bool} {es : List Expr} {k : Nat} {ts : List Tg} (hc : X.calm = true) (h : STgs X J es ts) (hn : (assignEach es X.env).length = ts.length) (hst : (assignEach es X.env).findIdx? (·.1) = none) : STg X J b (.Tuple es k pos) (.tup ts) :=
  pgImp (pgOr (pg_tup (n := ts.length) hc h hn hst) (pg_lst (n := ts.length) hc h hn hst)) fun v σ H Q ⟨F, M, P, σD, s, d, K, R, j, r, h, hK⟩ => by
    cases d <;> simp only [wTg] at h
    · rename_i xs
      obtain ⟨a, vs, rfl, h1, h3⟩ := r.tup
      obtain ⟨hl, h⟩ := h
      exact .inl ⟨a, vs, rfl, sqT_mono R.sF h1, by rw [← h3.length]; exact hl, F, M, P, σD, s, xs, K, R, j, h3, h, hK⟩
    · rename_i xs
      obtain ⟨a, vs, rfl, h1, h3⟩ := r.lst
      obtain ⟨hl, h⟩ := h
      exact .inr ⟨a, vs, rfl, .inl (.inl (R.sF _ _ h1)), by rw [← h3.length]; exact hl, F, M, P, σD, s, xs, K, R, j, h3, h, hK⟩
theorem st_asg {tg : Expr} {ts : List Tg} (ht : STg X J false tg (.tup ts)) (he : SEx X e ie) (hs : swapsWithSole [tg] e pos.line X.env = pure false) (hw : swappedStores [tg] e X.env = pure none) (h1 : (assignEach [tg] X.env).map (·.2) = [assign tg X.env]) :
    SSt X J (.Assign [tg] e pos) (.asg (.tup ts) ie) := psImp (ps_asg he.v ht hs hw h1) fun D σ H ⟨F, M, P, σD, s, Pt, R, j, h, hE⟩ => by
  rw [wS, hE.ex] at h
  refine ⟨F, M, P, σD, s, _, R, h, fun o σ1 s1 F1 M1 H1 v k sf ex R1 q => ?_⟩
  obtain ⟨F2, sf2, R2, rv⟩ := R1.frz q
  exact ⟨F2, M1, P, σ1, s1, _, _, R2, j, .inl rv, k, fun σ2 s2 F3 M3 σ' H3 k3 sf3 ex3 j3 R3 => hE.nx _ _ F3 M3 _ H3 k3 (sf.trans (sf2.trans sf3)) (ex.trans ex3) j3 R3⟩
end
end HP

set_option maxHeartbeats 2000000
/-! HpStm2: loops; several names at once; items and fields that are set. -/
namespace HP
open PySem L2

/-- the iterator hands out the items -/
def ItR (b : Bool) (K : PySem.W.Frag) (J : L2.It) (F : Hp) (M : List Addr) (items : List D) : Prop := ∀ F' M' P σD s σ H, Same F F' → Ext M M' → Rel K F' M' P σD s σ H → ∀ i : Nat,
  (∀ d, items[i]? = some d → J.go i H ∧ ∀ x H', J.yld i H x H' → ∃ F'', Same F' F'' ∧ Rel K F'' M' P σD s σ H' ∧ RVb b K F'' M' d x) ∧ (items[i]? = none → J.stop i H)
def tIt (X : Cx) (b : Bool) (it : HP.It) : TI := fun σ H R => ∃ F M P σD s K, Rel X.K F M P σD s σ H ∧ wIt it σD s K noX ∧
  ∀ items σD' s' F' M' H' J, K items σD' s' → Same F F' → Ext M M' → Rel X.K F' M' P σD' s' σ H' → ItR b X.K J F' M' items → R J H'
def SIt (X : Cx) (b : Bool) (tg iter : Expr) (it : HP.It) : Prop := PI X tg iter (tIt X b it)

section
variable {X : Cx} {J : St → Prop} {F F' : Hp} {M M' : List Addr} {P : Hp} {Pt Pt' : Post} {D D' : Ends} {e a b c tg iter : Expr} {ie ia ib ic : E} {pos : Pos} {st : Stmt} {sts : List Stmt} {i : S} {is : Ss} {it : HP.It} {t : Tg}
theorem piImp {t t' : TI} (h : PI X tg iter t) (k : ∀ σ H R, t' σ H R → t σ H R) : PI X tg iter t' := ⟨fun pins s σ H R I q => h.run pins s σ H R I (k σ H R q)⟩
theorem piOr {t t' : TI} (h : PI X tg iter t) (h' : PI X tg iter t') : PI X tg iter (fun σ H R => t σ H R ∨ t' σ H R) := ⟨fun pins s σ H R I q => q.elim (h.run pins s σ H R I) (h'.run pins s σ H R I)⟩
theorem it_lst {K : PySem.W.Frag} {a : Addr} {xs : List HP.D} {vs : List V} (h : SqL K F a vs) (r : RVs K F M xs vs) : ItR false K (Itl K a) F M xs := fun F' M' P σD s σ H sf ex R i => by
  have hq : SqL K H a vs := R.sF.seq (sf.seq h)
  refine ⟨fun d hd => ?_, fun hn => ⟨vs, hq, ?_⟩⟩
  · obtain ⟨v, hv, rv⟩ := r.get hd
    refine ⟨⟨vs, v, hq, hv⟩, fun x H' hy => ?_⟩
    obtain ⟨rfl, hy⟩ := hy
    cases (hy vs hq).symm.trans hv
    exact ⟨F', .refl F', R, .inl (rv.mono sf ex)⟩
  · rw [List.getElem?_eq_none_iff] at hn
    rw [← r.length]
    exact hn
theorem it_tup {K : PySem.W.Frag} {a : Addr} {xs : List HP.D} {vs : List V} (h : SqX K F a vs) (r : RVs K F M xs vs) : ItR false K (Itt K a) F M xs := fun F' M' P σD s σ H sf ex R i => by
  have hq : SqT K H a vs := sqT_mono R.sF (sqT_mono sf h.sqT)
  refine ⟨fun d hd => ?_, fun hn => ⟨vs, hq, ?_⟩⟩
  · obtain ⟨v, hv, rv⟩ := r.get hd
    refine ⟨⟨vs, v, hq, hv⟩, fun x H' hy => ?_⟩
    obtain ⟨rfl, hy⟩ := hy
    cases (hy vs hq).symm.trans hv
    exact ⟨F', .refl F', R, .inl (rv.mono sf ex)⟩
  · rw [List.getElem?_eq_none_iff] at hn
    rw [← r.length]
    exact hn
theorem upTo_get {a : Int} : ∀ {n i : Nat} {d : HP.D}, (upTo a n)[i]? = some d → i < n ∧ d = .int (a + i)
  | 0, i, d, h => by simp [upTo] at h
  | n + 1, 0, d, h => by
    simp only [upTo, List.getElem?_cons_zero, Option.some.injEq] at h
    subst h
    exact ⟨by omega, by simp⟩
  | n + 1, i + 1, d, h => by
    simp only [upTo, List.getElem?_cons_succ] at h
    obtain ⟨h1, h2⟩ := upTo_get h
    refine ⟨by omega, ?_⟩
    rw [h2]
    congr 1
    omega
theorem upTo_len {a : Int} : ∀ n : Nat, (upTo a n).length = n
  | 0 => rfl
  | n + 1 => by rw [upTo, List.length_cons, upTo_len n]
theorem it_rng {K : PySem.W.Frag} {lo : Int} {n : Nat} : ItR false K (Itr lo n) F M (upTo lo n) := fun F' M' P σD s σ H sf ex R i => by
  refine ⟨fun d hd => ?_, fun hn => ?_⟩
  · obtain ⟨h1, rfl⟩ := upTo_get hd
    refine ⟨h1, fun x H' hy => ?_⟩
    obtain ⟨rfl, rfl⟩ := hy
    exact ⟨F', .refl F', R, .inl (.int _)⟩
  · rw [List.getElem?_eq_none_iff, upTo_len] at hn
    exact hn
/-- a list, a tuple, the script, a text: walked -/
theorem pi_seq {te : TE} (he : PE X iter te) : PI X tg iter (fun σ H R => te σ H fun x H1 => (∃ p vs, x = .ref p ∧ SqL X.K H1 p vs ∧ R (Itl X.K p) H1) ∨ (∃ p vs, x = .ref p ∧ SqT X.K H1 p vs ∧ R (Itt X.K p) H1) ∨ ∃ y, x = .str y ∧ R (Its y) H1) := ⟨fun pins z σ G R J0 h =>
  thn (he.run pins z σ G _ J0 h) fun u z1 ⟨x, G1, J1, rx, q⟩ => by
    have fr : ∀ b ∈ [z1.heap.objs.size], FpOk X pins G1 b := fun b hb => by
      cases List.mem_singleton.mp hb
      exact J1.fpOk (Nat.le_refl _) (J1.hok.fresh (Nat.le_refl _))
    rcases q with ⟨p, vs, rfl, hq, q⟩ | ⟨p, vs, rfl, hq, q⟩ | ⟨y, rfl, q⟩
    · cases rx
      obtain ⟨ys, rv, hl, _⟩ := J1.list hq
      exact wpAny_pyIter_list hl.isList ⟨_, _, _, _, G1, rfl, J1.kept (t' := z1.toks) (fun b o w => Heap.get?_push_of_some _ w), turn_list p _, ⟨_, Heap.get?_push_size _ rfl, rfl, rfl⟩, fr, q⟩
    · cases rx
      obtain ⟨ys, rv, hl, _⟩ := J1.tuple hq
      have ht : z1.heap.IsTuple p ys.toArray := hl
      exact wpAny_pyIter_tuple ht ⟨_, _, _, _, G1, rfl, J1.kept (t' := z1.toks) (fun b o w => Heap.get?_push_of_some _ w), turn_tuple p _, ⟨_, Heap.get?_push_size _ rfl, rfl, rfl⟩, fr, q⟩
    · obtain ⟨t, rfl⟩ := rx
      cases ha : y.cps.all (· < 128)
      · exact wpAny_pyIter_wide ha (pi_one (tk := z1.toks) J1 _ (turn_str _ y t "str_iterator" (.inr rfl)) ⟨_, Heap.get?_push_size _ rfl, rfl, rfl⟩ q)
      · exact wpAny_pyIter_ascii ha (pi_one (tk := z1.toks) J1 _ (turn_str _ y t "str_ascii_iterator" (.inl rfl)) ⟨_, Heap.get?_push_size _ rfl, rfl, rfl⟩ q)⟩
theorem it_str {K : PySem.W.Frag} {x : Str} : ItR false K (Its x) F M (x.cps.toList.map fun c => .str ⟨#[c]⟩) := fun F' M' P σD s σ H sf ex R i => by
  rw [List.getElem?_map, Array.getElem?_toList]
  refine ⟨fun d hd => ?_, fun hn => ?_⟩
  · obtain ⟨c, hc, rfl⟩ := Option.map_eq_some_iff.mp hd
    refine ⟨(Array.getElem?_eq_some_iff.mp hc).1, fun y H' hy => ?_⟩
    obtain ⟨rfl, c', hc', rfl⟩ := hy
    rw [hc] at hc'
    cases hc'
    exact ⟨F', .refl F', R, .inl (.str _)⟩
  · rw [Option.map_eq_none_iff] at hn
    exact Array.getElem?_eq_none_iff.mp hn
theorem view_eq {d : HP.D} {s : Store} {d' : HP.D} (h : view s d = d') (hn : ∀ n, d ≠ .ref n) : d = d' := by
  cases d <;> first | exact h | exact absurd rfl (hn _)
theorem si_seq (he : SEx X iter ie) : SIt X false tg iter (.seq ie) := piImp (pi_seq he.v) fun σ H R0 ⟨F, M, P, σD, s, K, R, h, hK⟩ => by
  rw [wIt] at h
  refine ⟨F, M, P, σD, s, _, R, h, fun o σ1 s1 F1 M1 H1 v k sf ex R1 q => ?_⟩
  obtain ⟨xs, hx, k⟩ := optK_ex k
  obtain ⟨F2, sf2, R2, rv⟩ := R1.frz q
  generalize o.frz = d at hx rv
  cases d <;> try (simp [walkOf] at hx; done)
  · simp only [walkOf, Option.some.injEq] at hx
    subst hx
    cases rv
    exact .inr (.inr ⟨_, rfl, hK _ _ _ F2 M1 H1 _ k (sf.trans sf2) ex R2 it_str⟩)
  · simp only [walkOf, Option.some.injEq] at hx
    subst hx
    cases rv with
    | tup g1 g2 => exact .inr (.inl ⟨_, _, rfl, sqT_mono R2.sF g1.sqT, hK _ _ _ F2 M1 H1 _ k (sf.trans sf2) ex R2 (it_tup g1 g2)⟩)
  · simp only [walkOf, Option.some.injEq] at hx
    subst hx
    cases rv with
    | lst g1 g2 => exact .inl ⟨_, _, rfl, .inl (.inl (R2.sF _ _ g1)), hK _ _ _ F2 M1 H1 _ k (sf.trans sf2) ex R2 (it_lst (.inl (.inl g1)) g2)⟩
  · simp only [walkOf, Option.some.injEq] at hx
    subst hx
    cases rv with
    | scr g1 g2 => exact .inl ⟨_, _, rfl, R2.sF.seq g1, hK _ _ _ F2 M1 H1 _ k (sf.trans sf2) ex R2 (it_lst g1 g2)⟩
theorem rngOk_le {m n : Int} (h : rngOk m n = true) : -1000000 ≤ m ∧ m ≤ 1000000 ∧ -1000000 ≤ n ∧ n ≤ 1000000 := by
  unfold rngOk at h
  simp only [Bool.and_eq_true, decide_eq_true_eq] at h
  exact ⟨h.1.1.1, h.1.1.2, h.1.2, h.2⟩
theorem si_rng1 {p : Pos} (hg : Gl X "range") (hm : X.mg "range" = none) (ha : SEx X a ia) (hs : starEach [a] X.env = [(false, eval a X.env)]) : SIt X false tg (.Call (.Name "range" p) [a] [] pos) (.rng1 ia) :=
  piImp (pi_range1 hg hm (pa_cons ha.o pa_nil hs) hs) fun σ H R0 ⟨F, M, P, σD, s, K, R, h, hK⟩ => by
    rw [wIt] at h
    refine ⟨F, M, P, σD, s, _, R, h, fun x σ1 s1 F1 M1 H1 v k sf ex R1 q => ?_⟩
    obtain ⟨d, hd, k⟩ := optK_ex k
    cases d <;> try (exact False.elim k)
    rename_i n
    dsimp only at k
    split at k <;> try (exact k.elim)
    rename_i hz
    have := (R1.res q hd).int
    subst this
    have := rngOk_le hz
    exact ⟨n, rfl, by omega, by omega, hK _ _ _ F1 M1 H1 _ k sf ex R1 it_rng⟩
theorem si_rng2 {p : Pos} (hg : Gl X "range") (hm : X.mg "range" = none) (ha : SEx X a ia) (hb : SEx X b ib) (hs : starEach [a, b] X.env = [(false, eval a X.env), (false, eval b X.env)]) (hs2 : starEach [b] X.env = [(false, eval b X.env)]) :
    SIt X false tg (.Call (.Name "range" p) [a, b] [] pos) (.rng2 ia ib) :=
  piImp (pi_range2 hg hm (pa_cons ha.o (pa_cons hb.o pa_nil hs2) (by rw [hs, hs2])) hs hs2) fun σ H R0 ⟨F, M, P, σD, s, K, R, h, hK⟩ => by
    rw [wIt] at h
    refine ⟨F, M, P, σD, s, _, R, h, fun x σ1 s1 F1 M1 H1 v k1 sf1 e1 R1 ox => ⟨F1, M1, P, σ1, s1, _, R1, k1, fun y σ2 s2 F2 M2 H2 u k sf2 e2 R2 oy => ?_⟩⟩
    replace k := optK_ex k
    obtain ⟨dx, hx, k⟩ := k
    replace k := optK_ex k
    obtain ⟨dy, hy, k⟩ := k
    cases dx <;> cases dy <;> try (exact False.elim k)
    rename_i m n
    dsimp only at k
    split at k <;> try (exact k.elim)
    rename_i hz
    have := (R2.res (ox.mono sf2 e2) hx).int
    subst this
    have := (R2.res oy hy).int
    subst this
    have := rngOk_le hz
    exact ⟨m, n, rfl, ⟨by omega, by omega, by omega, by omega⟩, hK _ _ _ F2 M2 H2 _ k (sf1.trans sf2) (e1.trans e2) R2 it_rng⟩

/-! ### loops -/
theorem st_for {bb : Bool} {body : List Stmt} {ib : Ss} (hp : PassesOwn (model X.prog X.w) X.A X.env X.xe) (hc : X.calm = true) (hi : SIt X bb tg iter it) (hg : STg X J bb tg t) (hb : SSs X J body ib) (hs : ∀ x, foldedSetIterable iter X.env x = pure x) :
    SSt X J (.For tg iter body [] pos) (.for_ t it ib) := psImp (ps_for hp hc hi hg hb hs) fun D σ H ⟨F, M, P, σD, s, Pt, R, j, h, hE⟩ => by
  rw [wS, hE.ex] at h
  refine ⟨F, M, P, σD, s, _, R, h, fun items σ1 s1 F1 M1 H1 It k sf1 e1 R1 hI => ?_⟩
  refine ⟨fun i m σ H => m = items.length - i ∧ i ≤ items.length ∧ ∃ F' M' σD s, Same F1 F' ∧ Ext M1 M' ∧ Rel X.K F' M' P σD s σ H ∧ J σ ∧ wLoop (fun x (_ : Unit) σ s k => wTg t x σ s fun σ s => wSs ib σ s { Pt with nx := fun σ s => k () σ s, ct := fun σ s => k () σ s, bk := Pt.nx, ex := noX }) (items.drop i) () σD s fun _ σ s => Pt.nx σ s,
    ⟨items.length, by omega, by omega, F1, M1, σ1, s1, .refl F1, .refl M1, R1, j, by rw [List.drop_zero]; exact k⟩, fun i m σ H ⟨hm, hi, F', M', σD, s, sf, ex, R', j', k⟩ => ?_⟩
  have hr := hI F' M' P σD s σ H sf ex R' i
  cases hd : items[i]? with
  | none =>
    have hl : items.drop i = [] := by
      rw [List.getElem?_eq_none_iff] at hd
      exact List.drop_eq_nil_of_le hd
    rw [hl] at k
    simp only [wLoop] at k
    exact .inl ⟨hr.2 hd, hE.nx _ _ F' M' σ H k (sf1.trans sf) (e1.trans ex) j' R'⟩
  | some d =>
    have hlt := (List.getElem?_eq_some_iff.mp hd).1
    have hl : items.drop i = d :: items.drop (i + 1) := by
      rw [List.drop_eq_getElem_cons hlt, (List.getElem?_eq_some_iff.mp hd).2]
    rw [hl] at k
    simp only [wLoop] at k
    obtain ⟨hgo, hy⟩ := hr.1 d hd
    refine .inr ⟨hgo, fun σ' H' => ∃ F2 M2 σD s, Same F1 F2 ∧ Ext M1 M2 ∧ Rel X.K F2 M2 P σD s σ' H' ∧ J σ' ∧ wLoop (fun x (_ : Unit) σ s k => wTg t x σ s fun σ s => wSs ib σ s { Pt with nx := fun σ s => k () σ s, ct := fun σ s => k () σ s, bk := Pt.nx, ex := noX }) (items.drop (i + 1)) () σD s fun _ σ s => Pt.nx σ s,
      fun σ' H' ⟨F2, M2, σD2, s2, g1, g2, g3, g4, g5⟩ => ⟨items.length - (i + 1), by omega, rfl, by omega, F2, M2, σD2, s2, g1, g2, g3, g4, g5⟩, fun x H' hx => ?_⟩
    obtain ⟨F'', sf'', R'', rx⟩ := hy x H' hx
    refine ⟨F'', M', P, σD, s, d, _, R'', j', rx, k, fun σ2 s2 F2 M2 σ' H2 k2 sf2 e2 j2 R2 => ?_⟩
    have g1 : Same F1 F2 := sf.trans (sf''.trans sf2)
    have g2 : Ext M1 M2 := ex.trans e2
    exact ⟨F2, M2, P, σ2, s2, _, R2, j2, k2, fun a b c d e f k l m n o => ⟨c, d, a, b, g1.trans l, g2.trans m, o, n, k⟩, fun a b c d e f k l m n o => hE.nx a b c d e f k (sf1.trans (g1.trans l)) (e1.trans (g2.trans m)) n o,
      fun a b c d e f k l m n o => ⟨c, d, a, b, g1.trans l, g2.trans m, o, n, k⟩, fun a b c d e f g v k l m n o => hE.rt a b c d e f g v k (sf1.trans (g1.trans l)) (e1.trans (g2.trans m)) n o, rfl⟩
theorem st_while {body : List Stmt} {ib : Ss} (hp : PassesOwn (model X.prog X.w) X.A X.env X.xe) (hc : SEx X c ic) (hb : SSs X J body ib) : SSt X J (.While c body [] pos) (.while_ ic ib) := psImp (ps_while hp hc.t hb) fun D σ H ⟨F, M, P, σD, s, Pt, R, j, h, hE⟩ => by
  rw [wS, hE.ex] at h
  refine ⟨fun m σ H => ∃ F' M' σD s, Same F F' ∧ Ext M M' ∧ Rel X.K F' M' P σD s σ H ∧ J σ ∧ wWhile (fun σ s K => wT ic σ s K noX) (fun σ s k d => wSs ib σ s { Pt with nx := k, ct := k, bk := d, ex := noX }) m σD s Pt.nx,
    ⟨turns, F, M, σD, s, .refl F, .refl M, R, j, h⟩, fun m σ H ⟨F', M', σD, s, sf, ex, R', j', k⟩ => ?_⟩
  cases m with
  | zero => exact k.elim
  | succ m =>
    rw [wWhile] at k
    refine ⟨F', M', P, σD, s, _, R', k, fun b σ1 s1 F1 M1 H1 k1 sf1 e1 R1 => ?_⟩
    cases b with
    | false =>
      rw [if_neg Bool.false_ne_true] at k1 ⊢
      exact hE.nx _ _ F1 M1 σ H1 k1 (sf.trans sf1) (ex.trans e1) j' R1
    | true =>
      rw [if_pos rfl] at k1 ⊢
      refine ⟨fun σ' H' => ∃ F2 M2 σD s, Same F F2 ∧ Ext M M2 ∧ Rel X.K F2 M2 P σD s σ' H' ∧ J σ' ∧ wWhile (fun σ s K => wT ic σ s K noX) (fun σ s k d => wSs ib σ s { Pt with nx := k, ct := k, bk := d, ex := noX }) m σD s Pt.nx,
        fun σ' H' h => ⟨m, by omega, h⟩, F1, M1, P, σ1, s1, _, R1, j', k1, ?_⟩
      have g1 : Same F F1 := sf.trans sf1
      have g2 : Ext M M1 := ex.trans e1
      exact ⟨fun a b c d e f k l m n o => ⟨c, d, a, b, g1.trans l, g2.trans m, o, n, k⟩, fun a b c d e f k l m n o => hE.nx a b c d e f k (g1.trans l) (g2.trans m) n o,
        fun a b c d e f k l m n o => ⟨c, d, a, b, g1.trans l, g2.trans m, o, n, k⟩, fun a b c d e f g v k l m n o => hE.rt a b c d e f g v k (g1.trans l) (g2.trans m) n o, rfl⟩
end
end HP

set_option maxHeartbeats 2000000
/-! HpItems: enumerate, zip. -/
namespace HP
open PySem L2

theorem enumD_get : ∀ {xs : List D} {k : Int} {i : Nat}, (enumD k xs)[i]? = (xs[i]?).map fun x => .tup [.int (k + i), x]
  | [], k, i => by simp [enumD]
  | x :: xs, k, 0 => by simp [enumD]
  | x :: xs, k, i + 1 => by
    rw [enumD, List.getElem?_cons_succ, List.getElem?_cons_succ, enumD_get]
    congr 1
    funext y
    congr 3
    omega
theorem zipD_get : ∀ {xs ys : List D} {i : Nat}, (zipD xs ys)[i]? = match xs[i]?, ys[i]? with
    | some x, some y => some (.tup [x, y])
    | _, _ => none
  | [], ys, i => by cases ys <;> simp [zipD]
  | x :: xs, [], i => by
    simp only [zipD, List.getElem?_nil]
    cases (x :: xs)[i]? <;> rfl
  | x :: xs, y :: ys, 0 => by simp [zipD]
  | x :: xs, y :: ys, i + 1 => by
    simp only [zipD, List.getElem?_cons_succ]
    exact zipD_get
section
variable {X : Cx} {F : Hp} {M : List Addr} {e a b tg : Expr} {ie ia ib : E} {pos p tpos : Pos}
theorem pair_rel {K : PySem.W.Frag} {F : Hp} {M : List Addr} {P : Hp} {σD : Slots} {s : Store} {σ : St} {H : Hp} {T : Addr} {x y : D} {v u : V} (R : Rel K F M P σD s σ H) (hT : H T = none) (r1 : RV K F M x v) (r2 : RV K F M y u) :
    ∃ F', Same F F' ∧ Rel K F' M P σD s σ (upd H T (.tup [v, u])) ∧ RVb true K F' M (.tup [x, y]) (.ref T) := by
  have q := R.off hT
  have sf : Same F (upd F T (.tup [v, u])) := same_upd q.f
  exact ⟨_, sf, (R.junk hT).freeze q upd_same, .inr ⟨rfl, _, _, _, rfl, rfl, .of upd_same, .cons (r1.mono sf (.refl M)) (.cons (r2.mono sf (.refl M)) .nil)⟩⟩
theorem it_enum {K : PySem.W.Frag} {a : Addr} {xs : List HP.D} {vs : List V} (h : SqL K F a vs) (r : RVs K F M xs vs) : ItR true K (Ite K a) F M (enumD 0 xs) := fun F' M' P σD s σ H sf ex R i => by
  have hq : SqL K H a vs := R.sF.seq (sf.seq h)
  rw [enumD_get]
  refine ⟨fun d hd => ?_, fun hn => ⟨vs, hq, ?_⟩⟩
  · obtain ⟨x, hx, rfl⟩ := Option.map_eq_some_iff.mp hd
    obtain ⟨v, hv, rv⟩ := r.get hx
    refine ⟨⟨vs, v, hq, hv⟩, fun u H' hy => ?_⟩
    obtain ⟨T, y, rfl, hT, rfl, hy⟩ := hy
    cases (hy vs hq).symm.trans hv
    rw [Int.zero_add]
    exact pair_rel R hT (.int _) (rv.mono sf ex)
  · rw [Option.map_eq_none_iff, List.getElem?_eq_none_iff] at hn
    rw [← r.length]
    exact hn
theorem it_zip {K : PySem.W.Frag} {a b : Addr} {xs ys : List HP.D} {vs us : List V} (h : SqL K F a vs) (r : RVs K F M xs vs) (h2 : SqL K F b us) (r2 : RVs K F M ys us) : ItR true K (Itz K a b) F M (zipD xs ys) := fun F' M' P σD s σ H sf ex R i => by
  have hq : SqL K H a vs := R.sF.seq (sf.seq h)
  have hq2 : SqL K H b us := R.sF.seq (sf.seq h2)
  rw [zipD_get]
  refine ⟨fun d hd => ?_, fun hn => ⟨vs, us, hq, hq2, ?_⟩⟩
  · cases e1 : xs[i]? with
    | none => rw [e1] at hd; cases hd
    | some x =>
      cases e2 : ys[i]? with
      | none => rw [e1, e2] at hd; cases hd
      | some y =>
        rw [e1, e2] at hd
        cases hd
        obtain ⟨v, hv, rv⟩ := r.get e1
        obtain ⟨u, hu, ru⟩ := r2.get e2
        refine ⟨⟨vs, us, v, u, hq, hq2, hv, hu⟩, fun w H' hy => ?_⟩
        obtain ⟨T, x', y', rfl, hT, rfl, g1, g2⟩ := hy
        cases (g1 vs hq).symm.trans hv
        cases (g2 us hq2).symm.trans hu
        exact pair_rel R hT (rv.mono sf ex) (ru.mono sf ex)
  · rw [← r.length, ← r2.length]
    cases e1 : xs[i]? with
    | none => exact .inl (List.getElem?_eq_none_iff.mp e1)
    | some x =>
      cases e2 : ys[i]? with
      | none => exact .inr (List.getElem?_eq_none_iff.mp e2)
      | some y => rw [e1, e2] at hn; cases hn
end
end HP

set_option maxHeartbeats 2000000
/-! HpEnum: enumerate of a list or a tuple, zip of two lists or of two tuples, as what a for walks. -/
namespace HP
open PySem L2 PySem.Spec
open PyProof.Rows hiding St

set_option maxHeartbeats 1000000 in
theorem meets_enum1 {v : Value} {o : Obj} {H : Heap → Prop} (B : Begins v o H) :
    Meets (Builtin.«enumerate.__new__» ⟨[.type "enumerate", v], []⟩) (fun _ R s => H s.heap ∧
      R (.ok (.ret (.ref (s.heap.push o).objs.size))) { s with heap := (s.heap.push o).push { cls := .type "enumerate", data := .fields #[.none, .bool false, .ref s.heap.objs.size, rawInt 0, .none, .none] } }) :=
  .of_wp fun prog w A R s h => by
    obtain ⟨hp, g, d, tk, os⟩ := s
    obtain ⟨h1, h⟩ := h
    have sub := sub_enumerate
    have it1 : ∀ {A' : Around} {E : Value → Shared → Prop} {Q : Value → Shared → Prop}, Q (.ref hp.objs.size) ⟨hp.push o, g, d, tk, os⟩ → wpAny (model prog w) A' (pyIter v) Q E ⟨hp, g, d, tk, os⟩ :=
      fun q => B.iter prog w _ _ ⟨hp, g, d, tk, os⟩ _ h1 q
    wp_walk using it1
    refine wpAny_stack_any fun st => wpAny_pure ?_
    split
    · rename_i c _ _ _ _ _
      cases (c == Value.type "enumerate")
      · wp_walk using it1
        exact ⟨_, rfl, h⟩
      · wp_walk using it1
        exact ⟨_, rfl, h⟩
    · wp_walk using it1
      exact ⟨_, rfl, h⟩
/-- enumerate(v): its two new objects -/
theorem call_enum1 {prog : Program} {w : World} {A : Around} {E : Value → Shared → Prop} {s : Shared} {v : Value} {o : Obj} {H : Heap → Prop} {Q : Value → Shared → Prop} (B : Begins v o H) (h1 : H s.heap)
    (h : ∀ h', IsEnum h' (s.heap.objs.size + 1) s.heap.objs.size 0 .none → h'.get? s.heap.objs.size = some o → (∀ b o, s.heap.get? b = some o → h'.get? b = some o) → Q (.ref (s.heap.objs.size + 1)) { s with heap := h' }) :
    wpAny (model prog w) A (PySem.call (.type "enumerate") [v]) Q E s := by
  have hz : (s.heap.push o).objs.size = s.heap.objs.size + 1 := Heap.size_push ..
  have he : IsEnum ((s.heap.push o).push { cls := .type "enumerate", data := .fields #[.none, .bool false, .ref s.heap.objs.size, rawInt 0, .none, .none] }) (s.heap.objs.size + 1) s.heap.objs.size 0 .none := by
    have e := Heap.get?_push_size (s.heap.push o) (o := { cls := .type "enumerate", data := .fields #[.none, .bool false, .ref s.heap.objs.size, rawInt 0, .none, .none] }) rfl
    rw [hz] at e
    exact e
  refine callType_new F.called_enumerate (by decide) (F.typeCall_enumerate_1 _) (F.newCall_enumerate_1 _) (fun obj => F.args_object_init_2 obj _) F.entry_enumerate_new (meets_enum1 B) ⟨h1, ?_⟩
  show _ ∧ _
  rw [hz]
  exact ⟨⟨_, he, rfl⟩, h _ he (Heap.get?_push_of_some _ (Heap.get?_push_size _ B.free)) fun b o' x => Heap.get?_push_of_some _ (Heap.get?_push_of_some _ x)⟩

theorem next_enumT_end {prog : Program} {w : World} {A : Around} {E : Value → Shared → Prop} {s : Shared} {e it t : Addr} {i : Nat} {c : Int} {items : Array Value} {old : Value} {Q : Option Value → Shared → Prop} (hh : A.handled = none)
    (he : IsEnum s.heap e it c old) (hit : s.heap.IsTupleIter it t i) (hl : s.heap.IsTuple t items) (hx : items[i]? = none) (hQ : ∀ h', Heap.ExtBut it s.heap h' → Q none { s with heap := h' }) : wpAny (model prog w) A (pyNext (.ref e)) Q E s := by
  have ty : s.TypeIs (.ref e) "enumerate" := ⟨_, he, rfl⟩
  unfold pyNext
  refine wpAny_bind (wpAny_attempt (wpAny_callSpecial?_slot (name := Str.ofString "__next__") ty F.slot_enumerate_next (wpAny_call_entry F.slot_enumerate_next ty F.entry_enumerate_next ?_ (F.args_enumerate_next_1 _))))
  show wpAny _ _ (field (.ref e) 2 >>= _) _ _ _
  refine wpAny_bind (wpAny_field he rfl (x := .ref it) rfl (wpAny_bind (wpAny_nextOf_tuple_end (by exact hh) hit hl hx fun h' x k ⟨o, ho, hc⟩ => ?_)))
  exact wpAny_bind (wpAny_isInstance (T := "StopIteration") (b := true) ⟨o, ho, hc⟩ isSubtype_stop (wpAny_pure (hQ _ k)))

/-- the tuple at a, each item in a new pair -/
def IteT (K : PySem.W.Frag) (a : Addr) : L2.It :=
  ⟨fun i H => ∃ (xs : List V) (x : V), SqT K H a xs ∧ xs[i]? = some x, fun i H v H' => ∃ T x, v = .ref T ∧ H T = none ∧ H' = upd H T (.tup [.int (i : Nat), x]) ∧ ∀ xs, SqT K H a xs → xs[i]? = some x, fun i H => ∃ xs : List V, SqT K H a xs ∧ xs.length ≤ i⟩
theorem turn_enumT {P : Program} {w : World} {K : PySem.W.Frag} {elts : List Expr} {kk : Nat} {tpos : Pos} (a e it : Addr) :
    Turn P w K (.Tuple elts kk tpos) (IteT K a) [e, it] e (fun i h => (∃ old, IsEnum h e it ((i : Nat) : Int) old) ∧ h.IsTupleIter it a i ∧ e ≠ it ∧ a ≠ it ∧ a ≠ e) where
  mem := by simp
  obj := fun i h st b hb => by
    obtain ⟨⟨old, he⟩, ⟨o, ho, hc, hd⟩, _⟩ := st
    have e' : b = e ∨ b = it := by simpa using hb
    rcases e' with rfl | rfl
    · exact ⟨_, he, fun v q => nomatch q⟩
    · exact ⟨o, ho, fun v q => by rw [hd] at q; cases q⟩
  keep := fun i h h' st k => by
    obtain ⟨⟨old, he⟩, hi, hne⟩ := st
    exact ⟨⟨old, k e (by simp) _ he⟩, hi.at fun o q => k it (by simp) o q, hne⟩
  item := by
    intro X hP hw hK hc i pins s σ H E I hf st hg
    subst hP hw hK
    obtain ⟨⟨old, he⟩, hit, hne, n1, n2⟩ := st
    obtain ⟨xs, x, hq, hx⟩ := hg
    obtain ⟨its, rv, p, hz⟩ := I.tuple hq
    obtain ⟨u, hu, ru⟩ := rv.get hx
    have hel : e < s.heap.objs.size := Heap.lt_size he
    have hil : it < s.heap.objs.size := by
      obtain ⟨_, q, _⟩ := hit
      exact Heap.lt_size q
    have hlt : i < its.toArray.size := by
      have := (List.getElem?_eq_some_iff.mp hu).1
      simpa using this
    refine wpAny_pyNext_enum_itemD (Draws.tuple (A := X.A.in1) (I.ok.hd hc) it a n1 its.toArray) he ⟨hit, p⟩ hlt hne (by simp [hne, Ne.symm n2]) fun y h' tk hy ho st2 hT hsz hk => ?_
    obtain rfl : y = u := by
      have e1 : its[i]? = some y := by simpa using hy
      exact Option.some.inj (e1.symm.trans hu)
    refine ⟨_, rfl, wpAny_letOwnedTupleGo_enum (s := { s with heap := h', toks := tk + 1 }) ho fun h'' he' sb => ?_⟩
    have hT2 : h''.get? s.heap.objs.size = some { cls := .type "tuple", data := .seq #[.int i tk, y] } := (sb.2 _ (Nat.ne_of_gt hel)).trans hT
    have new : ObjOk X.prog X.w (upd H s.heap.objs.size (.tup [.int (i : Nat), x])) h'' s.heap.objs.size (.tup [.int (i : Nat), x]) :=
      ⟨by show 2 ≤ sizeLine; decide, [.int i tk, y], .cons ⟨_, rfl⟩ (.cons ru .nil), ⟨_, hT2, rfl, _, rfl⟩⟩
    have I1 : Inv X pins σ (upd H s.heap.objs.size (.tup [.int (i : Nat), x])) { s with heap := h'', toks := tk + 1 } :=
      I.turnedNew (ch := [e, it]) (fun b ob hb q => (sb.2 b (fun z => hb (by simp [z]))).trans (hk b ob (fun z => hb (by simp [z])) (fun z => hb (by simp [z])) q)) hf (Nat.le_refl _) new
    refine ⟨.ref s.heap.objs.size, _, I1, rfl, ⟨_, x, rfl, I.hok.fresh (Nat.le_refl _), rfl, fun ys hy => by rw [I.tuple_inj hy hq]; exact hx⟩, ⟨⟨y, ?_⟩, st2.1.at fun o q => (sb.2 it (Ne.symm hne)).trans q, hne, n1, n2⟩, fun b hb => ?_⟩
    · have e1 : ((i + 1 : Nat) : Int) = (i : Int) + 1 := by omega
      rw [e1]
      exact he'
    · have hb' : b < s.heap.objs.size := by
        have e' : b = e ∨ b = it := by simpa using hb
        rcases e' with rfl | rfl
        · exact hel
        · exact hil
      rw [upd_ne (Nat.ne_of_lt hb')]
      exact (hf b hb).1
  done := by
    intro X hP hw hK hc i pins s σ H E I hf st hg
    subst hP hw hK
    obtain ⟨⟨old, he⟩, hit, hne, n1, n2⟩ := st
    obtain ⟨xs, hq, hx⟩ := hg
    obtain ⟨its, rv, p, hz⟩ := I.tuple hq
    obtain ⟨f0, f1, f2, f3, f4, f5⟩ := hf it (by simp)
    have hl := rv.length
    refine next_enumT_end (I.ok.hd hc) he hit p (by simp; omega) fun h' eb => ⟨rfl, I.turned (t' := s.toks) (fun b o hb q => eb b o hb q) f0 f1 f3 f4 f5⟩
  self := fun A i s Q E st h => by
    obtain ⟨⟨_, he⟩, _⟩ := st
    exact wpAny_pyIter_enum he h
theorem pi_enumA {X : Cx} {e : Expr} {ta : TA} {p pos tpos : Pos} {elts : List Expr} {kk : Nat} (hg : Gl X "enumerate") (hm : X.mg "enumerate" = none) (ha : PA X [e] ta) (hs : starEach [e] X.env = [(false, eval e X.env)]) :
    PI X (.Tuple elts kk tpos) (.Call (.Name "enumerate" p) [e] [] pos) (fun σ H R => ta σ H fun vs H1 => ∃ a xs, vs = [.ref a] ∧ ((SqL X.K H1 a xs ∧ R (Ite X.K a) H1) ∨ (SqT X.K H1 a xs ∧ R (IteT X.K a) H1))) := by
  refine ⟨fun pins s σ H R I h => Call_ (ld_blt I hg hm boot_enumerate (PyProof.Rows.callWith_type1 (thn (ha.run pos pins s σ H _ I h) fun us s1 ⟨vs, H1, I1, r1, q1⟩ => ?_) hs rfl))⟩
  obtain ⟨a, xs, rfl, q⟩ := q1
  obtain ⟨u, rfl, ru⟩ := vals1 r1
  cases (show u = Value.ref a from ru)
  have fr : ∀ b ∈ [s1.heap.objs.size + 1, s1.heap.objs.size], FpOk X pins H1 b := fun b hb => by
    have e' : b = s1.heap.objs.size + 1 ∨ b = s1.heap.objs.size := by simpa using hb
    have hle : s1.heap.objs.size ≤ b := by
      rcases e' with rfl | rfl
      · exact Nat.le_add_right _ _
      · exact Nat.le_refl _
    exact I1.fpOk hle (I1.hok.fresh hle)
  rcases q with ⟨hq, q⟩ | ⟨hq, q⟩
  · obtain ⟨its, rv, pl, hz⟩ := I1.list hq
    exact call_enumerate_list pl.isList fun h' he hit hsz hk => wpAny_pyIter_enum he
      ⟨s1.heap.objs.size + 1, [s1.heap.objs.size + 1, s1.heap.objs.size], _, _, H1, rfl, I1.kept (t' := s1.toks) hk, turn_enum a (s1.heap.objs.size + 1) s1.heap.objs.size, ⟨⟨.none, he⟩, hit, Nat.succ_ne_self _⟩, fr, q⟩
  · obtain ⟨its, rv, pl, hz⟩ := I1.tuple hq
    have hl : a < s1.heap.objs.size := by
      obtain ⟨o, ho, _⟩ := id pl
      exact Heap.lt_size ho
    exact call_enum1 (begins_tuple a its.toArray) (show s1.heap.IsTuple a its.toArray from pl) fun h' he hit hk => wpAny_pyIter_enum he
      ⟨s1.heap.objs.size + 1, [s1.heap.objs.size + 1, s1.heap.objs.size], _, _, H1, rfl, I1.kept (t' := s1.toks) hk, turn_enumT a (s1.heap.objs.size + 1) s1.heap.objs.size, ⟨⟨.none, he⟩, ⟨_, hit, rfl, rfl⟩, Nat.succ_ne_self _, Nat.ne_of_lt hl, Nat.ne_of_lt (Nat.lt_succ_of_lt hl)⟩, fr, q⟩

section
variable {X : Cx} {F : Hp} {M : List Addr} {e a b tg : Expr} {ie ia ib : E} {pos p tpos : Pos} {elts : List Expr} {kk : Nat}
theorem it_enumT {K : PySem.W.Frag} {a : Addr} {xs : List HP.D} {vs : List V} (h : SqT K F a vs) (r : RVs K F M xs vs) : ItR true K (IteT K a) F M (enumD 0 xs) := fun F' M' P σD s σ H sf ex R i => by
  have hq : SqT K H a vs := sqT_mono R.sF (sqT_mono sf h)
  rw [enumD_get]
  refine ⟨fun d hd => ?_, fun hn => ⟨vs, hq, ?_⟩⟩
  · obtain ⟨x, hx, rfl⟩ := Option.map_eq_some_iff.mp hd
    obtain ⟨v, hv, rv⟩ := r.get hx
    refine ⟨⟨vs, v, hq, hv⟩, fun u H' hy => ?_⟩
    obtain ⟨T, y, rfl, hT, rfl, hy⟩ := hy
    cases (hy vs hq).symm.trans hv
    rw [Int.zero_add]
    exact pair_rel R hT (.int _) (rv.mono sf ex)
  · rw [Option.map_eq_none_iff, List.getElem?_eq_none_iff] at hn
    rw [← r.length]
    exact hn
theorem it_zipT {K : PySem.W.Frag} {a b : Addr} {xs ys : List HP.D} {vs us : List V} (h : SqT K F a vs) (r : RVs K F M xs vs) (h2 : SqT K F b us) (r2 : RVs K F M ys us) : ItR true K (RZ.ItzT K a b) F M (zipD xs ys) := fun F' M' P σD s σ H sf ex R i => by
  have hq : SqT K H a vs := sqT_mono R.sF (sqT_mono sf h)
  have hq2 : SqT K H b us := sqT_mono R.sF (sqT_mono sf h2)
  rw [zipD_get]
  refine ⟨fun d hd => ?_, fun hn => ⟨vs, us, hq, hq2, ?_⟩⟩
  · cases e1 : xs[i]? with
    | none => rw [e1] at hd; cases hd
    | some x =>
      cases e2 : ys[i]? with
      | none => rw [e1, e2] at hd; cases hd
      | some y =>
        rw [e1, e2] at hd
        cases hd
        obtain ⟨v, hv, rv⟩ := r.get e1
        obtain ⟨u, hu, ru⟩ := r2.get e2
        refine ⟨⟨vs, us, v, u, hq, hq2, hv, hu⟩, fun w H' hy => ?_⟩
        obtain ⟨T, x', y', rfl, hT, rfl, g1, g2⟩ := hy
        cases (g1 vs hq).symm.trans hv
        cases (g2 us hq2).symm.trans hu
        exact pair_rel R hT (rv.mono sf ex) (ru.mono sf ex)
  · rw [← r.length, ← r2.length]
    cases e1 : xs[i]? with
    | none => exact .inl (List.getElem?_eq_none_iff.mp e1)
    | some x =>
      cases e2 : ys[i]? with
      | none => exact .inr (List.getElem?_eq_none_iff.mp e2)
      | some y => rw [e1, e2] at hn; cases hn
/-- a sequence that stands as v: a frozen list, a tuple -/
theorem seq_rel {K : PySem.W.Frag} {F : Hp} {M : List Addr} {d : HP.D} {v : V} {xs : List HP.D} (rv : RV K F M d v) (h : seqOf d = some xs) :
    ∃ p vs, v = .ref p ∧ RVs K F M xs vs ∧ ((SqL K F p vs ∧ ∃ l, d = .lst l) ∨ (SqT K F p vs ∧ ∃ l, d = .tup l)) := by
  cases rv <;> simp only [seqOf] at h <;> try (cases h; done)
  · cases h
    rename_i h1 h2
    exact ⟨_, _, rfl, h2, .inr ⟨h1.sqT, _, rfl⟩⟩
  · cases h
    rename_i h1 h2
    exact ⟨_, _, rfl, h2, .inl ⟨.inl (.inl h1), _, rfl⟩⟩
theorem si_enum (hg : Gl X "enumerate") (hm : X.mg "enumerate" = none) (he : SEx X e ie) (hs : starEach [e] X.env = [(false, eval e X.env)]) : SIt X true (.Tuple elts kk tpos) (.Call (.Name "enumerate" p) [e] [] pos) (.enum ie .nil) :=
  piImp (pi_enumA hg hm (pa_cons he.v pa_nil hs) hs) fun σ H R0 ⟨F, M, P, σD, s, K, R, h, hK⟩ => by
    rw [wIt] at h
    refine ⟨F, M, P, σD, s, _, R, h, fun o σ1 s1 F1 M1 H1 v k sf ex R1 q => ?_⟩
    obtain ⟨xs, hx, k⟩ := optK_ex k
    rw [ws.eq_1] at k
    simp only [ress, optK_some] at k
    obtain ⟨F2, sf2, R2, rv⟩ := R1.frz q
    obtain ⟨p, vs, rfl, hr, hq⟩ := seq_rel rv hx
    refine ⟨p, vs, rfl, ?_⟩
    rcases hq with ⟨hq, _⟩ | ⟨hq, _⟩
    · exact .inl ⟨R2.sF.seq hq, hK _ _ _ F2 M1 H1 _ k (sf.trans sf2) ex R2 (it_enum hq hr)⟩
    · exact .inr ⟨sqT_mono R2.sF hq, hK _ _ _ F2 M1 H1 _ k (sf.trans sf2) ex R2 (it_enumT hq hr)⟩
theorem si_zip (hg : Gl X "zip") (hm : X.mg "zip" = none) (ha : SEx X a ia) (hb : SEx X b ib) (hs : starEach [a, b] X.env = (false, eval a X.env) :: starEach [b] X.env) (hs2 : starEach [b] X.env = [(false, eval b X.env)]) (hpl : (backTo pos (starEach [b] X.env)).any (·.1) = false) :
    SIt X true (.Tuple elts kk tpos) (.Call (.Name "zip" p) [a, b] [] pos) (.zip (.cons ia (.cons ib .nil))) :=
  piImp (RZ.pi_zipA hg hm (sa_cons hs ha (sa_cons hs2 hb sa_nil)).v hs hpl) fun σ H R0 ⟨F, M, P, σD, s, K, R, h, hK⟩ => by
    rw [wIt] at h
    refine ⟨F, M, P, σD, s, _, R, h, fun ds σ1 s1 F1 M1 H1 vs k sf ex R1 q => ?_⟩
    split at k
    · obtain ⟨u, w, rfl, q1, q2⟩ := q.two
      obtain ⟨p1, v1, rfl, g1, g2⟩ := RVt.lst R1.sF (.inl q1)
      obtain ⟨p2, v2, rfl, g3, g4⟩ := RVt.lst R1.sF (.inl q2)
      cases q1 with
      | lst f1 r1 =>
        cases q2 with
        | lst f2 r2 => exact ⟨_, _, _, _, rfl, .inl ⟨R1.sF.seq (.inl (.inl f1)), R1.sF.seq (.inl (.inl f2)), hK _ _ _ F1 M1 H1 _ k sf ex R1 (it_zip (.inl (.inl f1)) r1 (.inl (.inl f2)) r2)⟩⟩
    · obtain ⟨u, w, rfl, q1, q2⟩ := q.two
      cases q1 with
      | tup f1 r1 =>
        cases q2 with
        | tup f2 r2 => exact ⟨_, _, _, _, rfl, .inr ⟨sqT_mono R1.sF f1.sqT, sqT_mono R1.sF f2.sqT, hK _ _ _ F1 M1 H1 _ k sf ex R1 (it_zipT f1.sqT r1 f2.sqT r2)⟩⟩
    · exact k.elim
end
end HP

set_option maxHeartbeats 2000000
/-! HpStm3: several names at once; items and fields that are set; the instance that is made. -/
namespace HP
open PySem L2

/-- what several expressions hand on; the addresses of the new containers -/
inductive OutsR (K : PySem.W.Frag) (F : Hp) (M : List Addr) (P : Hp) (σD : Slots) (σ : St) (H : Hp) : List Out → List V → List Addr → Prop
  | nil : OutsR K F M P σD σ H [] [] []
  | val {d : D} {v : V} {os : List Out} {vs : List V} {as : List Addr} : RV K F M d v → OutsR K F M P σD σ H os vs as → OutsR K F M P σD σ H (.val d :: os) (v :: vs) as
  | own {c : Cont} {a : Addr} {os : List Out} {vs : List V} {as : List Addr} : CR K F M H a c → Off F M P σD σ a → a ∉ as → OutsR K F M P σD σ H os vs as → OutsR K F M P σD σ H (.own c :: os) (.ref a :: vs) (a :: as)
def tOuts (X : Cx) (r : Slots → Store → (List Out → Slots → Store → Prop) → QX → Prop) : TA := fun σ H Q => ∃ F M P σD s K, Rel X.K F M P σD s σ H ∧ r σD s K noX ∧
  ∀ x σD' s' F' M' H' v as, K x σD' s' → Same F F' → Ext M M' → Rel X.K F' M' P σD' s' σ H' → OutsR X.K F' M' P σD' σ H' x v as → Q v H'
def setsV : St → List Nat → List V → St
  | σ, i :: is, v :: vs => setsV (σ.set i (some v)) is vs
  | σ, _, _ => σ

section
variable {K : PySem.W.Frag} {F F' : Hp} {M M' : List Addr} {P P' : Hp} {σD σD' : Slots} {s s' : Store} {σ σ' : St} {H H' : Hp}
theorem Off.less {a : Addr} (h : Off F M P' σD σ a) (k : Same P P') : Off F M P σD σ a := ⟨h.f, k.free h.p, h.m, h.o⟩
theorem OutsR.less {os : List Out} {vs : List V} {as : List Addr} (h : OutsR K F M P' σD σ H os vs as) (k : Same P P') : OutsR K F M P σD σ H os vs as := by
  induction h with
  | nil => exact .nil
  | val a _ ih => exact .val a ih
  | own a b c _ ih => exact .own a (b.less k) c ih
theorem OutsR.offs {os : List Out} {vs : List V} {as : List Addr} (h : OutsR K F M P σD σ H os vs as) : ∀ a ∈ as, P a = none := by
  induction h with
  | nil => exact fun _ h => nomatch h
  | val _ _ ih => exact ih
  | own _ b _ _ ih =>
    intro x hx
    rcases List.mem_cons.mp hx with rfl | hx
    · exact b.p
    · exact ih x hx
theorem Off.put {a : Addr} {o : Out} {v : V} {i : Nat} (h : Off F M P σD σ a) (hn : ∀ c, o = .own c → v ≠ .ref a) : Off F M P (σD.set i o.slot) (σ.set i (some v)) a := by
  refine ⟨h.f, h.p, h.m, fun j c hj hz => ?_⟩
  rcases getElem?_set_cases hj with ⟨rfl, e⟩ | ⟨hne, hj⟩
  · rcases getElem?_set_cases hz with ⟨_, e2⟩ | ⟨n, _⟩
    · cases e2
      cases o with
      | val d => cases e
      | own c' => exact hn c' rfl rfl
    · exact n rfl
  · rw [List.getElem?_set_ne hne] at hz
    exact h.o j c hj hz
theorem OutsR.put {os : List Out} {vs : List V} {as : List Addr} {o : Out} {v : V} {i : Nat} (h : OutsR K F M P σD σ H os vs as) (hn : ∀ a ∈ as, ∀ c, o = .own c → v ≠ .ref a) : OutsR K F M P (σD.set i o.slot) (σ.set i (some v)) H os vs as := by
  induction h with
  | nil => exact .nil
  | val a _ ih => exact .val a (ih hn)
  | own a b c _ ih => exact .own a (b.put (hn _ (List.mem_cons_self ..))) c (ih fun x hx => hn x (List.mem_cons_of_mem _ hx))
theorem OutsR.len {os : List Out} {vs : List V} {as : List Addr} (h : OutsR K F M P σD σ H os vs as) : os.length = vs.length := by
  induction h with
  | nil => rfl
  | val _ _ ih => rw [List.length_cons, List.length_cons, ih]
  | own _ _ _ _ ih => rw [List.length_cons, List.length_cons, ih]
theorem Rel.sets {os : List Out} {vs : List V} {as : List Addr} : ∀ {σD : Slots} {σ : St} {is : List Nat}, Rel K F M P σD s σ H → OutsR K F M P σD σ H os vs as → Rel K F M P (setsS σD is os) s (setsV σ is vs) H := by
  induction os generalizing vs as with
  | nil =>
    intro σD σ is R h
    cases h
    cases is <;> exact R
  | cons o os ih =>
    intro σD σ is R h
    cases is with
    | nil => cases h <;> exact R
    | cons i is =>
      cases h with
      | val r h => exact ih (R.put (o := .val _) i r) (h.put fun _ _ _ e => nomatch e)
      | @own c a _ vs as hc q hn h => exact ih (R.put (o := .own c) i ⟨a, rfl, hc, q⟩) (h.put (o := .own c) fun b hb c' _ e => hn (by cases e; exact hb))
theorem Rel.guardOff {p : Addr} {o : HO} (R : Rel K F M P σD s σ H) (q : Off F M P σD σ p) (ho : H p = some o) : Rel K F M (upd P p o) σD s σ H := by
  refine ⟨R.sF, same_upd2 R.sP ho, R.mlen, fun n a c h1 h2 => ?_, R.nd, fun a u e => ?_, R.slen, fun i sl h => ?_, R.dist⟩
  · obtain ⟨r1, r2, r3⟩ := R.mem n a c h1 h2
    have hne : a ≠ p := fun z => q.m (z ▸ List.mem_of_getElem? h1)
    exact ⟨r1, r2, by rw [upd_ne hne]; exact r3⟩
  · by_cases z : a = p
    · subst z
      exact q.f
    · rw [upd_ne z] at e
      exact R.fp a u e
  · have r := R.slot i sl h
    cases r with
    | unb => exact .unb
    | val a b => exact .val a b
    | @own c a b1 b2 b3 b4 b5 =>
      have hne : a ≠ p := fun z => q.o i _ h (z ▸ b1)
      exact .own b1 b2 b3 (by rw [upd_ne hne]; exact b4) b5
end
section
variable {X : Cx} {J : St → Prop} {e a b c tg : Expr} {ie ia ib ic : E} {pos : Pos} {es : List Expr} {is : Es}
theorem ou_nil : PA X [] (tOuts X (ws .nil).outs) := paImp pa_nil fun σ H Q ⟨F, M, P, σD, s, K, R, h, hK⟩ => by
  rw [ws.eq_1] at h
  exact hK _ _ _ F M H _ _ h (.refl F) (.refl M) R .nil
theorem ou_cons (hs : starEach (a :: es) X.env = (false, eval a X.env) :: starEach es X.env) (ha : SEx X a ia) (hr : PA X es (tOuts X (ws is).outs)) : PA X (a :: es) (tOuts X (ws (.cons ia is)).outs) :=
  paImp (pa_cons ha.v hr hs) fun σ H Q ⟨F, M, P, σD, s, K, R, h, hK⟩ => by
    rw [ws.eq_2] at h
    refine ⟨F, M, P, σD, s, _, R, h, fun o σ1 s1 F1 M1 H1 v1 k sf1 e1 R1 q => ?_⟩
    cases o with
    | val d =>
      refine ⟨F1, M1, P, σ1, s1, _, R1, k, fun os σ2 s2 F2 M2 H2 vs as k2 sf2 e2 R2 q2 => ?_⟩
      exact hK _ _ _ F2 M2 H2 _ _ k2 (sf1.trans sf2) (e1.trans e2) R2 (.val (RV.mono q sf2 e2) q2)
    | own c =>
      obtain ⟨p, rfl, r, qo⟩ := q
      obtain ⟨o, ho⟩ := r.has
      refine ⟨F1, M1, _, σ1, s1, _, R1.guardOff qo ho, k, fun os σ2 s2 F2 M2 H2 vs as k2 sf2 e2 R2 q2 => ?_⟩
      have hp := same_updP (o := o) qo.p
      refine hK _ _ _ F2 M2 H2 _ _ k2 (sf1.trans sf2) (e1.trans e2) (R2.less hp) (.own (r.mono sf2 e2 fun u hu => ?_) (R2.kept_off upd_same qo.p) (fun hm => ?_) (q2.less hp))
      · rw [ho] at hu
        cases hu
        exact R2.sP p o upd_same
      · have := q2.offs p hm
        rw [upd_same] at this
        cases this
theorem st_par2 {n m : Nat} {x y : Str} {px py pt : Pos} {kt k2 pt2} (hJ : JSet J n) (hJ2 : JSet J m) (hc : X.calm = true) (hN : X.N.Nodup) (hi : X.N[n]? = some x) (hj : X.N[m]? = some y) (hij : n ≠ m)
    (hx : X.env.scope.names.lookup x = some .local) (hy : X.env.scope.names.lookup y = some .local) (ha : PA X [a, b] (tOuts X (ws is).outs))
    (hw : swappedStores [.Tuple [.Name x px, .Name y py] kt pt] (.Tuple [a, b] k2 pt2) X.env = pure (some [x, y])) (hs : swapsWithSole [.Tuple [.Name x px, .Name y py] kt pt] (.Tuple [a, b] k2 pt2) pos.line X.env = pure false) :
    SSt X J (.Assign [.Tuple [.Name x px, .Name y py] kt pt] (.Tuple [a, b] k2 pt2) pos) (.par [n, m] is) := psImp (ps_par hc hN hi hj hij hx hy ha hw hs) fun D σ H ⟨F, M, P, σD, s, Pt, R, j, h, hE⟩ => by
  rw [wS, hE.ex] at h
  refine ⟨F, M, P, σD, s, _, R, h, fun os σ1 s1 F1 M1 H1 vs as k sf1 e1 R1 q => ?_⟩
  obtain ⟨hl, k⟩ := k
  have hv := q.len.symm.trans hl
  match vs, hv with
  | [u, v], _ => exact ⟨u, v, rfl, hE.nx _ _ F1 M1 _ H1 k sf1 e1 (hJ2 _ _ (hJ _ _ j)) (R1.sets (is := [n, m]) q)⟩
theorem st_par3 {n m l : Nat} {x y z : Str} {px py pz pt : Pos} {kt k2 pt2} (hJ : JSet J n) (hJ2 : JSet J m) (hJ3 : JSet J l) (hc : X.calm = true) (hN : X.N.Nodup) (hi : X.N[n]? = some x) (hj : X.N[m]? = some y) (hk : X.N[l]? = some z) (hij : n ≠ m) (hil : n ≠ l) (hjl : m ≠ l)
    (hx : X.env.scope.names.lookup x = some .local) (hy : X.env.scope.names.lookup y = some .local) (hz : X.env.scope.names.lookup z = some .local) (ha : PA X [a, b, c] (tOuts X (ws is).outs))
    (hw : swappedStores [.Tuple [.Name x px, .Name y py, .Name z pz] kt pt] (.Tuple [a, b, c] k2 pt2) X.env = pure (some [x, y, z])) (hs : swapsWithSole [.Tuple [.Name x px, .Name y py, .Name z pz] kt pt] (.Tuple [a, b, c] k2 pt2) pos.line X.env = pure false) :
    SSt X J (.Assign [.Tuple [.Name x px, .Name y py, .Name z pz] kt pt] (.Tuple [a, b, c] k2 pt2) pos) (.par [n, m, l] is) := psImp (ps_par3 hc hN hi hj hk hij hil hjl hx hy hz ha hw hs) fun D σ H ⟨F, M, P, σD, s, Pt, R, j, h, hE⟩ => by
  rw [wS, hE.ex] at h
  refine ⟨F, M, P, σD, s, _, R, h, fun os σ1 s1 F1 M1 H1 vs as k sf1 e1 R1 q => ?_⟩
  obtain ⟨hl, k⟩ := k
  have hv := q.len.symm.trans hl
  match vs, hv with
  | [u, v, t], _ => exact ⟨u, v, t, rfl, hE.nx _ _ F1 M1 _ H1 k sf1 e1 (hJ3 _ _ (hJ2 _ _ (hJ _ _ j))) (R1.sets (is := [n, m, l]) q)⟩

/-! ### o[k] = v -/
theorem psetOr {t t' : TSet} (h : PSet X t) (h' : PSet X t') : PSet X (fun o i v H Q => t o i v H Q ∨ t' o i v H Q) := fun pins s σ H o i v ov iv u Q I r1 r2 r3 q =>
  q.elim (h pins s σ H o i v ov iv u Q I r1 r2 r3) (h' pins s σ H o i v ov iv u Q I r1 r2 r3)
theorem st_setix {o k v : Expr} {io ik iv : E} {p' : Pos} (hu : X.A.units + 1 < cLine) (ho : SEx X o io) (hk : SEx X k ik) (hv : SEx X v iv) (hs : swapsWithSole [.Subscript o k p'] v pos.line X.env = pure false) (hw : swappedStores [.Subscript o k p'] v X.env = pure none)
    (h1 : (assignEach [.Subscript o k p'] X.env).map (·.2) = [assign (.Subscript o k p') X.env])
    (ha : ∀ u, assign (.Subscript o k p') X.env u = (do
      let y ← holding [u] (eval o X.env)
      let z ← holding [u, y] (eval k X.env)
      standAt p'
      holding [u, y, z] (setItem y z u)
      release [u, y, z] [])) :
    SSt X J (.Assign [.Subscript o k p'] v pos) (.setix io ik iv) := psImp (ps_asg hv.v (pg_sub ho.o hk.v (psetOr set_list (set_dict hu)) ha) hs hw h1) fun D σ H ⟨F, M, P, σD, s, Pt, R, j, h, hE⟩ => by
  rw [wS, hE.ex] at h
  refine ⟨F, M, P, σD, s, _, R, h, fun ou σ1 s1 F1 M1 H1 v1 k1 sf1 e1 R1 q1 => ?_⟩
  obtain ⟨G1, g1, R1, rv⟩ := R1.frz q1
  refine ⟨G1, M1, P, σ1, s1, _, R1, k1, fun x σ2 s2 F2 M2 H2 v2 k2 sf2 e2 R2 q2 => ⟨F2, M2, P, σ2, s2, _, R2, k2, fun ok σ3 s3 F3 M3 H3 v3 k3 sf3 e3 R3 q3 => ?_⟩⟩
  obtain ⟨G3, g3, R3, rk⟩ := R3.frz q3
  have rv3 := rv.mono (sf2.trans (sf3.trans g3)) (e2.trans e3)
  obtain ⟨c, l, p, rfl, hc, hp, hn⟩ := upCont_rel R3 (q2.mono (sf3.trans g3) e3) k3
  have sfA := sf1.trans (g1.trans (sf2.trans (sf3.trans g3)))
  have eA := e1.trans (e2.trans e3)
  obtain ⟨c', hc', rfl⟩ := Option.map_eq_some_iff.mp hp
  generalize hkd : ok.frz = kd at hc' rk
  cases hc with
  | lst b1 b2 =>
    cases kd <;> simp only [setSem] at hc' <;> try (cases hc'; done)
    obtain ⟨jj, hj, rfl⟩ := Option.map_eq_some_iff.mp hc'
    cases rk
    obtain ⟨σ4, s4, k4, R4⟩ := hn _ (.lst upd_same (b2.set jj rv3))
    rw [b2.length] at hj
    exact .inl ⟨l, _, _, jj, rfl, rfl, b1, hj, hE.nx _ _ G3 M3 σ _ k4 sfA eA j R4⟩
  | dct b1 b2 b3 b4 =>
    subst b2
    simp only [setSem] at hc'
    split at hc' <;> cases hc'
    rename_i hf
    simp only [Bool.and_eq_true, decide_eq_true_eq] at hf
    obtain ⟨qk, rfl, rfl⟩ := keyFits_of (H := H3) (.inl rk) hf.1
    obtain ⟨t1, t2, t3⟩ := putD_rel rv3 (q := qk) b3 b4
    obtain ⟨σ4, s4, k4, R4⟩ := hn _ (.dct upd_same t1 t3 t2)
    have hz := hf.2
    rw [List.length_map] at hz
    have hb := big_eq
    unfold big at hb
    exact .inr ⟨l, _, rfl, DPut.k b1 (by omega), hE.nx _ _ G3 M3 σ _ k4 sfA eA j R4⟩
  | ins b1 b2 b3 => simp [setSem] at hc'

/-! ### o.f = v -/
theorem putF_rel {K : PySem.W.Frag} {F : Hp} {M : List Addr} {n : Str} {d : D} {v : V} (rv : RV K F M d v) : ∀ {fs : List (Str × V)} {ds : List D}, RVs K F M ds (fs.map (·.2)) →
    (HP.putF (fs.map (·.1)) ds n d).1 = (L2.putF n v fs).map (·.1) ∧ RVs K F M (HP.putF (fs.map (·.1)) ds n d).2 ((L2.putF n v fs).map (·.2))
  | [], _, .nil => ⟨rfl, .cons rv .nil⟩
  | (k, u) :: fs, _, .cons a b => by
    obtain ⟨h1, h2⟩ := putF_rel rv (n := n) b
    simp only [List.map_cons, HP.putF, L2.putF]
    by_cases e : k = n
    · subst e
      simp only [if_pos rfl]
      exact ⟨rfl, .cons rv b⟩
    · simp only [if_neg e]
      exact ⟨by simp [h1], .cons a h2⟩
theorem st_setfld {o v : Expr} {io iv : E} {n Cn : Str} {p' : Pos} (hc : Cls X.K (He.ga X.K Cn)) (hn : NoAttr X.K (He.ga X.K Cn) n) (ho : SEx X o io) (hv : SEx X v iv) (hs : swapsWith v (some (.Attribute o n p')) pos.line X.env = pure false) :
    SSt X J (.Assign [.Attribute o n p'] v pos) (.setfld Cn io n iv) := psImp (ps_fld ho.o hv.v hs) fun D σ H ⟨F, M, P, σD, s, Pt, R, j, h, hE⟩ => by
  rw [wS, hE.ex] at h
  refine ⟨F, M, P, σD, s, _, R, h, fun ou σ1 s1 F1 M1 H1 v1 k1 sf1 e1 R1 q1 => ?_⟩
  obtain ⟨G1, g1, R1, rv⟩ := R1.frz q1
  refine ⟨G1, M1, P, σ1, s1, _, R1, k1, fun x σ2 s2 F2 M2 H2 v2 k2 sf2 e2 R2 q2 => ?_⟩
  obtain ⟨c, l, p, rfl, hcr, hp, hN⟩ := upCont_rel R2 q2 k2
  cases hcr with
  | lst b1 b2 => cases hp
  | dct b1 b2 b3 b4 => cases hp
  | @ins dx cn ns vs fs b1 b2 b3 =>
    subst b2
    dsimp only at hp
    split at hp <;> cases hp
    rename_i hz
    simp only [Bool.and_eq_true, decide_eq_true_eq] at hz
    obtain ⟨rfl, hz⟩ := hz
    obtain ⟨t1, t2⟩ := putF_rel (rv.mono sf2 e2) (n := n) b3
    obtain ⟨σ4, s4, k4, R4⟩ := hN _ (.ins upd_same t1 t2)
    rw [List.length_map] at hz
    exact ⟨l, _, dx, fs, rfl, b1, hc, hn, by omega, hE.nx _ _ F2 M2 σ _ k4 (sf1.trans (g1.trans sf2)) (e1.trans e2) j R4⟩
end
end HP

set_option maxHeartbeats 2000000
/-! HpStm4: several names at once where one of them is a cell: the tuple is made and taken apart. -/
namespace HP
open PySem L2
section
variable {K : PySem.W.Frag} {F F' : Hp} {M M' : List Addr} {P P' : Hp} {σD σD' : Slots} {s s' : Store} {σ σ' : St} {H H' : Hp}
theorem OutsR.junk {os : List Out} {vs : List V} {as : List Addr} {p : Addr} {o : HO} (h : OutsR K F M P σD σ H os vs as) (hp : H p = none) : OutsR K F M P σD σ (upd H p o) os vs as := by
  induction h with
  | nil => exact .nil
  | val a _ ih => exact .val a ih
  | own a b c _ ih => exact .own (a.mono (.refl F) (.refl M) fun o ho => by rw [upd_ne (ne_of_none ho hp)]; exact ho) b c ih
end
section
variable {X : Cx} {J : St → Prop} {e a b c tg : Expr} {ie ia ib ic : E} {pos : Pos} {es : List Expr} {is : Es}
theorem st_parC2 {n m : Nat} {x y : Str} {px py pt : Pos} {kt k2 pt2} (hJ : JSet J n) (hJ2 : JSet J m) (hc : X.calm = true) (hN : X.N.Nodup) (hi : X.N[n]? = some x) (hj : X.N[m]? = some y)
    (hx : Loc X.env.scope x) (hy : Loc X.env.scope y) (hfx : X.fn x = true ∨ X.env.scope.names.lookup x = some .local) (hfy : X.fn y = true ∨ X.env.scope.names.lookup y = some .local) (ha : PA X [a, b] (tOuts X (ws is).outs))
    (hw : swappedStores [.Tuple [.Name x px, .Name y py] kt pt] (.Tuple [a, b] k2 pt2) X.env = pure none) (hs : swapsWithSole [.Tuple [.Name x px, .Name y py] kt pt] (.Tuple [a, b] k2 pt2) pos.line X.env = pure false)
    (h1 : (assignEach [.Tuple [.Name x px, .Name y py] kt pt] X.env).map (·.2) = [assign (.Tuple [.Name x px, .Name y py] kt pt) X.env])
    (hs1 : (assignEach [.Name x px, .Name y py] X.env).map (·.2) = assign (.Name x px) X.env :: (assignEach [.Name y py] X.env).map (·.2)) (hs2 : (assignEach [.Name y py] X.env).map (·.2) = assign (.Name y py) X.env :: (assignEach [] X.env).map (·.2))
    (hn : (assignEach [.Name x px, .Name y py] X.env).length = 2) (hst : (assignEach [.Name x px, .Name y py] X.env).findIdx? (·.1) = none) :
    SSt X J (.Assign [.Tuple [.Name x px, .Name y py] kt pt] (.Tuple [a, b] k2 pt2) pos) (.par [n, m] is) :=
  psImp (ps_asg (pe_tupX ha) (pg_tup (n := 2) hc (pgs_cons (pg_name hN hi hx hfx) (pgs_cons (pg_name hN hj hy hfy) pgs_nil hs2) hs1) hn hst) hs hw h1) fun D σ H ⟨F, M, P, σD, s, Pt, R, j, h, hE⟩ => by
  rw [wS, hE.ex] at h
  refine ⟨F, M, P, σD, s, _, R, h, fun os σ1 s1 F1 M1 H1 vs as k sf1 e1 R1 q => ?_⟩
  obtain ⟨hl, k⟩ := k
  have hv := q.len.symm.trans hl
  match vs, hv with
  | [u, v], _ =>
    refine ⟨by rw [sizeLine_eq]; show 2 ≤ _; decide, fun p o hp ho => ?_⟩
    refine ⟨p, [u, v], rfl, .inl (.inr ⟨o, upd_same⟩), rfl, u, [v], rfl, v, [], rfl, rfl, ?_⟩
    exact hE.nx _ _ F1 M1 _ _ k sf1 e1 (hJ2 _ _ (hJ _ _ j)) ((R1.junk hp).sets (is := [n, m]) (q.junk hp))
theorem st_parC3 {n m l : Nat} {x y z : Str} {px py pz pt : Pos} {kt k2 pt2} (hJ : JSet J n) (hJ2 : JSet J m) (hJ3 : JSet J l) (hc : X.calm = true) (hN : X.N.Nodup) (hi : X.N[n]? = some x) (hj : X.N[m]? = some y) (hk : X.N[l]? = some z)
    (hx : Loc X.env.scope x) (hy : Loc X.env.scope y) (hz : Loc X.env.scope z) (hfx : X.fn x = true ∨ X.env.scope.names.lookup x = some .local) (hfy : X.fn y = true ∨ X.env.scope.names.lookup y = some .local) (hfz : X.fn z = true ∨ X.env.scope.names.lookup z = some .local) (ha : PA X [a, b, c] (tOuts X (ws is).outs))
    (hw : swappedStores [.Tuple [.Name x px, .Name y py, .Name z pz] kt pt] (.Tuple [a, b, c] k2 pt2) X.env = pure none) (hs : swapsWithSole [.Tuple [.Name x px, .Name y py, .Name z pz] kt pt] (.Tuple [a, b, c] k2 pt2) pos.line X.env = pure false)
    (h1 : (assignEach [.Tuple [.Name x px, .Name y py, .Name z pz] kt pt] X.env).map (·.2) = [assign (.Tuple [.Name x px, .Name y py, .Name z pz] kt pt) X.env])
    (hs1 : (assignEach [.Name x px, .Name y py, .Name z pz] X.env).map (·.2) = assign (.Name x px) X.env :: (assignEach [.Name y py, .Name z pz] X.env).map (·.2)) (hs2 : (assignEach [.Name y py, .Name z pz] X.env).map (·.2) = assign (.Name y py) X.env :: (assignEach [.Name z pz] X.env).map (·.2))
    (hs3 : (assignEach [.Name z pz] X.env).map (·.2) = assign (.Name z pz) X.env :: (assignEach [] X.env).map (·.2))
    (hn : (assignEach [.Name x px, .Name y py, .Name z pz] X.env).length = 3) (hst : (assignEach [.Name x px, .Name y py, .Name z pz] X.env).findIdx? (·.1) = none) :
    SSt X J (.Assign [.Tuple [.Name x px, .Name y py, .Name z pz] kt pt] (.Tuple [a, b, c] k2 pt2) pos) (.par [n, m, l] is) :=
  psImp (ps_asg (pe_tupX ha) (pg_tup (n := 3) hc (pgs_cons (pg_name hN hi hx hfx) (pgs_cons (pg_name hN hj hy hfy) (pgs_cons (pg_name hN hk hz hfz) pgs_nil hs3) hs2) hs1) hn hst) hs hw h1) fun D σ H ⟨F, M, P, σD, s, Pt, R, j, h, hE⟩ => by
  rw [wS, hE.ex] at h
  refine ⟨F, M, P, σD, s, _, R, h, fun os σ1 s1 F1 M1 H1 vs as k sf1 e1 R1 q => ?_⟩
  obtain ⟨hl, k⟩ := k
  have hv := q.len.symm.trans hl
  match vs, hv with
  | [u, v, t], _ =>
    refine ⟨by rw [sizeLine_eq]; show 3 ≤ _; decide, fun p o hp ho => ?_⟩
    refine ⟨p, [u, v, t], rfl, .inl (.inr ⟨o, upd_same⟩), rfl, u, [v, t], rfl, v, [t], rfl, t, [], rfl, rfl, ?_⟩
    exact hE.nx _ _ F1 M1 _ _ k sf1 e1 (hJ3 _ _ (hJ2 _ _ (hJ _ _ j))) ((R1.junk hp).sets (is := [n, m, l]) (q.junk hp))
end
end HP

set_option maxHeartbeats 2000000
/-! HpLc: list comprehensions of one clause. -/
namespace HP
open PySem L2

section
variable {K : PySem.W.Frag} {F F' : Hp} {M M' : List Addr} {P P' : Hp} {σD σD' : Slots} {s s' : Store} {σ σ' : St} {H H' : Hp} {vs : List Nat}
theorem Rel.wipe1 (R : Rel K F M P σD s σ H) (n : Nat) : Rel K F M P (σD.set n .unb) s (σ.set n none) H := by
  have R1 := R.unbind n
  refine ⟨R1.sF, R1.sP, R1.mlen, R1.mem, R1.nd, R1.fp, by rw [List.length_set, List.length_set]; exact R.slen, fun j sl hj => ?_, fun j k c1 c2 b h1 h2 h3 h4 => ?_⟩
  · rcases getElem?_set_cases hj with ⟨rfl, rfl⟩ | ⟨hne, hj⟩
    · exact .unb
    · rw [List.getElem?_set_ne hne]
      exact R.slot j sl hj
  · rcases getElem?_set_cases h1 with ⟨_, e⟩ | ⟨n1, h1⟩
    · cases e
    · rcases getElem?_set_cases h2 with ⟨_, e⟩ | ⟨n2, h2⟩
      · cases e
      · rw [List.getElem?_set_ne n1] at h3
        rw [List.getElem?_set_ne n2] at h4
        exact R.dist j k c1 c2 b h1 h2 h3 h4
theorem Rel.wipe (R : Rel K F M P σD s σ H) : ∀ vs : List Nat, Rel K F M P (wipeS σD vs) s (L2.wipe σ vs) H
  | [] => R
  | v :: vs => (R.wipe vs).wipe1 v
theorem wipeS_out {i : Nat} : ∀ {vs : List Nat}, i ∉ vs → (wipeS σD vs)[i]? = σD[i]?
  | [], _ => rfl
  | v :: vs, h => by
    simp only [List.mem_cons, not_or] at h
    rw [wipeS, List.getElem?_set_ne (Ne.symm h.1), wipeS_out h.2]
theorem wipeS_len : ∀ vs : List Nat, (wipeS σD vs).length = σD.length
  | [] => rfl
  | v :: vs => by rw [wipeS, List.length_set, wipeS_len vs]
theorem backS_len {σ0 : Slots} : ∀ vs : List Nat, (backS σ0 σD vs).length = σD.length
  | [] => rfl
  | v :: vs => by rw [backS, List.length_set, backS_len vs]
theorem backS_out {σ0 : Slots} {i : Nat} : ∀ {vs : List Nat}, i ∉ vs → (backS σ0 σD vs)[i]? = σD[i]?
  | [], _ => rfl
  | v :: vs, h => by
    simp only [List.mem_cons, not_or] at h
    rw [backS, List.getElem?_set_ne (Ne.symm h.1), backS_out h.2]
theorem backS_in {σ0 : Slots} {i : Nat} {sl : Slot} : ∀ {vs : List Nat}, i ∈ vs → (backS σ0 σD vs)[i]? = some sl → sl = Slot.keep σ0[i]?
  | v :: vs, hm, h => by
    rw [backS] at h
    rcases getElem?_set_cases h with ⟨rfl, e⟩ | ⟨hne, h⟩
    · exact e
    · rcases List.mem_cons.mp hm with rfl | hm
      · exact absurd rfl hne
      · exact backS_in hm h
/-- behind a comprehension -/
theorem Rel.behind {σ0 : Slots} {s0 : Store} {H0 : Hp} (R0 : Rel K F M P' σ0 s0 σ H0) (R : Rel K F' M' P (wipeS σD vs) s (L2.wipe σ vs) H) (sf : Same F F') (ex : Ext M M') : Rel K F' M' P (backS σ0 σD vs) s σ H := by
  refine ⟨R.sF, R.sP, R.mlen, R.mem, R.nd, R.fp, ?_, fun j sl hj => ?_, fun j k c1 c2 b h1 h2 h3 h4 => ?_⟩
  · rw [backS_len, ← wipeS_len vs, R.slen, wipe_length]
  · by_cases hm : j ∈ vs
    · have e := backS_in hm hj
      subst e
      cases hs : σ0[j]? with
      | none => exact .unb
      | some sl =>
        cases sl with
        | unb => exact .unb
        | own c => exact .unb
        | val d =>
          obtain ⟨v, hv, r⟩ := (R0.slot j _ hs).vv
          exact .val hv (r.mono sf ex)
    · rw [backS_out hm, ← wipeS_out hm] at hj
      have r := R.slot j sl hj
      rw [wipe_out hm] at r
      exact r
  · have nin : ∀ {j : Nat} {c : Cont}, (backS σ0 σD vs)[j]? = some (.own c) → j ∉ vs ∧ (wipeS σD vs)[j]? = some (.own c) := fun {j c} h => by
      by_cases hm : j ∈ vs
      · have e := backS_in hm h
        cases hs : σ0[j]? with
        | none => rw [hs] at e; cases e
        | some sl => rw [hs] at e; cases sl <;> cases e
      · exact ⟨hm, by rw [wipeS_out hm, ← backS_out hm]; exact h⟩
    obtain ⟨m1, g1⟩ := nin h1
    obtain ⟨m2, g2⟩ := nin h2
    exact R.dist j k c1 c2 b g1 g2 (by rw [wipe_out m1]; exact h3) (by rw [wipe_out m2]; exact h4)
theorem wipe_in {σ : St} {j : Nat} : ∀ {vs : List Nat}, j ∈ vs → (L2.wipe σ vs)[j]? = σ[j]?.map fun _ => none
  | v :: vs, h => by
    unfold L2.wipe
    by_cases e : v = j
    · subst e
      rw [List.getElem?_set_self']
      by_cases m : v ∈ vs
      · rw [wipe_in m]
        cases σ[v]? <;> rfl
      · rw [wipe_out m]
        cases σ[v]? <;> rfl
    · rw [List.getElem?_set_ne e]
      exact wipe_in ((List.mem_cons.mp h).resolve_left fun q => e q.symm)
theorem wipe_set {σ : St} {n : Nat} {v : Option V} {vs : List Nat} (h : n ∈ vs) : L2.wipe (σ.set n v) vs = L2.wipe σ vs := by
  refine List.ext_getElem? fun j => ?_
  by_cases m : j ∈ vs
  · rw [wipe_in m, wipe_in m]
    by_cases e : n = j
    · subst e
      rw [List.getElem?_set_self']
      cases σ[n]? <;> rfl
    · rw [List.getElem?_set_ne e]
  · have hne : n ≠ j := fun e => m (e ▸ h)
    rw [wipe_out m, wipe_out m, List.getElem?_set_ne hne]
theorem wipe_idem {σ : St} {vs : List Nat} : L2.wipe (L2.wipe σ vs) vs = L2.wipe σ vs := by
  refine List.ext_getElem? fun j => ?_
  by_cases m : j ∈ vs
  · rw [wipe_in m, wipe_in m]
    cases σ[j]? <;> rfl
  · rw [wipe_out m]
end

/-- what a block may bind: its own names alone -/
def JB (σ : St) (vs : List Nat) : St → Prop := fun σ2 => L2.wipe σ2 vs = L2.wipe σ vs
theorem JB.set {σ : St} {vs : List Nat} {n : Nat} (h : n ∈ vs) : JSet (JB σ vs) n := fun σ2 v q => by
  unfold JB at q ⊢
  rw [wipe_set h, q]
section
variable {X : Cx} {a b c tg iter elt : Expr} {ie ia ib ic : E} {pos : Pos} {es : List Expr} {is : Es} {it : HP.It} {t : Tg}
/-- a clause's tests -/
def SIf (X : Cx) (ifs : List Expr) (is : Es) : Prop := PTs X ifs (tTt X fun σ s K _ => (ws is).ifs σ s K)
theorem sif_nil : SIf X [] .nil := ⟨fun pins s σ H Q I ⟨F, M, P, σD, st, K, R, h, hK⟩ => pts_nil.run pins s σ H Q I (by
  rw [ws.eq_1] at h
  exact hK _ _ _ F M H h (.refl F) (.refl M) R)⟩
theorem sif_one (h1 : SEx X a ia) : SIf X [a] (.cons ia .nil) := ⟨fun pins s σ H Q I ⟨F, M, P, σD, st, K, R, h, hK⟩ => (pts_one h1.t).run pins s σ H Q I (by
  rw [ws.eq_2] at h
  refine ⟨F, M, P, σD, st, _, R, h, fun b σ1 s1 F1 M1 H1 k sf ex R1 => ?_⟩
  rw [ws.eq_1] at k
  cases b with
  | true =>
    rw [if_pos rfl] at k
    exact hK _ _ _ F1 M1 H1 k sf ex R1
  | false =>
    rw [if_neg Bool.false_ne_true] at k
    exact hK _ _ _ F1 M1 H1 k sf ex R1)⟩
/-- the context of a comprehension's block -/
abbrev blkX (X : Cx) (scope : Scope) (z : Shared) (G : Hp) (C : Addr) (cl : List (Str × Addr)) (fp : List Addr) : Cx := X.blk z G scope (compEnvC scope cl C X.env) fp
/-- the state of a comprehension's loop -/
def LcS (K : PySem.W.Frag) (F1 : Hp) (M1 : List Addr) (P : Hp) (vs : List Nat) (σ : St) (D : Addr) (k : List HP.D → Slots → Store → Prop) (H : Hp) : Prop :=
  ∃ F' M' σD s acc zs, Same F1 F' ∧ Ext M1 M' ∧ P D = none ∧ RVs K F' M' acc zs ∧ Rel K F' M' (upd P D (.lst zs)) (wipeS σD vs) s (L2.wipe σ vs) H ∧ k acc σD s
/-- one turn of a comprehension's loop -/
def lcF (t : Tg) (is : Es) (ie : E) (vs : List Nat) : HP.D → Acc → Slots → Store → (Acc → Slots → Store → Prop) → Prop := fun x a σ s k => wTg t x (wipeS σ vs) s fun σ s => (ws is).ifs σ s fun c σ s =>
  if c then (w ie).v σ s (fun o σ s => if a.1.length < big then k (a.1 ++ [o.frz], []) σ s else False) noX else k a σ s
theorem lc_key {bb : Bool} {vs : List Nat} : ∀ (σ : St) (H : Hp) (Q : VK), tE X (fun σ s K x => wCs (.one t it is) vs σ s ([], []) (fun acc σ s k => (w ie).v σ s (fun o σ s => if acc.1.length < big then k (acc.1 ++ [o.frz], []) σ s else False) noX) (fun acc σ' s => K (.own (.lst acc.1)) (backS σ σ' vs) s) x) σ H Q →
      tLc (tIt X bb it) (fun v σ2 H2 Q2 => tTg X (JB σ2 vs) bb t v σ2 H2 fun σ3 H3 => JB σ2 vs σ3 ∧ Q2 σ3 H3) (tTt X fun σ s K _ => (ws is).ifs σ s K) (tE X (w ie).v) vs σ H Q := fun σ H Q ⟨F, M, P, σD, s, K, R, h, hK⟩ => by
  rw [wCs] at h
  refine ⟨F, M, P, σD, s, _, R, h, fun items σ1 s1 F1 M1 H1 It k sf1 e1 R1 hI => fun D hD => ?_⟩
  have qD := R1.off hD
  refine ⟨fun i m H => m = items.length - i ∧ i ≤ items.length ∧ LcS X.K F1 M1 P vs σ D (fun acc σD' s' => wLoop (lcF t is ie vs) (items.drop i) (acc, []) σD' s' fun acc σ' s => K (.own (.lst acc.1)) (backS σD σ' vs) s) H,
    ⟨items.length, by omega, by omega, F1, M1, σ1, s1, [], [], .refl F1, .refl M1, qD.p, .nil, (R1.guard hD).wipe vs, by rw [List.drop_zero]; exact k⟩, fun i m H2 ⟨hm, hi, F', M', σD', s', acc, zs, sf, ex, hP, hr, R', k⟩ => ?_⟩
  have hit := hI F' M' _ _ s' _ H2 sf ex R' i
  have hz : H2 D = some (.lst zs) := R'.sP D _ upd_same
  cases hd : items[i]? with
  | none =>
    have hl : items.drop i = [] := by
      rw [List.getElem?_eq_none_iff] at hd
      exact List.drop_eq_nil_of_le hd
    rw [hl] at k
    simp only [wLoop] at k
    have R2 := Rel.behind R R' (sf1.trans sf) (e1.trans ex)
    exact .inl ⟨hit.2 hd, hK _ _ _ F' M' H2 _ k (sf1.trans sf) (e1.trans ex) (R2.less (same_updP hP)) ⟨D, rfl, .lst hz hr, R2.kept_off upd_same hP⟩⟩
  | some d =>
    have hlt := (List.getElem?_eq_some_iff.mp hd).1
    have hl : items.drop i = d :: items.drop (i + 1) := by
      rw [List.drop_eq_getElem_cons hlt, (List.getElem?_eq_some_iff.mp hd).2]
    rw [hl] at k
    simp only [wLoop] at k
    obtain ⟨hgo, hy⟩ := hit.1 d hd
    refine .inr ⟨hgo, LcS X.K F1 M1 P vs σ D (fun acc σD' s' => wLoop (lcF t is ie vs) (items.drop (i + 1)) (acc, []) σD' s' fun acc σ' s => K (.own (.lst acc.1)) (backS σD σ' vs) s),
      fun H' h => ⟨items.length - (i + 1), by omega, rfl, by omega, h⟩, fun x H' hx => ?_⟩
    obtain ⟨F'', sf'', R'', rx⟩ := hy x H' hx
    refine ⟨F'', M', _, _, s', d, _, R'', rfl, rx, k, fun σ2 s2 F2 M2 τ2 H2 k2 sf2 e2 j2 R2 => ⟨j2, ?_⟩⟩
    have j3 : L2.wipe τ2 vs = L2.wipe σ vs := (show L2.wipe τ2 vs = L2.wipe (L2.wipe σ vs) vs from j2).trans wipe_idem
    refine ⟨j3.trans wipe_idem.symm |>.trans wipe_idem, ⟨F2, M2, _, σ2, s2, _, R2, k2, fun b σ3 s3 F3 M3 H3 k3 sf3 e3 R3 => ?_⟩⟩
    have gA : Same F1 F3 := sf.trans (sf''.trans (sf2.trans sf3))
    have gB : Ext M1 M3 := ex.trans (e2.trans e3)
    have hr3 := hr.mono (sf''.trans (sf2.trans sf3)) (e2.trans e3)
    cases b with
    | false =>
      rw [if_neg Bool.false_ne_true] at k3
      dsimp only
      rw [if_neg Bool.false_ne_true]
      exact ⟨F3, M3, σ3, s3, acc, zs, gA, gB, hP, hr3, by rw [← j3]; exact R3.wipe vs, k3⟩
    | true =>
      rw [if_pos rfl] at k3
      dsimp only
      rw [if_pos rfl]
      refine ⟨F3, M3, _, σ3, s3, _, R3, k3, fun o σ4 s4 F4 M4 H4 v k4 sf4 e4 R4 q4 => ?_⟩
      split at k4 <;> try (exact k4.elim)
      rename_i hz4
      obtain ⟨F5, sf5, R5, rv⟩ := R4.frz q4
      have hr5 := hr3.mono (sf4.trans sf5) e4
      have hD4 : H4 D = some (.lst zs) := R5.sP D _ upd_same
      refine ⟨zs, hD4, by rw [← hr5.length, ← big_eq]; exact hz4, F5, M4, σ4, s4, acc ++ [o.frz], zs ++ [v], gA.trans (sf4.trans sf5), gB.trans e4, hP, hr5.append (.cons rv .nil), ?_, k4⟩
      rw [← j3]
      have q5 := R5.kept_off upd_same hP
      have R6 := (R5.less (same_updP hP)).updOff (o := .lst (zs ++ [v])) q5
      exact (R6.guardOff q5 upd_same).wipe vs
theorem se_lc {bb : Bool} {ifs : List Expr} {scope : Scope} {own : List (Str × Nat)} (hc : X.calm = true) (hN : X.N.Nodup) (hi : SIt X bb tg iter it) (ok : BlkOk X.N X.env.scope scope own)
    (hg : ∀ z G C cl fp J, (∀ n ∈ own.map (·.2), JSet J n) → STg (blkX X scope z G C cl fp) J bb tg t) (ht : ∀ z G C cl fp, SIf (blkX X scope z G C cl fp) ifs is) (he : ∀ z G C cl fp, SEx (blkX X scope z G C cl fp) elt ie)
    (hs : ∀ x, foldedSetIterable iter X.env x = pure x) (hte : TruE X (.ListComp elt [⟨tg, iter, ifs, 0⟩] scope pos)) : SEx X (.ListComp elt [⟨tg, iter, ifs, 0⟩] scope pos) (.lc (own.map (·.2)) ie (.one t it is)) := by
  refine sex_dft (w.eq_29 _ ie _) (fun _ _ _ _ _ => rfl) hte (pe_lc (g := fun v σ2 H2 Q2 => tTg X (JB σ2 (own.map (·.2))) bb t v σ2 H2 fun σ3 H3 => JB σ2 (own.map (·.2)) σ3 ∧ Q2 σ3 H3) (tt := tTt X fun σ s K _ => (ws is).ifs σ s K) (te := tE X (w ie).v) hc hN hi ok (fun z G C cl fp => ⟨fun pins z2 σ2 H2 v u Q I r q => ?_⟩) (fun z G C cl fp => ht z G C cl fp) (fun z G C cl fp => (he z G C cl fp).v) hs) lc_key
  exact (hg z G C cl fp (JB σ2 (own.map (·.2))) fun n hn => JB.set hn).run pins z2 σ2 H2 v u Q I r (by
    obtain ⟨F, M, P, σD, s, d, K, R, j, rv, h, hK⟩ := q
    exact ⟨F, M, P, σD, s, d, K, R, j, rv, h, fun a b c d e f k l m n o => (hK a b c d e f k l m n o).2⟩)
/-- name = [..] -/
theorem st_setLc {bb : Bool} {ifs : List Expr} {scope : Scope} {own : List (Str × Nat)} {n : Nat} {y : Str} {py spos : Pos} {J : St → Prop} (hJ : JSet J n) (hc : X.calm = true) (hN : X.N.Nodup) (hy : X.N[n]? = some y) (hyl : X.env.scope.names.lookup y = some .local)
    (hsw : swapsWith (.ListComp elt [⟨tg, iter, ifs, 0⟩] scope pos) (some (.Name y py)) spos.line X.env = pure true) (hi : SIt X bb tg iter it) (ok : BlkOk X.N X.env.scope scope own)
    (hg : ∀ z G C cl fp J, (∀ n ∈ own.map (·.2), JSet J n) → STg (blkX X scope z G C cl fp) J bb tg t) (ht : ∀ z G C cl fp, SIf (blkX X scope z G C cl fp) ifs is) (he : ∀ z G C cl fp, SEx (blkX X scope z G C cl fp) elt ie)
    (hs : ∀ x, foldedSetIterable iter X.env x = pure x) : SSt X J (.Assign [.Name y py] (.ListComp elt [⟨tg, iter, ifs, 0⟩] scope pos) spos) (.asg (.name n) (.lc (own.map (·.2)) ie (.one t it is))) := by
  refine psImp (ps_setLc (g := fun v σ2 H2 Q2 => tTg X (JB σ2 (own.map (·.2))) bb t v σ2 H2 fun σ3 H3 => JB σ2 (own.map (·.2)) σ3 ∧ Q2 σ3 H3) (tt := tTt X fun σ s K _ => (ws is).ifs σ s K) (te := tE X (w ie).v) hc hN hy hyl hsw hi ok (fun z G C cl fp => ⟨fun pins z2 σ2 H2 v u Q I r q => ?_⟩) (fun z G C cl fp => ht z G C cl fp) (fun z G C cl fp => (he z G C cl fp).v) hs) fun D σ H ⟨F, M, P, σD, s, Pt, R, j, h, hE⟩ => ?_
  · exact (hg z G C cl fp (JB σ2 (own.map (·.2))) fun n hn => JB.set hn).run pins z2 σ2 H2 v u Q I r (by
      obtain ⟨F, M, P, σD, s, d, K, R, j, rv, h, hK⟩ := q
      exact ⟨F, M, P, σD, s, d, K, R, j, rv, h, fun a b c d e f k l m n o => (hK a b c d e f k l m n o).2⟩)
  · rw [wS, hE.ex] at h
    rw [wE, w.eq_29] at h
    dsimp only [dft] at h
    exact lc_key σ H _ ⟨F, M, P, σD, s, _, R, h, fun o σ1 s1 F1 M1 H1 v k sf ex R1 q => hE.nx _ _ F1 M1 _ H1 k sf ex (hJ _ _ j) (R1.put n q)⟩
/-- name = [..], a thing of the store from then on -/
theorem st_setLcA {bb : Bool} {ifs : List Expr} {scope : Scope} {own : List (Str × Nat)} {n : Nat} {y : Str} {py spos : Pos} {J : St → Prop} (hJ : JSet J n) (hc : X.calm = true) (hN : X.N.Nodup) (hy : X.N[n]? = some y) (hyl : X.env.scope.names.lookup y = some .local)
    (hsw : swapsWith (.ListComp elt [⟨tg, iter, ifs, 0⟩] scope pos) (some (.Name y py)) spos.line X.env = pure true) (hi : SIt X bb tg iter it) (ok : BlkOk X.N X.env.scope scope own)
    (hg : ∀ z G C cl fp J, (∀ n ∈ own.map (·.2), JSet J n) → STg (blkX X scope z G C cl fp) J bb tg t) (ht : ∀ z G C cl fp, SIf (blkX X scope z G C cl fp) ifs is) (he : ∀ z G C cl fp, SEx (blkX X scope z G C cl fp) elt ie)
    (hs : ∀ x, foldedSetIterable iter X.env x = pure x) : SSt X J (.Assign [.Name y py] (.ListComp elt [⟨tg, iter, ifs, 0⟩] scope pos) spos) (.asg (.name n) (.alloc (.lc (own.map (·.2)) ie (.one t it is)))) := by
  refine psImp (ps_setLc (g := fun v σ2 H2 Q2 => tTg X (JB σ2 (own.map (·.2))) bb t v σ2 H2 fun σ3 H3 => JB σ2 (own.map (·.2)) σ3 ∧ Q2 σ3 H3) (tt := tTt X fun σ s K _ => (ws is).ifs σ s K) (te := tE X (w ie).v) hc hN hy hyl hsw hi ok (fun z G C cl fp => ⟨fun pins z2 σ2 H2 v u Q I r q => ?_⟩) (fun z G C cl fp => ht z G C cl fp) (fun z G C cl fp => (he z G C cl fp).v) hs) fun D σ H ⟨F, M, P, σD, s, Pt, R, j, h, hE⟩ => ?_
  · exact (hg z G C cl fp (JB σ2 (own.map (·.2))) fun n hn => JB.set hn).run pins z2 σ2 H2 v u Q I r (by
      obtain ⟨F, M, P, σD, s, d, K, R, j, rv, h, hK⟩ := q
      exact ⟨F, M, P, σD, s, d, K, R, j, rv, h, fun a b c d e f k l m n o => (hK a b c d e f k l m n o).2⟩)
  · rw [wS, hE.ex] at h
    rw [wE, w.eq_23] at h
    dsimp only [dft] at h
    rw [w.eq_29] at h
    dsimp only [dft] at h
    refine lc_key σ H _ ⟨F, M, P, σD, s, (fun o σ s => match o with | .own c => Pt.nx (σ.set n (Out.val (.ref s.length)).slot) (s ++ [c]) | .val _ => False), R, h, fun o σ1 s1 F1 M1 H1 v k sf ex R1 q => ?_⟩
    cases o with
    | val d => exact k.elim
    | own c =>
      obtain ⟨a, rfl, r, qo⟩ := q
      obtain ⟨R2, rv⟩ := R1.alloc r qo
      exact hE.nx _ _ F1 _ _ H1 k sf (ex.trans ⟨[a], rfl⟩) (hJ _ _ j) (R2.put (o := .val (.ref s1.length)) n rv)
end
end HP

set_option maxHeartbeats 2000000
/-! HpLc2: list comprehensions of two clauses. -/
namespace HP
open PySem L2
theorem wipe_sub {σ : St} {vs vs1 : List Nat} (h : ∀ i ∈ vs1, i ∈ vs) : L2.wipe (L2.wipe σ vs1) vs = L2.wipe σ vs := by
  refine List.ext_getElem? fun j => ?_
  by_cases m : j ∈ vs
  · rw [wipe_in m, wipe_in m]
    by_cases m1 : j ∈ vs1
    · rw [wipe_in m1]
      cases σ[j]? <;> rfl
    · rw [wipe_out m1]
  · rw [wipe_out m, wipe_out m, wipe_out fun q => m (h j q)]
theorem wipeS_in {σ : Slots} {j : Nat} : ∀ {vs : List Nat}, j ∈ vs → (wipeS σ vs)[j]? = σ[j]?.map fun _ => .unb
  | v :: vs, h => by
    unfold wipeS
    by_cases e : v = j
    · subst e
      rw [List.getElem?_set_self']
      by_cases m : v ∈ vs
      · rw [wipeS_in m]
        cases σ[v]? <;> rfl
      · rw [wipeS_out m]
        cases σ[v]? <;> rfl
    · rw [List.getElem?_set_ne e]
      exact wipeS_in ((List.mem_cons.mp h).resolve_left fun q => e q.symm)
theorem wipeS_sub {σ : Slots} {vs vs1 : List Nat} (h : ∀ i ∈ vs1, i ∈ vs) : wipeS (wipeS σ vs1) vs = wipeS σ vs := by
  refine List.ext_getElem? fun j => ?_
  by_cases m : j ∈ vs
  · rw [wipeS_in m, wipeS_in m]
    by_cases m1 : j ∈ vs1
    · rw [wipeS_in m1]
      cases σ[j]? <;> rfl
    · rw [wipeS_out m1]
  · rw [wipeS_out m, wipeS_out m, wipeS_out fun q => m (h j q)]
section
variable {X : Cx} {a b c tg iter elt tg1 iter1 : Expr} {ie ia ib ic : E} {pos : Pos} {es : List Expr} {is is1 : Es} {it it1 : HP.It} {t t1 : Tg}
/-- one turn of the outer loop -/
def lcF2 (t : Tg) (is : Es) (vs : List Nat) (t1 : Tg) (it1 : HP.It) (is1 : Es) (ie : E) (vs1 : List Nat) : HP.D → Acc → Slots → Store → (Acc → Slots → Store → Prop) → Prop := fun x a σ s k => wTg t x (wipeS σ vs) s fun σ s => (ws is).ifs σ s fun c σ s =>
  if c then wIt it1 σ s (fun items σ s => wLoop (lcF t1 is1 ie vs1) items a σ s k) noX else k a σ s
theorem lc2_key {bb bb1 : Bool} {vs vs1 : List Nat} (hv : ∀ i ∈ vs1, i ∈ vs) : ∀ (σ : St) (H : Hp) (Q : VK), tE X (fun σ s K x => wCs (.more t it is vs1 (.one t1 it1 is1)) vs σ s ([], []) (fun acc σ s k => (w ie).v σ s (fun o σ s => if acc.1.length < big then k (acc.1 ++ [o.frz], []) σ s else False) noX) (fun acc σ' s => K (.own (.lst acc.1)) (backS σ σ' vs) s) x) σ H Q →
      tLc2 (tIt X bb it) (fun v σ2 H2 Q2 => tTg X (JB σ2 vs) bb t v σ2 H2 fun σ3 H3 => JB σ2 vs σ3 ∧ Q2 σ3 H3) (tTt X fun σ s K _ => (ws is).ifs σ s K)
        (tIt X bb1 it1) (fun v σ2 H2 Q2 => tTg X (JB σ2 vs1) bb1 t1 v σ2 H2 fun σ3 H3 => JB σ2 vs1 σ3 ∧ Q2 σ3 H3) (tTt X fun σ s K _ => (ws is1).ifs σ s K) (tE X (w ie).v) vs vs1 σ H Q := fun σ H Q ⟨F, M, P, σD, s, K, R, h, hK⟩ => by
  rw [wCs] at h
  refine ⟨F, M, P, σD, s, _, R, h, fun items σ1 s1 F1 M1 H1 It k sf1 e1 R1 hI => fun D hD => ?_⟩
  have k : wLoop (lcF2 t is vs t1 it1 is1 ie vs1) items ([], []) σ1 s1 (fun acc σ' s => K (.own (.lst acc.1)) (backS σD σ' vs) s) := by
    simp only [wCs] at k
    exact k
  have qD := R1.off hD
  refine ⟨fun i m H => m = items.length - i ∧ i ≤ items.length ∧ LcS X.K F1 M1 P vs σ D (fun acc σD' s' => wLoop (lcF2 t is vs t1 it1 is1 ie vs1) (items.drop i) (acc, []) σD' s' fun acc σ' s => K (.own (.lst acc.1)) (backS σD σ' vs) s) H,
    ⟨items.length, by omega, by omega, F1, M1, σ1, s1, [], [], .refl F1, .refl M1, qD.p, .nil, (R1.guard hD).wipe vs, by rw [List.drop_zero]; exact k⟩, fun i m H2 ⟨hm, hi, F', M', σD', s', acc, zs, sf, ex, hP, hr, R', k⟩ => ?_⟩
  have hit := hI F' M' _ _ s' _ H2 sf ex R' i
  have hz : H2 D = some (.lst zs) := R'.sP D _ upd_same
  cases hd : items[i]? with
  | none =>
    have hl : items.drop i = [] := by
      rw [List.getElem?_eq_none_iff] at hd
      exact List.drop_eq_nil_of_le hd
    rw [hl] at k
    simp only [wLoop] at k
    have R2 := Rel.behind R R' (sf1.trans sf) (e1.trans ex)
    exact .inl ⟨hit.2 hd, hK _ _ _ F' M' H2 _ k (sf1.trans sf) (e1.trans ex) (R2.less (same_updP hP)) ⟨D, rfl, .lst hz hr, R2.kept_off upd_same hP⟩⟩
  | some d =>
    have hlt := (List.getElem?_eq_some_iff.mp hd).1
    have hl : items.drop i = d :: items.drop (i + 1) := by
      rw [List.drop_eq_getElem_cons hlt, (List.getElem?_eq_some_iff.mp hd).2]
    rw [hl] at k
    simp only [wLoop] at k
    obtain ⟨hgo, hy⟩ := hit.1 d hd
    refine .inr ⟨hgo, LcS X.K F1 M1 P vs σ D (fun acc σD' s' => wLoop (lcF2 t is vs t1 it1 is1 ie vs1) (items.drop (i + 1)) (acc, []) σD' s' fun acc σ' s => K (.own (.lst acc.1)) (backS σD σ' vs) s),
      fun H' h => ⟨items.length - (i + 1), by omega, rfl, by omega, h⟩, fun x H' hx => ?_⟩
    obtain ⟨F'', sf'', R'', rx⟩ := hy x H' hx
    refine ⟨F'', M', _, _, s', d, _, R'', rfl, rx, k, fun σ2 s2 F2 M2 τ2 H2 k2 sf2 e2 j2 R2 => ⟨j2, ?_⟩⟩
    have j3 : L2.wipe τ2 vs = L2.wipe σ vs := (show L2.wipe τ2 vs = L2.wipe (L2.wipe σ vs) vs from j2).trans wipe_idem
    refine ⟨j3.trans wipe_idem.symm |>.trans wipe_idem, ⟨F2, M2, _, σ2, s2, _, R2, k2, fun b σ3 s3 F3 M3 H3 k3 sf3 e3 R3 => ?_⟩⟩
    have gA : Same F1 F3 := sf.trans (sf''.trans (sf2.trans sf3))
    have gB : Ext M1 M3 := ex.trans (e2.trans e3)
    have hr3 := hr.mono (sf''.trans (sf2.trans sf3)) (e2.trans e3)
    cases b with
    | false =>
      rw [if_neg Bool.false_ne_true] at k3
      dsimp only
      rw [if_neg Bool.false_ne_true]
      exact ⟨F3, M3, σ3, s3, acc, zs, gA, gB, hP, hr3, by rw [← j3]; exact R3.wipe vs, k3⟩
    | true =>
      rw [if_pos rfl] at k3
      dsimp only
      rw [if_pos rfl]
      refine ⟨F3, M3, _, σ3, s3, _, R3, k3, fun items1 σ4 s4 F4 M4 H4 It1 k4 sf4 e4 R4 hI1 => ?_⟩
      have gA4 : Same F1 F4 := gA.trans sf4
      have gB4 : Ext M1 M4 := gB.trans e4
      have hr4 := hr3.mono sf4 e4
      refine ⟨fun i1 m1 H => m1 = items1.length - i1 ∧ i1 ≤ items1.length ∧ LcS X.K F4 M4 P vs1 τ2 D (fun acc σD' s' => wLoop (lcF t1 is1 ie vs1) (items1.drop i1) (acc, []) σD' s' fun a σ s => wLoop (lcF2 t is vs t1 it1 is1 ie vs1) (items.drop (i + 1)) a σ s fun acc σ' s => K (.own (.lst acc.1)) (backS σD σ' vs) s) H,
        ⟨items1.length, by omega, by omega, F4, M4, σ4, s4, acc, zs, .refl F4, .refl M4, hP, hr4, R4.wipe vs1, by rw [List.drop_zero]; exact k4⟩, fun i1 m1 H5 ⟨hm1, hi1, F5, M5, σ5, s5, acc5, zs5, sf5, ex5, hP5, hr5, R5, k5⟩ => ?_⟩
      have hit1 := hI1 F5 M5 _ _ s5 _ H5 sf5 ex5 R5 i1
      have hz5 : H5 D = some (.lst zs5) := R5.sP D _ upd_same
      cases hd1 : items1[i1]? with
      | none =>
        have hl1 : items1.drop i1 = [] := by
          rw [List.getElem?_eq_none_iff] at hd1
          exact List.drop_eq_nil_of_le hd1
        rw [hl1] at k5
        simp only [wLoop] at k5
        have R6 := R5.wipe vs
        rw [wipeS_sub hv, wipe_sub hv, j3] at R6
        exact .inl ⟨hit1.2 hd1, F5, M5, σ5, s5, acc5, zs5, gA4.trans sf5, gB4.trans ex5, hP, hr5, R6, k5⟩
      | some d1 =>
        have hlt1 := (List.getElem?_eq_some_iff.mp hd1).1
        have hl1 : items1.drop i1 = d1 :: items1.drop (i1 + 1) := by
          rw [List.drop_eq_getElem_cons hlt1, (List.getElem?_eq_some_iff.mp hd1).2]
        rw [hl1] at k5
        simp only [wLoop] at k5
        obtain ⟨hgo1, hy1⟩ := hit1.1 d1 hd1
        refine .inr ⟨hgo1, LcS X.K F4 M4 P vs1 τ2 D (fun acc σD' s' => wLoop (lcF t1 is1 ie vs1) (items1.drop (i1 + 1)) (acc, []) σD' s' fun a σ s => wLoop (lcF2 t is vs t1 it1 is1 ie vs1) (items.drop (i + 1)) a σ s fun acc σ' s => K (.own (.lst acc.1)) (backS σD σ' vs) s),
          fun H' h => ⟨items1.length - (i1 + 1), by omega, rfl, by omega, h⟩, fun x H' hx => ?_⟩
        obtain ⟨F6, sf6, R6, rx6⟩ := hy1 x H' hx
        refine ⟨F6, M5, _, _, s5, d1, _, R6, rfl, rx6, k5, fun σ7 s7 F7 M7 τ7 H7 k7 sf7 e7 j7 R7 => ⟨j7, ?_⟩⟩
        have j8 : L2.wipe τ7 vs1 = L2.wipe τ2 vs1 := (show L2.wipe τ7 vs1 = L2.wipe (L2.wipe τ2 vs1) vs1 from j7).trans wipe_idem
        refine ⟨j8.trans wipe_idem.symm |>.trans wipe_idem, ⟨F7, M7, _, σ7, s7, _, R7, k7, fun b σ8 s8 F8 M8 H8 k8 sf8 e8 R8 => ?_⟩⟩
        have hA : Same F4 F8 := sf5.trans (sf6.trans (sf7.trans sf8))
        have hB : Ext M4 M8 := ex5.trans (e7.trans e8)
        have hr8 := hr5.mono (sf6.trans (sf7.trans sf8)) (e7.trans e8)
        cases b with
        | false =>
          rw [if_neg Bool.false_ne_true] at k8
          dsimp only
          rw [if_neg Bool.false_ne_true]
          exact ⟨F8, M8, σ8, s8, acc5, zs5, hA, hB, hP, hr8, by rw [← j8]; exact R8.wipe vs1, k8⟩
        | true =>
          rw [if_pos rfl] at k8
          dsimp only
          rw [if_pos rfl]
          refine ⟨F8, M8, _, σ8, s8, _, R8, k8, fun o σ9 s9 F9 M9 H9 v k9 sf9 e9 R9 q9 => ?_⟩
          split at k9 <;> try (exact k9.elim)
          rename_i hz9
          obtain ⟨Fa, sfa, Ra, rv⟩ := R9.frz q9
          have hra := hr8.mono (sf9.trans sfa) e9
          have hD9 : H9 D = some (.lst zs5) := Ra.sP D _ upd_same
          refine ⟨zs5, hD9, by rw [← hra.length, ← big_eq]; exact hz9, Fa, M9, σ9, s9, acc5 ++ [o.frz], zs5 ++ [v], hA.trans (sf9.trans sfa), hB.trans e9, hP, hra.append (.cons rv .nil), ?_, k9⟩
          rw [← j8]
          have qa := Ra.kept_off upd_same hP
          have Rb := (Ra.less (same_updP hP)).updOff (o := .lst (zs5 ++ [v])) qa
          exact (Rb.guardOff qa upd_same).wipe vs1
theorem se_lc2 {bb bb1 : Bool} {ifs ifs1 : List Expr} {vs1 : List Nat} {scope : Scope} {own : List (Str × Nat)} (hc : X.calm = true) (hN : X.N.Nodup) (hi : SIt X bb tg iter it) (ok : BlkOk X.N X.env.scope scope own) (hv : ∀ i ∈ vs1, i ∈ own.map (·.2))
    (hg : ∀ z G C cl fp J, (∀ n ∈ own.map (·.2), JSet J n) → STg (blkX X scope z G C cl fp) J bb tg t) (ht : ∀ z G C cl fp, SIf (blkX X scope z G C cl fp) ifs is)
    (hi1 : ∀ z G C cl fp, SIt (blkX X scope z G C cl fp) bb1 tg1 iter1 it1) (hg1 : ∀ z G C cl fp J, (∀ n ∈ vs1, JSet J n) → STg (blkX X scope z G C cl fp) J bb1 tg1 t1) (ht1 : ∀ z G C cl fp, SIf (blkX X scope z G C cl fp) ifs1 is1) (he : ∀ z G C cl fp, SEx (blkX X scope z G C cl fp) elt ie)
    (hs : ∀ x, foldedSetIterable iter X.env x = pure x) (hs1 : ∀ env x, foldedSetIterable iter1 env x = pure x) (hte : TruE X (.ListComp elt [⟨tg, iter, ifs, 0⟩, ⟨tg1, iter1, ifs1, 0⟩] scope pos)) : SEx X (.ListComp elt [⟨tg, iter, ifs, 0⟩, ⟨tg1, iter1, ifs1, 0⟩] scope pos) (.lc (own.map (·.2)) ie (.more t it is vs1 (.one t1 it1 is1))) := by
  refine sex_dft (w.eq_29 _ ie _) (fun _ _ _ _ _ => rfl) hte (pe_lc2 (g := fun v σ2 H2 Q2 => tTg X (JB σ2 (own.map (·.2))) bb t v σ2 H2 fun σ3 H3 => JB σ2 (own.map (·.2)) σ3 ∧ Q2 σ3 H3) (tt := tTt X fun σ s K _ => (ws is).ifs σ s K) (wi1 := tIt X bb1 it1) (g1 := fun v σ2 H2 Q2 => tTg X (JB σ2 vs1) bb1 t1 v σ2 H2 fun σ3 H3 => JB σ2 vs1 σ3 ∧ Q2 σ3 H3) (tt1 := tTt X fun σ s K _ => (ws is1).ifs σ s K) (te := tE X (w ie).v) hc hN hi ok hv (fun z G C cl fp => ⟨fun pins z2 σ2 H2 v u Q I r q => ?_⟩) (fun z G C cl fp => ht z G C cl fp) (fun z G C cl fp => hi1 z G C cl fp) (fun z G C cl fp => ⟨fun pins z2 σ2 H2 v u Q I r q => ?_⟩) (fun z G C cl fp => ht1 z G C cl fp) (fun z G C cl fp => (he z G C cl fp).v) hs hs1) (lc2_key hv)
  · exact (hg z G C cl fp (JB σ2 (own.map (·.2))) fun n hn => JB.set hn).run pins z2 σ2 H2 v u Q I r (by
      obtain ⟨F, M, P, σD, s, d, K, R, j, rv, h, hK⟩ := q
      exact ⟨F, M, P, σD, s, d, K, R, j, rv, h, fun a b c d e f k l m n o => (hK a b c d e f k l m n o).2⟩)
  · exact (hg1 z G C cl fp (JB σ2 vs1) fun n hn => JB.set hn).run pins z2 σ2 H2 v u Q I r (by
      obtain ⟨F, M, P, σD, s, d, K, R, j, rv, h, hK⟩ := q
      exact ⟨F, M, P, σD, s, d, K, R, j, rv, h, fun a b c d e f k l m n o => (hK a b c d e f k l m n o).2⟩)
/-- name = [..] -/
theorem st_setLc2 {bb bb1 : Bool} {ifs ifs1 : List Expr} {vs1 : List Nat} {scope : Scope} {own : List (Str × Nat)} {n : Nat} {y : Str} {py spos : Pos} {J : St → Prop} (hJ : JSet J n) (hc : X.calm = true) (hN : X.N.Nodup) (hy : X.N[n]? = some y) (hyl : X.env.scope.names.lookup y = some .local)
    (hsw : swapsWith (.ListComp elt [⟨tg, iter, ifs, 0⟩, ⟨tg1, iter1, ifs1, 0⟩] scope pos) (some (.Name y py)) spos.line X.env = pure true) (hi : SIt X bb tg iter it) (ok : BlkOk X.N X.env.scope scope own) (hv : ∀ i ∈ vs1, i ∈ own.map (·.2))
    (hg : ∀ z G C cl fp J, (∀ n ∈ own.map (·.2), JSet J n) → STg (blkX X scope z G C cl fp) J bb tg t) (ht : ∀ z G C cl fp, SIf (blkX X scope z G C cl fp) ifs is)
    (hi1 : ∀ z G C cl fp, SIt (blkX X scope z G C cl fp) bb1 tg1 iter1 it1) (hg1 : ∀ z G C cl fp J, (∀ n ∈ vs1, JSet J n) → STg (blkX X scope z G C cl fp) J bb1 tg1 t1) (ht1 : ∀ z G C cl fp, SIf (blkX X scope z G C cl fp) ifs1 is1) (he : ∀ z G C cl fp, SEx (blkX X scope z G C cl fp) elt ie)
    (hs : ∀ x, foldedSetIterable iter X.env x = pure x) (hs1 : ∀ env x, foldedSetIterable iter1 env x = pure x) : SSt X J (.Assign [.Name y py] (.ListComp elt [⟨tg, iter, ifs, 0⟩, ⟨tg1, iter1, ifs1, 0⟩] scope pos) spos) (.asg (.name n) (.lc (own.map (·.2)) ie (.more t it is vs1 (.one t1 it1 is1)))) := by
  refine psImp (ps_setLc2 (g := fun v σ2 H2 Q2 => tTg X (JB σ2 (own.map (·.2))) bb t v σ2 H2 fun σ3 H3 => JB σ2 (own.map (·.2)) σ3 ∧ Q2 σ3 H3) (tt := tTt X fun σ s K _ => (ws is).ifs σ s K) (wi1 := tIt X bb1 it1) (g1 := fun v σ2 H2 Q2 => tTg X (JB σ2 vs1) bb1 t1 v σ2 H2 fun σ3 H3 => JB σ2 vs1 σ3 ∧ Q2 σ3 H3) (tt1 := tTt X fun σ s K _ => (ws is1).ifs σ s K) (te := tE X (w ie).v) hc hN hy hyl hsw hi ok hv (fun z G C cl fp => ⟨fun pins z2 σ2 H2 v u Q I r q => ?_⟩) (fun z G C cl fp => ht z G C cl fp) (fun z G C cl fp => hi1 z G C cl fp) (fun z G C cl fp => ⟨fun pins z2 σ2 H2 v u Q I r q => ?_⟩) (fun z G C cl fp => ht1 z G C cl fp) (fun z G C cl fp => (he z G C cl fp).v) hs hs1) fun D σ H ⟨F, M, P, σD, s, Pt, R, j, h, hE⟩ => ?_
  · exact (hg z G C cl fp (JB σ2 (own.map (·.2))) fun n hn => JB.set hn).run pins z2 σ2 H2 v u Q I r (by
      obtain ⟨F, M, P, σD, s, d, K, R, j, rv, h, hK⟩ := q
      exact ⟨F, M, P, σD, s, d, K, R, j, rv, h, fun a b c d e f k l m n o => (hK a b c d e f k l m n o).2⟩)
  · exact (hg1 z G C cl fp (JB σ2 vs1) fun n hn => JB.set hn).run pins z2 σ2 H2 v u Q I r (by
      obtain ⟨F, M, P, σD, s, d, K, R, j, rv, h, hK⟩ := q
      exact ⟨F, M, P, σD, s, d, K, R, j, rv, h, fun a b c d e f k l m n o => (hK a b c d e f k l m n o).2⟩)
  · rw [wS, hE.ex] at h
    rw [wE, w.eq_29] at h
    dsimp only [dft] at h
    exact lc2_key hv σ H _ ⟨F, M, P, σD, s, _, R, h, fun o σ1 s1 F1 M1 H1 v k sf ex R1 q => hE.nx _ _ F1 M1 _ H1 k sf ex (hJ _ _ j) (R1.put n q)⟩
/-- name = [..], a thing of the store from then on -/
theorem st_setLc2A {bb bb1 : Bool} {ifs ifs1 : List Expr} {vs1 : List Nat} {scope : Scope} {own : List (Str × Nat)} {n : Nat} {y : Str} {py spos : Pos} {J : St → Prop} (hJ : JSet J n) (hc : X.calm = true) (hN : X.N.Nodup) (hy : X.N[n]? = some y) (hyl : X.env.scope.names.lookup y = some .local)
    (hsw : swapsWith (.ListComp elt [⟨tg, iter, ifs, 0⟩, ⟨tg1, iter1, ifs1, 0⟩] scope pos) (some (.Name y py)) spos.line X.env = pure true) (hi : SIt X bb tg iter it) (ok : BlkOk X.N X.env.scope scope own) (hv : ∀ i ∈ vs1, i ∈ own.map (·.2))
    (hg : ∀ z G C cl fp J, (∀ n ∈ own.map (·.2), JSet J n) → STg (blkX X scope z G C cl fp) J bb tg t) (ht : ∀ z G C cl fp, SIf (blkX X scope z G C cl fp) ifs is)
    (hi1 : ∀ z G C cl fp, SIt (blkX X scope z G C cl fp) bb1 tg1 iter1 it1) (hg1 : ∀ z G C cl fp J, (∀ n ∈ vs1, JSet J n) → STg (blkX X scope z G C cl fp) J bb1 tg1 t1) (ht1 : ∀ z G C cl fp, SIf (blkX X scope z G C cl fp) ifs1 is1) (he : ∀ z G C cl fp, SEx (blkX X scope z G C cl fp) elt ie)
    (hs : ∀ x, foldedSetIterable iter X.env x = pure x) (hs1 : ∀ env x, foldedSetIterable iter1 env x = pure x) : SSt X J (.Assign [.Name y py] (.ListComp elt [⟨tg, iter, ifs, 0⟩, ⟨tg1, iter1, ifs1, 0⟩] scope pos) spos) (.asg (.name n) (.alloc (.lc (own.map (·.2)) ie (.more t it is vs1 (.one t1 it1 is1))))) := by
  refine psImp (ps_setLc2 (g := fun v σ2 H2 Q2 => tTg X (JB σ2 (own.map (·.2))) bb t v σ2 H2 fun σ3 H3 => JB σ2 (own.map (·.2)) σ3 ∧ Q2 σ3 H3) (tt := tTt X fun σ s K _ => (ws is).ifs σ s K) (wi1 := tIt X bb1 it1) (g1 := fun v σ2 H2 Q2 => tTg X (JB σ2 vs1) bb1 t1 v σ2 H2 fun σ3 H3 => JB σ2 vs1 σ3 ∧ Q2 σ3 H3) (tt1 := tTt X fun σ s K _ => (ws is1).ifs σ s K) (te := tE X (w ie).v) hc hN hy hyl hsw hi ok hv (fun z G C cl fp => ⟨fun pins z2 σ2 H2 v u Q I r q => ?_⟩) (fun z G C cl fp => ht z G C cl fp) (fun z G C cl fp => hi1 z G C cl fp) (fun z G C cl fp => ⟨fun pins z2 σ2 H2 v u Q I r q => ?_⟩) (fun z G C cl fp => ht1 z G C cl fp) (fun z G C cl fp => (he z G C cl fp).v) hs hs1) fun D σ H ⟨F, M, P, σD, s, Pt, R, j, h, hE⟩ => ?_
  · exact (hg z G C cl fp (JB σ2 (own.map (·.2))) fun n hn => JB.set hn).run pins z2 σ2 H2 v u Q I r (by
      obtain ⟨F, M, P, σD, s, d, K, R, j, rv, h, hK⟩ := q
      exact ⟨F, M, P, σD, s, d, K, R, j, rv, h, fun a b c d e f k l m n o => (hK a b c d e f k l m n o).2⟩)
  · exact (hg1 z G C cl fp (JB σ2 vs1) fun n hn => JB.set hn).run pins z2 σ2 H2 v u Q I r (by
      obtain ⟨F, M, P, σD, s, d, K, R, j, rv, h, hK⟩ := q
      exact ⟨F, M, P, σD, s, d, K, R, j, rv, h, fun a b c d e f k l m n o => (hK a b c d e f k l m n o).2⟩)
  · rw [wS, hE.ex] at h
    rw [wE, w.eq_23] at h
    dsimp only [dft] at h
    rw [w.eq_29] at h
    dsimp only [dft] at h
    refine lc2_key hv σ H _ ⟨F, M, P, σD, s, (fun o σ s => match o with | .own c => Pt.nx (σ.set n (Out.val (.ref s.length)).slot) (s ++ [c]) | .val _ => False), R, h, fun o σ1 s1 F1 M1 H1 v k sf ex R1 q => ?_⟩
    cases o with
    | val d => exact k.elim
    | own c =>
      obtain ⟨a, rfl, r, qo⟩ := q
      obtain ⟨R2, rv⟩ := R1.alloc r qo
      exact hE.nx _ _ F1 _ _ H1 k sf (ex.trans ⟨[a], rfl⟩) (hJ _ _ j) (R2.put (o := .val (.ref s1.length)) n rv)
end
end HP

set_option maxHeartbeats 2000000
/-! HpDef: a def keeps the promise of its functional semantics. -/
namespace HP
open PySem L2
open PyProof.Rows (envOfC)

section
variable {P : Program} {w : World} {K : PySem.W.Frag} {mg : Str → Option Value} {base : Heap} {k : Nat} {f : Addr} {fd : FuncData} {x qual : Str} {params : Arguments} {body : List Stmt} {scope : Scope} {N ps : List Str} {b : Ss}
/-- the context of a body -/
structure Good (X : Cx) (k : Nat) : Prop where
  room : Room k X.A
  still : Still X.A
  calm : X.calm = true
  nd : X.N.Nodup
theorem Good.hu {X : Cx} (g : Good X k) : X.A.units + 64 < cLine := by
  have := g.room.un
  omega
theorem Good.hu0 {X : Cx} (g : Good X k) : X.A.units < cLine := by
  have := g.room.un
  omega
theorem Good.hu1 {X : Cx} (g : Good X k) : X.A.units + 1 < cLine := by
  have := g.room.un
  omega
theorem Good.blk {X : Cx} (g : Good X k) (sc : Scope) (z : Shared) (G : Hp) (C : Addr) (cl : List (Str × Addr)) (fp : List Addr) : Good (blkX X sc z G C cl fp) k := ⟨g.room, g.still, g.calm, g.nd⟩
/-- entering a body -/
theorem rel_start {F : Hp} {M : List Addr} {P0 : Hp} {s : Store} {H : Hp} {ds : List D} {vs : List V} {n : Nat} (R : Rel K F M P0 [] s [] H) (r : RVs K F M ds vs) : Rel K F M P0 (ds.map .val ++ List.replicate n .unb) s (vs.map some ++ List.replicate n none) H := by
  refine ⟨R.sF, R.sP, R.mlen, R.mem, R.nd, R.fp, by simp [r.length], fun i sl h => ?_, fun i j c1 c2 a h1 h2 h3 h4 => ?_⟩
  · by_cases hi : i < ds.length
    · rw [List.getElem?_append_left (by simpa using hi), List.getElem?_map] at h
      cases hd : ds[i]? with
      | none => rw [hd] at h; cases h
      | some d =>
        rw [hd] at h
        cases h
        obtain ⟨v, hv, rv⟩ := r.get hd
        refine .val (x := v) ?_ rv
        rw [List.getElem?_append_left (by rw [List.length_map, ← r.length]; exact hi), List.getElem?_map, hv]
        rfl
    · rw [List.getElem?_append_right (by simpa using hi)] at h
      rw [List.getElem?_replicate] at h
      split at h <;> cases h
      exact .unb
  · exfalso
    by_cases hi : i < ds.length
    · rw [List.getElem?_append_left (by simpa using hi), List.getElem?_map] at h1
      cases hd : ds[i]? with
      | none => rw [hd] at h1; cases h1
      | some d => rw [hd] at h1; cases h1
    · rw [List.getElem?_append_right (by simpa using hi), List.getElem?_replicate] at h1
      split at h1 <;> cases h1
theorem Rel.drop {F : Hp} {M : List Addr} {P0 : Hp} {σD : Slots} {s : Store} {σ : St} {H : Hp} (R : Rel K F M P0 σD s σ H) : Rel K F M P0 [] s [] H := ⟨R.sF, R.sP, R.mlen, R.mem, R.nd, R.fp, rfl, fun i sl h => by simp at h, fun i j c c' a h => by simp at h⟩
theorem OutR.drop {F : Hp} {M : List Addr} {P0 : Hp} {σD : Slots} {σ : St} {H : Hp} {o : Out} {v : V} (h : OutR K F M P0 σD σ H o v) : OutR K F M P0 [] [] H o v := by
  cases o with
  | val d => exact h
  | own c =>
    obtain ⟨a, rfl, r, q⟩ := h
    exact ⟨a, rfl, r, q.f, q.p, q.m, fun i c h => by simp at h⟩
theorem start_eq {N : List Str} {vs : List V} {n m : Nat} (h1 : vs.length = n) (h2 : N.length = m) : L2.start N vs = vs.map some ++ List.replicate (m - n) none := by
  unfold L2.start
  rw [h1, h2]
/-- THE RULE: a def of the text -/
theorem fnG_of {n m : Nat} (Fd : FunD K x qual params body scope [] [] f fd) (S : FnScope N ps scope) (hn : ps.length = n) (hm : N.length = m)
    (hb : ∀ (cdv : Value) (B : Around) (out : List Env) (z : Shared) (G : Hp) (Z : XK), Good (cxOf CX0 P w K mg base N qual scope f cdv B out z G Z) k → PassesOwn (model P w) (cxOf CX0 P w K mg base N qual scope f cdv B out z G Z).A (cxOf CX0 P w K mg base N qual scope f cdv B out z G Z).env (cxOf CX0 P w K mg base N qual scope f cdv B out z G Z).xe →
      SSs (cxOf CX0 P w K mg base N qual scope f cdv B out z G Z) (fun _ => True) body b) :
    FnA P w K mg base CX0 (k + 1) f fd ps (spG K (mkFn n m b)) := by
  obtain ⟨oc, od, dV, kV, doc, pm, an, cdv, ct, osl, rfl, lk, hcd, _, _⟩ := Fd.ex
  refine fnA_of lk hcd S (fun xs G Q Z h => ?_) fun B out z G xs Q Z hr hs h => ?_
  · obtain ⟨F, M, P0, s, Kq, ds, R, r, ⟨hl, _⟩, _⟩ := h
    rw [← r.length, hl, hn]
  · obtain ⟨F, M, P0, s, Kq, ds, R, r, ⟨hl, hg⟩, hK⟩ := h
    refine ⟨_, hb cdv B out z G Z ⟨hr, hs, rfl, S.nd⟩ (passes_of (K := fun _ _ => False) (E₁ := fun _ _ => False) rfl), F, M, P0, _, s, _, ?_, trivial, hg, ?_⟩
    · rw [start_eq (r.length.symm.trans hl) hm]
      exact rel_start R r
    · exact ⟨fun σD' s' F' M' σ' H' k sf ex _ R' => hK _ s' F' M' H' _ k sf ex R'.drop .non, fun _ _ _ _ _ _ k => k.elim, fun _ _ _ _ _ _ k => k.elim, fun o σD' s' F' M' σ' H' v k sf ex R' q => hK o s' F' M' H' v k sf ex R'.drop q.drop, rfl⟩
/-- an __init__ of the text -/
theorem fnI_of {n m : Nat} {C : Str} (Fd : FunD K x qual params body scope [] [] f fd) (S : FnScope N ps scope) (hn : ps.length = n + 1) (hm : N.length = m)
    (hb : ∀ (cdv : Value) (B : Around) (out : List Env) (z : Shared) (G : Hp) (Z : XK) (J : St → Prop), Good (cxOf CX0 P w K mg base N qual scope f cdv B out z G Z) k → PassesOwn (model P w) (cxOf CX0 P w K mg base N qual scope f cdv B out z G Z).A (cxOf CX0 P w K mg base N qual scope f cdv B out z G Z).env (cxOf CX0 P w K mg base N qual scope f cdv B out z G Z).xe →
      (∀ i, i ≠ 0 → JSet J i) → SSs (cxOf CX0 P w K mg base N qual scope f cdv B out z G Z) J body b) :
    FnA P w K mg base CX0 (k + 1) f fd ps (spI K C (mkIn C n m b)) := by
  obtain ⟨oc, od, dV, kV, doc, pm, an, cdv, ct, osl, rfl, lk, hcd, _, _⟩ := Fd.ex
  refine fnA_of lk hcd S (fun xs G Q Z h => ?_) fun B out z G xs Q Z hr hs h => ?_
  · obtain ⟨y, dx, vs', F, M, P0, s, Kq, ds, rfl, _, _, R, r, ⟨hl, _⟩, _⟩ := h
    rw [List.length_cons, ← r.length, hl, hn]
  · obtain ⟨y, dx, vs', F, M, P0, s, Kq, ds, rfl, hy, qy, R, r, ⟨hl, hg⟩, hK⟩ := h
    refine ⟨_, hb cdv B out z G Z (fun σ => σ[0]? = some (some (.ref y))) ⟨hr, hs, rfl, S.nd⟩ (passes_of (K := fun _ _ => False) (E₁ := fun _ _ => False) rfl) (fun i hi σ v q => ?_), F, M, P0, _, s, _, ?_, ?_, hg, ?_⟩
    · dsimp only
      rw [List.getElem?_set_ne hi]
      exact q
    · have e : L2.start N (.ref y :: vs') = (some (.ref y) :: vs'.map some) ++ List.replicate (m - n - 1) none := by
        rw [start_eq (n := n + 1) (by rw [List.length_cons, ← r.length, hl]) hm]
        rfl
      rw [e]
      have R1 := rel_start (n := m - n - 1) R r
      refine ⟨R1.sF, R1.sP, R1.mlen, R1.mem, R1.nd, R1.fp, by simp [r.length], fun i sl h => ?_, fun i j c1 c2 a h1 h2 h3 h4 => ?_⟩
      · cases i with
        | zero =>
          simp at h
          subst h
          exact .own (a := y) rfl (.ins hy rfl .nil) qy.f qy.p qy.m
        | succ i => exact R1.slot i sl (by simpa using h)
      · cases i with
        | zero =>
          cases j with
          | zero => rfl
          | succ j =>
            exfalso
            obtain ⟨b, hb, _⟩ := (R1.slot j _ (by simpa using h2)).ov
            have := R1.dist
            by_cases hj : j < ds.length
            · have h5 : (ds.map Slot.val ++ List.replicate (m - n - 1) Slot.unb)[j]? = some (.own c2) := by simpa using h2
              rw [List.getElem?_append_left (by simpa using hj), List.getElem?_map] at h5
              cases hd : ds[j]? with
              | none => rw [hd] at h5; cases h5
              | some d => rw [hd] at h5; cases h5
            · have h5 : (ds.map Slot.val ++ List.replicate (m - n - 1) Slot.unb)[j]? = some (.own c2) := by simpa using h2
              rw [List.getElem?_append_right (by simpa using hj), List.getElem?_replicate] at h5
              split at h5 <;> cases h5
        | succ i =>
          cases j with
          | zero =>
            exfalso
            have h5 : (ds.map Slot.val ++ List.replicate (m - n - 1) Slot.unb)[i]? = some (.own c1) := by simpa using h1
            by_cases hj : i < ds.length
            · rw [List.getElem?_append_left (by simpa using hj), List.getElem?_map] at h5
              cases hd : ds[i]? with
              | none => rw [hd] at h5; cases h5
              | some d => rw [hd] at h5; cases h5
            · rw [List.getElem?_append_right (by simpa using hj), List.getElem?_replicate] at h5
              split at h5 <;> cases h5
          | succ j => rw [R1.dist i j c1 c2 a (by simpa using h1) (by simpa using h2) (by simpa using h3) (by simpa using h4)]
    · unfold L2.start
      rfl
    · refine ⟨fun σD' s' F' M' σ' H' k sf ex j R' => ?_, fun _ _ _ _ _ _ k => k.elim, fun _ _ _ _ _ _ k => k.elim, fun o σD' s' F' M' σ' H' v k => k.elim, rfl⟩
      dsimp only at k
      split at k <;> try (exact k.elim)
      rename_i kc hk
      obtain ⟨b, hb, rc, q1, q2, q3⟩ := (R'.slot 0 _ hk).ov
      have jj : σ'[0]? = some (some (.ref y)) := j
      cases jj.symm.trans hb
      exact hK _ s' F' M' H' k sf ex R'.drop ⟨y, rfl, rc, q1, q2, q3, fun i c h => by simp at h⟩
end
end HP

set_option maxHeartbeats 2000000
/-! HpIsi: isinstance. -/
namespace HP
open PySem L2

def names7 : List String := ["NoneType", "bool", "int", "str", "tuple", "list", "dict"]
def clV (K : PySem.W.Frag) : Cl → V
  | .int => .ty "int"
  | .bool => .ty "bool"
  | .str => .ty "str"
  | .tuple => .ty "tuple"
  | .list => .ty "list"
  | .dict => .ty "dict"
  | .own c => .ref (He.ga K c)
def clU (K : PySem.W.Frag) : Cl → Value
  | .int => .type "int"
  | .bool => .type "bool"
  | .str => .type "str"
  | .tuple => .type "tuple"
  | .list => .type "list"
  | .dict => .type "dict"
  | .own c => .ref (He.ga K c)
theorem clVU (K : PySem.W.Frag) (c : Cl) : ClsV (clV K c) (clU K c) := by
  cases c <;> constructor
/-- what is seen of the classes once -/
def isiB (all : List Str) (K : PySem.W.Frag) : Bool := all.all fun c =>
  (names7.all fun n => decide (PySem.W.kitOne K (.type n) (.ref (He.ga K c)) = some false) && decide (PySem.W.kitOne K (.ref (He.ga K c)) (.type n) = some false)) &&
  (all.all fun c' => decide (PySem.W.kitOne K (.ref (He.ga K c')) (.ref (He.ga K c)) = some (decide (c' = c)))) && (He.Fa.cls c).ok K &&
  He.eqO (PySem.W.findIn K (.ref (He.ga K c)) "__class__") (some (some (.builtin "object.__class__"))) && He.eqO (PySem.W.specialIn K (.builtin "object.__class__") "__get__") (some (some (.builtin "getset_descriptor.__get__"))) &&
  decide (PySem.W.takesIn K (.builtin "object.__class__") = some true) && decide (PySem.W.mroIn K (He.ga K c) (.type "object") = some true)
structure IsiF (all : List Str) (K : PySem.W.Frag) (c : Str) : Prop where
  fro : ∀ n ∈ names7, PySem.W.kitOne K (.type n) (.ref (He.ga K c)) = some false
  to : ∀ n ∈ names7, PySem.W.kitOne K (.ref (He.ga K c)) (.type n) = some false
  own : ∀ c' ∈ all, PySem.W.kitOne K (.ref (He.ga K c')) (.ref (He.ga K c)) = some (decide (c' = c))
  cl : Cls K (He.ga K c)
  ty : ∀ {H : Hp} {a dx : Addr} {fs : List (Str × V)}, H a = some (.ins (He.ga K c) dx fs) → TyOf K H (.ref a) (.ref (He.ga K c))
theorem isiB_ok {all : List Str} {K : PySem.W.Frag} (h : isiB all K = true) : ∀ c ∈ all, IsiF all K c := fun c hc => by
  unfold isiB at h
  have q := List.all_eq_true.mp h c hc
  simp only [Bool.and_eq_true] at q
  obtain ⟨⟨⟨⟨⟨⟨q1, q2⟩, q3⟩, q4⟩, q5⟩, q6⟩, q7⟩ := q
  refine ⟨fun n hn => ?_, fun n hn => ?_, fun c' hc' => ?_, He.cls_ok q3, fun {H a dx fs} e => ?_⟩
  · have := List.all_eq_true.mp q1 n hn
    simp only [Bool.and_eq_true, decide_eq_true_eq] at this
    exact this.1
  · have := List.all_eq_true.mp q1 n hn
    simp only [Bool.and_eq_true, decide_eq_true_eq] at this
    exact this.2
  · exact of_decide_eq_true (List.all_eq_true.mp q2 c' hc')
  · exact .ins e (He.cls_ok q3) (He.eqO_ok q4) (He.eqO_ok q5) (of_decide_eq_true q6) (of_decide_eq_true q7)
/-- the type of a value -/
theorem tyx_of {K : PySem.W.Frag} {F : Hp} {M : List Addr} {H : Hp} {d : D} {x : V} {n : String} (sF : Same F H) (r : RVt K F M H d x) (h : tyN d = some n) : TyX K H x (.type n) := by
  cases d <;> simp only [tyN, Option.some.injEq] at h <;> try (cases h; done)
  all_goals subst h
  · obtain rfl := r.non
    exact .base .non
  · obtain rfl := r.bl
    exact .base (.bl _)
  · obtain rfl := r.int
    exact .base (.int _)
  · obtain rfl := r.str
    exact .base (.str _)
  · obtain ⟨a, vs, rfl, h1, h2, h3⟩ := r.tup sF
    rcases h1 with (h1 | ⟨o, h1⟩) | ⟨o, its, k, h1, h2, _⟩
    · exact .base (.tup h1)
    · exact .fTuple h1
    · exact .kTuple h1 h2
  · obtain ⟨a, vs, rfl, h1, h3⟩ := r.lst sF
    exact .base (.lst h1)
  · obtain ⟨a, kvs, rfl, h1, _⟩ := r.dct sF
    exact .base (.dK h1)
theorem kit_bi {K : PySem.W.Frag} {d : D} {n : String} (h : tyN d = some n) {all : List Str} (hf : ∀ c ∈ all, IsiF all K c) : ∀ c : Cl, (∀ s, c = .own s → s ∈ all) → PySem.W.kitOne K (.type n) (clU K c) = some (isCl c d) := fun c hc => by
  cases c with
  | own s =>
    have q := (hf s (hc s rfl)).fro n (by cases d <;> simp only [tyN, Option.some.injEq] at h <;> first | (subst h; decide) | cases h)
    rw [show isCl (.own s) d = false by cases d <;> first | rfl | cases h]
    exact q
  | _ => cases d <;> simp only [tyN, Option.some.injEq] at h <;> first
    | (subst h; exact kit_ty (r := true) (by decide +kernel))
    | (subst h; exact kit_ty (r := false) (by decide +kernel))
    | cases h
theorem kit_ins {K : PySem.W.Frag} {s : Str} {ns : List Str} {vs : List D} {all : List Str} (hf : ∀ c ∈ all, IsiF all K c) (hs : s ∈ all) : ∀ c : Cl, (∀ s, c = .own s → s ∈ all) → PySem.W.kitOne K (.ref (He.ga K s)) (clU K c) = some (isCl c (.ins s ns vs)) := fun c hc => by
  cases c with
  | own t => exact (hf t (hc t rfl)).own s hs
  | _ => exact (hf s hs).to _ (by decide)
/-- the type and all that is asked of it -/
theorem isi_of {K : PySem.W.Frag} {F : Hp} {M : List Addr} {H : Hp} {d : D} {x : V} {all : List Str} {cs : List Cl} {b : Bool} (hf : ∀ c ∈ all, IsiF all K c) (hcs : ∀ c ∈ cs, ∀ s, c = .own s → s ∈ all) (sF : Same F H) (r : RVt K F M H d x) (h : isiSem all cs d = some b) :
    ∃ t, TyX K H x t ∧ (∀ c ∈ cs, PySem.W.kitOne K t (clU K c) = some (isCl c d)) ∧ b = cs.any fun k => isCl k d := by
  by_cases hi : ∃ c ns vs, d = .ins c ns vs
  · obtain ⟨c, ns, vs, rfl⟩ := hi
    simp only [isiSem] at h
    split at h <;> cases h
    rename_i hc
    have hc' : c ∈ all := by simpa using hc
    obtain ⟨a, dx, fs, rfl, h1, _⟩ := r.ins sF
    exact ⟨_, .base ((hf c hc').ty h1), fun k hk => kit_ins hf hc' k (hcs k hk), rfl⟩
  · have h2 : (if (tyN d).isSome then some (cs.any fun k => isCl k d) else none) = some b := by
      cases d <;> first | exact h | exact absurd ⟨_, _, _, rfl⟩ hi
    split at h2 <;> cases h2
    rename_i hn
    obtain ⟨n, hn⟩ := Option.isSome_iff_exists.mp hn
    exact ⟨_, tyx_of sF r hn, fun k hk => kit_bi hn hf k (hcs k hk), rfl⟩

section
variable {X : Cx} {a T : Expr} {ia : E} {pos p : Pos} {all : List Str}
theorem kitAny_of {K : PySem.W.Frag} {t : Value} {d : D} : ∀ {cs : List Cl}, (∀ c ∈ cs, PySem.W.kitOne K t (clU K c) = some (isCl c d)) → PySem.W.kitAny K t (cs.map (clU K)) = some (cs.any fun k => isCl k d)
  | [], _ => kitAny_nil
  | c :: cs, h => kitAny_cons (h c (List.mem_cons_self ..)) (fun e => by rw [kitAny_of fun c hc => h c (List.mem_cons_of_mem _ hc), List.any_cons, e, Bool.false_or]) fun e => by rw [List.any_cons, e, Bool.true_or]
/-- a class as an expression -/
def SCl (X : Cx) (T : Expr) (c : Cl) : Prop := PE X T (tC (clV X.K c))
theorem se_isi1 {c : Cl} (hf : ∀ c ∈ all, IsiF all X.K c) (hcs : ∀ s, c = .own s → s ∈ all) (hg : Gl X "isinstance") (hm : X.mg "isinstance" = none) (he : starEach [a, T] X.env = (false, eval a X.env) :: starEach [T] X.env) (he2 : starEach [T] X.env = (false, eval T X.env) :: starEach [] X.env)
    (hpl : (backTo pos (starEach [T] X.env)).any (·.1) = false) (ht : TruE X (.Call (.Name "isinstance" p) [a, T] [] pos)) (ha : SEx X a ia) (hT : SCl X T c) : SEx X (.Call (.Name "isinstance" p) [a, T] [] pos) (.isi all [c] ia) := by
  have hp := pe_callB (pos := pos) (p := p) (X := X) call_isi hg hm (by decide +kernel) (pa_cons ha.o (pa_cons hT pa_nil he2) he) (by decide) (by decide) he hpl
  have rd : ∀ σ H (Q : VK) (B : Bool → Hp → Prop), (∀ k H', B k H' → Q (.bl k) H') → tTt X (fun σ s K x => asOp ia (w ia).v σ s (fun y σ s => optK (vres σ s y) fun y => optK (isiSem all [c] y) fun r => K r σ s) x) σ H B →
      tCB (rIsi X.K) (tCons (tOd X ia (w ia).v) (tCons (tC (clV X.K c)) tNil)) σ H Q := fun σ H Q B hB ⟨F, M, P, σD, s, K, R, h, hK⟩ => by
    refine ⟨F, M, P, σD, s, _, R, h, fun x σ1 s1 F1 M1 H1 vx k1 sf1 e1 R1 ox => ?_⟩
    obtain ⟨d, hd, k1⟩ := optK_ex k1
    obtain ⟨b, hb, k1⟩ := optK_ex k1
    obtain ⟨t, h1, h2, h3⟩ := isi_of hf (fun c' hc' => by cases List.mem_singleton.mp hc'; exact hcs) R1.sF (R1.res ox hd) hb
    exact ⟨vx, _, t, _, b, rfl, clVU X.K c, h1, by rw [h2 c (List.mem_singleton.mpr rfl), h3]; simp, hB _ _ (hK _ _ _ F1 M1 H1 k1 sf1 e1 R1)⟩
  refine sex_ofT (w.eq_25 all [c] ia) (fun _ _ _ _ _ => rfl) hp (ptImp (pt_val hp ht) fun σ H Q q => ?_) rd
  exact q
end
end HP

set_option maxHeartbeats 2000000
/-! HpOps5: max, min, sorted of plain data. -/
namespace HP
open PySem L2 PySem.W

theorem relGetV {xs : List V} {us : List Value} (h : Vals xs us) : ∀ {i : Nat} {u : Value}, us[i]? = some u → ∃ x, xs[i]? = some x ∧ RelV x u := by
  induction h with
  | nil => intro i u e; simp at e
  | @cons x v xs us r _ ih =>
    intro i u e
    cases i with
    | zero =>
      simp at e
      subst e
      exact ⟨x, rfl, r⟩
    | succ i => exact ih (by simpa using e)
theorem sortable_ok {xs : List D} (h : sortable xs = true) : (∀ x ∈ xs, x.plain = true ∧ x.dep ≤ 60 ∧ x.py ≠ .none) ∧ (∀ x ∈ xs, ∀ y ∈ xs, alike x.py y.py = true) ∧ (Sortable (xs.map D.py)) := by
  unfold sortable at h
  simp only [Bool.and_eq_true, List.all_eq_true, Bool.or_eq_true] at h
  obtain ⟨h, h2⟩ := h
  refine ⟨fun x hx => ?_, fun x hx y hy => (h x hx).2 y hy, ?_⟩
  · obtain ⟨⟨h1, h3⟩, _⟩ := h x hx
    obtain ⟨p, d⟩ := D.ok_plain h1
    refine ⟨p, d, ?_⟩
    cases x <;> simp_all [D.py, D.plain, notNon]
  · rcases h2 with h2 | h2
    · refine .inl fun d hd => ?_
      obtain ⟨x, hx, rfl⟩ := List.mem_map.mp hd
      have := h2 x hx
      cases x <;> simp [tupNe] at this
      rename_i l
      cases l with
      | nil => simp [tupNe] at this
      | cons y ys => exact ⟨y.py, pys ys, by simp only [D.py, pys]⟩
    · refine .inr fun d hd => ?_
      obtain ⟨x, hx, rfl⟩ := List.mem_map.mp hd
      obtain ⟨⟨h1, h3⟩, _⟩ := h x hx
      have p := (D.ok_plain h1).1
      have t := h2 x hx
      refine ⟨by cases x <;> simp_all [D.py, D.plain, notNon], fun l e => ?_⟩
      cases x <;> simp_all [D.py, D.plain, isTup]
theorem depths_le : ∀ {xs : List D}, (∀ x ∈ xs, x.plain = true ∧ x.dep ≤ 60 ∧ x.py ≠ .none) → PyData.depthAll (pys xs) ≤ 60
  | [], _ => by simp [pys, PyData.depthAll]
  | x :: xs, h => by
    obtain ⟨p, d, _⟩ := h x (List.mem_cons_self ..)
    have ih := depths_le fun y hy => h y (List.mem_cons_of_mem _ hy)
    simp only [pys, PyData.depthAll, py_dep x p]
    omega
theorem plains_of : ∀ {xs : List D}, (∀ x ∈ xs, x.plain = true) → plains xs = true
  | [], _ => rfl
  | x :: xs, h => by
    simp only [plains, h x (List.mem_cons_self ..), plains_of fun y hy => h y (List.mem_cons_of_mem _ hy), Bool.and_self]
theorem maxL_py : ∀ (xs : List D) (x : D), PySem.W.maxD x.py (pys xs) = (maxL x xs).py ∧ (maxL x xs = x ∨ maxL x xs ∈ xs)
  | [], x => ⟨rfl, .inl rfl⟩
  | y :: ys, x => by
    have e : maxL x (y :: ys) = maxL (if ltD x y then y else x) ys := rfl
    have e2 : PySem.W.maxD x.py (pys (y :: ys)) = PySem.W.maxD (if ltD x y then y else x).py (pys ys) := by
      have hq : dataLt x.py y.py = ltD x y := rfl
      simp only [pys, PySem.W.maxD, List.foldl_cons, hq]
      cases ltD x y <;> rfl
    obtain ⟨h1, h2⟩ := maxL_py ys (if ltD x y then y else x)
    rw [e, e2]
    refine ⟨h1, ?_⟩
    rcases h2 with h2 | h2
    · rw [h2]
      split
      · exact .inr (List.mem_cons_self ..)
      · exact .inl rfl
    · exact .inr (List.mem_cons_of_mem _ h2)
theorem minL_py : ∀ (xs : List D) (x : D), PySem.W.minD x.py (pys xs) = (minL x xs).py ∧ (minL x xs = x ∨ minL x xs ∈ xs)
  | [], x => ⟨rfl, .inl rfl⟩
  | y :: ys, x => by
    have e : minL x (y :: ys) = minL (if ltD y x then y else x) ys := rfl
    have e2 : PySem.W.minD x.py (pys (y :: ys)) = PySem.W.minD (if ltD y x then y else x).py (pys ys) := by
      have hq : dataLt y.py x.py = ltD y x := rfl
      simp only [pys, PySem.W.minD, List.foldl_cons, hq]
      cases ltD y x <;> rfl
    obtain ⟨h1, h2⟩ := minL_py ys (if ltD y x then y else x)
    rw [e, e2]
    refine ⟨h1, ?_⟩
    rcases h2 with h2 | h2
    · rw [h2]
      split
      · exact .inr (List.mem_cons_self ..)
      · exact .inl rfl
    · exact .inr (List.mem_cons_of_mem _ h2)
theorem alikeAll_of {xs : List D} (h : sortable xs = true) : AlikeAll (pys xs) := by
  obtain ⟨h1, h2, _⟩ := sortable_ok h
  rw [pys_map]
  refine ⟨fun a ha b hb => ?_, fun a ha => ?_⟩
  · obtain ⟨x, hx, rfl⟩ := List.mem_map.mp ha
    obtain ⟨y, hy, rfl⟩ := List.mem_map.mp hb
    exact h2 x hx y hy
  · obtain ⟨x, hx, rfl⟩ := List.mem_map.mp ha
    exact (h1 x hx).2.2

section
variable {X : Cx}
/-- one item of a list that reads as the wanted one -/
theorem pick_item {pins : List (Addr × Obj)} {σ : St} {H F : Hp} {M : List Addr} {s : Shared} {ds : List D} {vs : List V} {its : List Value} {i : Nat} {u : Value} {h' : Heap} {m : D} {bs : List Addr} (I : Inv X pins σ H s) (sF : Same F H) (rs : RVs X.K F M ds vs) (rv : Vals vs its)
    (hi : its[i]? = some u) (hp : ∀ x ∈ ds, x.plain = true) (hm : m ∈ ds) (r : Reads h' u m.py bs) (k : ∀ b o, s.heap.get? b = some o → h'.get? b = some o) : ∃ v, RelV v u ∧ RV X.K F M m v := by
  obtain ⟨v, hv, rel⟩ := relGetV rv hi
  obtain ⟨d, hd, q⟩ := rs.getV hv
  have hdm := List.mem_of_getElem? hd
  obtain ⟨as, r1⟩ := RV.reads I sF d v u (hp d hdm) q rel
  have r2 := PyProof.Rows.Reads.keeps k r1
  have e := (r2.unique _ _ r).1
  have e2 := py_inj d m (hp d hdm) (hp m hm) e
  subst e2
  exact ⟨v, rel, q⟩
theorem cr_maxL (hc : X.calm = true) (hu : X.A.units + 64 < cLine) : CallR X (.builtin "max") (rcD X.K fun ds => match ds with | [.lst (x :: xs)] => if sortable (x :: xs) then some (.val (maxL x xs)) else none | _ => none) := by
  intro pins s σ H xs us Q I r h
  obtain ⟨F, M, ds, sF, hx, h⟩ := h
  replace h := optK_ex h
  obtain ⟨o, ho, h⟩ := h
  dsimp only at ho
  split at ho <;> try (cases ho; done)
  split at ho <;> cases ho
  rename_i x xs hs
  obtain ⟨v, rfl, hv⟩ := hx.one
  obtain ⟨a, vs, rfl, h1, h3⟩ := hv.lst sF
  obtain ⟨u, rfl, ru⟩ := vals1 r
  cases (show u = Value.ref a from ru)
  obtain ⟨z, its, n, rv, hl, hg⟩ := I.lstM h1
  obtain ⟨k1, k2, _⟩ := sortable_ok hs
  obtain ⟨as, rd⟩ := RVs.reads I sF _ _ its (plains_of fun y hy => (k1 y hy).1) h3 rv
  have hd := depths_le k1
  refine PySem.W.max_list_data (x := x.py) (xs := pys xs) (I.ok.hd hc) ⟨_, hg, rfl, _, rfl⟩ (by simpa [pys] using rd) (by have := alikeAll_of hs; simpa only [pys] using this) (by simp only [pys] at hd; omega) fun i u h' tk bs hi q k => ?_
  obtain ⟨e, hm⟩ := maxL_py xs x
  rw [e] at q
  obtain ⟨v, rel, q2⟩ := pick_item (m := maxL x xs) I sF h3 rv (by simpa using hi) (fun y hy => (k1 y hy).1) (by rcases hm with hm | hm; rw [hm]; exact List.mem_cons_self ..; exact List.mem_cons_of_mem _ hm) q k
  exact ⟨v, H, I.kept k, rel, h _ _ (.old q2)⟩
theorem cr_minL (hc : X.calm = true) (hu : X.A.units + 64 < cLine) : CallR X (.builtin "min") (rcD X.K fun ds => match ds with | [.lst (x :: xs)] => if sortable (x :: xs) then some (.val (minL x xs)) else none | _ => none) := by
  intro pins s σ H xs us Q I r h
  obtain ⟨F, M, ds, sF, hx, h⟩ := h
  replace h := optK_ex h
  obtain ⟨o, ho, h⟩ := h
  dsimp only at ho
  split at ho <;> try (cases ho; done)
  split at ho <;> cases ho
  rename_i x xs hs
  obtain ⟨v, rfl, hv⟩ := hx.one
  obtain ⟨a, vs, rfl, h1, h3⟩ := hv.lst sF
  obtain ⟨u, rfl, ru⟩ := vals1 r
  cases (show u = Value.ref a from ru)
  obtain ⟨z, its, n, rv, hl, hg⟩ := I.lstM h1
  obtain ⟨k1, k2, _⟩ := sortable_ok hs
  obtain ⟨as, rd⟩ := RVs.reads I sF _ _ its (plains_of fun y hy => (k1 y hy).1) h3 rv
  have hd := depths_le k1
  refine PySem.W.min_list_data (x := x.py) (xs := pys xs) (I.ok.hd hc) ⟨_, hg, rfl, _, rfl⟩ (by simpa [pys] using rd) (by have := alikeAll_of hs; simpa only [pys] using this) (by simp only [pys] at hd; omega) fun i u h' tk bs hi q k => ?_
  obtain ⟨e, hm⟩ := minL_py xs x
  rw [e] at q
  obtain ⟨v, rel, q2⟩ := pick_item (m := minL x xs) I sF h3 rv (by simpa using hi) (fun y hy => (k1 y hy).1) (by rcases hm with hm | hm; rw [hm]; exact List.mem_cons_self ..; exact List.mem_cons_of_mem _ hm) q k
  exact ⟨v, H, I.kept k, rel, h _ _ (.old q2)⟩
end

/-! ### sorted, of a list or a tuple -/
open PyProof.Rows in
theorem sorted_seq {prog : Program} {w : World} {A : Around} {E : Value → Shared → Prop} {s : Shared} {l : Addr} {T : String} {o : Obj} {its : List Value} {n : Nat} {ds : List D} {R : Value → D → Prop} {Q : Value → Shared → Prop} (hT : T = "list" ∨ T = "tuple")
    (ho : s.heap.get? l = some o) (hc : o.cls = .type T) (hd : o.data = .seq its.toArray n) (e : EachIs R its ds) (er : EachIs (fun v b => ∃ as, Reads s.heap v (D.py b) as) its ds) (hal : AllAlike (ds.map D.py)) (hk : Sortable (ds.map D.py)) (hL : ds.length ≤ sizeLine)
    (hu : ∀ b, b ∈ ds → A.units + 2 + (D.py b).depth < cLine)
    (h : ∀ out a g h', out.length = ds.length → EachIs R out (ds.mergeSort (dataLe false D.py)) → (∀ b q, s.heap.get? b = some q → Heap.get? g b = some q) → g.objs.size ≤ a → (∀ b q, g.get? b = some q → h'.get? b = some q) → (∃ k, h'.get? a = some (seqObj "list" out.toArray k)) → Q (.ref a) { s with heap := h' }) :
    wpAny (model prog w) A (PySem.call (.builtin "sorted") [.ref l]) Q E s := by
  have hl : its.length = ds.length := e.length
  refine call_function_entry_kw kind_sorted plain_sorted entry_sorted (args_sorted1 _) ?_
  unfold Builtin.«sorted»
  refine wpAny_bind (m := checkCount "sorted" 1 1 _) (wpAny_pure (wpAny_bind (wpAny_collect_seq l hT ho hc hd (fun g kp => ?_) (by rw [List.size_toArray, hl]; exact hL))))
  have et : its.toArray.toList = its := by simp
  rw [et]
  refine wpAny_bind (wpAny_newList ?_ (by rw [hl]; exact hL))
  have hg : (g.push (seqObj "list" its.toArray 0)).get? g.objs.size = some (seqObj "list" its.toArray 0) := Heap.get?_push_size _ rfl
  have old : ∀ b q, s.heap.get? b = some q → b ≠ g.objs.size ∧ (g.push (seqObj "list" its.toArray 0)).get? b = some q := fun b q hb => ⟨Nat.ne_of_lt (Heap.lt_size (kp b q hb)), Heap.get?_push_of_some _ (kp b q hb)⟩
  have er' : EachIs (fun v b => ∃ as, Reads (sortingHeap (g.push (seqObj "list" its.toArray 0)) g.objs.size its) v (D.py b) as) its ds := er.mono fun _ _ ⟨as, r⟩ => ⟨as, PyProof.Rows.Reads.keeps (fun b q hb => sortingHeap_old (old b q hb).1 (old b q hb).2) r⟩
  have hs : ∀ d, d ∈ ds.map D.py → A.in1.in1.units + d.depth < cLine := fun d hd => by
    obtain ⟨b, hb, rfl⟩ := List.mem_map.mp hd
    exact hu b hb
  refine wpAny_bind (wpAny_holding (wpAny_call_entry_kw slot_list_sort ⟨_, hg, rfl⟩ entry_list_sort ?body (args_list_sort _)))
  refine wpAny_mono (list_sort_vals (s := { s with heap := g.push (seqObj "list" its.toArray 0) }) (P := fun f s' => f = .done (.ret .none) ∧ Q (.ref g.objs.size) s') hg
    (SortsAt.data (s := { s with heap := sortingHeap (g.push (seqObj "list" its.toArray 0)) g.objs.size its }) (each_map (R := fun v d => ∃ as, Reads (sortingHeap (g.push (seqObj "list" its.toArray 0)) g.objs.size its) v d as) D.py er') hal hk hs) (by rw [hl]; exact hL) ⟨rfl, ?_⟩) (fun f s' hf => ?_) fun _ _ z => z
  · refine h _ _ g _ (by rw [sortVals_length false rfl]; exact e.length) (sortVals_data false e er' hal) kp (Nat.le_refl _) (fun b q hb => ?_) (sortedHeap_at hg)
    have h1 : b ≠ g.objs.size := Nat.ne_of_lt (Heap.lt_size hb)
    have h2 : (g.push (seqObj "list" its.toArray 0)).get? b = some q := Heap.get?_push_of_some _ hb
    rw [sortedHeap_old h1 (Heap.lt_size h2)]
    exact h2
  · obtain ⟨rfl, hq⟩ := hf
    exact ⟨_, rfl, wpAny_pure ⟨_, rfl, hq⟩⟩
theorem each_rel {K : PySem.W.Frag} {F : Hp} {M : List Addr} : ∀ {ds : List D} {vs : List V} {us : List Value}, RVs K F M ds vs → Vals vs us → EachIs (fun u d => ∃ v, RV K F M d v ∧ RelV v u) us ds
  | _, _, _, .nil, .nil => .nil
  | _, _, _, .cons a b, .cons p q => .cons ⟨_, a, p⟩ (each_rel b q)
theorem each_back {K : PySem.W.Frag} {F : Hp} {M : List Addr} : ∀ {ds : List D} {us : List Value}, EachIs (fun u d => ∃ v, RV K F M d v ∧ RelV v u) us ds → ∃ vs, RVs K F M ds vs ∧ Vals vs us
  | _, _, .nil => ⟨[], .nil, .nil⟩
  | _, _, .cons ⟨v, a, p⟩ t => by
    obtain ⟨vs, b, q⟩ := each_back t
    exact ⟨v :: vs, .cons a b, .cons p q⟩
theorem each_reads : ∀ {ds : List D} {us : List Value} {h : Heap} {as : List Addr}, ReadsAll h us (pys ds) as → EachIs (fun u d => ∃ as, Reads h u (D.py d) as) us ds
  | [], us, h, as, r => by
    simp only [pys] at r
    cases r
    exact .nil
  | d :: ds, us, h, as, r => by
    simp only [pys] at r
    cases r with
    | cons a b => exact .cons ⟨_, a⟩ (each_reads b)
section
variable {X : Cx}
theorem cr_sortedD (hu : X.A.units + 64 < cLine) : CallR X (.builtin "sorted") (rcD X.K (biSem .sorted)) := by
  intro pins s σ H xs us Q I r h
  obtain ⟨F, M, ds, sF, hx, h⟩ := h
  replace h := optK_ex h
  obtain ⟨o, ho, h⟩ := h
  unfold biSem at ho
  split at ho <;> try (cases ‹Bi.sorted = _›; done)
  · replace ho := Option.bind_eq_some_iff.mp ho
    obtain ⟨ys, hy, ho⟩ := ho
    split at ho <;> cases ho
    rename_i hs
    simp only [Bool.and_eq_true, decide_eq_true_eq] at hs
    obtain ⟨hs, hz⟩ := hs
    obtain ⟨v, rfl, hv⟩ := hx.one
    obtain ⟨u, rfl, ru⟩ := vals1 r
    obtain ⟨k1, k2, k3⟩ := sortable_ok hs
    have hal : AllAlike (ys.map D.py) := fun a ha b hb => by
      obtain ⟨x, hx, rfl⟩ := List.mem_map.mp ha
      obtain ⟨y, hy, rfl⟩ := List.mem_map.mp hb
      exact k2 x hx y hy
    have hdep : ∀ b, b ∈ ys → X.A.units + 2 + (D.py b).depth < cLine := fun b hb => by
      obtain ⟨p, d, _⟩ := k1 b hb
      rw [py_dep b p]
      omega
    have fin : ∀ {its : List Value} {vs : List V} {l : Addr} {T : String} {ob : Obj} {n : Nat}, (T = "list" ∨ T = "tuple") → s.heap.get? l = some ob → ob.cls = .type T → ob.data = .seq its.toArray n → RVs X.K F M ys vs → Vals vs its →
        wpAny (model X.prog X.w) X.A (PySem.call (.builtin "sorted") [.ref l]) (EP X pins σ Q) X.xe s := fun {its vs l T ob n} hT hg hc hd rs rv => by
      obtain ⟨as, rd⟩ := RVs.reads I sF _ _ its (plains_of fun y hy => (k1 y hy).1) rs rv
      refine sorted_seq (s := s) hT hg hc hd (each_rel rs rv) (each_reads rd) hal k3 (by rw [← big_eq]; exact hz) hdep fun out a g h' ho2 e kg hsz kp ⟨k, ha⟩ => ?_
      obtain ⟨ws, r1, r2⟩ := each_back e
      have hlen : ws.length ≤ sizeLine := by
        rw [r2.length, ho2, ← big_eq]
        exact hz
      have I1 : Inv X pins σ H { s with heap := g } := I.kept (t' := s.toks) kg
      have hn := I1.hok.fresh hsz
      refine ⟨.ref a, _, I1.laid (t' := s.toks) kp hsz (o := .lst ws) ⟨hlen, out, k, r2, ha⟩, rfl, h _ _ (.lst hn ?_)⟩
      exact r1
    cases ‹D› <;> simp only [seqOf] at hy <;> try (cases hy; done)
    · cases hy
      obtain ⟨a, vs, rfl, h1, h2, h3⟩ := hv.tup sF
      cases (show u = Value.ref a from ru)
      obtain ⟨its, rv, ⟨ob, q1, q2, n, q3⟩, _⟩ := I.tuple h1
      exact fin (.inr rfl) q1 q2 q3 h3 rv
    · cases hy
      obtain ⟨a, vs, rfl, h1, h3⟩ := hv.lst sF
      cases (show u = Value.ref a from ru)
      obtain ⟨z, its, n, rv, hl, hg⟩ := I.lstM h1
      exact fin (.inl rfl) hg rfl rfl h3 rv
  · cases ho
end
end HP

set_option maxHeartbeats 4000000
/-! HpSet: len(set(texts)). -/
namespace HP
open PySem L2

theorem nubS_mem : ∀ {xs acc : List Str} {y : Str}, y ∈ nubS acc xs ↔ y ∈ acc ∨ y ∈ xs
  | [], acc, y => by simp [nubS]
  | x :: xs, acc, y => by
    unfold nubS
    split
    · rename_i h
      rw [nubS_mem]
      have hx : x ∈ acc := by simpa using h
      constructor
      · rintro (h | h)
        · exact .inl h
        · exact .inr (List.mem_cons_of_mem _ h)
      · rintro (h | h)
        · exact .inl h
        · rcases List.mem_cons.mp h with rfl | h
          · exact .inl hx
          · exact .inr h
    · rw [nubS_mem]
      simp only [List.mem_append, List.mem_cons, List.not_mem_nil, or_false]
      exact or_assoc
theorem nubS_snoc : ∀ {xs acc : List Str} {x : Str}, nubS acc (xs ++ [x]) = if (nubS acc xs).contains x then nubS acc xs else nubS acc xs ++ [x]
  | [], acc, x => by
    simp only [List.nil_append, nubS]
    rfl
  | y :: xs, acc, x => by
    simp only [List.cons_append, nubS]
    split
    · exact nubS_snoc
    · exact nubS_snoc
theorem nubS_len : ∀ {xs acc : List Str}, (nubS acc xs).length ≤ acc.length + xs.length
  | [], acc => by simp [nubS]
  | x :: xs, acc => by
    unfold nubS
    split
    · have := @nubS_len xs acc
      rw [List.length_cons]
      omega
    · have := @nubS_len xs (acc ++ [x])
      rw [List.length_append, List.length_singleton] at this
      rw [List.length_cons]
      omega
section
open PyProof.Rows PySem.W
variable {prog : Program} {w : World} {A : Around} {R : Result → Shared → Prop} {it : Addr} {fp wr : List Addr} {G : Array GenState → Array GenState → Prop} {n : Nat} {Pv : Nat → Value → Prop} {Sv : Nat → Shared → Prop}
/-- the set at p holds the first i texts -/
abbrev Hold (prog : Program) (w : World) (h : Heap) (p : Addr) (ss : List Str) (i : Nat) : Prop := h.SetOf (PySem.strKind prog w) p (fun k => (nubS [] (ss.take i)).contains k) (nubS [] (ss.take i)).length
theorem Hold.move {h h' : Heap} {p : Addr} {ss : List Str} {i : Nat} (q : Hold prog w h p ss i) (k : ∀ o, h.get? p = some o → h'.get? p = some o) : Hold prog w h' p ss i := by
  obtain ⟨o, es, ep, t, ho, rest⟩ := q
  exact ⟨o, es, ep, t, k o ho, rest⟩
theorem set_turns (W : WalksS prog w A.in1 it fp wr G n Pv Sv) (p : Addr) (hp : p ∉ fp) (ss : List Str) (hz : ss.length = n) (hb : n + 1 < scanBound) (hv : ∀ i v, Pv i v → ∃ t, v = .str (ss.getD i Str.empty) t) :
    ∀ (k i : Nat) (z : Shared), n - i = k → i ≤ n → Sv i z → Hold prog w z.heap p ss i → (∀ z', Moved (p :: wr) G z z' → Hold prog w z'.heap p ss n → R (.ok (.ret .none)) z') →
      codeAny (model prog w) A (.builtin "set.update.loop" ⟨[.ref p, .ref it], []⟩) R z := by
  have hw : p ∉ wr := fun q => hp (W.sub _ q)
  have up : ∀ b ∈ wr, b ∈ p :: wr := fun b q => List.mem_cons_of_mem _ q
  intro k
  induction k with
  | zero =>
    intro i z hk hi hs hS hR
    obtain rfl : i = n := by omega
    refine codeAny_builtin F.entry_set_update_loop ?_
    rw [Around.under_plainId F.plain_set_update_loop _]
    show wpAny _ A.in1 (pyNext (.ref it) >>= _) _ _ z
    refine wpAny_bind (W.done z _ _ hs fun z' hm => ?_)
    show wpAny _ A.in1 (ret Value.none) _ _ z'
    exact wpAny_pure (hR z' (hm.mono up) (hS.move fun o => hm.heap p o hw))
  | succ k ih =>
    intro i z hk hi hs hS hR
    have hlt : i < n := by omega
    refine codeAny_builtin F.entry_set_update_loop ?_
    rw [Around.under_plainId F.plain_set_update_loop _]
    show wpAny _ A.in1 (pyNext (.ref it) >>= _) _ _ z
    refine wpAny_bind (W.item i z _ _ hlt hs fun v z' hP hs' hm => ?_)
    obtain ⟨t, rfl⟩ := hv i v hP
    have hS1 : Hold prog w z'.heap p ss i := hS.move fun o => hm.heap p o hw
    show wpAny _ A.in1 (holding [Value.str (ss.getD i Str.empty) t] (setAdd p (.str (ss.getD i Str.empty) t)) >>= _) _ _ z'
    refine wpAny_bind (wpAny_holding ?_)
    unfold setAdd
    refine wpAny_holding (wpAny_bind ((PySem.strKind prog w).pyHash (k := ss.getD i Str.empty) (strKind_is _ _ _ _) ?_))
    have hle := @nubS_len (ss.take i) []
    have hti : (ss.take i).length ≤ i := by rw [List.length_take]; omega
    refine wpAny_setAddHashed_of (knd := PySem.strKind prog w) (s := { z' with toks := z'.toks + 1 }) (strKind_is _ _ _ _) rfl hS1 (by simp only [List.length_nil] at hle; omega) fun h' sb hS2 => ?_
    have hSi : Hold prog w h' p ss (i + 1) := by
      have hi2 : i < ss.length := by omega
      have e1 : ss.take (i + 1) = ss.take i ++ [ss.getD i Str.empty] := by
        rw [List.take_succ_eq_append_getElem hi2]
        simp [List.getD, hi2]
      refine SetOf_congr hS2 (fun k' => ?_) ?_
      · rw [e1, nubS_snoc]
        by_cases hc : (nubS [] (ss.take i)).contains (ss.getD i Str.empty) = true
        · rw [if_pos hc]
          by_cases e : k' = ss.getD i Str.empty
          · subst e
            rw [hc]
            rfl
          · rw [decide_eq_false e, Bool.or_false]
        · rw [if_neg hc]
          rw [Bool.eq_iff_iff]
          simp
      · rw [e1, nubS_snoc]
        by_cases hc : (nubS [] (ss.take i)).contains (ss.getD i Str.empty) = true
        · rw [if_pos hc, if_pos hc]
        · rw [if_neg hc, if_neg hc, List.length_append]
          rfl
    refine wpAny_pure ⟨plainId_quiet F.plain_set_update_loop _, ih (i + 1) _ (by omega) hlt (W.frame _ z' _ _ hs' (Nat.le_succ _) fun b hb o e => ?_) hSi fun z'' hm2 hS3 => ?_⟩
    · rw [sb.2 b fun q : b = p => hp (q ▸ hb)]
      exact e
    · refine hR z'' (Moved.trans W.gtrans ((hm.mono up).then_heap (Nat.le_succ _) fun b o hb e => ?_) hm2) hS3
      rw [sb.2 b fun q : b = p => hb (by rw [q]; exact List.mem_cons_self)]
      exact e
end
section
open PySem.W PyProof.Rows
open AutoSeq1 (wpAny_loadPart')
variable {prog : Program} {w : World} {A : Around} {E : Value → Shared → Prop} {s : Shared}
/-- a new set -/
abbrev set0 (led : Bool) : Obj := { cls := .type "set", dict := none, data := .set #[] 0 (.fresh 0 0 led) }
set_option maxHeartbeats 8000000 in
/-- set(x), x a tuple of texts -/
theorem set_of_tup {l : Addr} {its : Array Value} {ss : List Str} {Q : Value → Shared → Prop} (hh : A.handled = none) (hl : s.heap.IsTuple l its) (hi : StrsAre its.toList ss) (hb : ss.length + 1 < scanBound)
    (h : ∀ (h' : Heap) (tk : Nat), Hold prog w h' s.heap.objs.size ss ss.length → (∀ b o, b < s.heap.objs.size → s.heap.get? b = some o → h'.get? b = some o) → Q (.ref s.heap.objs.size) { s with heap := h', toks := tk }) :
    wpAny (model prog w) A (PySem.call (.type "set") [.ref l]) Q E s := by
  obtain ⟨c0, tl0, hmro⟩ := F.called_set.mro
  have hmade := F.called_set.made
  have hsub := F.called_set.sub
  refine wpAny_call (codeAny_of_tree ?_)
  show wpAny _ _ (callAny (.type "set") _) _ _ _
  refine wpAny_pure ⟨Code.quiet_builtin _ (by decide +kernel), codeAny_builtin F.entry_type_call ?_⟩
  rw [Around.under_plain (weight_type_call_type "set" [.ref l] []) rfl]
  have hnt := F.called_set.notType
  have hcc := F.called_set.canCreate
  have hct := F.typeCall_set_1 (.ref l)
  repeat (any_goals (first | assumption | wp_step))
  refine codeAny_mono (code_set_new_1 (.ref l) (E := E) (Q₁ := fun y z => ∃ led : Bool, y = .ref s.heap.objs.size ∧ z = { s with heap := s.heap.push (set0 led) }) fun led => ⟨led, rfl, rfl⟩) fun r z hr => ?_
  cases r with
  | error e => exact hr
  | ok fl =>
    cases fl with
    | ret y =>
      obtain ⟨led, rfl, rfl⟩ := hr
      have gS : (s.heap.push (set0 led)).get? s.heap.objs.size = some (set0 led) := Heap.get?_push_size _ rfl
      have tS : Shared.TypeIs { s with heap := s.heap.push (set0 led) } (.ref s.heap.objs.size) "set" := ⟨_, gS, rfl⟩
      have il := F.called_set.init.lookup
      have ib := F.called_set.init.bind (.ref s.heap.objs.size)
      repeat (any_goals (first | assumption | wp_step))
      refine codeAny_mono (codeAny_call_builtin (R := wants (fun r z2 => r = .none ∧ ∃ h' tk, z2 = { s with heap := h', toks := tk } ∧ Hold prog w h' s.heap.objs.size ss ss.length ∧
          (∀ b o, b < s.heap.objs.size → s.heap.get? b = some o → h'.get? b = some o)) E) F.called_set.init.plain F.entry_set_init (check_set_init_1 tS ?_)) fun r2 z2 hr2 => ?_
      · obtain ⟨ol, hol, hcl, nl, hdl⟩ := hl
        obtain ⟨ocls, odict, odata, oslots⟩ := ol
        simp only at hcl hdl
        subst hcl hdl
        have hol2 : (s.heap.push (set0 led)).get? l = some { cls := .type "tuple", dict := odict, data := .seq its nl, slots := oslots } := Heap.get?_push_of_some _ hol
        have hs1 := F.sub_tuple_set
        have hs2 := F.sub_tuple_frozenset
        have hnd : (Value.type "tuple" == Value.type "dict") = false := by decide
        have hlt : (s.heap.push (set0 led)).IsTuple l its := ⟨_, hol2, rfl, nl, rfl⟩
        unfold Builtin.«set.__init__» noKeywords Builtin.Frozenset.updateFrom
        generalize hpi : pyIter = PI
        wp_walk
        subst hpi
        refine wpAny_pyIter_tuple hlt (wpAny_bind (wpAny_runValue ?_))
        have hls : l < s.heap.objs.size := Heap.lt_size hol
        have hh3 : A.in1.in1.in1.handled = none := by simp [hh]
        have hne : l ≠ (s.heap.push (set0 led)).objs.size := by
          rw [Heap.size_push]
          exact Nat.ne_of_lt (Nat.lt_succ_of_lt hls)
        have hfp : s.heap.objs.size ∉ [(s.heap.push (set0 led)).objs.size, l] := by
          rw [Heap.size_push]
          simp only [List.mem_cons, List.not_mem_nil, or_false, not_or]
          exact ⟨Nat.ne_of_lt (Nat.lt_succ_self _), Nat.ne_of_gt hls⟩
        have hz : ss.length = its.size := by rw [← StrsAre.len_eq hi, Array.length_toList]
        have hv : ∀ (i : Nat) (v : Value), its[i]? = some v → ∃ t, v = .str (ss.getD i Str.empty) t := fun i v q => SS.strs_at hi i v (by rw [Array.getElem?_toList]; exact q)
        refine set_turns ((Walks.tuple hh3 _ l hne its).toS) s.heap.objs.size hfp ss hz (by omega) hv (its.size - 0) 0 _ (by omega) (Nat.zero_le _) ⟨⟨_, Heap.get?_push_size _ rfl, rfl, rfl⟩, (hlt.push _)⟩ ?start ?fin
        case start =>
          have g2 : ((s.heap.push (set0 led)).push { cls := .type "tuple_iterator", data := .fields #[.ref l, .int 0 0] }).get? s.heap.objs.size = some (set0 led) := Heap.get?_push_of_some _ gS
          exact SetOf_congr ((setObjOf_fresh (knd := PySem.strKind prog w) led).setOf g2 (by unfold scanBound; omega)) (fun _ => rfl) rfl
        case fin =>
          intro z' hm hS
          obtain ⟨h', g', d', tk', os'⟩ := z'
          obtain rfl : g' = s.gens := hm.gens
          obtain rfl : d' = s.drawn := hm.drawn
          obtain rfl : os' = s.os := hm.os
          show wpAny _ _ _ _ _ _
          refine wpAny_pure ?_
          show wpAny _ _ (ret Value.none) _ _ _
          refine wpAny_pure ⟨rfl, h', tk', rfl, by rw [hz]; exact hS, fun b o hb e => ?_⟩
          have n1 : b ≠ s.heap.objs.size := Nat.ne_of_lt hb
          have n2 : b ≠ (s.heap.push (set0 led)).objs.size := by
            rw [Heap.size_push]
            exact Nat.ne_of_lt (Nat.lt_succ_of_lt hb)
          exact hm.heap b o (by simp only [List.mem_cons, List.not_mem_nil, or_false, not_or]; exact ⟨n1, n2⟩) (Heap.get?_push_of_some _ (Heap.get?_push_of_some _ e))
      · cases r2 with
        | error e => exact hr2
        | ok fl2 =>
          cases fl2 with
          | ret r =>
            obtain ⟨rfl, h', tk, rfl, hS, hk⟩ := hr2
            repeat (any_goals (first | assumption | wp_step))
            exact h _ _ hS hk
          | _ => exact hr2.elim
    | _ => exact hr.elim
end
end HP

set_option maxHeartbeats 4000000
/-! HpSet3: set(x), x a list of texts. -/
namespace HP
open PySem L2
open PyProof.Rows PySem.W
open PySem.W PyProof.Rows
open AutoSeq1 (wpAny_loadPart')
section
variable {prog : Program} {w : World} {A : Around} {R : Result → Shared → Prop} {it : Addr} {fp wr : List Addr} {G : Array GenState → Array GenState → Prop} {n : Nat} {Pv : Nat → Value → Prop} {Sv : Nat → Shared → Prop}
variable {prog : Program} {w : World} {A : Around} {E : Value → Shared → Prop} {s : Shared}
set_option maxHeartbeats 8000000 in
/-- set(x), x a list of texts -/
theorem set_of_lst {l : Addr} {its : Array Value} {ss : List Str} {Q : Value → Shared → Prop} (hh : A.handled = none) (hl : s.heap.IsList l its) (hi : StrsAre its.toList ss) (hb : ss.length + 1 < scanBound)
    (h : ∀ (h' : Heap) (tk : Nat), Hold prog w h' s.heap.objs.size ss ss.length → (∀ b o, b < s.heap.objs.size → s.heap.get? b = some o → h'.get? b = some o) → Q (.ref s.heap.objs.size) { s with heap := h', toks := tk }) :
    wpAny (model prog w) A (PySem.call (.type "set") [.ref l]) Q E s := by
  obtain ⟨c0, tl0, hmro⟩ := F.called_set.mro
  have hmade := F.called_set.made
  have hsub := F.called_set.sub
  refine wpAny_call (codeAny_of_tree ?_)
  show wpAny _ _ (callAny (.type "set") _) _ _ _
  refine wpAny_pure ⟨Code.quiet_builtin _ (by decide +kernel), codeAny_builtin F.entry_type_call ?_⟩
  rw [Around.under_plain (weight_type_call_type "set" [.ref l] []) rfl]
  have hnt := F.called_set.notType
  have hcc := F.called_set.canCreate
  have hct := F.typeCall_set_1 (.ref l)
  repeat (any_goals (first | assumption | wp_step))
  refine codeAny_mono (code_set_new_1 (.ref l) (E := E) (Q₁ := fun y z => ∃ led : Bool, y = .ref s.heap.objs.size ∧ z = { s with heap := s.heap.push (set0 led) }) fun led => ⟨led, rfl, rfl⟩) fun r z hr => ?_
  cases r with
  | error e => exact hr
  | ok fl =>
    cases fl with
    | ret y =>
      obtain ⟨led, rfl, rfl⟩ := hr
      have gS : (s.heap.push (set0 led)).get? s.heap.objs.size = some (set0 led) := Heap.get?_push_size _ rfl
      have tS : Shared.TypeIs { s with heap := s.heap.push (set0 led) } (.ref s.heap.objs.size) "set" := ⟨_, gS, rfl⟩
      have il := F.called_set.init.lookup
      have ib := F.called_set.init.bind (.ref s.heap.objs.size)
      repeat (any_goals (first | assumption | wp_step))
      refine codeAny_mono (codeAny_call_builtin (R := wants (fun r z2 => r = .none ∧ ∃ h' tk, z2 = { s with heap := h', toks := tk } ∧ Hold prog w h' s.heap.objs.size ss ss.length ∧
          (∀ b o, b < s.heap.objs.size → s.heap.get? b = some o → h'.get? b = some o)) E) F.called_set.init.plain F.entry_set_init (check_set_init_1 tS ?_)) fun r2 z2 hr2 => ?_
      · obtain ⟨ol, hol, hcl, nl, hdl⟩ := hl
        obtain ⟨ocls, odict, odata, oslots⟩ := ol
        simp only at hcl hdl
        subst hcl hdl
        have hol2 : (s.heap.push (set0 led)).get? l = some { cls := .type "list", dict := odict, data := .seq its nl, slots := oslots } := Heap.get?_push_of_some _ hol
        have hs1 := F.sub_list_set
        have hs2 := F.sub_list_frozenset
        have hnd : (Value.type "list" == Value.type "dict") = false := by decide
        have hlt : (s.heap.push (set0 led)).IsList l its := ⟨_, hol2, rfl, nl, rfl⟩
        unfold Builtin.«set.__init__» noKeywords Builtin.Frozenset.updateFrom
        generalize hpi : pyIter = PI
        wp_walk
        subst hpi
        refine wpAny_pyIter_list hlt (wpAny_bind (wpAny_runValue ?_))
        have hls : l < s.heap.objs.size := Heap.lt_size hol
        have hh3 : A.in1.in1.in1.handled = none := by simp [hh]
        have hne : l ≠ (s.heap.push (set0 led)).objs.size := by
          rw [Heap.size_push]
          exact Nat.ne_of_lt (Nat.lt_succ_of_lt hls)
        have hfp : s.heap.objs.size ∉ [(s.heap.push (set0 led)).objs.size, l] := by
          rw [Heap.size_push]
          simp only [List.mem_cons, List.not_mem_nil, or_false, not_or]
          exact ⟨Nat.ne_of_lt (Nat.lt_succ_self _), Nat.ne_of_gt hls⟩
        have hz : ss.length = its.size := by rw [← StrsAre.len_eq hi, Array.length_toList]
        have hv : ∀ (i : Nat) (v : Value), its[i]? = some v → ∃ t, v = .str (ss.getD i Str.empty) t := fun i v q => SS.strs_at hi i v (by rw [Array.getElem?_toList]; exact q)
        refine set_turns ((Walks.list hh3 _ l hne its).toS) s.heap.objs.size hfp ss hz (by omega) hv (its.size - 0) 0 _ (by omega) (Nat.zero_le _) ⟨⟨_, Heap.get?_push_size _ rfl, rfl, rfl⟩, (hlt.push _)⟩ ?start ?fin
        case start =>
          have g2 : ((s.heap.push (set0 led)).push { cls := .type "list_iterator", data := .fields #[.ref l, .int 0 0] }).get? s.heap.objs.size = some (set0 led) := Heap.get?_push_of_some _ gS
          exact SetOf_congr ((setObjOf_fresh (knd := PySem.strKind prog w) led).setOf g2 (by unfold scanBound; omega)) (fun _ => rfl) rfl
        case fin =>
          intro z' hm hS
          obtain ⟨h', g', d', tk', os'⟩ := z'
          obtain rfl : g' = s.gens := hm.gens
          obtain rfl : d' = s.drawn := hm.drawn
          obtain rfl : os' = s.os := hm.os
          show wpAny _ _ _ _ _ _
          refine wpAny_pure ?_
          show wpAny _ _ (ret Value.none) _ _ _
          refine wpAny_pure ⟨rfl, h', tk', rfl, by rw [hz]; exact hS, fun b o hb e => ?_⟩
          have n1 : b ≠ s.heap.objs.size := Nat.ne_of_lt hb
          have n2 : b ≠ (s.heap.push (set0 led)).objs.size := by
            rw [Heap.size_push]
            exact Nat.ne_of_lt (Nat.lt_succ_of_lt hb)
          exact hm.heap b o (by simp only [List.mem_cons, List.not_mem_nil, or_false, not_or]; exact ⟨n1, n2⟩) (Heap.get?_push_of_some _ (Heap.get?_push_of_some _ e))
      · cases r2 with
        | error e => exact hr2
        | ok fl2 =>
          cases fl2 with
          | ret r =>
            obtain ⟨rfl, h', tk, rfl, hS, hk⟩ := hr2
            repeat (any_goals (first | assumption | wp_step))
            exact h _ _ hS hk
          | _ => exact hr2.elim
    | _ => exact hr.elim
end
end HP

set_option maxHeartbeats 2000000
/-! HpSet2: len(set(x)), x a tuple of texts. -/
namespace HP
open PySem L2
section
variable {X : Cx} {a : Expr} {ia : E} {p p2 q pos : Pos}
theorem strsAre_map : ∀ {ss : List Str} {us : List Value}, Vals (ss.map V.str) us → PyProof.Rows.StrsAre us ss
  | [], _, .nil => .nil
  | _ :: _, _, .cons r t => by
    obtain ⟨k, rfl⟩ := r
    exact .cons _ k (strsAre_map t)
theorem se_lenset (hc : X.calm = true) (hg : Gl X "len") (hm : X.mg "len" = none) (hg2 : Gl X "set") (hm2 : X.mg "set" = none) (na : starEach [a] X.env = (false, eval a X.env) :: starEach [] X.env)
    (ht : TruE X (.Call (.Name "len" p) [.Call (.Name "set" p2) [a] [] q] [] pos)) (ha : SEx X a ia) : SEx X (.Call (.Name "len" p) [.Call (.Name "set" p2) [a] [] q] [] pos) (.bi .lenset (.cons ia .nil)) := by
  have pe : PE X (.Call (.Name "len" p) [.Call (.Name "set" p2) [a] [] q] [] pos) (fun σ H Q => tOd X ia (w ia).v σ H fun x H1 => ∃ F M d, Same F H1 ∧ RVt X.K F M H1 d x ∧ optK (biSem .lenset [d]) fun o => ∀ H' v, OutN X.K F M H1 H' o v → Q v H') := ⟨fun pins z σ G Q J h => by
    refine PyProof.Rows.Call_ (ld_blt J hg hm (u := .builtin "len") (by decide +kernel) (PyProof.Rows.callWith_builtin1 (PyProof.Rows.args_cons ?_ rfl) rfl rfl))
    refine PyProof.Rows.Call_ (ld_blt J hg2 hm2 (u := .type "set") (by decide +kernel) (PyProof.Rows.callWith_type1 (PyProof.Rows.args_cons (thn (ha.o.run pins z σ G _ J h) fun u z1 ⟨x, G1, J1, r, F, M, d, sF, rd, hd⟩ => PyProof.Rows.args_nil ?_) na) na rfl))
    replace hd := optK_ex hd
    obtain ⟨o, ho, hd⟩ := hd
    cases d <;> simp only [biSem] at ho <;> try (cases ho; done)
    · replace ho := Option.bind_eq_some_iff.mp ho
      obtain ⟨ss, hs, ho⟩ := ho
      split at ho <;> cases ho
      rename_i hz
      obtain ⟨t, vs, rfl, h1, h2, h3⟩ := rd.tup sF
      rw [allStr_eq hs] at h3
      obtain rfl := h3.toV
      cases (show u = Value.ref t from r)
      obtain ⟨its, rv, hl, _⟩ := J1.tuple h1
      have hn : its.length = ss.length := by rw [← rv.length, List.length_map]
      refine set_of_tup (J1.ok.hd hc) hl (by simpa using strsAre_map rv) (by unfold scanBound; omega) fun h' tk hS hk => PyProof.Rows.args_nil ?_
      obtain ⟨ob, es, ep, tb, hob, hex, hdt, _, _, _, hf, hcn⟩ := hS
      have J2 : Inv X pins σ G1 { z1 with heap := h', toks := tk } := J1.kept fun b w e => hk b w (Heap.lt_size e) e
      have hle := @nubS_len ss []
      have e1 : ss.take ss.length = ss := by simp
      rw [e1] at hcn
      refine call_len_set hob hex hdt hf (by rw [hcn]; simp only [List.length_nil] at hle; omega) ⟨.int ((nubS [] ss).length : Nat), G1, J2.tok _, ⟨_, by rw [hcn]⟩, hd _ _ (.old (.int _))⟩
    · replace ho := Option.bind_eq_some_iff.mp ho
      obtain ⟨ss, hs, ho⟩ := ho
      split at ho <;> cases ho
      rename_i hz
      obtain ⟨t, vs, rfl, h1, h3⟩ := rd.lst sF
      rw [allStr_eq hs] at h3
      obtain rfl := h3.toV
      cases (show u = Value.ref t from r)
      obtain ⟨its, rv, hl, _⟩ := J1.list (.inl (.inl h1))
      have hn : its.length = ss.length := by rw [← rv.length, List.length_map]
      refine set_of_lst (J1.ok.hd hc) hl.isList (by simpa using strsAre_map rv) (by unfold scanBound; omega) fun h' tk hS hk => PyProof.Rows.args_nil ?_
      obtain ⟨ob, es, ep, tb, hob, hex, hdt, _, _, _, hf, hcn⟩ := hS
      have J2 : Inv X pins σ G1 { z1 with heap := h', toks := tk } := J1.kept fun b w e => hk b w (Heap.lt_size e) e
      have hle := @nubS_len ss []
      have e1 : ss.take ss.length = ss := by simp
      rw [e1] at hcn
      refine call_len_set hob hex hdt hf (by rw [hcn]; simp only [List.length_nil] at hle; omega) ⟨.int ((nubS [] ss).length : Nat), G1, J2.tok _, ⟨_, by rw [hcn]⟩, hd _ _ (.old (.int _))⟩⟩
  refine sex_dft (w.eq_24 .lenset (.cons ia .nil)) (fun _ _ _ _ _ => rfl) ht pe fun σ H Q ⟨F, M, P, σD, s, K, R, h, hK⟩ => ?_
  rw [ws.eq_2] at h
  dsimp only at h
  refine ⟨F, M, P, σD, s, _, R, h, fun x σ1 s1 F1 M1 H1 vx k1 sf1 e1 R1 ox => ?_⟩
  rw [ws.eq_1] at k1
  dsimp only at k1
  replace k1 := optK_ex k1
  obtain ⟨ds, hd, k1⟩ := k1
  replace k1 := optK_ex k1
  obtain ⟨r, hr, k1⟩ := k1
  cases hx : vres σ1 s1 x with
  | none => simp [ress, hx] at hd
  | some d =>
    simp only [ress, hx, Option.some.injEq] at hd
    subst hd
    refine ⟨F1, M1, d, R1.sF, R1.res ox hx, ?_⟩
    rw [hr]
    intro H' v q
    obtain ⟨F', sf', R', q'⟩ := R1.out q
    exact hK _ _ _ F' M1 H' v k1 (sf1.trans sf') e1 R' q'
end
end HP

set_option maxHeartbeats 2000000
/-! HpOps6: max, min, dict as one rule each. -/
namespace HP
open PySem L2
section
variable {X : Cx}
theorem cr_maxD (hc : X.calm = true) (hu : X.A.units + 64 < cLine) : CallR X (.builtin "max") (rcD X.K (biSem .max)) := by
  intro pins s σ H xs us Q I r h
  obtain ⟨F, M, ds, sF, hx, h⟩ := h
  replace h := optK_ex h
  obtain ⟨o, ho, h⟩ := h
  unfold biSem at ho
  split at ho <;> try (cases ‹Bi.max = _›; done)
  · cases ho
    exact cr_max2 hc pins s σ H xs us Q I r ⟨F, M, _, sF, hx, h⟩
  · split at ho <;> cases ho
    rename_i hs
    refine cr_maxL hc hu pins s σ H xs us Q I r ⟨F, M, _, sF, hx, ?_⟩
    dsimp only
    rw [if_pos hs]
    exact h
  · cases ho
theorem cr_minD (hc : X.calm = true) (hu : X.A.units + 64 < cLine) : CallR X (.builtin "min") (rcD X.K (biSem .min)) := by
  intro pins s σ H xs us Q I r h
  obtain ⟨F, M, ds, sF, hx, h⟩ := h
  replace h := optK_ex h
  obtain ⟨o, ho, h⟩ := h
  unfold biSem at ho
  split at ho <;> try (cases ‹Bi.min = _›; done)
  · cases ho
    exact cr_min2 hc pins s σ H xs us Q I r ⟨F, M, _, sF, hx, h⟩
  · split at ho <;> cases ho
    rename_i hs
    refine cr_minL hc hu pins s σ H xs us Q I r ⟨F, M, _, sF, hx, ?_⟩
    dsimp only
    rw [if_pos hs]
    exact h
  · cases ho
end
end HP

set_option maxHeartbeats 2000000
/-! HpCon: a module's constants. -/
namespace HP
open PySem L2
section
variable {X : Cx} {x : Str} {pos : Pos}
/-- a name of the module that stands for a value -/
theorem se_glob {d : D} {v : V} {u : Value} (hg : Gl X x) (hm : X.mg x = some u) (r : RelV v u) (hd : (x == ("__debug__" : Str)) = false) (rv : ∀ F M, RV X.K F M d v) : SEx X (.Name x pos) (.lit d) :=
  se_lit (fun _ => rfl) (pe_glob hg hm r hd) rv
/-- the module's name x is a tuple of these, its object without a dict -/
def tupX (K : PySem.W.Frag) (x : Str) (vs : List He.Dv) : Bool := He.tupB K x vs && (match K.lookup (He.ga K x) with
  | some o => o.dict.isNone
  | none => false)
theorem tupX_ok {K : PySem.W.Frag} {x : Str} {vs : List He.Dv} (h : tupX K x vs = true) (F : Hp) : SqX K F (He.ga K x) (vs.map (He.Dv.v K)) := by
  unfold tupX at h
  obtain ⟨h1, h2⟩ := Bool.and_eq_true_iff.mp h
  rcases He.tupB_ok h1 (fun _ => none) with (q | ⟨o, q⟩) | ⟨o, its, n, hk, q⟩
  · cases q
  · cases q
  · rw [hk] at h2
    exact .inr ⟨o, its, n, hk, q.1, q.2.1, q.2.2.1, q.2.2.2, Option.isNone_iff_eq_none.mp h2⟩
theorem rv_tupC {vs : List He.Dv} {ds : List D} (h : tupX X.K x vs = true) (hd : ∀ F M, RVs X.K F M ds (vs.map (He.Dv.v X.K))) (F : Hp) (M : List Addr) : RV X.K F M (.tup ds) (.ref (He.ga X.K x)) := .tup (tupX_ok h F) (hd F M)
end
end HP

set_option maxHeartbeats 2000000
/-! HpProp: a property that hands back a field. -/
namespace HP
open PySem L2
section
variable {X : Cx} {a : Expr} {ia : E} {pos : Pos} {k : Nat} {fd : FuncData} {gad pr : Addr}
theorem se_getter {C n fo : Str} (ha : SEx X a ia) (hab : attributeBase a n X.env (eval a X.env) = eval a X.env) (hc : Cls X.K (He.ga X.K C)) (hp : PropOf X.K (He.ga X.K C) n pr gad) (Fg : FnOk X.prog X.w X.K X.mg X.base CX0 k gad fd ["self"] (getSp (He.ga X.K C) fo))
    (hr : Room (k + 1) X.A) (hb : Binds X.K fd ["self"] []) : SEx X (.Attribute a n pos) (.fld C ia fo) := by
  refine sex_dft (w.eq_17 C ia fo) (fun _ _ _ _ _ => rfl) (fun _ => rfl) (pe_prop (E := E0) ha.o hc hp Fg hr hb .nil passes0 hab) fun σ H Q ⟨F, M, P, σD, s, K, R, h, hK⟩ => ?_
  refine ⟨F, M, P, σD, s, _, R, h, fun x σ1 s1 F1 M1 H1 vx k1 sf1 e1 R1 ox => ?_⟩
  replace k1 := optK_ex k1
  obtain ⟨dx, hx, k1⟩ := k1
  split at k1
  · split at k1
    · rename_i C' ns vs hC
      subst hC
      replace k1 := optK_ex k1
      obtain ⟨r, hr, k1⟩ := k1
      obtain ⟨p, dd, fs, rfl, h1, rfl, h2⟩ := (R1.res ox hx).ins R1.sF
      obtain ⟨v, h3, h4⟩ := lookF_rel h2 hr
      exact ⟨p, dd, fs, rfl, h1, p, dd, fs, v, rfl, h1, h3, hK _ _ _ F1 M1 H1 v k1 sf1 e1 R1 h4⟩
    · exact k1.elim
  · exact k1.elim
end
end HP

set_option maxHeartbeats 4000000
/-! HpEnd: the law's own call, where nothing is being printed. -/
namespace HP
open PySem L2 PySem.Spec
open PyProof.Rows hiding St

theorem lawA_core {P : Program} {w : World} {K : PySem.W.Frag} {mg mb : Str → Option Value} {k : Nat} {fa a : Addr} {fd : FuncData} {x : Str} {sp : Sp} {z : Shared} {vs : List Value} {ns : List Int}
    (kin : K.In z.heap) (hns : z.heap.Ns mainGlobals mg) (hb : z.heap.Ns builtinsNs mb) (hbb : ∀ x : Str, x ≠ "__name__" → mb x = bootBuiltins x) (lim : z.heap.NoLimit) (hg : z.gens = #[])
    (ha : z.heap.get? a = some { cls := .type "list", data := .seq vs.toArray }) (hr : Room k callerA)
    (Fl : ∀ base : Heap, K.In base → base.Ns mainGlobals mg → FnA P w K mg base CX0 k fa fd [x] sp) (bd : ∀ (s : Shared) (u : Value), BindsTo s fd ⟨[u], []⟩ [(x, u)])
    (H : Hp) (hO : Only H) (hok : HOk P w H z.heap) (hA : ∀ b, H b ≠ none → b = a) (hK : H a ≠ none → K.lookup a = none) (hsp : sp [.ref a] H (fun v _ => v = .bl true) fun _ _ _ => False) :
    codeAny (model P w) callerA (.call (.ref fa) ⟨[.ref a], []⟩) (fun r s' => r = .ok (.ret (.bool true)) ∧ OldK z.heap s'.heap ∧ s'.os = z.os ∧ AllBare s'.gens) z := by
  have low : ∀ {b : Addr} {o : Obj}, z.heap.get? b = some o → H b = none → (hidT z.heap H).get? b = some o := fun e n => hidT_get e n
  have out : ∀ {b : Addr}, b ≠ a → H b = none := fun {b} hne => by
    cases q : H b with
    | none => rfl
    | some u => exact absurd (hA b (by rw [q]; exact nofun)) hne
  have dic : ∀ {b : Addr} {o : Obj} {es : Array DictEntry} {ep : Nat}, z.heap.get? b = some o → o.data = .dict es ep → H b = none := fun {b o es ep} e d => out fun q => by
    subst q
    rw [ha] at e
    cases e
    cases (show Data.seq vs.toArray _ = Data.dict es ep from d)
  have nsk : ∀ {b : Addr} {m : Str → Option Value}, z.heap.Ns b m → (hidT z.heap H).Ns b m := fun {b m} ⟨o, es, ep, e, d, r⟩ => ⟨o, es, ep, low e (dic e d), d, r⟩
  have kb : K.In (hidT z.heap H) := fun b o e => low (kin b o e) (by
    cases q : H b with
    | none => rfl
    | some u =>
      have eb := hA b (by rw [q]; exact nofun)
      subst eb
      rw [hK (by rw [q]; exact nofun)] at e
      cases e)
  have md : Mod K mg (hidT z.heap H) := ⟨kb, nsk hns, ⟨mb, nsk hb, hbb⟩, let ⟨mc, h1, h2⟩ := lim; ⟨mc, nsk h1, h2⟩⟩
  have e0 : Env0 P w K mg (hidT z.heap H) callerA [] z H := ⟨rfl, md, fun b o e => of_hidT e, Nat.le_of_eq (hidT_size _ _), trivial, (fun b q => nomatch q), hok, .of_eq hg⟩
  refine codeAny_mono ((Fl _ kb (nsk hns)).go callerA [] z H ⟨[.ref a], []⟩ [.ref a] [.ref a] _ _ hr rfl e0 (bd z (.ref a)) (.cons rfl .nil) hsp) fun r s' q => ?_
  match r, q with
  | .error e, q => exact False.elim q
  | .ok .next, q => exact False.elim q
  | .ok .brk, q => exact False.elim q
  | .ok .cont, q => exact False.elim q
  | .ok (.ret u), ⟨v, H', os, bare, un, hok2, rv, q⟩ =>
    have q' : v = .bl true := q
    subst q'
    obtain rfl : u = Value.bool true := rv
    refine ⟨rfl, OldK.of_keep fun b o e => ?_, os, bare⟩
    cases q : H b with
    | none => exact un.keep b o e q (fun y => nomatch y) (by simp)
    | some u =>
      rcases hO b with y | ⟨ob, xs, y⟩
      · rw [q] at y
        cases y
      · obtain ⟨e1, _⟩ := hok b _ y
        obtain ⟨e2, _⟩ := hok2 b _ (un.frzs b ob _ y)
        rw [e] at e1
        cases e1
        exact e2
theorem lawA_call {P : Program} {w : World} {K : PySem.W.Frag} {mg mb : Str → Option Value} {k : Nat} {fa a : Addr} {fd : FuncData} {x : Str} {sp : Sp} {z : Shared} {vs : List Value} {ns : List Int}
    (kin : K.In z.heap) (hns : z.heap.Ns mainGlobals mg) (hb : z.heap.Ns builtinsNs mb) (hbb : ∀ x : Str, x ≠ "__name__" → mb x = bootBuiltins x) (lim : z.heap.NoLimit) (hg : z.gens = #[])
    (ha : z.heap.get? a = some { cls := .type "list", data := .seq vs.toArray }) (hi : IntsAre vs ns) (hl : ns.length ≤ sizeLine) (hr : Room k callerA)
    (Fl : ∀ base : Heap, K.In base → base.Ns mainGlobals mg → FnA P w K mg base CX0 k fa fd [x] sp) (bd : ∀ (s : Shared) (u : Value), BindsTo s fd ⟨[u], []⟩ [(x, u)])
    (hsp : ∀ H : Hp, Only H → SqL K H a (ns.map V.int) → sp [.ref a] H (fun v _ => v = .bl true) fun _ _ _ => False) :
    codeAny (model P w) callerA (.call (.ref fa) ⟨[.ref a], []⟩) (fun r s' => r = .ok (.ret (.bool true)) ∧ OldK z.heap s'.heap ∧ s'.os = z.os ∧ AllBare s'.gens) z := by
  have rv := vals_ints hi
  have lv := hi.length
  cases hk : K.lookup a with
  | some o =>
    have e := kin a o hk
    rw [ha] at e
    cases e
    have hO : Only (fun _ => none) := fun _ => .inl rfl
    exact lawA_core (ns := ns) kin hns hb hbb lim hg ha hr Fl bd (fun _ => none) hO (fun b u q => nomatch q) (fun b q => absurd rfl q) (fun q => absurd rfl q)
      (hsp _ hO (.inr ⟨_, vs.toArray, _, hk, rfl, rfl, rfl, by rw [List.size_toArray, lv]; exact hl, by simpa using rv⟩))
  | none =>
    have hO : Only (fun b => if b = a then some (.frz { cls := .type "list", data := .seq vs.toArray } (.lst (ns.map V.int))) else none) := fun b => by
      by_cases q : b = a
      · exact .inr ⟨_, _, if_pos q⟩
      · exact .inl (if_neg q)
    refine lawA_core (ns := ns) kin hns hb hbb lim hg ha hr Fl bd _ hO (fun b u y => ?_) (fun b y => ?_) (fun _ => hk) (hsp _ hO (.inl (.inr ⟨_, if_pos rfl⟩)))
    · by_cases q : b = a
      · cases (if_pos q).symm.trans y
        subst q
        exact ⟨ha, by rw [List.length_map]; exact hl, vs, _, rv, ha⟩
      · cases (if_neg q).symm.trans y
    · by_cases q : b = a
      · exact q
      · exact absurd (if_neg q) y
/-- the law's walk, by its promise -/
theorem walkA_of {l : PySem.W.OpenLaw} {n k : Nat} {q : Program} {loose : List Str} {XP : (Str → Option Value) → Heap → Prop} {YP : World → Heap → Prop} {d : DefRec} {x : Str}
    (hn : l.most = some n) (hn2 : n ≤ sizeLine) (hdf : d.params.defaults = []) (hr : Room k callerA)
    (Fl : ∀ (w : World) (mg : Str → Option Value) (fa : Addr) (h : Heap), YP w h → h.Ns mainGlobals mg → mg d.name = some (.ref fa) →
      ∃ (K : PySem.W.Frag) (fd : FuncData) (sp : Sp), K.In h ∧ (∀ (s : Shared) (u : Value), BindsTo s fd ⟨[u], []⟩ [(x, u)]) ∧
        (∀ (H : Hp) (a : Addr) (ns : List Int), ns.length ≤ n → Only H → SqL K H a (ns.map V.int) → sp [.ref a] H (fun v _ => v = .bl true) fun _ _ _ => False) ∧
        ∀ base : Heap, K.In base → base.Ns mainGlobals mg → FnA l.prog w K mg base CX0 k fa fd [x] sp) :
    PySem.W.WalkO q loose XP YP l.row.toRowW d [] (fun f vs => PySem.call f vs) := by
  refine Att.attach_call hn hdf fun w s0 s1 mg mb fa o pm cd doc a vs ns G Y ho hd hcd hmg hobj hi hlen hg => ?_
  obtain ⟨K, fd, sp, kx, bd, hsp, hF⟩ := Fl w mg fa _ Y G.T.g hmg
  exact lawA_call kx G.T.g G.T.b G.T.builtins G.T.nolimit hg hobj hi (Nat.le_trans hlen hn2) hr hF bd fun H hO hS => hsp H a ns hlen hO hS
end HP

set_option maxHeartbeats 2000000
/-! HpHead: what the head tells: facts by names, any further test, each def by the place where it stands. -/
namespace HP
open PySem L2

/-- a def of the text without defaults, and where it stands -/
structure Df where
  ad : PySem.W.Frag → Addr
  name : Str
  qual : Str
  st : Stmt
abbrev dGlo (x : Str) (st : Stmt) : Df := ⟨fun K => He.ga K x, x, x, st⟩
abbrev dMeth (C m q : Str) (st : Stmt) : Df := ⟨fun K => He.ma K (He.ga K C) m, m, q, st⟩
/-- the property f of the class C: where it stands, where its getter does -/
def propAt (C f : Str) (K : PySem.W.Frag) : Addr := He.ma K (He.ga K C) f
def getAt (C f : Str) (K : PySem.W.Frag) : Addr := match PySem.W.recIn K (propAt C f K) "property" with
  | some (.ref g :: _) => g
  | _ => 0
abbrev dGet (C f q : Str) (st : Stmt) : Df := ⟨getAt C f, f, q, st⟩
/-- what is seen of a function -/
def seenF (K : PySem.W.Frag) (a : Addr) : He.FnW := match K.lookup a with
  | some (Obj.mk _ _ (.func g) _) => some (g.name, g.qualname, g.params, g.body, g.scope, g.globals, g.closure, g.builtins)
  | _ => none
def Df.due (d : Df) : He.FnW := some (d.name, d.qual, defArgs d.st, .stmts (defBody d.st), defScope d.st, mainGlobals, [], builtinsNs)
def Df.good (K : PySem.W.Frag) (d : Df) : Bool := PySem.W.keepIn K (.ref (d.ad K)) && (match K.lookup (d.ad K) with
  | some (Obj.mk _ _ (.func g) _) => PySem.W.codeIn K g.code d.qual && (He.dflB K g.defaults [] && He.kwdB K g.kwdefaults [])
  | _ => false)
abbrev FnS (K : PySem.W.Frag) (x q : Str) (st : Stmt) (f : Addr) (fd : FuncData) : Prop := FunD K x q (defArgs st) (defBody st) (defScope st) [] [] f fd
theorem Df.funD {K : PySem.W.Frag} {d : Df} (e : seenF K (d.ad K) = d.due) (c : d.good K = true) : ∃ fd, FnS K d.name d.qual d.st (d.ad K) fd := by
  unfold Df.good at c
  obtain ⟨kp, c⟩ := He.ba c
  unfold seenF at e
  generalize hq : K.lookup (d.ad K) = z at c e
  cases z with
  | none => cases c
  | some ob =>
    obtain ⟨u1, u2, dt, u3⟩ := ob
    cases dt <;> try (cases c; done)
    rename_i fd
    cases fd
    unfold Df.due at e
    simp only [Option.some.injEq, Prod.mk.injEq] at e
    obtain ⟨g1, g2, g3, g4, g5, g6, g7, g8⟩ := e
    subst g1 g2 g3 g4 g5 g6 g7 g8
    dsimp only at c
    obtain ⟨c1, c2⟩ := He.ba c
    obtain ⟨c2, c3⟩ := He.ba c2
    exact ⟨_, ⟨_, _, _, _, _, _, _, _, _, _, rfl, hq, c1, He.dflB_ok c2, He.kwdB_ok c3⟩, kp⟩
/-- a property: its test -/
def propB (C f : Str) (K : PySem.W.Frag) : Bool := He.eqO (PySem.W.findIn K (.ref (He.ga K C)) f) (some (some (.ref (propAt C f K)))) &&
  (He.eqO (PySem.W.specialIn K (.ref (propAt C f K)) "__get__") (some (some (.builtin "property.__get__"))) && (decide (PySem.W.takesIn K (.ref (propAt C f K)) = some true) &&
    match PySem.W.recIn K (propAt C f K) "property" with
    | some (.ref _ :: _) => true
    | _ => false))
theorem propB_ok {C f : Str} {K : PySem.W.Frag} (h : propB C f K = true) : PropOf K (He.ga K C) f (propAt C f K) (getAt C f K) := by
  unfold propB at h
  obtain ⟨h1, h⟩ := He.ba h
  obtain ⟨h2, h⟩ := He.ba h
  obtain ⟨h3, h4⟩ := He.ba h
  refine ⟨He.eqO_ok h1, He.eqO_ok h2, of_decide_eq_true h3, ?_⟩
  unfold getAt
  split at h4
  · rename_i g rest e
    rw [e]
    exact ⟨rest, rfl⟩
  · cases h4

abbrev Seen : Type := Bool × List He.FnW
def seenX (fa : List He.Fa) (ex : PySem.W.Frag → Bool) (fn : List Df) (K : PySem.W.Frag) : Seen :=
  ((fa.all fun f => f.ok K) && (ex K && fn.all fun d => d.good K), fn.map fun d => seenF K (d.ad K))
def dueX (fn : List Df) : Seen := (true, fn.map Df.due)
def SaysX (fa : List He.Fa) (ex : PySem.W.Frag → Bool) (fn : List Df) (K : PySem.W.Frag) : Prop := seenX fa ex fn K = dueX fn
def obX (n : Nat) (fa : List He.Fa) (ex : PySem.W.Frag → Bool) (fn : List Df) (g : Addr → Option Obj) : Seen := seenX fa ex fn (He.frG g (He.asD g n))
def hookX (n : Nat) (fa : List He.Fa) (ex : PySem.W.Frag → Bool) (fn : List Df) : PySem.W.Hook :=
  { α := Seen
    obs := fun z => obX n fa ex fn z.heap.get?
    val := fun _ => dueX fn
    says := fun _ hp => ∃ K : PySem.W.Frag, PySem.W.Frag.In K hp ∧ SaysX fa ex fn K
    of := fun _ _ r => ⟨_, He.frG_in, r⟩
    keeps := fun _ _ _ q r => ⟨q.choose, PySem.W.Frag.In.keeps q.choose_spec.1 r, q.choose_spec.2⟩ }
theorem obX_eq {n : Nat} {fa : List He.Fa} {ex : PySem.W.Frag → Bool} {fn : List Df} {g : Addr → Option Obj} {z : Shared} (h : ∀ a, g a = z.heap.get? a) : obX n fa ex fn g = (hookX n fa ex fn).obs z :=
  congrArg (obX n fa ex fn) (funext h)

section
variable {fa : List He.Fa} {xb : PySem.W.Frag → Bool} {fs : List Df} {K : PySem.W.Frag} {mg : Str → Option Value} {base : Heap}
/-- where a walk stands: the part of the heap that the head tells of -/
structure Tx (fa : List He.Fa) (xb : PySem.W.Frag → Bool) (fs : List Df) (K : PySem.W.Frag) (mg : Str → Option Value) (base : Heap) : Prop where
  X : K.In base
  G : base.Ns mainGlobals mg
  c : SaysX fa xb fs K
theorem Tx.fact (T : Tx fa xb fs K mg base) (i : Nat) {f : He.Fa} (h : fa[i]? = some f) : f.ok K = true :=
  List.all_eq_true.mp (He.ba (congrArg Prod.fst T.c)).1 f (List.mem_of_getElem? h)
theorem Tx.ex (T : Tx fa xb fs K mg base) : xb K = true := (He.ba (He.ba (congrArg Prod.fst T.c)).2).1
theorem Tx.fn (T : Tx fa xb fs K mg base) (i : Nat) {d : Df} (h : fs[i]? = some d) : ∃ fd, FnS K d.name d.qual d.st (d.ad K) fd := by
  have c2 : (fs.all fun d => d.good K) = true := (He.ba (He.ba (congrArg Prod.fst T.c)).2).2
  have e : (fs.map fun d => seenF K (d.ad K))[i]? = (fs.map Df.due)[i]? := congrArg (fun l : List He.FnW => l[i]?) (congrArg Prod.snd T.c)
  rw [List.getElem?_map, List.getElem?_map, h] at e
  exact Df.funD (Option.some.inj e) (List.all_eq_true.mp c2 d (List.mem_of_getElem? h))
theorem Tx.glo (T : Tx fa xb fs K mg base) {x : Str} (i : Nat) (h : fa[i]? = some (.glo x)) : mg x = some (.ref (He.ga K x)) := He.glo_ok T.X T.G (T.fact i h)
theorem Tx.free (T : Tx fa xb fs K mg base) {x : Str} (i : Nat) (h : fa[i]? = some (.free x)) : mg x = none := He.free_ok T.X T.G (T.fact i h)
theorem Tx.int (T : Tx fa xb fs K mg base) {x : Str} {n : Int} (i : Nat) (h : fa[i]? = some (.int x n)) : ∃ t, mg x = some (.int n t) := He.int_ok T.X T.G (T.fact i h)
theorem Tx.str (T : Tx fa xb fs K mg base) {x z : Str} (i : Nat) (h : fa[i]? = some (.str x z)) : ∃ t, mg x = some (.str z t) := He.str_ok T.X T.G (T.fact i h)
end
end HP

set_option maxHeartbeats 2000000
/-! HpGen: the rules as the generator names them. -/
namespace HP
open PySem L2

/-- the names that are seen -/
def visB (sc : Scope) (x : Str) : Bool := match sc.names.lookup x with
  | some .local => true
  | some .cell => true
  | some .free => true
  | _ => false
theorem vis_of {sc : Scope} {x : Str} (h : visB sc x = true) : Vis sc x := by
  unfold visB at h
  split at h
  · exact .inl (by assumption)
  · exact .inr (.inl (by assumption))
  · exact .inr (.inr (by assumption))
  · cases h

/-- the function at f -/
def FdAt (K : PySem.W.Frag) (f : Addr) (fd : FuncData) : Prop := ∃ u d sl, K.lookup f = some (Obj.mk u d (.func fd) sl)
theorem fdAt_of {K : PySem.W.Frag} {x q : Str} {st : Stmt} {f : Addr} {fd : FuncData} (h : FnS K x q st f fd) : FdAt K f fd := by
  obtain ⟨u, d, _, _, _, _, _, _, _, sl, _, e, _⟩ := h.ex
  exact ⟨u, d, sl, e⟩
theorem FdAt.uniq {K : PySem.W.Frag} {f : Addr} {fd fd' : FuncData} (h : FdAt K f fd) (h' : FdAt K f fd') : fd' = fd := by
  obtain ⟨_, _, _, e⟩ := h
  obtain ⟨_, _, _, e'⟩ := h'
  cases e.symm.trans e'
  rfl
/-- a def and its promise -/
structure OkG (P : Program) (w : World) (K : PySem.W.Frag) (mg : Str → Option Value) (base : Heap) (k : Nat) (f : Addr) (ps : List Str) (sp : Sp) : Prop where
  ex : ∃ fd, FnA P w K mg base CX0 k f fd ps sp ∧ Binds K fd ps [] ∧ FdAt K f fd
  kp : PySem.W.keepIn K (.ref f) = true
/-- the row of a def's parameters: as many as are given -/
def ArgsOk (st : Stmt) (x q : Str) (ps : List Str) : Prop := ∀ (kV doc pm : Value) (an : Option Addr) (cdv ct : Value) (us : List Value), us.length = ps.length →
  bindArgs (PySem.W.fnOf x q (defArgs st) (defBody st) (defScope st) .none kV doc pm an cdv ct) ⟨us, []⟩ = pure (ps.zip us)
section
variable {P : Program} {w : World} {K : PySem.W.Frag} {mg : Str → Option Value} {base : Heap} {k : Nat} {f : Addr} {x qual : Str} {st : Stmt} {N ps : List Str} {b : Ss}
theorem okG_of {n m : Nat} (h : ∃ fd, FnS K x qual st f fd) (ha : ArgsOk st x qual ps) (S : FnScope N ps (defScope st)) (hn : ps.length = n) (hm : N.length = m)
    (hb : ∀ (cdv : Value) (B : Around) (out : List Env) (z : Shared) (G : Hp) (Z : XK), Good (cxOf CX0 P w K mg base N qual (defScope st) f cdv B out z G Z) k → PassesOwn (model P w) (cxOf CX0 P w K mg base N qual (defScope st) f cdv B out z G Z).A (cxOf CX0 P w K mg base N qual (defScope st) f cdv B out z G Z).env (cxOf CX0 P w K mg base N qual (defScope st) f cdv B out z G Z).xe →
      SSs (cxOf CX0 P w K mg base N qual (defScope st) f cdv B out z G Z) (fun _ => True) (defBody st) b) : OkG P w K mg base (k + 1) f ps (spG K (mkFn n m b)) := by
  obtain ⟨fd, F⟩ := h
  exact ⟨⟨fd, fnG_of F S hn hm hb, FunD.bindsN F ha, fdAt_of F⟩, F.kp⟩
theorem okI_of {n m : Nat} {C : Str} (h : ∃ fd, FnS K x qual st f fd) (ha : ArgsOk st x qual ps) (S : FnScope N ps (defScope st)) (hn : ps.length = n + 1) (hm : N.length = m)
    (hb : ∀ (cdv : Value) (B : Around) (out : List Env) (z : Shared) (G : Hp) (Z : XK) (J : St → Prop), Good (cxOf CX0 P w K mg base N qual (defScope st) f cdv B out z G Z) k → PassesOwn (model P w) (cxOf CX0 P w K mg base N qual (defScope st) f cdv B out z G Z).A (cxOf CX0 P w K mg base N qual (defScope st) f cdv B out z G Z).env (cxOf CX0 P w K mg base N qual (defScope st) f cdv B out z G Z).xe →
      (∀ i, i ≠ 0 → JSet J i) → SSs (cxOf CX0 P w K mg base N qual (defScope st) f cdv B out z G Z) J (defBody st) b) : OkG P w K mg base (k + 1) f ps (spI K C (mkIn C n m b)) := by
  obtain ⟨fd, F⟩ := h
  exact ⟨⟨fd, fnI_of F S hn hm hb, FunD.bindsN F ha, fdAt_of F⟩, F.kp⟩
theorem okG_dead (h : ∃ fd, FnS K x qual st f fd) (ha : ArgsOk st x qual ps) : OkG P w K mg base 1 f ps (spG K fun _ _ _ _ => False) := by
  obtain ⟨fd, F⟩ := h
  refine ⟨⟨fd, ⟨fun xs G Q Z h => ?_, fun B out z G args ys xs Q Z hr hs e0 hb r h => ?_⟩, FunD.bindsN F ha, fdAt_of F⟩, F.kp⟩
  · obtain ⟨_, _, _, _, _, _, _, _, h, _⟩ := h
    exact h.elim
  · obtain ⟨_, _, _, _, _, _, _, _, h, _⟩ := h
    exact h.elim
end
theorem jT {i : Nat} : JSet (fun _ => True) i := fun _ _ _ => trivial

section
variable {X : Cx} {e a b c : Expr} {i ia ib ic : E} {pos p : Pos} {es : List Expr} {is : Es} {x : Str} {k j : Nat} {f : Addr} {ps : List Str} {g : Fn}
theorem se_v {n : Nat} (hN : X.N[n]? = some x) (hv : visB X.env.scope x = true) (hd : (x == ("__debug__" : Str)) = false) (hcd : (x == ("__classdict__" : Str)) = false) : SEx X (.Name x pos) (.var n) := se_var hN (vis_of hv) hd hcd
theorem pe_v {n : Nat} (hN : X.N[n]? = some x) (hv : visB X.env.scope x = true) (hd : (x == ("__debug__" : Str)) = false) (hcd : (x == ("__classdict__" : Str)) = false) : PE X (.Name x pos) (tVar n) := pe_var hN (vis_of hv) hd hcd
theorem se_globI {n : Int} (hg : Gl X x) (hm : ∃ t, X.mg x = some (.int n t)) (hd : (x == ("__debug__" : Str)) = false) : SEx X (.Name x pos) (.lit (.int n)) := by
  obtain ⟨t, hm⟩ := hm
  exact se_glob (v := .int n) hg hm ⟨t, rfl⟩ hd fun _ _ => .int n
theorem se_globS {z : Str} (hg : Gl X x) (hm : ∃ t, X.mg x = some (.str z t)) (hd : (x == ("__debug__" : Str)) = false) : SEx X (.Name x pos) (.lit (.str z)) := by
  obtain ⟨t, hm⟩ := hm
  exact se_glob (v := .str z) hg hm ⟨t, rfl⟩ hd fun _ _ => .str z
/-- plain values by names -/
inductive DvR : D → He.Dv → Prop
  | non : DvR .non .non
  | bl (b : Bool) : DvR (.bl b) (.bl b)
  | int (i : Int) : DvR (.int i) (.int i)
  | str (z : Str) : DvR (.str z) (.str z)
inductive DvsR : List D → List He.Dv → Prop
  | nil : DvsR [] []
  | cons {d : D} {v : He.Dv} {ds : List D} {vs : List He.Dv} : DvR d v → DvsR ds vs → DvsR (d :: ds) (v :: vs)
theorem DvR.rv {d : D} {v : He.Dv} {K : PySem.W.Frag} {F : Hp} {M : List Addr} (h : DvR d v) : RV K F M d (v.v K) := by
  cases h with
  | non => exact .non
  | bl b => exact .bl b
  | int i => exact .int i
  | str z => exact .str z
theorem DvsR.rv {K : PySem.W.Frag} {F : Hp} {M : List Addr} : ∀ {ds : List D} {vs : List He.Dv}, DvsR ds vs → RVs K F M ds (vs.map (He.Dv.v K))
  | _, _, .nil => .nil
  | _, _, .cons h t => .cons h.rv t.rv
theorem se_globT {ds : List D} {vs : List He.Dv} (hg : Gl X x) (hm : X.mg x = some (.ref (He.ga X.K x))) (hd : (x == ("__debug__" : Str)) = false) (h : tupX X.K x vs = true) (r : DvsR ds vs) : SEx X (.Name x pos) (.lit (.tup ds)) :=
  se_glob hg hm (v := .ref (He.ga X.K x)) rfl hd fun F M => rv_tupC h (fun F M => r.rv) F M

/-! ### calls -/
theorem se_cG (O : OkG X.prog X.w X.K X.mg X.base j f ps (spG X.K g)) (G : Good X k) (hj : j ≤ k) (hm : X.mg x = some (.ref f)) (hg : Gl X x) (hdb : (x == ("__debug__" : Str)) = false)
    (he : starEach (a :: es) X.env = (false, eval a X.env) :: starEach es X.env) (hpl : (backTo pos (starEach es X.env)).any (·.1) = false) (ht : TruE X (.Call (.Name x p) (a :: es) [] pos)) (ha : SAs X (a :: es) is) :
    SEx X (.Call (.Name x p) (a :: es) [] pos) (.call g is) := by
  obtain ⟨fd, F, hb, _⟩ := O.ex
  exact se_call F (G.room.mono hj) G.still hg hm O.kp hb hdb he hpl ht ha
theorem se_cG0 (O : OkG X.prog X.w X.K X.mg X.base j f ps (spG X.K g)) (G : Good X k) (hj : j ≤ k) (hm : X.mg x = some (.ref f)) (hg : Gl X x) (hdb : (x == ("__debug__" : Str)) = false)
    (ht : TruE X (.Call (.Name x p) [] [] pos)) : SEx X (.Call (.Name x p) [] [] pos) (.call g .nil) := by
  obtain ⟨fd, F, hb, _⟩ := O.ex
  exact se_call0 F (G.room.mono hj) G.still hg hm O.kp hb hdb ht
theorem se_mG {Cn : Str} (Mc : Mk X.K (He.ga X.K Cn) f) (O : OkG X.prog X.w X.K X.mg X.base j f ps (spI X.K Cn g)) (G : Good X k) (hj : j + 1 ≤ k) (hm : X.mg x = some (.ref (He.ga X.K Cn))) (hg : Gl X x) (hdb : (x == ("__debug__" : Str)) = false)
    (he : starEach (a :: es) X.env = (false, eval a X.env) :: starEach es X.env) (hpl : (backTo pos (starEach es X.env)).any (·.1) = false) (ht : TruE X (.Call (.Name x p) (a :: es) [] pos)) (ha : SAs X (a :: es) is) :
    SEx X (.Call (.Name x p) (a :: es) [] pos) (.mk Cn g is) := by
  obtain ⟨fd, F, hb, _⟩ := O.ex
  exact se_mk Mc F (G.room.mono hj) G.still hg hm hb hdb he hpl ht ha
theorem se_mG0 {Cn : Str} (Mc : Mk X.K (He.ga X.K Cn) f) (O : OkG X.prog X.w X.K X.mg X.base j f ps (spI X.K Cn g)) (G : Good X k) (hj : j + 1 ≤ k) (hm : X.mg x = some (.ref (He.ga X.K Cn))) (hg : Gl X x) (hdb : (x == ("__debug__" : Str)) = false)
    (ht : TruE X (.Call (.Name x p) [] [] pos)) : SEx X (.Call (.Name x p) [] [] pos) (.mk Cn g .nil) := by
  obtain ⟨fd, F, hb, _⟩ := O.ex
  exact se_mk0 Mc F (G.room.mono hj) G.still hg hm hb hdb ht
theorem se_oG {Cn m : Str} {o : Expr} {io : E} {pl : Sem Bool} {apos : Pos} (c : Cls X.K (He.ga X.K Cn)) (hm : Meth X.K (He.ga X.K Cn) m f) (O : OkG X.prog X.w X.K X.mg X.base j f ps (spG X.K g)) (G : Good X k) (hj : j ≤ k)
    (hst : starEach (a :: es) X.env = (false, eval a X.env) :: starEach es X.env) (hpl : (backTo pos (starEach es X.env)).any (·.1) = false) (hte : TruE X (.Call (.Attribute o m apos) (a :: es) [] pos))
    (ht : eval (.Call (.Attribute o m apos) (a :: es) [] pos) X.env = (do
      let u ← eval o X.env
      standAt apos.atName
      let (g, l) ← holding [u] (getMethod u m pl)
      callWith pos g l (backTo pos (starEach (a :: es) X.env)) (backToKw pos (keywordEach [] X.env)))) (ho : SEx X o io) (ha : SAs X (a :: es) is) :
    SEx X (.Call (.Attribute o m apos) (a :: es) [] pos) (.meth Cn m g io is) := by
  obtain ⟨fd, F, hb, _⟩ := O.ex
  exact se_meth ho c hm F (G.room.mono hj) G.still hb hst hpl hte ha ht
theorem se_oG0 {Cn m : Str} {o : Expr} {io : E} {pl : Sem Bool} {apos : Pos} (c : Cls X.K (He.ga X.K Cn)) (hm : Meth X.K (He.ga X.K Cn) m f) (O : OkG X.prog X.w X.K X.mg X.base j f ps (spG X.K g)) (G : Good X k) (hj : j ≤ k) (ho : SEx X o io)
    (hte : TruE X (.Call (.Attribute o m apos) [] [] pos))
    (ht : eval (.Call (.Attribute o m apos) [] [] pos) X.env = (do
      let u ← eval o X.env
      standAt apos.atName
      let (g, l) ← holding [u] (getMethod u m pl)
      callWith pos g l (backTo pos (starEach [] X.env)) (backToKw pos (keywordEach [] X.env)))) :
    SEx X (.Call (.Attribute o m apos) [] [] pos) (.meth Cn m g io .nil) := by
  obtain ⟨fd, F, hb, _⟩ := O.ex
  exact se_meth0 ho c hm F (G.room.mono hj) G.still hb hte ht

/-! ### isinstance -/
def isOwn (all : List Str) : Cl → Bool
  | .own s => all.contains s
  | _ => true
theorem isi_mem1 {all : List Str} {c : Cl} (h : isOwn all c = true) : ∀ s, c = .own s → s ∈ all := fun s e => by
  subst e
  simpa [isOwn] using h
theorem sc_bi {x : Str} {c : Cl} {n : String} (hg : Gl X x) (hm : X.mg x = none) (hv : bootBuiltins x = some (.type n)) (hc : clV X.K c = .ty n) (hn : x ≠ "__name__") (hd : (x == ("__debug__" : Str)) = false) : SCl X (.Name x pos) c := by
  unfold SCl
  rw [hc]
  exact pe_bltn hg hm hv rfl hn hd
theorem sc_own {x : Str} (hg : Gl X x) (hm : X.mg x = some (.ref (He.ga X.K x))) (hd : (x == ("__debug__" : Str)) = false) : SCl X (.Name x pos) (.own x) := pe_glob hg hm rfl hd

/-! ### {} and dict() -/
theorem se_dct0 : SEx X (.Dict [] [] pos) (.dct .nil) := by
  refine sex_dft (w.eq_13 .nil) (fun _ _ _ _ _ => rfl) (fun _ => rfl) pe_dnewK fun σ H Q ⟨F, M, P, σD, s, K, R, h, hK⟩ p hp => ?_
  dsimp only at h
  rw [wPs.eq_1, if_pos (show ([] : List (D × D)).length ≤ 15 by decide)] at h
  simp only [mergeD, optK_some] at h
  obtain ⟨F', sf', R', q'⟩ := R.out (o := .own (.dct [] [])) (v := .ref p) (.own hp (.dct (kvs := []) upd_same rfl (by simp) .nil))
  exact hK _ _ _ F' M _ _ h sf' (.refl M) R' q'

/-! ### a def that is never called -/
def gDead : Fn := fun _ _ _ _ => False
/-! ### the end -/
theorem rvs_ints {K : PySem.W.Frag} {F : Hp} {M : List Addr} : ∀ ns : List Int, RVs K F M (ns.map D.int) (ns.map V.int)
  | [] => .nil
  | n :: ns => .cons (.int n) (rvs_ints ns)
theorem end_sp {K : PySem.W.Frag} {H : Hp} {a : Addr} {ns : List Int} {g : Fn} {Z : XK} (hp : g [.scr (ns.map .int)] [] (fun o _ => o = .val (.bl true)) (fun _ _ => False)) (hS : SqL K H a (ns.map V.int)) :
    spG K g [.ref a] H (fun v _ => v = .bl true) Z := by
  refine ⟨H, [], (fun _ => none), [], _, _, ?_, .cons (.scr hS (rvs_ints ns)) .nil, hp, fun o s' F' M' H' v ho _ _ _ q => ?_⟩
  · exact ⟨.refl H, (fun a o h => by cases h), rfl, (fun n a c h _ => by simp at h), by simp, (fun a o h => by cases h), rfl, (fun i sl h => by simp at h), (fun i j c c' a h => by simp at h)⟩
  · subst ho
    cases (show RV K F' M' (.bl true) v from q)
    rfl

/-! ### raising, where no exception leaves -/
theorem raise_lit {d : D} : ∀ (σD : Slots) (s : Store) (K : QO), (w (.lit d)).v σD s K noX → ∃ o σD' s', K o σD' s' := fun σD s K h => by
  rw [w.eq_1] at h
  exact ⟨_, _, _, h⟩
theorem raise_var {n : Nat} : ∀ (σD : Slots) (s : Store) (K : QO), (w (.var n)).v σD s K noX → ∃ o σD' s', K o σD' s' := fun σD s K h => by
  rw [w.eq_2] at h
  simp only [dft] at h
  split at h
  · exact ⟨_, _, _, h⟩
  · exact ⟨_, _, _, h⟩
  · exact h.elim
end
end HP

set_option maxHeartbeats 2000000
/-! HpMore: repr; calls by names alone. -/
namespace HP
open PySem L2 PySem.Spec

/-! ### repr -/
theorem noDicts : ∀ xs : List D, plains xs = true → PyData.hasDictAll (pys xs) = false
  | [], _ => by simp only [pys, PyData.hasDictAll]
  | x :: xs, h => by
    simp only [plains, Bool.and_eq_true] at h
    have h1 : PyData.hasDict x.py = false := by
      cases x <;> simp only [D.py, PyData.hasDict]
      · exact noDicts _ (by simpa only [D.plain] using h.1)
      · exact noDicts _ (by simpa only [D.plain] using h.1)
    simp only [pys, PyData.hasDictAll, h1, noDicts xs h.2, Bool.or_self]
section
variable {X : Cx}
theorem cr_repr (hs : Still X.A) (hu : X.A.units + 64 < cLine) : CallR X (.builtin "repr") (rcD X.K (biSem .repr)) := by
  intro pins s σ H xs us Q I r h
  obtain ⟨F, M, ds, sF, hx, h⟩ := h
  replace h := optK_ex h
  obtain ⟨o, ho, h⟩ := h
  unfold biSem at ho
  split at ho <;> try (cases ‹Bi.repr = _›; done)
  · rename_i d _
    obtain ⟨t, ht, rfl⟩ := Option.map_eq_some_iff.mp ho
    unfold reprSem at ht
    split at ht <;> cases ht
    rename_i hz
    simp only [Bool.and_eq_true, decide_eq_true_eq] at hz
    obtain ⟨⟨h1, h2⟩, h3⟩ := hz
    rw [big_eq] at h3
    obtain ⟨hp, hd⟩ := D.ok_plain h1
    obtain ⟨v, rfl, hv⟩ := hx.one
    obtain ⟨u, rfl, ru⟩ := vals1 r
    have fin : ∀ {a : Addr}, u = .ref a → PyData.hasDict d.py = false → wpAny (model X.prog X.w) X.A (PySem.call (.builtin "repr") [u]) (EP X pins σ Q) X.xe s := fun {a} e hn => by
      obtain ⟨as, rd⟩ := RVt.reads I sF hp hv ru
      subst e
      exact repr_of_reads' rd h2 (PyData.noDict_hsm hn) hs (by rw [py_dep d hp]; omega) (fun _ _ e => e) (fun h' u tk hk => ⟨V.str d.py.shown, H, I.kept hk, ⟨u, rfl⟩, h _ _ (.old (.str _))⟩) h3
    cases d <;> try (simp only [D.plain, Bool.false_eq_true] at hp; done)
    · obtain rfl := hv.non
      obtain rfl : u = Value.none := ru
      exact PySem.P.repr_of_none ⟨V.str (PyData.shown (D.py .non)), H, I.tok _, ⟨_, rfl⟩, h _ _ (.old (.str _))⟩
    · obtain rfl := hv.bl
      rename_i b
      obtain rfl : u = Value.bool b := ru
      exact PySem.P.repr_of_bool ⟨V.str (PyData.shown (D.py (.bl b))), H, I.tok _, ⟨_, rfl⟩, h _ _ (.old (.str _))⟩
    · obtain rfl := hv.int
      obtain ⟨t, rfl⟩ := ru
      refine PySem.P.repr_of_int (by simpa only [D.py, PyData.showable, decide_eq_true_eq] using h2) ⟨V.str _, H, I.tok _, ⟨_, rfl⟩, h _ _ (.old (.str _))⟩
    · obtain rfl := hv.str
      obtain ⟨t, rfl⟩ := ru
      exact PySem.P.repr_of_str ⟨V.str _, H, I.tok _, ⟨_, rfl⟩, h _ _ (.old (.str _))⟩ (by simpa only [D.py, PyData.shown] using h3)
    · obtain ⟨a, vs, rfl, _⟩ := hv.tup sF
      exact fin (show u = Value.ref a from ru) (by simpa only [D.py, PyData.hasDict] using noDicts _ (by simpa only [D.plain] using hp))
    · obtain ⟨a, vs, rfl, _⟩ := hv.lst sF
      exact fin (show u = Value.ref a from ru) (by simpa only [D.py, PyData.hasDict] using noDicts _ (by simpa only [D.plain] using hp))
  · cases ho
end

/-! ### calls by names alone -/
def pickV (vs : List V) (perm : List Nat) : List V := perm.map fun i => vs.getD i .non
def pickU (vs : List Value) (perm : List Nat) : List Value := perm.map fun i => vs.getD i .none
theorem vals_getD {vs : List V} {us : List Value} (h : Vals vs us) : ∀ i : Nat, RelV (vs.getD i .non) (us.getD i .none) := by
  induction h with
  | nil =>
    intro i
    cases i <;> exact rfl
  | cons a _ ih =>
    intro i
    cases i with
    | zero => exact a
    | succ i => exact ih i
theorem vals_pick {vs : List V} {us : List Value} (h : Vals vs us) : ∀ perm : List Nat, Vals (pickV vs perm) (pickU us perm)
  | [] => .nil
  | i :: r => .cons (vals_getD h i) (vals_pick h r)
theorem rvs_getD {K : PySem.W.Frag} {F : Hp} {M : List Addr} : ∀ {ds : List D} {vs : List V} (_ : RVs K F M ds vs) (i : Nat), RV K F M (ds.getD i .non) (vs.getD i .non)
  | _, _, .nil, i => by cases i <;> exact .non
  | _, _, .cons a _, 0 => a
  | _, _, .cons _ b, i + 1 => rvs_getD b i
theorem rvs_pick {K : PySem.W.Frag} {F : Hp} {M : List Addr} {ds : List D} {vs : List V} (h : RVs K F M ds vs) : ∀ perm : List Nat, RVs K F M (pick ds perm) (pickV vs perm)
  | [] => .nil
  | i :: r => .cons (rvs_getD h i) (rvs_pick h r)
def ArgsKw (st : Stmt) (x q : Str) (ps ks : List Str) (perm : List Nat) : Prop := ∀ (kV doc pm : Value) (an : Option Addr) (cdv ct : Value) (ws : List Value), ws.length = ks.length →
  bindArgs (PySem.W.fnOf x q (defArgs st) (defBody st) (defScope st) .none kV doc pm an cdv ct) ⟨[], ks.zip ws⟩ = pure (ps.zip (pickU ws perm))
theorem bindsKw {K : PySem.W.Frag} {x q : Str} {st : Stmt} {f : Addr} {fd : FuncData} {ps ks : List Str} {perm : List Nat} (F : FnS K x q st f fd) (h : ArgsKw st x q ps ks perm) (s : Shared) (ws : List Value) (hl : ws.length = ks.length) :
    BindsTo s fd ⟨[], ks.zip ws⟩ (ps.zip (pickU ws perm)) := by
  obtain ⟨oc, od, dV, kV, doc, pm, an, cdv, ct, osl, rfl, lk, hcd, hD, hK⟩ := F.ex
  rcases hD with ⟨_, rfl⟩ | ⟨e, _⟩
  · exact .of_eq (h kV doc pm an cdv ct ws hl)
  · exact absurd rfl e
section
variable {X : Cx} {a : Expr} {ia : E} {is : Es} {p pos kpos : Pos} {x qual : Str} {k j : Nat} {f : Addr} {ps ks : List Str} {perm : List Nat} {g : Fn} {kws : List Keyword} {nm : Option Str} {st : Stmt}
/-- the values of keywords -/
def SK (X : Cx) (kws : List Keyword) (is : Es) : Prop := PK X kws (tVals X (ws is).vals)
theorem sk_nil : SK X [] .nil := ⟨fun pos pins s σ H Q I h => pk_nil.run pos pins s σ H Q I (by
  obtain ⟨F, M, P, σD, s, K, R, h, hK⟩ := h
  rw [ws.eq_1] at h
  exact hK _ _ _ F M H _ h (.refl F) (.refl M) R .nil)⟩
theorem sk_cons (ha : SEx X a ia) (hr : SK X kws is) : SK X (⟨nm, a, kpos⟩ :: kws) (.cons ia is) := ⟨fun pos pins s σ H Q I h => (pk_cons ha.v hr).run pos pins s σ H Q I (by
  obtain ⟨F, M, P, σD, s, K, R, h, hK⟩ := h
  rw [ws.eq_2] at h
  refine ⟨F, M, P, σD, s, _, R, h, fun o σ1 s1 F1 M1 H1 v1 k sf1 e1 R1 q => ?_⟩
  obtain ⟨F', sf', R', rv⟩ := R1.frz q
  refine ⟨F', M1, P, σ1, s1, _, R', k, fun ds σ2 s2 F2 M2 H2 vs k2 sf2 e2 R2 q2 => ?_⟩
  exact hK _ _ _ F2 M2 H2 _ k2 (sf1.trans (sf'.trans sf2)) (e1.trans e2) R2 (.cons (rv.mono sf2 e2) q2))⟩
theorem pk_callF {CX : CXT} {fd : FuncData} {sp : Sp} {Z : XK} {tk : TA} (F : FnA X.prog X.w X.K X.mg X.base CX k f fd ps sp) (hr : Room k X.A) (hs : Still X.A) (hg : Gl X x) (hm : X.mg x = some (.ref f)) (hk : PySem.W.keepIn X.K (.ref f) = true)
    (hb : ∀ (z : Shared) (ws : List Value), ws.length = ks.length → BindsTo z fd ⟨[], ks.zip ws⟩ (ps.zip (pickU ws perm))) (hx : Passes CX X Z) (hkw : PK X kws tk) (hall : (backToKw pos (keywordEach kws X.env)).all (·.1.isSome) = true)
    (hks : (backToKw pos (keywordEach kws X.env)).filterMap (·.1) = ks) (hdb : (x == ("__debug__" : Str)) = false) (hpl : ((backTo pos (starEach [] X.env)).any (·.1) || (backToKw pos (keywordEach kws X.env)).any (·.1.isNone)) = false) :
    PE X (.Call (.Name x p) [] kws pos) (fun σ G Q => tk σ G fun zs G2 => zs.length = ks.length ∧ sp (pickV zs perm) G2 Q Z) := ⟨fun pins z σ G Q J h =>
  wpAny_Call_Name_kw (ld_glob J hg hm (PySem.W.callWith_KW0 (h₀ := X.base) J.ok.mod.kin hk hall (thn (hkw.run pos pins z σ G _ J h) fun ws z2 ⟨zs, G2, J2, rz, hl, q2⟩ => ⟨J2.kIn, by
      rw [hks]
      exact F.wp hr hs J2 (fun _ => hb z2 ws (by rw [← rz.length]; exact hl)) hx (vals_pick rz perm) q2⟩) hpl) hdb)⟩
theorem se_cGK (O : OkG X.prog X.w X.K X.mg X.base j f ps (spG X.K g)) (G : Good X k) (hj : j ≤ k) (hm : X.mg x = some (.ref f)) (hf : ∃ fd, FnS X.K x qual st f fd) (ha : ArgsKw st x qual ps ks perm) (hn : perm.length = ks.length) (hg : Gl X x) (hdb : (x == ("__debug__" : Str)) = false)
    (hall : (backToKw pos (keywordEach kws X.env)).all (·.1.isSome) = true) (hks : (backToKw pos (keywordEach kws X.env)).filterMap (·.1) = ks)
    (hpl : ((backTo pos (starEach [] X.env)).any (·.1) || (backToKw pos (keywordEach kws X.env)).any (·.1.isNone)) = false) (ht : TruE X (.Call (.Name x p) [] kws pos)) (hkw : SK X kws is) :
    SEx X (.Call (.Name x p) [] kws pos) (.callp g perm is) := by
  obtain ⟨fd, F, hb, hfd⟩ := O.ex
  obtain ⟨fd2, F2⟩ := hf
  cases hfd.uniq (fdAt_of F2)
  refine sex_dft (w.eq_20 g perm is) (fun _ _ _ _ _ => rfl) ht (pk_callF (Z := E0) F (G.room.mono hj) G.still hg hm O.kp (bindsKw F2 ha) passes0 hkw hall hks hdb hpl) fun σ H Q ⟨F, M, P, σD, s, K, R, h, hK⟩ => ?_
  refine ⟨F, M, P, σD, s, _, R, h, fun ds σ1 s1 F1 M1 H1 vs k1 sf1 e1 R1 q => ?_⟩
  split at k1
  · rename_i hl
    exact ⟨by rw [← q.length, hl, hn], spG_of R1 (rvs_pick q perm) k1 sf1 e1 hK⟩
  · exact k1.elim
end

/-! ### *x, list(range(..)), x[::-1] -/
section
variable {X : Cx} {a b e : Expr} {ia ib ie : E} {es : List Expr} {is : Es} {p p2 p3 pos pos2 sp : Pos}
theorem sa_star (hs : starEach (.Starred e sp :: es) X.env = (true, eval e X.env) :: starEach es X.env) (ha : SEx X e ie) (hr : SAs X es is) : SAs X (.Starred e sp :: es) (.star ie is) := by
  refine ⟨paImp (StX.pa_star ha.v hr.v hs) fun σ H Q ⟨F, M, P, σD, s, K, R, h, hK⟩ => ?_, ⟨fun _ _ _ _ _ _ _ ⟨F, M, P, σD, s, K, R, h, hK⟩ => ?_⟩⟩
  · rw [ws.eq_3] at h
    refine ⟨F, M, P, σD, s, _, R, h, fun o σ1 s1 F1 M1 H1 v1 k sf1 e1 R1 q => ?_⟩
    obtain ⟨F2, sf2, R2, rv⟩ := R1.frz q
    obtain ⟨xs, hx, k⟩ := optK_ex k
    have rt := R2.view rv
    have fin : ∀ {vs : List V}, RVs X.K F2 M1 xs vs → tVals X (ws is).vals σ H1 fun ys H2 => Q (vs ++ ys) H2 := fun {vs} r =>
      ⟨F2, M1, P, σ1, s1, _, R2, k, fun ds σ3 s3 F3 M3 H3 us k3 sf3 e3 R3 q3 => hK _ _ _ F3 M3 H3 _ k3 (sf1.trans (sf2.trans sf3)) (e1.trans e3) R3 ((r.mono sf3 e3).append q3)⟩
    generalize view s1 o.frz = d at hx rt
    cases d <;> simp only [seqOf] at hx <;> try (cases hx; done)
    · cases hx
      obtain ⟨p, vs, rfl, h1, _, h3⟩ := rt.tup R2.sF
      exact ⟨p, vs, rfl, .inl h1, fin h3⟩
    · cases hx
      obtain ⟨p, vs, rfl, h1, h3⟩ := rt.lst R2.sF
      exact ⟨p, vs, rfl, .inr (.inl (.inl h1)), fin h3⟩
  · rw [ws.eq_3] at h
    exact h.elim
theorem rvs_upTo {K : PySem.W.Frag} {F : Hp} {M : List Addr} : ∀ (n : Nat) (i : Int), RVs K F M (upTo i n) ((List.range n).map fun j => V.int (i + (j : Nat)))
  | 0, _ => .nil
  | n + 1, i => by
    rw [upTo, List.range_succ_eq_map, List.map_cons, List.map_map]
    have h := rvs_upTo (K := K) (F := F) (M := M) n (i + 1)
    have e : (List.map (fun j : Nat => V.int (i + 1 + (j : Nat))) (List.range n)) = List.map ((fun j : Nat => V.int (i + (j : Nat))) ∘ Nat.succ) (List.range n) := by
      refine List.map_congr_left fun j _ => ?_
      show V.int _ = V.int _
      congr 1
      push_cast
      omega
    rw [← e]
    refine .cons ?_ h
    have : i + ((0 : Nat) : Int) = i := by omega
    rw [this]
    exact .int i
theorem rvs_rgV {K : PySem.W.Frag} {F : Hp} {M : List Addr} (i j : Int) : RVs K F M (rngD i j) (rgV i j) := rvs_upTo _ _
theorem rgOk_of {i j : Int} (h : rngOk i j = true) : RgOk i j := by
  obtain ⟨h1, h2, h3, h4⟩ := rngOk_le h
  exact ⟨by omega, by omega, by omega, by omega, by omega⟩
theorem se_lrng1 (hc : X.calm = true) (hg : Gl X "list") (hm : X.mg "list" = none) (hg2 : Gl X "range") (hm2 : X.mg "range" = none) (ha : SEx X a ia) (na : starEach [a] X.env = (false, eval a X.env) :: starEach [] X.env)
    (nr : starEach [.Call (.Name "range" p2) [a] [] pos2] X.env = (false, eval (.Call (.Name "range" p2) [a] [] pos2) X.env) :: starEach [] X.env) (ht : TruE X (.Call (.Name "list" p) [.Call (.Name "range" p2) [a] [] pos2] [] pos)) :
    SEx X (.Call (.Name "list" p) [.Call (.Name "range" p2) [a] [] pos2] [] pos) (.rng false (.cons ia .nil)) := by
  refine sex_dft (w.eq_26 false (.cons ia .nil)) (fun _ _ _ _ _ => rfl) ht (pe_listRg hc hg hm (prg_1 hg2 hm2 ha.o na) nr) fun σ H Q ⟨F, M, P, σD, s, K, R, h, hK⟩ => ?_
  rw [ws.eq_2] at h
  dsimp only at h
  refine ⟨F, M, P, σD, s, _, R, h, fun x σ1 s1 F1 M1 H1 v k sf ex R1 q => ?_⟩
  rw [ws.eq_1] at k
  obtain ⟨ds, hd, k⟩ := optK_ex k
  simp only [ress] at hd
  split at hd <;> cases hd
  rename_i d0 r0 e0 e1
  cases e1
  obtain ⟨pr, hp, k⟩ := optK_ex k
  split at k <;> try (exact k.elim)
  rename_i hz
  cases d0 <;> simp only [rngSem] at hp <;> try (cases hp; done)
  cases hp
  obtain rfl := (R1.res q e0).int
  refine ⟨_, rfl, rgOk_of hz, fun p hp => ?_⟩
  obtain ⟨F', sf', R', q'⟩ := R1.out (OutN.lst (F := F1) hp (rvs_rgV _ _))
  exact hK _ _ _ F' M1 _ _ k (sf.trans sf') ex R' q'
theorem se_lrng2 (hc : X.calm = true) (hg : Gl X "list") (hm : X.mg "list" = none) (hg2 : Gl X "range") (hm2 : X.mg "range" = none) (ha : SEx X a ia) (hb : SEx X b ib) (na : starEach [a, b] X.env = (false, eval a X.env) :: starEach [b] X.env)
    (nb : starEach [b] X.env = (false, eval b X.env) :: starEach [] X.env) (hpl : (backTo pos2 (starEach [b] X.env)).any (·.1) = false)
    (nr : starEach [.Call (.Name "range" p2) [a, b] [] pos2] X.env = (false, eval (.Call (.Name "range" p2) [a, b] [] pos2) X.env) :: starEach [] X.env) (ht : TruE X (.Call (.Name "list" p) [.Call (.Name "range" p2) [a, b] [] pos2] [] pos)) :
    SEx X (.Call (.Name "list" p) [.Call (.Name "range" p2) [a, b] [] pos2] [] pos) (.rng false (.cons ia (.cons ib .nil))) := by
  refine sex_dft (w.eq_26 false (.cons ia (.cons ib .nil))) (fun _ _ _ _ _ => rfl) ht (pe_listRg hc hg hm (prg_2 hg2 hm2 ha.o hb.o na nb hpl) nr) fun σ H Q ⟨F, M, P, σD, s, K, R, h, hK⟩ => ?_
  rw [ws.eq_2] at h
  dsimp only at h
  refine ⟨F, M, P, σD, s, _, R, h, fun x σ1 s1 F1 M1 H1 v k sf ex R1 q => ?_⟩
  rw [ws.eq_2] at k
  dsimp only at k
  refine ⟨F1, M1, P, σ1, s1, _, R1, k, fun y σ2 s2 F2 M2 H2 u k sf2 ex2 R2 q2 => ?_⟩
  rw [ws.eq_1] at k
  obtain ⟨ds, hd, k⟩ := optK_ex k
  obtain ⟨pr, hp, k⟩ := optK_ex k
  split at k <;> try (exact k.elim)
  rename_i hz
  have hr := R2.ress (.cons (q.mono sf2 ex2) (.cons q2 .nil)) hd
  rcases ds with _ | ⟨d0, _ | ⟨d1, _ | ⟨d2, r⟩⟩⟩ <;> try (cases hr; done)
  · cases hr with
    | cons _ t => cases t
  · obtain ⟨v', u', e, r1, r2⟩ := hr.two
    cases e
    cases d0 <;> cases d1 <;> simp only [rngSem] at hp <;> try (cases hp; done)
    cases hp
    obtain rfl := r1.int
    obtain rfl := r2.int
    refine ⟨_, _, rfl, rfl, rgOk_of hz, fun p hp => ?_⟩
    obtain ⟨F', sf', R', q'⟩ := R2.out (OutN.lst (F := F2) hp (rvs_rgV _ _))
    exact hK _ _ _ F' M2 _ _ k (sf.trans (sf2.trans sf')) (ex.trans ex2) R' q'
  · cases hr with
    | cons _ t => cases t with
      | cons _ t => cases t
theorem se_rev {k : Nat} {p4 p5 p6 : Pos} (ha : SEx X a ia) (ht : TruE X (.Subscript a (.Slice none none (some (.UnaryOp .USub (.Constant (.int 1) k p4) p5)) p6) pos)) : SEx X (.Subscript a (.Slice none none (some (.UnaryOp .USub (.Constant (.int 1) k p4) p5)) p6) pos) (.rev ia) := by
  refine sex_dft (w.eq_16 ia) (fun _ _ _ _ _ => rfl) ht (pe_revL ha.o) fun σ H Q ⟨F, M, P, σD, s, K, R, h, hK⟩ => ?_
  refine ⟨F, M, P, σD, s, _, R, h, fun x σ1 s1 F1 M1 H1 v k1 sf ex R1 q => ?_⟩
  obtain ⟨d, hd, k1⟩ := optK_ex k1
  cases d <;> try (exact k1.elim)
  obtain ⟨p, vs, rfl, h1, h3⟩ := (R1.res q hd).lst R1.sF
  refine ⟨p, vs, rfl, .inl (.inl h1), fun p' hp => ?_⟩
  obtain ⟨F', sf', R', q'⟩ := R1.out (OutN.lst (F := F1) hp h3.reverse)
  exact hK _ _ _ F' M1 _ _ k1 (sf.trans sf') ex R' q'
end
end HP

set_option maxHeartbeats 2000000
/-! HpMore2: isinstance of two classes; dict(x). -/
namespace HP
open PySem L2 PySem.Spec
open PyProof.Rows hiding St
section
variable {X : Cx} {a T1 T2 : Expr} {ia : E} {pos p p2 : Pos} {all : List Str} {kt}
theorem se_isiT {c1 c2 : Cl} (hf : ∀ c ∈ all, IsiF all X.K c) (hcs : ∀ c ∈ [c1, c2], ∀ s, c = .own s → s ∈ all) (hg : Gl X "isinstance") (hm : X.mg "isinstance" = none)
    (he : starEach [a, .Tuple [T1, T2] kt p2] X.env = (false, eval a X.env) :: starEach [.Tuple [T1, T2] kt p2] X.env) (he2 : starEach [.Tuple [T1, T2] kt p2] X.env = (false, eval (.Tuple [T1, T2] kt p2) X.env) :: starEach [] X.env)
    (hs1 : starEach [T1, T2] X.env = (false, eval T1 X.env) :: starEach [T2] X.env) (hs2 : starEach [T2] X.env = (false, eval T2 X.env) :: starEach [] X.env)
    (hpl : (backTo pos (starEach [.Tuple [T1, T2] kt p2] X.env)).any (·.1) = false) (ht : TruE X (.Call (.Name "isinstance" p) [a, .Tuple [T1, T2] kt p2] [] pos)) (ha : SEx X a ia) (h1 : SCl X T1 c1) (h2 : SCl X T2 c2) :
    SEx X (.Call (.Name "isinstance" p) [a, .Tuple [T1, T2] kt p2] [] pos) (.isi all [c1, c2] ia) := by
  have hp := pe_callB (pos := pos) (p := p) (X := X) call_isiT hg hm (by decide +kernel) (pa_cons ha.o (pa_cons (pe_tup (x1 := kt) (pos := p2) (pa_cons h1 (pa_cons h2 pa_nil hs2) hs1)) pa_nil he2) he) (by decide) (by decide) he hpl
  have rd : ∀ σ H (Q : VK) (B : Bool → Hp → Prop), (∀ k H', B k H' → Q (.bl k) H') → tTt X (fun σ s K x => asOp ia (w ia).v σ s (fun y σ s => optK (vres σ s y) fun y => optK (isiSem all [c1, c2] y) fun r => K r σ s) x) σ H B →
      tCB (rIsiT X.K) (tCons (tOd X ia (w ia).v) (tCons (tTup (tCons (tC (clV X.K c1)) (tCons (tC (clV X.K c2)) tNil))) tNil)) σ H Q := fun σ H Q B hB ⟨F, M, P, σD, s, K, R, h, hK⟩ => by
    refine ⟨F, M, P, σD, s, _, R, h, fun x σ1 s1 F1 M1 H1 vx k1 sf1 e1 R1 ox => ?_⟩
    obtain ⟨d, hd, k1⟩ := optK_ex k1
    obtain ⟨b, hb, k1⟩ := optK_ex k1
    refine ⟨by rw [sizeLine_eq]; show 2 ≤ _; decide, fun q hq => ?_⟩
    have R2 := R1.junk (o := .tup [clV X.K c1, clV X.K c2]) hq
    obtain ⟨t, g1, g2, g3⟩ := isi_of hf hcs R2.sF (R2.res ox hd) hb
    exact ⟨vx, q, _, t, [clU X.K c1, clU X.K c2], b, rfl, upd_same, .cons (clVU X.K c1) (.cons (clVU X.K c2) .nil), g1, by rw [g3]; exact kitAny_of g2, hB _ _ (hK _ _ _ F1 M1 _ k1 sf1 e1 R2)⟩
  refine sex_ofT (w.eq_25 all [c1, c2] ia) (fun _ _ _ _ _ => rfl) hp (ptImp (pt_val hp ht) fun σ H Q q => ?_) rd
  exact q
end
theorem isi_mem {all : List Str} {cs : List Cl} (h : (cs.all fun c => isOwn all c) = true) : ∀ c ∈ cs, ∀ s, c = .own s → s ∈ all := fun c hc => isi_mem1 (List.all_eq_true.mp h c hc)
/-! ### dict(x) -/
theorem pairs_rel {K : PySem.W.Frag} {F : Hp} {M : List Addr} : ∀ {xs : List HP.D} {vs : List V} {ps : List (HP.D × HP.D)}, RVs K F M xs vs → pairsOf xs = some ps →
    ∃ (as : List Addr) (qs : List (V × V)), vs = as.map V.ref ∧ PRs K F M ps qs ∧ Paired (fun p (q : V × V) => SqT K F p [q.1, q.2]) as qs
  | _, _, ps, .nil, h => by
    simp only [pairsOf, Option.some.injEq] at h
    subst h
    exact ⟨[], [], rfl, .nil, .nil⟩
  | _, _, ps, .cons (d := d) (ds := ds) (vs := us) r rr, h => by
    simp only [pairsOf] at h
    cases d with
    | tup ys =>
      match ys, h, r with
      | [], h, _ => simp [pairOf] at h
      | [_], h, _ => simp [pairOf] at h
      | _ :: _ :: _ :: _, h, _ => simp [pairOf] at h
      | [k, v], h, r =>
        simp only [pairOf] at h
        cases hp : pairsOf ds with
        | none => rw [hp] at h; cases h
        | some ps' =>
          rw [hp] at h
          cases h
          obtain ⟨as, qs, rfl, h1, h2⟩ := pairs_rel rr hp
          cases r with
          | tup g1 g2 =>
            rename_i a ws
            cases g2 with
            | cons q1 g2 =>
              cases g2 with
              | cons q2 g2 =>
                cases g2
                exact ⟨a :: as, _ :: qs, rfl, .cons (q := (_, _)) q1 q2 h1, .cons g1.sqT h2⟩
    | _ => simp [pairOf] at h
theorem paired_mor {K : PySem.W.Frag} {H : Hp} : ∀ {as : List Addr} {more : List (Key × V)}, Paired (fun p (q : V × V) => SqT K H p [q.1, q.2]) as (more.map fun kv => (kV kv.1, kv.2)) → Paired (fun p (kv : Key × V) => SqT K H p [kV kv.1, kv.2]) as more
  | [], [], _ => .nil
  | _ :: _, _ :: _, .cons h t => .cons h (paired_mor t)
theorem paired_mono {α β : Type} {R S : α → β → Prop} (k : ∀ a b, R a b → S a b) : ∀ {as : List α} {bs : List β}, Paired R as bs → Paired S as bs
  | _, _, .nil => .nil
  | _, _, .cons h t => .cons (k _ _ h) (paired_mono k t)
theorem cr_dictD {X : Cx} (hc : X.calm = true) : CallR X (.type "dict") (rcD X.K (biSem .dict)) := by
  intro pins s σ H xs us Q I r h
  obtain ⟨F, M, ds, sF, hx, h⟩ := h
  replace h := optK_ex h
  obtain ⟨o, ho, h⟩ := h
  unfold biSem at ho
  split at ho <;> try (cases ‹Bi.dict = _›; done)
  · cases ho
    obtain ⟨v, rfl, hv⟩ := hx.one
    obtain ⟨a, kvs, rfl, h1, rfl, h3, h4⟩ := hv.dct sF
    exact call_dictD pins s σ H _ us Q I r ⟨a, kvs, rfl, .inl h1, fun p hp => h _ _ (.own hp (.dct upd_same rfl h3 h4))⟩
  · obtain ⟨q, hb, rfl⟩ := Option.map_eq_some_iff.mp ho
    obtain ⟨ps, hp, hm⟩ := Option.bind_eq_some_iff.mp hb
    obtain ⟨v, rfl, hv⟩ := hx.one
    obtain ⟨a, vs, rfl, h1, h3⟩ := hv.lst sF
    obtain ⟨as, qs, rfl, g1, g2⟩ := pairs_rel h3 hp
    obtain ⟨more, rfl, k2, k3, k4⟩ := mergeD_rel (kvs := []) g1 (by simp) .nil hm
    refine call_dictP hc pins s σ H _ us Q I r ⟨a, as, more, rfl, .inl (.inl h1), paired_mono (fun p kv q => sqT_mono sF q) (paired_mor g2), fun p hp => h _ _ (.own hp ?_)⟩
    rw [k2]
    exact .dct upd_same rfl k4 k3
  · cases ho
end HP

set_option maxHeartbeats 2000000
/-! HpGet: properties that hand back a field, by names. -/
namespace HP
open PySem L2
structure GetG (P : Program) (w : World) (K : PySem.W.Frag) (mg : Str → Option Value) (base : Heap) (C n fo : Str) : Prop where
  cls : Cls K (He.ga K C)
  prop : PropOf K (He.ga K C) n (propAt C n K) (getAt C n K)
  fn : ∃ fd, FnOk P w K mg base CX0 1 (getAt C n K) fd ["self"] (getSp (He.ga K C) fo) ∧ Binds K fd ["self"] []
def isGet (fo : Str) : List Stmt → Bool
  | [.Return (some (.Attribute (.Name x _) f _)) _] => decide (x = ("self" : Str)) && decide (f = fo)
  | _ => false
theorem isGet_ok {fo : Str} {b : List Stmt} (h : isGet fo b = true) : ∃ (p1 p2 p3 : Pos), b = [.Return (some (.Attribute (.Name "self" p1) fo p2)) p3] := by
  unfold isGet at h
  split at h
  · simp only [Bool.and_eq_true, decide_eq_true_eq] at h
    obtain ⟨rfl, rfl⟩ := h
    exact ⟨_, _, _, rfl⟩
  · cases h
theorem getG_of {P : Program} {w : World} {K : PySem.W.Frag} {mg : Str → Option Value} {base : Heap} {C n fo q : Str} {st : Stmt} {N : List Str} (hF : ∃ fd, FnS K n q st (getAt C n K) fd) (ha : ArgsOk st n q ["self"]) (S : FnScope N ["self"] (defScope st)) (hN : N[0]? = some ("self" : Str))
    (hb : ∃ (p1 p2 p3 : Pos), defBody st = [.Return (some (.Attribute (.Name "self" p1) fo p2)) p3]) (c : Cls K (He.ga K C)) (na : NoAttr K (He.ga K C) fo) (hp : PropOf K (He.ga K C) n (propAt C n K) (getAt C n K)) :
    GetG P w K mg base C n fo := by
  obtain ⟨fd, F⟩ := hF
  have hbi := FunD.bindsN F ha
  obtain ⟨oc, od, dV, kV, doc, pm, an, cdv, ct, osl, rfl, lk, hcd, _, _⟩ := F.ex
  obtain ⟨p1, p2, p3, hb⟩ := hb
  exact ⟨c, hp, _, fn_getter (k := 0) lk hcd S hN hb c na, hbi⟩
theorem se_getG {X : Cx} {a : Expr} {ia : E} {pos : Pos} {k : Nat} {C n fo : Str} (G : GetG X.prog X.w X.K X.mg X.base C n fo) (hr : Room k X.A) (h2 : 2 ≤ k) (ha : SEx X a ia) (hab : attributeBase a n X.env (eval a X.env) = eval a X.env) : SEx X (.Attribute a n pos) (.fld C ia fo) := by
  obtain ⟨fd, F, hb⟩ := G.fn
  exact se_getter (k := 1) ha hab G.cls G.prop F (hr.mono h2) hb
theorem raise_any {i : Nat} : ∀ (σD : Slots) (s : Store) (K : QO), (w (.var i)).v σD s K noX → ∃ o σD' s', K o σD' s' := fun σD s K h => by
  rw [w.eq_2] at h
  simp only [dft] at h
  split at h
  · exact ⟨_, _, _, h⟩
  · exact ⟨_, _, _, h⟩
  · exact h.elim
end HP

set_option maxHeartbeats 2000000
/-! HpTry: a try whose body raises nothing. -/
namespace HP
open PySem L2
section
variable {X : Cx} {J : St → Prop} {body : List Stmt} {h₀ : ExceptHandler} {hs : List ExceptHandler} {ib : Ss} {pos : Pos} {k : Nat}
theorem Good.nox (g : Good X k) : Good X.nox k := ⟨g.room, g.still, g.calm, g.nd⟩
theorem w_true (σ : Slots) (s : Store) (K : QB) (x : QX) : wT (.lit (.bl true)) σ s K x = K true σ s := by
  unfold wT
  rw [w.eq_1]
  rfl
theorem st_try0 (hb : SSs X.nox J body ib) : SSt X J (.Try body (h₀ :: hs) [] [] pos) (.ife (.lit (.bl true)) ib .nil) := psImp (ps_try_thru0 hb) fun D σ H ⟨F, M, P, σD, s, Pt, R, j, h, hE⟩ => by
  rw [wS, w_true, if_pos rfl] at h
  exact ⟨F, M, P, σD, s, Pt, R, j, h, hE.nx, hE.bk, hE.ct, hE.rt, hE.ex⟩
end
end HP

set_option maxHeartbeats 2000000
/-! HpEqo: == and != by a class's own __eq__. -/
namespace HP
open PySem L2 PySem.Spec
open PyProof.Rows hiding St
/-- what != asks of a class -/
def neB (C : Str) (K : PySem.W.Frag) : Bool := decide (PySem.W.findIn K (.ref (He.ga K C)) "__ne__" = some (some (.builtin "object.__ne__"))) && decide (PySem.W.mroIn K (He.ga K C) (.type "object") = some true)
theorem ne_bind (v : Value) : bindSpecial (.builtin "object.__ne__") v = pure (.builtin "object.__ne__", [v]) :=
  (PySem.Slot.of (T := "object") (name := "__ne__") (owner := "object") (n := "__ne__") (by rw [typeLookup_type, builtinLookup_eq_fast]; kernel_rfl) (by decide +kernel) (by decide +kernel) (by decide +kernel) (.inl (by decide +kernel)) (by rw [isSubtype_type]; kernel_rfl)).bind v
/-- a value of a built-in type stands first nowhere -/
theorem first_bi {K : PySem.W.Frag} {C : Addr} {n : String} (h : n ∈ names7) : PySem.W.notFirst K C (.type n) = true := by
  simp only [names7, List.mem_cons, List.not_mem_nil, or_false] at h
  rcases h with rfl | rfl | rfl | rfl | rfl | rfl | rfl <;> rfl
section
variable {X : Cx} {k : Nat} {f : Addr} {fd : FuncData} {ps : List Str} {sp : Sp} {A : Around}
/-- a def that runs somewhere below the running body -/
theorem FnA.below {pins : List (Addr × Obj)} {σ : St} {H : Hp} {s : Shared} {Q : VK} {us : List Value} {zs : List V} (F : FnA X.prog X.w X.K X.mg X.base CX0 k f fd ps sp) (hr : Room k A) (hs : Still A) (e0 : Env0 X.prog X.w X.K X.mg X.base A X.stack s H)
    (I : Inv X pins σ H s) (hb : Binds X.K fd ps []) (r : Vals zs us) (h : sp zs H Q E0) : wpAny (model X.prog X.w) A (PySem.call (.ref f) us) (EP X pins σ Q) X.xe s := by
  have hl : us.length = ps.length := r.length ▸ F.len _ _ _ _ h
  have hbb := hb s us I.kIn (by rw [List.append_nil]; exact hl)
  rw [List.append_nil] at hbb
  refine wpAny_call (codeAny_mono (F.go A X.stack s H ⟨us, []⟩ us zs Q E0 hr hs e0 hbb r h) fun r z q => ?_)
  match r, q with
  | .error e, q => exact q.elim
  | .ok (.ret u), q => exact I.after q
  | .ok .next, q => exact q.elim
  | .ok .brk, q => exact q.elim
  | .ok .cont, q => exact q.elim
/-- x == y, x an instance of the class at C with an own == at f -/
def rOwnEq (K : PySem.W.Frag) (C : Addr) (sp : Sp) (n : Bool) : R2 := fun x y H Q => ∃ a dx fs tb, x = .ref a ∧ H a = some (.ins C dx fs) ∧ TyX K H y tb ∧ PySem.W.notFirst K C tb = true ∧ sp [x, y] H (fun z H' => ∃ b, z = .bl b ∧ Q (.bl (if n then !b else b)) H') E0
theorem op_ownEq {C : Addr} (F : FnA X.prog X.w X.K X.mg X.base CX0 k f fd ps sp) (m : Meth X.K C "__eq__" f) (hr : Room (k + 1) X.A) (hs : Still X.A) (hb : Binds X.K fd ps []) : OpR X (compareOp .Eq) (rOwnEq X.K C sp false) := by
  intro pins s σ H x y v u Q I rx ry h
  obtain ⟨a, dx, fs, tb, rfl, ha, ty, hn, h⟩ := h
  cases (show v = Value.ref a from rx)
  obtain ⟨mA, J, _⟩ := ins_get I.hok ha
  obtain ⟨od, J, _⟩ := J.look
  obtain ⟨m0, hF⟩ := I.fr
  obtain ⟨P, kx, hp, _⟩ := kit_of I ry ty
  have hr0 : Room k X.A := hr.mono (Nat.le_succ k)
  refine PySem.W.cmp_K (op := .Eq) (tb := tb) (by have := hr.un; omega) hF I.ok.mod.kin J (kx.ty _ _ I.kIn hp) hn m.at_ m.fn ?_
  refine wpAny_mono (F.below hr0 hs I.env0 I hb (.cons rx (.cons ry .nil)) h) (fun w s' q => ?_) fun _ _ z => z
  obtain ⟨z, H', I', rz, b, rfl, q⟩ := q
  obtain rfl : w = Value.bool b := rz
  exact ⟨.bl b, H', I', rfl, q⟩
theorem op_ownNe {C : Addr} (F : FnA X.prog X.w X.K X.mg X.base CX0 k f fd ps sp) (m : Meth X.K C "__eq__" f) (n1 : PySem.W.findIn X.K (.ref C) "__ne__" = some (some (.builtin "object.__ne__"))) (n2 : PySem.W.mroIn X.K C (.type "object") = some true)
    (hr : Room (k + 1) X.A) (hs : Still X.A) (hb : Binds X.K fd ps []) : OpR X (compareOp .NotEq) (rOwnEq X.K C sp true) := by
  intro pins s σ H x y v u Q I rx ry h
  obtain ⟨a, dx, fs, tb, rfl, ha, ty, hn, h⟩ := h
  cases (show v = Value.ref a from rx)
  obtain ⟨mA, J, _⟩ := ins_get I.hok ha
  obtain ⟨od, J, _⟩ := J.look
  obtain ⟨P, kx, hp, _⟩ := kit_of I ry ty
  have hu : X.A.units + 1 < cLine := by have := hr.un; omega
  have hb' := kx.ty (model X.prog X.w) _ I.kIn hp
  have one : wpAny (model X.prog X.w) X.A (tryCompare (.ref a) "__ne__" u) (fun r s' => ∃ v, r = some v ∧ EP X pins σ Q v s') X.xe s := by
    unfold tryCompare
    refine wpAny_bind (NtL.csib (J.type.andThen (PySem.W.looks_findIn I.kIn n1)) (ne_bind _) ?_)
    refine wpAny_call (codeAny_call_builtin (by decide +kernel) PySem.F.cmpEntry_ne (PySem.W.check_slot PySem.F.cmpKind_ne PySem.F.cmpSplit_ne (J.type.andThen (PySem.W.looks_mroIn I.kIn n2)) (PySem.F.cmpArgs_ne _ _) ?_))
    have cb : wpAny (model X.prog X.w) X.A.in1 (callSpecialIfBound? (.ref a) "__eq__" [u]) (fun r s' => ∃ b, r = some (.bool b) ∧ EP X pins σ Q (.bool (!b)) s') X.xe s := by
      refine PySem.W.ifBound_K I.kIn J m.at_ m.fn (wpAny_mono (F.below hr.in1 hs I.env0.in1 I hb (.cons rx (.cons ry .nil)) h) (fun w s' q => ?_) fun _ _ z => z)
      obtain ⟨z, H', I', rz, b, rfl, q⟩ := q
      obtain rfl : w = Value.bool b := rz
      exact ⟨b, rfl, .bl (!b), H', I', rfl, q⟩
    unfold Builtin.«object.__ne__»
    repeat (first
      | with_reducible refine wpAny_cRoomFor hu ?_
      | (refine wpAny_bind (m := callSpecialIfBound? (.ref a) (Str.ofString "__eq__") [u]) (wpAny_mono cb (fun r s' hr => by
            obtain ⟨b, rfl, hq⟩ := hr
            repeat (first | exact ⟨_, rfl, hq⟩ | exact hq | exact wpAny_pure hq | exact wpAny_truthy_bool hq | (refine wpAny_bind (m := truthy (.bool _)) (wpAny_truthy_bool ?_)) | wp_step)) fun _ _ e => e))
      | wp_step)
  show wpAny (model X.prog X.w) X.A (richCompare .NotEq (.ref a) u) (EP X pins σ Q) X.xe s
  unfold richCompare
  simp only [oneThing_ref]
  refine wpAny_holding (wpAny_bind (wpAny_cRoomFor (by omega) ?_))
  refine wpAny_bind (J.type.here (wpAny_bind (hb'.here ?_)))
  have last : wpAny (model X.prog X.w) X.A (tryCompare (.ref a) "__ne__" u) (fun r s' => ∃ v, r = some v ∧ EP X pins σ Q v s') X.xe s := one
  split
  · rename_i q
    have e : PySem.W.subIn X.K tb (.ref C) = some false := by
      rcases Bool.or_eq_true_iff.mp hn with e | e
      · rw [beq_iff_eq.mp e] at q; simp at q
      · exact beq_iff_eq.mp e
    refine wpAny_bind ((PySem.W.looks_subIn I.kIn e).here ?_)
    simp only [Bool.false_eq_true, if_false]
    exact wpAny_bind (wpAny_mono last (fun r s' ⟨v, hv, z⟩ => by subst hv; exact wpAny_pure z) fun _ _ e => e)
  · refine wpAny_bind (wpAny_pure ?_)
    simp only [Bool.false_eq_true, if_false]
    exact wpAny_bind (wpAny_mono last (fun r s' ⟨v, hv, z⟩ => by subst hv; exact wpAny_pure z) fun _ _ e => e)
theorem op_own {C : Addr} (F : FnA X.prog X.w X.K X.mg X.base CX0 k f fd ps sp) (m : Meth X.K C "__eq__" f) (n1 : PySem.W.findIn X.K (.ref C) "__ne__" = some (some (.builtin "object.__ne__"))) (n2 : PySem.W.mroIn X.K C (.type "object") = some true)
    (hr : Room (k + 1) X.A) (hs : Still X.A) (hb : Binds X.K fd ps []) : ∀ n : Bool, OpR X (compareOp (if n then .NotEq else .Eq)) (rOwnEq X.K C sp n)
  | false => op_ownEq F m hr hs hb
  | true => op_ownNe F m n1 n2 hr hs hb
end
section
variable {X : Cx} {j k : Nat} {f : Addr} {ps all : List Str} {g : Fn} {a b : Expr} {ia ib : E} {pos : Pos}
/-- x == y, x != y -/
theorem se_eqo {Cn : Str} (n : Bool) (O : OkG X.prog X.w X.K X.mg X.base j f ps (spG X.K g)) (G : Good X k) (hj : j + 1 ≤ k) (m : Meth X.K (He.ga X.K Cn) "__eq__" f) (hn : neB Cn X.K = true) (hf : ∀ c ∈ all, IsiF all X.K c) (hc : Cn ∈ all)
    (ha : SEx X a ia) (hb : SEx X b ib) (hm : behindInMarks (if n then .NotEq else .Eq) b = false) : SEx X (.Compare a [if n then .NotEq else .Eq] [b] pos) (.eqo n Cn g ia ib) := by
  obtain ⟨fd, F, hbi, _⟩ := O.ex
  unfold neB at hn
  simp only [Bool.and_eq_true, decide_eq_true_eq] at hn
  have op := op_own F m hn.1 hn.2 (G.room.mono hj) G.still hbi n
  refine sex_ofT (w.eq_31 n Cn g ia ib) (fun _ _ _ _ _ => rfl) (pe_cmpR op ha.v hb.v hm) (pt_cmpR op ha.v hb.v hm) fun σ H Q B hB ⟨F, M, P, σD, s, K, R, h, hK⟩ => ?_
  refine ⟨F, M, P, σD, s, _, R, h, fun x σ1 s1 F1 M1 H1 vx k1 sf1 e1 R1 ox => ?_⟩
  obtain ⟨F2, sf2, R2, rx⟩ := R1.frz ox
  refine ⟨F2, M1, P, σ1, s1, _, R2, k1, fun y σ3 s3 F3 M3 H3 vy k3 sf3 e3 R3 oy => ?_⟩
  obtain ⟨F4, sf4, R4, ry⟩ := R3.frz oy
  have rx4 := rx.mono (sf3.trans sf4) e3
  obtain ⟨q1, q2, q3⟩ := k3
  obtain ⟨a, dx, fs, ns, vs, rfl, h1, h2, rfl, h4⟩ := isIns_rel R4 rx4 q1
  have tb : ∃ tb, TyX X.K H3 vy tb ∧ PySem.W.notFirst X.K (He.ga X.K Cn) tb = true := by
    have r := R4.view ry
    generalize view s3 y.frz = d at q2 r
    by_cases hi : ∃ c ns vs, d = .ins c ns vs
    · obtain ⟨c, ns, vs, rfl⟩ := hi
      simp only [eqTy, decide_eq_true_eq] at q2
      subst q2
      obtain ⟨p, dd, fs', rfl, g1, _⟩ := r.ins R4.sF
      exact ⟨_, .base ((hf _ hc).ty g1), by simp [PySem.W.notFirst]⟩
    · have q2' : (tyN d).isSome = true := by
        cases d <;> first | exact q2 | exact absurd ⟨_, _, _, rfl⟩ hi
      obtain ⟨nm, hnm⟩ := Option.isSome_iff_exists.mp q2'
      exact ⟨_, tyx_of R4.sF r hnm, first_bi (by cases d <;> simp only [tyN, Option.some.injEq] at hnm <;> first | (subst hnm; decide) | cases hnm)⟩
  obtain ⟨t, ht, hnf⟩ := tb
  refine ⟨a, dx, fs, t, rfl, h1, ht, hnf, ?_⟩
  refine spG_of (K := fun o σ s => match o with | .val (.bl r) => K (if n then !r else r) σ s | _ => False) R4 (.cons rx4 (.cons ry .nil)) q3 ((sf1.trans sf2).trans (sf3.trans sf4)) (e1.trans e3) fun o σD' s' F' M' H' v k5 sf5 e5 R5 o5 => ?_
  split at k5
  · rename_i r
    cases o5
    exact ⟨r, rfl, hB _ _ (hK _ _ _ F' M' H' k5 sf5 e5 R5)⟩
  · exact k5.elim
end
end HP

set_option maxHeartbeats 4000000
namespace HP
open PySem L2
abbrev all : List Str := ["Rule"]
-- Rule_eq: 0=self 1=other
def b_Rule_eq : Ss := .cons (.ife (.or_ (.not_ (.isi all [.own "Rule"] (.var 1))) (.or_ (.cmp .ne (.fld "Rule" (.var 0) "own_order") (.fld "Rule" (.var 1) "own_order")) (.cmp .ne (.fld "Rule" (.var 0) "own_kept") (.fld "Rule" (.var 1) "own_kept")))) (.cons (.ret (.lit (.bl false))) .nil) .nil) (.cons (.ret (.and_ (.cmp .eq (.fld "Rule" (.var 0) "own_slack") (.fld "Rule" (.var 1) "own_slack")) (.cmp .eq (.fld "Rule" (.var 0) "own_raises") (.fld "Rule" (.var 1) "own_raises")))) .nil)
def g_Rule_eq : Fn := mkFn 2 2 b_Rule_eq
-- are_some: 0=thing 1=words 2=word
def b_are_some : Ss := .cons (.ife (.or_ (.not_ (.isi all [.tuple] (.var 0))) (.not_ (.bi .all (.cons (.lc [2] (.and_ (.isi all [.str] (.var 2)) (.cmp .in_ (.var 2) (.var 1))) (.one (.name 2) (.seq (.var 0)) .nil)) .nil)))) (.cons (.ret (.lit (.bl false))) .nil) .nil) (.cons (.ret (.cmp .eq (.bi .lenset (.cons (.var 0) .nil)) (.bi .len (.cons (.var 0) .nil)))) .nil)
def g_are_some : Fn := mkFn 2 3 b_are_some
-- is_number: 0=thing
def b_is_number : Ss := .cons (.ret (.and_ (.isi all [.int] (.var 0)) (.not_ (.isi all [.bool] (.var 0))))) .nil
def g_is_number : Fn := mkFn 1 1 b_is_number
-- _law_unlike: 0=_law_way_here 1=_law_found 2=_law_order 3=_law_changed 4=_law_part 5=_law_every 6=_law_word 7=_law_one 8=_law_worth 9=_law_other
def l__law_unlike_1 : Ss := .cons (.ex (.mm .append (.var 3) (.cons (.tup (.cons (.var 4) (.cons (.bi .tuple (.cons (.lc [7] (.var 7) (.one (.name 7) (.seq (.var 5)) (.cons (.cmp .ne (.cmp .in_ (.var 7) (.ix (.var 0) (.var 4))) (.cmp .eq (.var 7) (.var 6))) .nil))) .nil)) .nil))) .nil))) .nil
def l__law_unlike_2 : Ss := .cons (.for_ (.name 6) (.seq (.var 5)) l__law_unlike_1) .nil
def l__law_unlike_3 : Ss := .cons (.asg (.name 9) (.bi .dict (.cons (.var 0) .nil))) (.cons (.setix (.var 9) (.var 4) (.var 8)) (.cons (.ex (.mm .append (.var 1) (.cons (.tup (.cons (.var 9) (.cons (.var 4) .nil))) .nil))) .nil))
def b__law_unlike : Ss := .cons (.par [1, 2] (.cons (.lst .nil) (.cons (.ix (.var 0) (.lit (.str "order"))) .nil))) (.cons (.asg (.name 3) (.lst (.cons (.tup (.cons (.lit (.str "slack")) (.cons (.bin .mod (.bi .int (.cons (.bin .add (.ix (.var 0) (.lit (.str "slack"))) (.lit (.int 1))) .nil)) (.lit (.int 5))) .nil))) (.cons (.tup (.cons (.lit (.str "order")) (.cons (.ife (.cmp .ne (.var 2) (.tup .nil)) (.sl (.var 2) (.cons (.lit (.int 1)) .nil) .nil) (.tup (.cons (.lit (.str "turn")) .nil))) .nil))) .nil)))) (.cons (.ife (.cmp .gt (.bi .len (.cons (.var 2) .nil)) (.lit (.int 1))) (.cons (.ex (.mm .append (.var 3) (.cons (.tup (.cons (.lit (.str "order")) (.cons (.bin .add (.tup (.cons (.ix (.var 2) (.lit (.int 1))) (.cons (.ix (.var 2) (.lit (.int 0))) .nil))) (.sl (.var 2) (.cons (.lit (.int 2)) .nil) .nil)) .nil))) .nil))) .nil) .nil) (.cons (.for_ (.tup [.name 4, .name 5]) (.seq (.lst (.cons (.tup (.cons (.lit (.str "kept")) (.cons (.lst (.cons (.lit (.str "done")) (.cons (.lit (.str "place")) (.cons (.lit (.str "stamp")) .nil)))) .nil))) (.cons (.tup (.cons (.lit (.str "raises")) (.cons (.lst (.cons (.lit (.str "again")) (.cons (.lit (.str "back")) .nil))) .nil))) .nil)))) l__law_unlike_2) (.cons (.for_ (.tup [.name 4, .name 8]) (.seq (.var 3)) l__law_unlike_3) (.cons (.ret (.var 1)) .nil)))))
def g__law_unlike : Fn := mkFn 1 10 b__law_unlike
-- _law_blend: 0=_law_draw 1=_law_turn 2=_law_found 3=_law_prime 4=_law_blend_here 5=_law_cell
def l__law_blend_1 : Ss := .cons (.asg (.name 4) (.bin .mod (.bi .int (.cons (.bin .add (.bin .mul (.var 4) (.lit (.int 48271))) (.var 5)) .nil)) (.var 3))) .nil
def l__law_blend_2 : Ss := .cons (.asg (.name 4) (.bin .mod (.bi .int (.cons (.bin .add (.bin .mul (.var 1) (.lit (.int 69621))) (.bin .fdiv (.var 3) (.lit (.int 7)))) .nil)) (.var 3))) (.cons (.for_ (.name 5) (.seq (.ix (.var 0) (.lit (.str "cells")))) l__law_blend_1) (.cons (.asg (.name 2) (.bin .add (.bin .mul (.var 2) (.lit (.int 2147483647))) (.bin .mod (.bi .int (.cons (.bin .pow (.var 4) (.lit (.int 5))) .nil)) (.var 3)))) .nil))
def b__law_blend : Ss := .cons (.asg (.name 1) (.bin .add (.ix (.var 0) (.lit (.str "turn"))) (.lit (.int 1)))) (.cons (.setix (.var 0) (.lit (.str "turn")) (.var 1)) (.cons (.asg (.name 2) (.lit (.int 0))) (.cons (.for_ (.name 3) (.seq (.lst (.cons (.lit (.int 2147483629)) (.cons (.lit (.int 2147483587)) (.cons (.lit (.int 2147483579)) (.cons (.lit (.int 2147483563)) .nil)))))) l__law_blend_2) (.cons (.ret (.var 2)) .nil))))
def g__law_blend : Fn := mkFn 1 6 b__law_blend
-- _law_begin: 0=_law_script 1=_law_great 2=_law_cell
def b__law_begin : Ss := .cons (.asg (.name 1) (.alloc (.lc [2] (.bin .sub (.bi .abs (.cons (.var 2) .nil)) (.bin .pow (.lit (.int 10)) (.lit (.int 18)))) (.one (.name 2) (.seq (.var 0)) (.cons (.cmp .ge (.bi .abs (.cons (.var 2) .nil)) (.bin .pow (.lit (.int 10)) (.lit (.int 18)))) .nil))))) (.cons (.ret (.alloc (.dct (.cons (.lit (.str "great")) (.cons (.var 1) (.cons (.lit (.str "rest")) (.cons (.lit (.int 0)) (.cons (.lit (.str "cells")) (.cons (.lc [2] (.bi .abs (.cons (.var 2) .nil)) (.one (.name 2) (.seq (.var 0)) .nil)) (.cons (.lit (.str "turn")) (.cons (.lit (.int 0)) .nil))))))))))) .nil)
def g__law_begin : Fn := mkFn 1 3 b__law_begin
-- are_ascending_some: 0=thing 1=words
def b_are_ascending_some : Ss := .cons (.ret (.and_ (.call g_are_some (.cons (.var 0) (.cons (.var 1) .nil))) (.cmp .eq (.bi .list (.cons (.var 0) .nil)) (.bi .sorted (.cons (.var 0) .nil))))) .nil
def g_are_ascending_some : Fn := mkFn 2 2 b_are_ascending_some
-- is_number_in: 0=thing 1=least 2=most
def b_is_number_in : Ss := .cons (.ret (.and_ (.call g_is_number (.cons (.var 0) .nil)) (.chain .le .le (.var 1) (.var 0) (.var 2)))) .nil
def g_is_number_in : Fn := mkFn 3 3 b_is_number_in
-- _law_take: 0=_law_draw 1=_law_many 2=_law_found
def b__law_take : Ss := .cons (.ife (.and_ (.cmp .eq (.ix (.var 0) (.lit (.str "rest"))) (.lit (.int 0))) (.cmp .ne (.ix (.var 0) (.lit (.str "great"))) (.lst .nil))) (.cons (.setix (.var 0) (.lit (.str "rest")) (.mm .pop (.ix (.var 0) (.lit (.str "great"))) (.cons (.lit (.int 0)) .nil))) .nil) .nil) (.cons (.ife (.cmp .eq (.ix (.var 0) (.lit (.str "rest"))) (.lit (.int 0))) (.cons (.setix (.var 0) (.lit (.str "rest")) (.call g__law_blend (.cons (.var 0) .nil))) .nil) .nil) (.cons (.asg (.name 2) (.bin .mod (.bi .int (.cons (.ix (.var 0) (.lit (.str "rest"))) .nil)) (.var 1))) (.cons (.setix (.var 0) (.lit (.str "rest")) (.bin .fdiv (.ix (.var 0) (.lit (.str "rest"))) (.var 1))) (.cons (.ret (.var 2)) .nil))))
def g__law_take : Fn := mkFn 2 3 b__law_take
-- Rule_init: 0=self 1=order 2=kept 3=slack 4=raises
def b_Rule_init : Ss := .cons (.ife (.not_ (.call g_are_some (.cons (.var 1) (.cons (.lit (.tup [.str "turn", .str "done", .str "newest", .str "furthest"])) .nil)))) (.cons (.raise "BadRule" true (.lit (.str "order"))) .nil) .nil) (.cons (.ife (.not_ (.call g_are_ascending_some (.cons (.var 2) (.cons (.lit (.tup [.str "done", .str "place", .str "stamp"])) .nil)))) (.cons (.raise "BadRule" true (.lit (.str "kept"))) .nil) .nil) (.cons (.ife (.not_ (.call g_is_number_in (.cons (.var 3) (.cons (.lit (.int 0)) (.cons (.lit (.int 4)) .nil))))) (.cons (.raise "BadRule" true (.lit (.str "slack"))) .nil) .nil) (.cons (.ife (.not_ (.call g_are_ascending_some (.cons (.var 4) (.cons (.lit (.tup [.str "again", .str "back"])) .nil)))) (.cons (.raise "BadRule" true (.lit (.str "raises"))) .nil) .nil) (.cons (.setfld "Rule" (.var 0) "own_order" (.var 1)) (.cons (.setfld "Rule" (.var 0) "own_kept" (.var 2)) (.cons (.setfld "Rule" (.var 0) "own_slack" (.var 3)) (.cons (.setfld "Rule" (.var 0) "own_raises" (.var 4)) .nil)))))))
def g_Rule_init : Fn := mkIn "Rule" 4 5 b_Rule_init
-- _law_pick: 0=_law_draw 1=_law_some_here
def b__law_pick : Ss := .cons (.ret (.ix (.var 1) (.call g__law_take (.cons (.var 0) (.cons (.bi .len (.cons (.var 1) .nil)) .nil))))) .nil
def g__law_pick : Fn := mkFn 2 2 b__law_pick
-- _law_some: 0=_law_draw 1=_law_words 2=_law_word
def b__law_some : Ss := .cons (.ret (.bi .tuple (.cons (.lc [2] (.var 2) (.one (.name 2) (.seq (.var 1)) (.cons (.cmp .eq (.call g__law_take (.cons (.var 0) (.cons (.lit (.int 2)) .nil))) (.lit (.int 0))) .nil))) .nil))) .nil
def g__law_some : Fn := mkFn 2 3 b__law_some
-- _law_mixed: 0=_law_draw 1=_law_some_here 2=_law_left 3=_law_found
def l__law_mixed_1 : Ss := .cons (.ex (.mm .append (.var 3) (.cons (.mm .pop (.var 2) (.cons (.call g__law_take (.cons (.var 0) (.cons (.bi .len (.cons (.var 2) .nil)) .nil))) .nil)) .nil))) .nil
def b__law_mixed : Ss := .cons (.par [2, 3] (.cons (.bi .list (.cons (.var 1) .nil)) (.cons (.lst .nil) .nil))) (.cons (.while_ (.cmp .ne (.var 2) (.lst .nil)) l__law_mixed_1) (.cons (.ret (.var 3)) .nil))
def g__law_mixed : Fn := mkFn 2 4 b__law_mixed
-- _law_way: 0=_law_draw 1=_law_keys_here 2=_law_kept_here 3=_law_raised
def b__law_way : Ss := .cons (.asg (.name 1) (.bi .tuple (.cons (.sl (.call g__law_mixed (.cons (.var 0) (.cons (.lst (.cons (.lit (.str "turn")) (.cons (.lit (.str "done")) (.cons (.lit (.str "newest")) (.cons (.lit (.str "furthest")) .nil))))) .nil))) .nil (.cons (.call g__law_take (.cons (.var 0) (.cons (.lit (.int 5)) .nil))) .nil)) .nil))) (.cons (.ife (.and_ (.cmp .eq (.call g__law_take (.cons (.var 0) (.cons (.lit (.int 3)) .nil))) (.lit (.int 0))) (.cmp .nin (.lit (.str "turn")) (.var 1))) (.cons (.asg (.name 1) (.bin .add (.tup (.cons (.lit (.str "turn")) .nil)) (.var 1))) .nil) .nil) (.cons (.par [2, 3] (.cons (.call g__law_some (.cons (.var 0) (.cons (.lst (.cons (.lit (.str "done")) (.cons (.lit (.str "place")) (.cons (.lit (.str "stamp")) .nil)))) .nil))) (.cons (.call g__law_some (.cons (.var 0) (.cons (.lst (.cons (.lit (.str "again")) (.cons (.lit (.str "back")) .nil))) .nil))) .nil))) (.cons (.ret (.dct (.cons (.lit (.str "order")) (.cons (.var 1) (.cons (.lit (.str "kept")) (.cons (.var 2) (.cons (.lit (.str "slack")) (.cons (.call g__law_pick (.cons (.var 0) (.cons (.lst (.cons (.lit (.int 0)) (.cons (.lit (.int 0)) (.cons (.lit (.int 1)) (.cons (.lit (.int 2)) (.cons (.lit (.int 3)) (.cons (.lit (.int 4)) .nil))))))) .nil))) (.cons (.lit (.str "raises")) (.cons (.var 3) .nil)))))))))) .nil)))
def g__law_way : Fn := mkFn 1 4 b__law_way
-- Rule_with_part: 0=self 1=part 2=value 3=parts
def b_Rule_with_part : Ss := .cons (.asg (.name 3) (.dct (.cons (.lit (.str "order")) (.cons (.fld "Rule" (.var 0) "own_order") (.cons (.lit (.str "kept")) (.cons (.fld "Rule" (.var 0) "own_kept") (.cons (.lit (.str "slack")) (.cons (.fld "Rule" (.var 0) "own_slack") (.cons (.lit (.str "raises")) (.cons (.fld "Rule" (.var 0) "own_raises") .nil)))))))))) (.cons (.ife (.or_ (.not_ (.isi all [.str] (.var 1))) (.cmp .nin (.var 1) (.var 3))) (.cons (.raise "BadChoice" false (.lit (.str "not the name of a parameter"))) .nil) .nil) (.cons (.setix (.var 3) (.var 1) (.var 2)) (.cons (.ret (.mk "Rule" g_Rule_init (.cons (.ix (.var 3) (.lit (.str "order"))) (.cons (.ix (.var 3) (.lit (.str "kept"))) (.cons (.ix (.var 3) (.lit (.str "slack"))) (.cons (.ix (.var 3) (.lit (.str "raises"))) .nil)))))) .nil)))
def g_Rule_with_part : Fn := mkFn 3 4 b_Rule_with_part
-- _law_rule: 0=_law_way_here
def b__law_rule : Ss := .cons (.ret (.mk "Rule" g_Rule_init (.cons (.ix (.var 0) (.lit (.str "order"))) (.cons (.ix (.var 0) (.lit (.str "kept"))) (.cons (.ix (.var 0) (.lit (.str "slack"))) (.cons (.ix (.var 0) (.lit (.str "raises"))) .nil)))))) .nil
def g__law_rule : Fn := mkFn 1 1 b__law_rule
-- law: 0=_law_script 1=_law_draw 2=_law_turn 3=_law_way_here 4=_law_told 5=_law_other 6=_law_part 7=_law_near 8=_law_odd
def l_law_1 : Ss := .cons (.asg (.name 7) (.call g__law_rule (.cons (.var 5) .nil))) (.cons (.ife (.or_ (.eqo false "Rule" g_Rule_eq (.var 7) (.var 4)) (.or_ (.not_ (.eqo true "Rule" g_Rule_eq (.var 4) (.var 7))) (.eqo true "Rule" g_Rule_eq (.meth "Rule" "with_part" g_Rule_with_part (.var 4) (.cons (.var 6) (.cons (.ix (.var 5) (.var 6)) .nil))) (.var 7)))) (.cons (.ret (.lit (.bl false))) .nil) .nil) (.cons (.ife (.eqo true "Rule" g_Rule_eq (.meth "Rule" "with_part" g_Rule_with_part (.var 7) (.cons (.var 6) (.cons (.ix (.var 3) (.var 6)) .nil))) (.var 4)) (.cons (.ret (.lit (.bl false))) .nil) .nil) .nil))
def l_law_2 : Ss := .cons (.ife (.or_ (.eqo false "Rule" g_Rule_eq (.var 4) (.var 8)) (.not_ (.eqo true "Rule" g_Rule_eq (.var 4) (.var 8)))) (.cons (.ret (.lit (.bl false))) .nil) .nil) .nil
def l_law_3 : Ss := .cons (.asg (.name 3) (.call g__law_way (.cons (.var 1) .nil))) (.cons (.asg (.name 4) (.call g__law_rule (.cons (.var 3) .nil))) (.cons (.ife (.or_ (.eqo true "Rule" g_Rule_eq (.var 4) (.call g__law_rule (.cons (.var 3) .nil))) (.not_ (.eqo false "Rule" g_Rule_eq (.var 4) (.call g__law_rule (.cons (.bi .dict (.cons (.var 3) .nil)) .nil))))) (.cons (.ret (.lit (.bl false))) .nil) .nil) (.cons (.for_ (.tup [.name 5, .name 6]) (.seq (.call g__law_unlike (.cons (.var 3) .nil))) l_law_1) (.cons (.for_ (.name 8) (.seq (.lst (.cons (.lit .non) (.cons (.ix (.var 3) (.lit (.str "order"))) (.cons (.var 3) (.cons (.lit (.int 0)) (.cons (.lit (.str "")) (.cons (.tup (.cons (.fld "Rule" (.var 4) "own_order") (.cons (.fld "Rule" (.var 4) "own_kept") (.cons (.fld "Rule" (.var 4) "own_slack") (.cons (.fld "Rule" (.var 4) "own_raises") .nil))))) .nil)))))))) l_law_2) .nil))))
def b_law : Ss := .cons (.asg (.name 1) (.call g__law_begin (.cons (.var 0) .nil))) (.cons (.for_ (.name 2) (.rng1 (.bin .add (.lit (.int 5)) (.bi .min (.cons (.bi .len (.cons (.var 0) .nil)) (.cons (.lit (.int 20)) .nil))))) l_law_3) (.cons (.ret (.lit (.bl true))) .nil))
def g_law : Fn := mkFn 1 9 b_law
end HP

set_option maxHeartbeats 0
namespace HP
open PySem L2
def top (i : Nat) : Stmt := PySem.Challenge.pw_heardplaces_k04_rules_equal.main.body.getD i (.Pass ⟨0, 0, 0, 0⟩)
def memb : Stmt → Nat → Stmt
  | .ClassDef _ _ _ b _ _ _ _ _ _ _, j => b.getD j (.Pass ⟨0, 0, 0, 0⟩)
  | s, _ => s
abbrev s_Rule_eq : Stmt := memb (top 14) 6
abbrev s_are_some : Stmt := top 12
abbrev s_is_number : Stmt := top 5
abbrev s__law_unlike : Stmt := top 24
abbrev s__law_blend : Stmt := top 17
abbrev s__law_begin : Stmt := top 16
abbrev s_are_ascending_some : Stmt := top 13
abbrev s_is_number_in : Stmt := top 6
abbrev s__law_take : Stmt := top 18
abbrev s_Rule_init : Stmt := memb (top 14) 0
abbrev s__law_pick : Stmt := top 19
abbrev s__law_some : Stmt := top 21
abbrev s__law_mixed : Stmt := top 20
abbrev s__law_way : Stmt := top 22
abbrev s_Rule_with_part : Stmt := memb (top 14) 5
abbrev s__law_rule : Stmt := top 23
abbrev s_law : Stmt := top 25
abbrev s_Rule_kept : Stmt := memb (top 14) 2
abbrev s_Rule_order : Stmt := memb (top 14) 1
abbrev s_Rule_raises : Stmt := memb (top 14) 4
abbrev s_Rule_slack : Stmt := memb (top 14) 3
def fa : List He.Fa := [.free "abs",
  .free "all",
  .free "bool",
  .free "dict",
  .free "int",
  .free "isinstance",
  .free "len",
  .free "list",
  .free "min",
  .free "range",
  .free "set",
  .free "sorted",
  .free "str",
  .free "tuple",
  .glo "law",
  .glo "Rule",
  .glo "_law_begin",
  .glo "_law_blend",
  .glo "_law_mixed",
  .glo "_law_pick",
  .glo "_law_rule",
  .glo "_law_some",
  .glo "_law_take",
  .glo "_law_unlike",
  .glo "_law_way",
  .glo "are_ascending_some",
  .glo "are_some",
  .glo "is_number",
  .glo "is_number_in",
  .cls "Rule",
  .noat "Rule" "own_order",
  .noat "Rule" "own_kept",
  .noat "Rule" "own_slack",
  .noat "Rule" "own_raises",
  .glo "KEPT",
  .glo "KEYS",
  .int "MOST_SLACK" 4,
  .glo "RAISES",
  .meth "Rule" "__eq__",
  .mkr "Rule",
  .meth "Rule" "with_part"]
def exs : List (PySem.W.Frag → Bool) := [isiB all, neB "Rule", fun K => tupX K "KEPT" [.str "done", .str "place", .str "stamp"], fun K => tupX K "KEYS" [.str "turn", .str "done", .str "newest", .str "furthest"], fun K => tupX K "RAISES" [.str "again", .str "back"], propB "Rule" "kept", propB "Rule" "order", propB "Rule" "raises", propB "Rule" "slack"]
def exB (K : PySem.W.Frag) : Bool := exs.all fun b => b K
def fnl : List Df := [dMeth "Rule" "__eq__" "Rule.__eq__" s_Rule_eq,
  dGlo "are_some" s_are_some,
  dGlo "is_number" s_is_number,
  dGlo "_law_unlike" s__law_unlike,
  dGlo "_law_blend" s__law_blend,
  dGlo "_law_begin" s__law_begin,
  dGlo "are_ascending_some" s_are_ascending_some,
  dGlo "is_number_in" s_is_number_in,
  dGlo "_law_take" s__law_take,
  dMeth "Rule" "__init__" "Rule.__init__" s_Rule_init,
  dGlo "_law_pick" s__law_pick,
  dGlo "_law_some" s__law_some,
  dGlo "_law_mixed" s__law_mixed,
  dGlo "_law_way" s__law_way,
  dMeth "Rule" "with_part" "Rule.with_part" s_Rule_with_part,
  dGlo "_law_rule" s__law_rule,
  dGlo "law" s_law,
  dGet "Rule" "kept" "Rule.kept" s_Rule_kept,
  dGet "Rule" "order" "Rule.order" s_Rule_order,
  dGet "Rule" "raises" "Rule.raises" s_Rule_raises,
  dGet "Rule" "slack" "Rule.slack" s_Rule_slack]
abbrev Tt (K : PySem.W.Frag) (mg : Str → Option Value) (base : Heap) : Prop := Tx fa exB fnl K mg base
theorem Tx.exs {K : PySem.W.Frag} {mg : Str → Option Value} {base : Heap} (T : Tt K mg base) (i : Nat) {b : PySem.W.Frag → Bool} (h : HP.exs[i]? = some b) : b K = true := List.all_eq_true.mp T.ex b (List.mem_of_getElem? h)
abbrev R : PySem.W.OpenRow := PySem.W.OpenLaw.row PySem.Challenge.rw_heardplaces_k04_rules_equal
abbrev hkX : PySem.W.Hook := hookX 7 fa exB fnl
def ob (s : PySem.W.SharedT) : Seen := obX 7 fa exB fnl (HandSHeadRun.getT s)
theorem ob_eq (s : PySem.W.SharedT) : ob s = hkX.obs s.abs := obX_eq (HandSHeadRun.getT_eq s)
def names : List Str := ([("PlaceError" : Str), ("BadRule" : Str), ("BadChoice" : Str), ("is_number" : Str), ("is_number_in" : Str), ("KEYS" : Str), ("KEPT" : Str), ("RAISES" : Str), ("MOST_SLACK" : Str), ("are_some" : Str), ("are_ascending_some" : Str), ("Rule" : Str), ("_law_begin" : Str), ("_law_blend" : Str), ("_law_take" : Str), ("_law_pick" : Str), ("_law_mixed" : Str), ("_law_some" : Str), ("_law_way" : Str), ("_law_rule" : Str), ("_law_unlike" : Str)] : List Str)
theorem runs (w : World) : HandSHeadRun.RunEq R (PySem.W.view R.prog [25]) hkX ob 6000 names w := by
  intro os
  kernel_rfl
end HP

set_option maxHeartbeats 2000000
/-! HpStep: the functional semantics as equations that go on from the front alone: what is wanted behind is held (Hd), so that simp leaves it as it is. Printed by stepgen.py. -/
namespace HP
open PySem PySem.W

/-- held: simp (dsimp := false) does not look into it -/
structure Hd {b : Sort _} (k : b) : Type where
  mk ::
def optH {α : Type} (o : Option α) (k : α → Prop) (_ : Hd k := ⟨⟩) : Prop := optK o k
theorem optH_s {α : Type} (a : α) (k : α → Prop) (h : Hd k) : optH (some a) k h = k a := rfl
def iteH (b : Bool) (x y : Prop) (_ : Hd x := ⟨⟩) (_ : Hd y := ⟨⟩) : Prop := if b = true then x else y
theorem iteH_t (x y : Prop) (h : Hd x) (h2 : Hd y) : iteH true x y h h2 = x := if_pos rfl
theorem iteH_f (x y : Prop) (h : Hd x) (h2 : Hd y) : iteH false x y h h2 = y := if_neg Bool.false_ne_true
theorem iteH_of {b : Bool} {x y : Prop} {h : Hd x} {h2 : Hd y} (h1 : b = true → x) (h3 : b = false → y) : iteH b x y h h2 := by
  cases b with
  | true => exact h1 rfl
  | false => exact h3 rfl
theorem iteH_dec {p : Prop} [Decidable p] {x y : Prop} {h : Hd x} {h2 : Hd y} (h1 : p → x) (h3 : ¬ p → y) : iteH (decide p) x y h h2 := by
  by_cases q : p
  · rw [decide_eq_true q, iteH_t]; exact h1 q
  · rw [decide_eq_false q, iteH_f]; exact h3 q
def andH (p q : Prop) (_ : Hd q := ⟨⟩) : Prop := p ∧ q
theorem andH_t (q : Prop) (h : Hd q) : andH True q h = q := by simp [andH]
def onSlot (o : Option Slot) (kv : D → Prop) (ko : Cont → Prop) (_ : Hd kv := ⟨⟩) (_ : Hd ko := ⟨⟩) : Prop := match o with
  | some (.val d) => kv d
  | some (.own c) => ko c
  | _ => False
theorem onSlot_v (d : D) (kv : D → Prop) (ko : Cont → Prop) (h : Hd kv) (h2 : Hd ko) : onSlot (some (.val d)) kv ko h h2 = kv d := rfl
theorem onSlot_o (c : Cont) (kv : D → Prop) (ko : Cont → Prop) (h : Hd kv) (h2 : Hd ko) : onSlot (some (.own c)) kv ko h h2 = ko c := rfl
def onInt (d : D) (k : Int → Prop) (_ : Hd k := ⟨⟩) : Prop := match d with
  | .int i => k i
  | _ => False
theorem onInt_i (i : Int) (k : Int → Prop) (h : Hd k) : onInt (.int i) k h = k i := rfl
def onBl (o : Out) (k : Bool → Prop) (_ : Hd k := ⟨⟩) : Prop := match o with
  | .val (.bl b) => k b
  | _ => False
theorem onBl_b (b : Bool) (k : Bool → Prop) (h : Hd k) : onBl (.val (.bl b)) k h = k b := rfl
def onOwn (o : Out) (k : Cont → Prop) (_ : Hd k := ⟨⟩) : Prop := match o with
  | .own c => k c
  | .val _ => False
theorem onOwn_o (c : Cont) (k : Cont → Prop) (h : Hd k) : onOwn (.own c) k h = k c := rfl
def onTup (d : D) (k : List D → Prop) (_ : Hd k := ⟨⟩) : Prop := match d with
  | .tup xs => k xs
  | .lst xs => k xs
  | _ => False
theorem onTup_l (xs : List D) (k : List D → Prop) (h : Hd k) : onTup (.lst xs) k h = k xs := rfl
theorem onTup_t (xs : List D) (k : List D → Prop) (h : Hd k) : onTup (.tup xs) k h = k xs := rfl
def onCons (ds : List D) (k : D → List D → Prop) (_ : Hd k := ⟨⟩) : Prop := match ds with
  | [] => False
  | x :: xs => k x xs
theorem onCons_c (x : D) (xs : List D) (k : D → List D → Prop) (h : Hd k) : onCons (x :: xs) k h = k x xs := rfl
def onZip (ds : List D) (k : List D → Prop) (_ : Hd k := ⟨⟩) : Prop := match ds with
  | [.lst xs, .lst ys] => k (zipD xs ys)
  | [.tup xs, .tup ys] => k (zipD xs ys)
  | _ => False
theorem onZip_l (xs ys : List D) (k : List D → Prop) (h : Hd k) : onZip [.lst xs, .lst ys] k h = k (zipD xs ys) := rfl
theorem onZip_t (xs ys : List D) (k : List D → Prop) (h : Hd k) : onZip [.tup xs, .tup ys] k h = k (zipD xs ys) := rfl
def onDct (d : D) (k : List D → List D → Prop) (_ : Hd k := ⟨⟩) : Prop := match d with
  | .dct ks vs => k ks vs
  | _ => False
theorem onDct_d (ks vs : List D) (k : List D → List D → Prop) (h : Hd k) : onDct (.dct ks vs) k h = k ks vs := rfl
/-- a call that waits -/
def callH (g : Fn) (ds : List D) (s : Store) (Q : Out → Store → Prop) (X : Exc → Store → Prop) (_ : Hd Q := ⟨⟩) (_ : Hd X := ⟨⟩) : Prop := g ds s Q X
theorem vres_v (σ : Slots) (s : Store) (d : D) : vres σ s (.val d) = some (view s d) := rfl
def revSem : D → Option Out
  | .lst xs => some (.own (.lst xs.reverse))
  | _ => none
def fldSem (c n : Str) : D → Option D
  | .ins c' ns vs => if c' = c then lookF ns vs n else none
  | _ => none

/-! ### the words -/
def xE (e : E) (σ : Slots) (s : Store) (K : QO) (X : QX) (_ : Hd K := ⟨⟩) (_ : Hd X := ⟨⟩) : Prop := (w e).v σ s K X
def xT (e : E) (σ : Slots) (s : Store) (K : QB) (X : QX) (_ : Hd K := ⟨⟩) (_ : Hd X := ⟨⟩) : Prop := (w e).t σ s K X
def xA (e : E) (σ : Slots) (s : Store) (K : Opd → Slots → Store → Prop) (X : QX) (_ : Hd K := ⟨⟩) (_ : Hd X := ⟨⟩) : Prop := asOp e (w e).v σ s K X
def xV (es : Es) (σ : Slots) (s : Store) (K : List D → Slots → Store → Prop) (X : QX) (_ : Hd K := ⟨⟩) (_ : Hd X := ⟨⟩) : Prop := (ws es).vals σ s K X
def xO (es : Es) (σ : Slots) (s : Store) (K : List Opd → Slots → Store → Prop) (X : QX) (_ : Hd K := ⟨⟩) (_ : Hd X := ⟨⟩) : Prop := (ws es).opds σ s K X
def xU (es : Es) (σ : Slots) (s : Store) (K : List Out → Slots → Store → Prop) (X : QX) (_ : Hd K := ⟨⟩) (_ : Hd X := ⟨⟩) : Prop := (ws es).outs σ s K X
def xF (es : Es) (σ : Slots) (s : Store) (K : QB) (_ : Hd K := ⟨⟩) : Prop := (ws es).ifs σ s K
def xI (it : It) (σ : Slots) (s : Store) (K : List D → Slots → Store → Prop) (X : QX) (_ : Hd K := ⟨⟩) (_ : Hd X := ⟨⟩) : Prop := wIt it σ s K X
def xP (es : Es) (σ : Slots) (s : Store) (K : List (D × D) → Slots → Store → Prop) (X : QX) (_ : Hd K := ⟨⟩) (_ : Hd X := ⟨⟩) : Prop := wPs es σ s K X
def xN (es : Es) (σ : Slots) (s : Store) (K : Option Int → Slots → Store → Prop) (X : QX) (_ : Hd K := ⟨⟩) (_ : Hd X := ⟨⟩) : Prop := wO es σ s K X
/-- what is wanted but of going on -/
structure Rst where
  rt : Out → Store → Prop
  bk : QN
  ct : QN
  ex : QX
abbrev Rst.post (P : Rst) (N : QN) : Post := ⟨N, P.rt, P.bk, P.ct, P.ex⟩
/-- first a is brought to its form, then k goes on with it -/
def goH {α : Type} (a : α) (k : α → Prop) (_ : Hd k := ⟨⟩) : Prop := k a
theorem goH_go {α : Type} (a : α) (k : α → Prop) (h : Hd k) : goH a k h = k a := rfl
def xS (st : S) (σ : Slots) (s : Store) (N : QN) (P : Rst) (_ : Hd N := ⟨⟩) (_ : Hd P := ⟨⟩) : Prop := wS st σ s (P.post N)
def xB (st : Ss) (σ : Slots) (s : Store) (N : QN) (P : Rst) (_ : Hd N := ⟨⟩) (_ : Hd P := ⟨⟩) : Prop := wSs st σ s (P.post N)
def xG (t : Tg) (d : D) (σ : Slots) (s : Store) (K : QN) (_ : Hd K := ⟨⟩) : Prop := wTg t d σ s K
def xGs (ts : List Tg) (ds : List D) (σ : Slots) (s : Store) (K : QN) (_ : Hd K := ⟨⟩) : Prop := wTgs ts ds σ s K
/-- what a name or a reference stands for is changed -/
def upH (o : Opd) (σ : Slots) (s : Store) (f : Cont → Option (Cont × D)) (K : D → Slots → Store → Prop) (_ : Hd K := ⟨⟩) : Prop := upCont o σ s f K
theorem upH_s {i : Nat} {σ : Slots} {s : Store} {f : Cont → Option (Cont × D)} {K : D → Slots → Store → Prop} {h : Hd K} : upH (.slot i) σ s f K h = onSlot σ[i]? (fun _ => False) (fun c => optH (f c) fun p => goH (σ.set i (.own p.1)) fun σ => K p.2 σ s) := by
  simp only [upH, upCont, onSlot]
  cases e : σ[i]? with
  | none => rfl
  | some sl => cases sl <;> rfl
theorem upH_r {n : Nat} {σ : Slots} {s : Store} {f : Cont → Option (Cont × D)} {K : D → Slots → Store → Prop} {h : Hd K} : upH (.val (.ref n)) σ s f K h = optH s[n]? fun c => optH (f c) fun p => goH (s.set n p.1) fun s => K p.2 σ s := rfl
def loopH (t : Tg) (b : Ss) : List D → Slots → Store → (N : QN) → (P : Rst) → (_ : Hd N) → (_ : Hd P) → Prop
  | [], σ, s, N, P, _, _ => N σ s
  | x :: xs, σ, s, N, P, h, h2 => xG t x σ s fun σ s => xB b σ s (fun σ s => loopH t b xs σ s N P h h2) ⟨P.rt, N, fun σ s => loopH t b xs σ s N P h h2, P.ex⟩
def whH (c : E) (b : Ss) : Nat → Slots → Store → (N : QN) → (P : Rst) → (_ : Hd N) → (_ : Hd P) → Prop
  | 0, _, _, _, _, _, _ => False
  | n + 1, σ, s, N, P, h, h2 => xT c σ s (fun r σ s => iteH r (xB b σ s (fun σ s => whH c b n σ s N P h h2) ⟨P.rt, N, fun σ s => whH c b n σ s N P h h2, P.ex⟩) (N σ s)) P.ex
def lcH (vs : List Nat) (e : E) (t : Tg) (ifs : Es) : List D → List D → Slots → Store → (K : List D → Slots → Store → Prop) → (_ : Hd K) → Prop
  | [], acc, σ, s, K, _ => K acc σ s
  | x :: xs, acc, σ, s, K, h => goH (wipeS σ vs) fun σ => xG t x σ s fun σ s => xF ifs σ s fun c σ s => iteH c (xE e σ s (fun o σ s => iteH (decide (acc.length < big)) (lcH vs e t ifs xs (acc ++ [o.frz]) σ s K h) False) noX) (lcH vs e t ifs xs acc σ s K h)
theorem xA_lit (d : D) {σ : Slots} {s : Store} {K : Opd → Slots → Store → Prop} {X : QX} {h : Hd K} {h2 : Hd X} : xA (.lit d) σ s K X h h2 = xE (.lit d) σ s (fun o σ s => K (.val o.frz) σ s) X := rfl
theorem xA_bin (o : BinO) (a b : E) {σ : Slots} {s : Store} {K : Opd → Slots → Store → Prop} {X : QX} {h : Hd K} {h2 : Hd X} : xA (.bin o a b) σ s K X h h2 = xE (.bin o a b) σ s (fun o σ s => K (.val o.frz) σ s) X := rfl
theorem xA_neg (a : E) {σ : Slots} {s : Store} {K : Opd → Slots → Store → Prop} {X : QX} {h : Hd K} {h2 : Hd X} : xA (.neg a) σ s K X h h2 = xE (.neg a) σ s (fun o σ s => K (.val o.frz) σ s) X := rfl
theorem xA_cmp (o : CmpO) (a b : E) {σ : Slots} {s : Store} {K : Opd → Slots → Store → Prop} {X : QX} {h : Hd K} {h2 : Hd X} : xA (.cmp o a b) σ s K X h h2 = xE (.cmp o a b) σ s (fun o σ s => K (.val o.frz) σ s) X := rfl
theorem xA_chain (o p : CmpO) (a b c : E) {σ : Slots} {s : Store} {K : Opd → Slots → Store → Prop} {X : QX} {h : Hd K} {h2 : Hd X} : xA (.chain o p a b c) σ s K X h h2 = xE (.chain o p a b c) σ s (fun o σ s => K (.val o.frz) σ s) X := rfl
theorem xA_not_ (a : E) {σ : Slots} {s : Store} {K : Opd → Slots → Store → Prop} {X : QX} {h : Hd K} {h2 : Hd X} : xA (.not_ a) σ s K X h h2 = xE (.not_ a) σ s (fun o σ s => K (.val o.frz) σ s) X := rfl
theorem xA_and_ (a b : E) {σ : Slots} {s : Store} {K : Opd → Slots → Store → Prop} {X : QX} {h : Hd K} {h2 : Hd X} : xA (.and_ a b) σ s K X h h2 = xE (.and_ a b) σ s (fun o σ s => K (.val o.frz) σ s) X := rfl
theorem xA_or_ (a b : E) {σ : Slots} {s : Store} {K : Opd → Slots → Store → Prop} {X : QX} {h : Hd K} {h2 : Hd X} : xA (.or_ a b) σ s K X h h2 = xE (.or_ a b) σ s (fun o σ s => K (.val o.frz) σ s) X := rfl
theorem xA_ife (c a b : E) {σ : Slots} {s : Store} {K : Opd → Slots → Store → Prop} {X : QX} {h : Hd K} {h2 : Hd X} : xA (.ife c a b) σ s K X h h2 = xE (.ife c a b) σ s (fun o σ s => K (.val o.frz) σ s) X := rfl
theorem xA_tup (es : Es) {σ : Slots} {s : Store} {K : Opd → Slots → Store → Prop} {X : QX} {h : Hd K} {h2 : Hd X} : xA (.tup es) σ s K X h h2 = xE (.tup es) σ s (fun o σ s => K (.val o.frz) σ s) X := rfl
theorem xA_lst (es : Es) {σ : Slots} {s : Store} {K : Opd → Slots → Store → Prop} {X : QX} {h : Hd K} {h2 : Hd X} : xA (.lst es) σ s K X h h2 = xE (.lst es) σ s (fun o σ s => K (.val o.frz) σ s) X := rfl
theorem xA_dct (es : Es) {σ : Slots} {s : Store} {K : Opd → Slots → Store → Prop} {X : QX} {h : Hd K} {h2 : Hd X} : xA (.dct es) σ s K X h h2 = xE (.dct es) σ s (fun o σ s => K (.val o.frz) σ s) X := rfl
theorem xA_ix (a b : E) {σ : Slots} {s : Store} {K : Opd → Slots → Store → Prop} {X : QX} {h : Hd K} {h2 : Hd X} : xA (.ix a b) σ s K X h h2 = xE (.ix a b) σ s (fun o σ s => K (.val o.frz) σ s) X := rfl
theorem xA_sl (a : E) (lo hi : Es) {σ : Slots} {s : Store} {K : Opd → Slots → Store → Prop} {X : QX} {h : Hd K} {h2 : Hd X} : xA (.sl a lo hi) σ s K X h h2 = xE (.sl a lo hi) σ s (fun o σ s => K (.val o.frz) σ s) X := rfl
theorem xA_rev (a : E) {σ : Slots} {s : Store} {K : Opd → Slots → Store → Prop} {X : QX} {h : Hd K} {h2 : Hd X} : xA (.rev a) σ s K X h h2 = xE (.rev a) σ s (fun o σ s => K (.val o.frz) σ s) X := rfl
theorem xA_fld (c : Str) (a : E) (n : Str) {σ : Slots} {s : Store} {K : Opd → Slots → Store → Prop} {X : QX} {h : Hd K} {h2 : Hd X} : xA (.fld c a n) σ s K X h h2 = xE (.fld c a n) σ s (fun o σ s => K (.val o.frz) σ s) X := rfl
theorem xA_prop (c : Str) (g : Fn) (a : E) {σ : Slots} {s : Store} {K : Opd → Slots → Store → Prop} {X : QX} {h : Hd K} {h2 : Hd X} : xA (.prop c g a) σ s K X h h2 = xE (.prop c g a) σ s (fun o σ s => K (.val o.frz) σ s) X := rfl
theorem xA_call (g : Fn) (es : Es) {σ : Slots} {s : Store} {K : Opd → Slots → Store → Prop} {X : QX} {h : Hd K} {h2 : Hd X} : xA (.call g es) σ s K X h h2 = xE (.call g es) σ s (fun o σ s => K (.val o.frz) σ s) X := rfl
theorem xA_callp (g : Fn) (p : List Nat) (es : Es) {σ : Slots} {s : Store} {K : Opd → Slots → Store → Prop} {X : QX} {h : Hd K} {h2 : Hd X} : xA (.callp g p es) σ s K X h h2 = xE (.callp g p es) σ s (fun o σ s => K (.val o.frz) σ s) X := rfl
theorem xA_meth (c m : Str) (g : Fn) (o : E) (es : Es) {σ : Slots} {s : Store} {K : Opd → Slots → Store → Prop} {X : QX} {h : Hd K} {h2 : Hd X} : xA (.meth c m g o es) σ s K X h h2 = xE (.meth c m g o es) σ s (fun o σ s => K (.val o.frz) σ s) X := rfl
theorem xA_mk (c : Str) (g : Fn) (es : Es) {σ : Slots} {s : Store} {K : Opd → Slots → Store → Prop} {X : QX} {h : Hd K} {h2 : Hd X} : xA (.mk c g es) σ s K X h h2 = xE (.mk c g es) σ s (fun o σ s => K (.val o.frz) σ s) X := rfl
theorem xA_alloc (e : E) {σ : Slots} {s : Store} {K : Opd → Slots → Store → Prop} {X : QX} {h : Hd K} {h2 : Hd X} : xA (.alloc e) σ s K X h h2 = xE (.alloc e) σ s (fun o σ s => K (.val o.frz) σ s) X := rfl
theorem xA_bi (b : Bi) (es : Es) {σ : Slots} {s : Store} {K : Opd → Slots → Store → Prop} {X : QX} {h : Hd K} {h2 : Hd X} : xA (.bi b es) σ s K X h h2 = xE (.bi b es) σ s (fun o σ s => K (.val o.frz) σ s) X := rfl
theorem xA_isi (l : List Str) (cs : List Cl) (a : E) {σ : Slots} {s : Store} {K : Opd → Slots → Store → Prop} {X : QX} {h : Hd K} {h2 : Hd X} : xA (.isi l cs a) σ s K X h h2 = xE (.isi l cs a) σ s (fun o σ s => K (.val o.frz) σ s) X := rfl
theorem xA_rng (t : Bool) (es : Es) {σ : Slots} {s : Store} {K : Opd → Slots → Store → Prop} {X : QX} {h : Hd K} {h2 : Hd X} : xA (.rng t es) σ s K X h h2 = xE (.rng t es) σ s (fun o σ s => K (.val o.frz) σ s) X := rfl
theorem xA_bm (m : Bm) (o : E) (es : Es) {σ : Slots} {s : Store} {K : Opd → Slots → Store → Prop} {X : QX} {h : Hd K} {h2 : Hd X} : xA (.bm m o es) σ s K X h h2 = xE (.bm m o es) σ s (fun o σ s => K (.val o.frz) σ s) X := rfl
theorem xA_mm (m : Mm) (o : E) (es : Es) {σ : Slots} {s : Store} {K : Opd → Slots → Store → Prop} {X : QX} {h : Hd K} {h2 : Hd X} : xA (.mm m o es) σ s K X h h2 = xE (.mm m o es) σ s (fun o σ s => K (.val o.frz) σ s) X := rfl
theorem xA_lc (vs : List Nat) (e : E) (c : Cs) {σ : Slots} {s : Store} {K : Opd → Slots → Store → Prop} {X : QX} {h : Hd K} {h2 : Hd X} : xA (.lc vs e c) σ s K X h h2 = xE (.lc vs e c) σ s (fun o σ s => K (.val o.frz) σ s) X := rfl
theorem xA_dc (vs : List Nat) (a b : E) (c : Cs) {σ : Slots} {s : Store} {K : Opd → Slots → Store → Prop} {X : QX} {h : Hd K} {h2 : Hd X} : xA (.dc vs a b c) σ s K X h h2 = xE (.dc vs a b c) σ s (fun o σ s => K (.val o.frz) σ s) X := rfl
theorem xA_eqo (n : Bool) (c : Str) (g : Fn) (a b : E) {σ : Slots} {s : Store} {K : Opd → Slots → Store → Prop} {X : QX} {h : Hd K} {h2 : Hd X} : xA (.eqo n c g a b) σ s K X h h2 = xE (.eqo n c g a b) σ s (fun o σ s => K (.val o.frz) σ s) X := rfl
theorem xA_var (i : Nat) {σ : Slots} {s : Store} {K : Opd → Slots → Store → Prop} {X : QX} {h : Hd K} {h2 : Hd X} : xA (.var i) σ s K X h h2 = onSlot σ[i]? (fun d => K (.val d) σ s) (fun _ => K (.slot i) σ s) := rfl
theorem xE_lit (d : D) {σ : Slots} {s : Store} {K : QO} {X : QX} {h : Hd K} {h2 : Hd X} : xE (.lit d) σ s K X h h2 = K (.val d) σ s := by
  unfold xE; rw [w.eq_1] <;> rfl
theorem xE_var (i : Nat) {σ : Slots} {s : Store} {K : QO} {X : QX} {h : Hd K} {h2 : Hd X} : xE (.var i) σ s K X h h2 = onSlot σ[i]? (fun d => K (.val d) σ s) (fun c => goH (σ.set i (.val c.frz)) fun σ => K (.val c.frz) σ s) := by
  unfold xE; rw [w.eq_2] <;> rfl
theorem xE_bin (o : BinO) (a b : E) {σ : Slots} {s : Store} {K : QO} {X : QX} {h : Hd K} {h2 : Hd X} : xE (.bin o a b) σ s K X h h2 = xA a σ s (fun x σ s => xA b σ s (fun y σ s => optH (vres σ s x) fun x => optH (vres σ s y) fun y => optH (binSem o x y) fun r => K r σ s) X) X := by
  unfold xE; rw [w.eq_3] <;> rfl
theorem xE_neg (a : E) {σ : Slots} {s : Store} {K : QO} {X : QX} {h : Hd K} {h2 : Hd X} : xE (.neg a) σ s K X h h2 = xA a σ s (fun x σ s => optH (vres σ s x) fun x => onInt x fun i => K (.val (.int (-i))) σ s) X := by
  unfold xE; rw [w.eq_4] <;> rfl
theorem xE_cmp (o : CmpO) (a b : E) {σ : Slots} {s : Store} {K : QO} {X : QX} {h : Hd K} {h2 : Hd X} : xE (.cmp o a b) σ s K X h h2 = xA a σ s (fun x σ s => xA b σ s (fun y σ s => optH (vres σ s x) fun x => optH (vres σ s y) fun y => optH (cmpSem o x y) fun r => K (.val (.bl r)) σ s) X) X := by
  unfold xE; rw [w.eq_5] <;> rfl
theorem xT_cmp (o : CmpO) (a b : E) {σ : Slots} {s : Store} {K : QB} {X : QX} {h : Hd K} {h2 : Hd X} : xT (.cmp o a b) σ s K X h h2 = xA a σ s (fun x σ s => xA b σ s (fun y σ s => optH (vres σ s x) fun x => optH (vres σ s y) fun y => optH (cmpSem o x y) fun r => K r σ s) X) X := by
  unfold xT; rw [w.eq_5] <;> rfl
theorem xE_chain (o p : CmpO) (a b c : E) {σ : Slots} {s : Store} {K : QO} {X : QX} {h : Hd K} {h2 : Hd X} : xE (.chain o p a b c) σ s K X h h2 = xA a σ s (fun x σ s => xA b σ s (fun y σ s => optH (vres σ s x) fun xd => optH (vres σ s y) fun yd => optH (cmpSem o xd yd) fun r => iteH r (xA c σ s (fun z σ s => optH (vres σ s y) fun yd => optH (vres σ s z) fun zd => optH (cmpSem p yd zd) fun r => K (.val (.bl r)) σ s) X) (K (.val (.bl false)) σ s)) X) X := by
  unfold xE; rw [w.eq_6] <;> rfl
theorem xT_chain (o p : CmpO) (a b c : E) {σ : Slots} {s : Store} {K : QB} {X : QX} {h : Hd K} {h2 : Hd X} : xT (.chain o p a b c) σ s K X h h2 = xA a σ s (fun x σ s => xA b σ s (fun y σ s => optH (vres σ s x) fun xd => optH (vres σ s y) fun yd => optH (cmpSem o xd yd) fun r => iteH r (xA c σ s (fun z σ s => optH (vres σ s y) fun yd => optH (vres σ s z) fun zd => optH (cmpSem p yd zd) fun r => K r σ s) X) (K false σ s)) X) X := by
  unfold xT; rw [w.eq_6] <;> rfl
theorem xE_not_ (a : E) {σ : Slots} {s : Store} {K : QO} {X : QX} {h : Hd K} {h2 : Hd X} : xE (.not_ a) σ s K X h h2 = xE a σ s (fun o σ s => onBl o fun b => K (.val (.bl (!b))) σ s) X := by
  unfold xE; rw [w.eq_7] <;> rfl
theorem xT_not_ (a : E) {σ : Slots} {s : Store} {K : QB} {X : QX} {h : Hd K} {h2 : Hd X} : xT (.not_ a) σ s K X h h2 = xT a σ s (fun b σ s => K (!b) σ s) X := by
  unfold xT; rw [w.eq_7] <;> rfl
theorem xE_and_ (a b : E) {σ : Slots} {s : Store} {K : QO} {X : QX} {h : Hd K} {h2 : Hd X} : xE (.and_ a b) σ s K X h h2 = xE a σ s (fun o σ s => onBl o fun c => iteH c (xE b σ s K X) (K (.val (.bl false)) σ s)) X := by
  unfold xE; rw [w.eq_8] <;> rfl
theorem xT_and_ (a b : E) {σ : Slots} {s : Store} {K : QB} {X : QX} {h : Hd K} {h2 : Hd X} : xT (.and_ a b) σ s K X h h2 = xT a σ s (fun c σ s => iteH c (xT b σ s K X) (K false σ s)) X := by
  unfold xT; rw [w.eq_8] <;> rfl
theorem xE_or_ (a b : E) {σ : Slots} {s : Store} {K : QO} {X : QX} {h : Hd K} {h2 : Hd X} : xE (.or_ a b) σ s K X h h2 = xE a σ s (fun o σ s => onBl o fun c => iteH c (K (.val (.bl true)) σ s) (xE b σ s K X)) X := by
  unfold xE; rw [w.eq_9] <;> rfl
theorem xT_or_ (a b : E) {σ : Slots} {s : Store} {K : QB} {X : QX} {h : Hd K} {h2 : Hd X} : xT (.or_ a b) σ s K X h h2 = xT a σ s (fun c σ s => iteH c (K true σ s) (xT b σ s K X)) X := by
  unfold xT; rw [w.eq_9] <;> rfl
theorem xE_ife (c a b : E) {σ : Slots} {s : Store} {K : QO} {X : QX} {h : Hd K} {h2 : Hd X} : xE (.ife c a b) σ s K X h h2 = xT c σ s (fun r σ s => iteH r (xE a σ s K X) (xE b σ s K X)) X := by
  unfold xE; rw [w.eq_10] <;> rfl
theorem xT_ife (c a b : E) {σ : Slots} {s : Store} {K : QB} {X : QX} {h : Hd K} {h2 : Hd X} : xT (.ife c a b) σ s K X h h2 = xT c σ s (fun r σ s => iteH r (xT a σ s K X) (xT b σ s K X)) X := by
  unfold xT; rw [w.eq_10] <;> rfl
theorem xE_tup (es : Es) {σ : Slots} {s : Store} {K : QO} {X : QX} {h : Hd K} {h2 : Hd X} : xE (.tup es) σ s K X h h2 = xV es σ s (fun ds σ s => iteH (decide (ds.length ≤ big)) (K (.val (.tup ds)) σ s) False) X := by
  unfold xE; rw [w.eq_11]; simp only [dft, iteH, decide_eq_true_eq, optH, xV, xP]
theorem xE_lst (es : Es) {σ : Slots} {s : Store} {K : QO} {X : QX} {h : Hd K} {h2 : Hd X} : xE (.lst es) σ s K X h h2 = xV es σ s (fun ds σ s => iteH (decide (ds.length ≤ big)) (K (.own (.lst ds)) σ s) False) X := by
  unfold xE; rw [w.eq_12]; simp only [dft, iteH, decide_eq_true_eq, optH, xV, xP]
theorem xE_dct (es : Es) {σ : Slots} {s : Store} {K : QO} {X : QX} {h : Hd K} {h2 : Hd X} : xE (.dct es) σ s K X h h2 = xP es σ s (fun ps σ s => iteH (decide (ps.length ≤ 15)) (optH (mergeD [] [] ps) fun p => K (.own (.dct p.1 p.2)) σ s) False) X := by
  unfold xE; rw [w.eq_13]; simp only [dft, iteH, decide_eq_true_eq, optH, xV, xP]
theorem xE_ix (a b : E) {σ : Slots} {s : Store} {K : QO} {X : QX} {h : Hd K} {h2 : Hd X} : xE (.ix a b) σ s K X h h2 = xA a σ s (fun x σ s => xA b σ s (fun y σ s => optH (vres σ s x) fun x => optH (vres σ s y) fun y => optH (ixSem x y) fun r => K (.val r) σ s) X) X := by
  unfold xE; rw [w.eq_14] <;> rfl
theorem xE_sl (a : E) (lo hi : Es) {σ : Slots} {s : Store} {K : QO} {X : QX} {h : Hd K} {h2 : Hd X} : xE (.sl a lo hi) σ s K X h h2 = xA a σ s (fun x σ s => xN lo σ s (fun l σ s => xN hi σ s (fun h σ s => optH (vres σ s x) fun x => optH (slSem x l h) fun r => K r σ s) X) X) X := by
  unfold xE; rw [w.eq_15] <;> rfl
theorem xE_rev (a : E) {σ : Slots} {s : Store} {K : QO} {X : QX} {h : Hd K} {h2 : Hd X} : xE (.rev a) σ s K X h h2 = xA a σ s (fun x σ s => optH (vres σ s x) fun x => optH (revSem x) fun r => K r σ s) X := by
  unfold xE; rw [w.eq_16]; simp only [dft]
  refine congrArg (fun k => asOp a (w a).v σ s k X) (funext fun x => funext fun σ => funext fun s => congrArg (optK (vres σ s x)) (funext fun d => ?_))
  cases d <;> rfl
theorem xE_fld (c : Str) (a : E) (n : Str) {σ : Slots} {s : Store} {K : QO} {X : QX} {h : Hd K} {h2 : Hd X} : xE (.fld c a n) σ s K X h h2 = xA a σ s (fun x σ s => optH (vres σ s x) fun x => optH (fldSem c n x) fun r => K (.val r) σ s) X := by
  unfold xE; rw [w.eq_17]; simp only [dft]
  refine congrArg (fun k => asOp a (w a).v σ s k X) (funext fun x => funext fun σ => funext fun s => congrArg (optK (vres σ s x)) (funext fun d => ?_))
  cases d <;> try rfl
  simp only [optH, fldSem]
  split <;> rfl
theorem xE_call (g : Fn) (es : Es) {σ : Slots} {s : Store} {K : QO} {X : QX} {h : Hd K} {h2 : Hd X} : xE (.call g es) σ s K X h h2 = xV es σ s (fun ds σ s => callH g ds s (fun o s => K o σ s) fun e s => X e σ s) X := by
  unfold xE; rw [w.eq_19] <;> rfl
theorem xE_callp (g : Fn) (p : List Nat) (es : Es) {σ : Slots} {s : Store} {K : QO} {X : QX} {h : Hd K} {h2 : Hd X} : xE (.callp g p es) σ s K X h h2 = xV es σ s (fun ds σ s => iteH (decide (ds.length = p.length)) (callH g (pick ds p) s (fun o s => K o σ s) fun e s => X e σ s) False) X := by
  unfold xE; rw [w.eq_20]; simp only [dft, iteH, decide_eq_true_eq, xV, callH]
theorem xE_meth (c m : Str) (g : Fn) (o : E) (es : Es) {σ : Slots} {s : Store} {K : QO} {X : QX} {h : Hd K} {h2 : Hd X} : xE (.meth c m g o es) σ s K X h h2 = xE o σ s (fun x σ s => andH (isIns c (view s x.frz) = true) (andH (noField m (view s x.frz) = true) (xV es σ s (fun ds σ s => callH g (x.frz :: ds) s (fun o s => K o σ s) fun e s => X e σ s) X))) X := by
  unfold xE; rw [w.eq_21] <;> rfl
theorem xE_mk (c : Str) (g : Fn) (es : Es) {σ : Slots} {s : Store} {K : QO} {X : QX} {h : Hd K} {h2 : Hd X} : xE (.mk c g es) σ s K X h h2 = xV es σ s (fun ds σ s => callH g ds s (fun o s => K o σ s) fun e s => X e σ s) X := by
  unfold xE; rw [w.eq_22] <;> rfl
theorem xE_prop (c : Str) (g : Fn) (a : E) {σ : Slots} {s : Store} {K : QO} {X : QX} {h : Hd K} {h2 : Hd X} : xE (.prop c g a) σ s K X h h2 = xE a σ s (fun x σ s => andH (isIns c (view s x.frz) = true) (callH g [x.frz] s (fun o s => K o σ s) fun _ _ => False)) X := by
  unfold xE; rw [w.eq_18] <;> rfl
theorem xE_alloc (e : E) {σ : Slots} {s : Store} {K : QO} {X : QX} {h : Hd K} {h2 : Hd X} : xE (.alloc e) σ s K X h h2 = xE e σ s (fun o σ s => onOwn o fun c => goH (s ++ [c]) fun s2 => K (.val (.ref s.length)) σ s2) X := by
  unfold xE; rw [w.eq_23]; simp only [dft]
  refine congrArg (fun k => (w e).v σ s k X) (funext fun x => funext fun σ => funext fun s => ?_)
  cases x <;> rfl
theorem xE_bi (b : Bi) (es : Es) {σ : Slots} {s : Store} {K : QO} {X : QX} {h : Hd K} {h2 : Hd X} : xE (.bi b es) σ s K X h h2 = xO es σ s (fun xs σ s => optH (ress σ s xs) fun xs => optH (biSem b xs) fun r => K r σ s) X := by
  unfold xE; rw [w.eq_24] <;> rfl
theorem xE_isi (l : List Str) (cs : List Cl) (a : E) {σ : Slots} {s : Store} {K : QO} {X : QX} {h : Hd K} {h2 : Hd X} : xE (.isi l cs a) σ s K X h h2 = xA a σ s (fun x σ s => optH (vres σ s x) fun x => optH (isiSem l cs x) fun r => K (.val (.bl r)) σ s) X := by
  unfold xE; rw [w.eq_25] <;> rfl
theorem xT_isi (l : List Str) (cs : List Cl) (a : E) {σ : Slots} {s : Store} {K : QB} {X : QX} {h : Hd K} {h2 : Hd X} : xT (.isi l cs a) σ s K X h h2 = xA a σ s (fun x σ s => optH (vres σ s x) fun x => optH (isiSem l cs x) fun r => K r σ s) X := by
  unfold xT; rw [w.eq_25] <;> rfl
theorem xE_eqo (n : Bool) (c : Str) (g : Fn) (a b : E) {σ : Slots} {s : Store} {K : QO} {X : QX} {h : Hd K} {h2 : Hd X} : xE (.eqo n c g a b) σ s K X h h2 = xE a σ s (fun x σ s => xE b σ s (fun y σ s => andH (isIns c (view s x.frz) = true) (andH (eqTy c (view s y.frz) = true) (callH g [x.frz, y.frz] s (fun o s => onBl o fun r => K (.val (.bl (if n then !r else r))) σ s) fun _ _ => False))) X) X := by
  unfold xE; rw [w.eq_31] <;> rfl
theorem xT_eqo (n : Bool) (c : Str) (g : Fn) (a b : E) {σ : Slots} {s : Store} {K : QB} {X : QX} {h : Hd K} {h2 : Hd X} : xT (.eqo n c g a b) σ s K X h h2 = xE a σ s (fun x σ s => xE b σ s (fun y σ s => andH (isIns c (view s x.frz) = true) (andH (eqTy c (view s y.frz) = true) (callH g [x.frz, y.frz] s (fun o s => onBl o fun r => K (if n then !r else r) σ s) fun _ _ => False))) X) X := by
  unfold xT; rw [w.eq_31] <;> rfl
theorem xE_rng (t : Bool) (es : Es) {σ : Slots} {s : Store} {K : QO} {X : QX} {h : Hd K} {h2 : Hd X} : xE (.rng t es) σ s K X h h2 = xO es σ s (fun xs σ s => optH (ress σ s xs) fun xs => optH (rngSem xs) fun p => iteH (rngOk p.1 p.2) (K (if t then .val (.tup (rngD p.1 p.2)) else .own (.lst (rngD p.1 p.2))) σ s) False) X := by
  unfold xE; rw [w.eq_26] <;> rfl
theorem xE_bm (m : Bm) (o : E) (es : Es) {σ : Slots} {s : Store} {K : QO} {X : QX} {h : Hd K} {h2 : Hd X} : xE (.bm m o es) σ s K X h h2 = xA o σ s (fun x σ s => optH (vres σ s x) fun x0 => andH (Bm.ok m x0 = true) (xO es σ s (fun xs σ s => optH (vres σ s x) fun x => optH (ress σ s xs) fun xs => optH (bmSem m x xs) fun r => K r σ s) X)) X := by
  unfold xE; rw [w.eq_27] <;> rfl
theorem xE_mm (m : Mm) (o : E) (es : Es) {σ : Slots} {s : Store} {K : QO} {X : QX} {h : Hd K} {h2 : Hd X} : xE (.mm m o es) σ s K X h h2 = xA o σ s (fun x σ s => optH (vres σ s x) fun x0 => andH (isLst x0 = true) (xV es σ s (fun ds σ s => upH x σ s (fun c => mmSem m c ds) fun d σ s => K (.val d) σ s) X)) X := by
  unfold xE; rw [w.eq_28] <;> rfl
theorem xT_lit (d : D) {σ : Slots} {s : Store} {K : QB} {X : QX} {h : Hd K} {h2 : Hd X} : xT (.lit d) σ s K X h h2 = xE (.lit d) σ s (fun o σ s => optH (truth (view s o.frz)) fun c => K c σ s) X := by
  unfold xT xE; rw [w.eq_1] <;> rfl
theorem xT_bin (o : BinO) (a b : E) {σ : Slots} {s : Store} {K : QB} {X : QX} {h : Hd K} {h2 : Hd X} : xT (.bin o a b) σ s K X h h2 = xE (.bin o a b) σ s (fun o σ s => optH (truth (view s o.frz)) fun c => K c σ s) X := by
  unfold xT xE; rw [w.eq_3] <;> rfl
theorem xT_neg (a : E) {σ : Slots} {s : Store} {K : QB} {X : QX} {h : Hd K} {h2 : Hd X} : xT (.neg a) σ s K X h h2 = xE (.neg a) σ s (fun o σ s => optH (truth (view s o.frz)) fun c => K c σ s) X := by
  unfold xT xE; rw [w.eq_4] <;> rfl
theorem xT_tup (es : Es) {σ : Slots} {s : Store} {K : QB} {X : QX} {h : Hd K} {h2 : Hd X} : xT (.tup es) σ s K X h h2 = xE (.tup es) σ s (fun o σ s => optH (truth (view s o.frz)) fun c => K c σ s) X := by
  unfold xT xE; rw [w.eq_11] <;> rfl
theorem xT_lst (es : Es) {σ : Slots} {s : Store} {K : QB} {X : QX} {h : Hd K} {h2 : Hd X} : xT (.lst es) σ s K X h h2 = xE (.lst es) σ s (fun o σ s => optH (truth (view s o.frz)) fun c => K c σ s) X := by
  unfold xT xE; rw [w.eq_12] <;> rfl
theorem xT_dct (es : Es) {σ : Slots} {s : Store} {K : QB} {X : QX} {h : Hd K} {h2 : Hd X} : xT (.dct es) σ s K X h h2 = xE (.dct es) σ s (fun o σ s => optH (truth (view s o.frz)) fun c => K c σ s) X := by
  unfold xT xE; rw [w.eq_13] <;> rfl
theorem xT_ix (a b : E) {σ : Slots} {s : Store} {K : QB} {X : QX} {h : Hd K} {h2 : Hd X} : xT (.ix a b) σ s K X h h2 = xE (.ix a b) σ s (fun o σ s => optH (truth (view s o.frz)) fun c => K c σ s) X := by
  unfold xT xE; rw [w.eq_14] <;> rfl
theorem xT_sl (a : E) (lo hi : Es) {σ : Slots} {s : Store} {K : QB} {X : QX} {h : Hd K} {h2 : Hd X} : xT (.sl a lo hi) σ s K X h h2 = xE (.sl a lo hi) σ s (fun o σ s => optH (truth (view s o.frz)) fun c => K c σ s) X := by
  unfold xT xE; rw [w.eq_15] <;> rfl
theorem xT_rev (a : E) {σ : Slots} {s : Store} {K : QB} {X : QX} {h : Hd K} {h2 : Hd X} : xT (.rev a) σ s K X h h2 = xE (.rev a) σ s (fun o σ s => optH (truth (view s o.frz)) fun c => K c σ s) X := by
  unfold xT xE; rw [w.eq_16] <;> rfl
theorem xT_fld (c : Str) (a : E) (n : Str) {σ : Slots} {s : Store} {K : QB} {X : QX} {h : Hd K} {h2 : Hd X} : xT (.fld c a n) σ s K X h h2 = xE (.fld c a n) σ s (fun o σ s => optH (truth (view s o.frz)) fun c => K c σ s) X := by
  unfold xT xE; rw [w.eq_17] <;> rfl
theorem xT_prop (c : Str) (g : Fn) (a : E) {σ : Slots} {s : Store} {K : QB} {X : QX} {h : Hd K} {h2 : Hd X} : xT (.prop c g a) σ s K X h h2 = xE (.prop c g a) σ s (fun o σ s => optH (truth (view s o.frz)) fun c => K c σ s) X := by
  unfold xT xE; rw [w.eq_18] <;> rfl
theorem xT_call (g : Fn) (es : Es) {σ : Slots} {s : Store} {K : QB} {X : QX} {h : Hd K} {h2 : Hd X} : xT (.call g es) σ s K X h h2 = xE (.call g es) σ s (fun o σ s => optH (truth (view s o.frz)) fun c => K c σ s) X := by
  unfold xT xE; rw [w.eq_19] <;> rfl
theorem xT_callp (g : Fn) (p : List Nat) (es : Es) {σ : Slots} {s : Store} {K : QB} {X : QX} {h : Hd K} {h2 : Hd X} : xT (.callp g p es) σ s K X h h2 = xE (.callp g p es) σ s (fun o σ s => optH (truth (view s o.frz)) fun c => K c σ s) X := by
  unfold xT xE; rw [w.eq_20] <;> rfl
theorem xT_meth (c m : Str) (g : Fn) (o : E) (es : Es) {σ : Slots} {s : Store} {K : QB} {X : QX} {h : Hd K} {h2 : Hd X} : xT (.meth c m g o es) σ s K X h h2 = xE (.meth c m g o es) σ s (fun o σ s => optH (truth (view s o.frz)) fun c => K c σ s) X := by
  unfold xT xE; rw [w.eq_21] <;> rfl
theorem xT_mk (c : Str) (g : Fn) (es : Es) {σ : Slots} {s : Store} {K : QB} {X : QX} {h : Hd K} {h2 : Hd X} : xT (.mk c g es) σ s K X h h2 = xE (.mk c g es) σ s (fun o σ s => optH (truth (view s o.frz)) fun c => K c σ s) X := by
  unfold xT xE; rw [w.eq_22] <;> rfl
theorem xT_alloc (e : E) {σ : Slots} {s : Store} {K : QB} {X : QX} {h : Hd K} {h2 : Hd X} : xT (.alloc e) σ s K X h h2 = xE (.alloc e) σ s (fun o σ s => optH (truth (view s o.frz)) fun c => K c σ s) X := by
  unfold xT xE; rw [w.eq_23] <;> rfl
theorem xT_bi (b : Bi) (es : Es) {σ : Slots} {s : Store} {K : QB} {X : QX} {h : Hd K} {h2 : Hd X} : xT (.bi b es) σ s K X h h2 = xE (.bi b es) σ s (fun o σ s => optH (truth (view s o.frz)) fun c => K c σ s) X := by
  unfold xT xE; rw [w.eq_24] <;> rfl
theorem xT_rng (t : Bool) (es : Es) {σ : Slots} {s : Store} {K : QB} {X : QX} {h : Hd K} {h2 : Hd X} : xT (.rng t es) σ s K X h h2 = xE (.rng t es) σ s (fun o σ s => optH (truth (view s o.frz)) fun c => K c σ s) X := by
  unfold xT xE; rw [w.eq_26] <;> rfl
theorem xT_bm (m : Bm) (o : E) (es : Es) {σ : Slots} {s : Store} {K : QB} {X : QX} {h : Hd K} {h2 : Hd X} : xT (.bm m o es) σ s K X h h2 = xE (.bm m o es) σ s (fun o σ s => optH (truth (view s o.frz)) fun c => K c σ s) X := by
  unfold xT xE; rw [w.eq_27] <;> rfl
theorem xT_mm (m : Mm) (o : E) (es : Es) {σ : Slots} {s : Store} {K : QB} {X : QX} {h : Hd K} {h2 : Hd X} : xT (.mm m o es) σ s K X h h2 = xE (.mm m o es) σ s (fun o σ s => optH (truth (view s o.frz)) fun c => K c σ s) X := by
  unfold xT xE; rw [w.eq_28] <;> rfl
theorem xT_lc (vs : List Nat) (e : E) (c : Cs) {σ : Slots} {s : Store} {K : QB} {X : QX} {h : Hd K} {h2 : Hd X} : xT (.lc vs e c) σ s K X h h2 = xE (.lc vs e c) σ s (fun o σ s => optH (truth (view s o.frz)) fun c => K c σ s) X := by
  unfold xT xE; rw [w.eq_29] <;> rfl
theorem xT_dc (vs : List Nat) (a b : E) (c : Cs) {σ : Slots} {s : Store} {K : QB} {X : QX} {h : Hd K} {h2 : Hd X} : xT (.dc vs a b c) σ s K X h h2 = xE (.dc vs a b c) σ s (fun o σ s => optH (truth (view s o.frz)) fun c => K c σ s) X := by
  unfold xT xE; rw [w.eq_30] <;> rfl
theorem xT_var (i : Nat) {σ : Slots} {s : Store} {K : QB} {X : QX} {h : Hd K} {h2 : Hd X} : xT (.var i) σ s K X h h2 = onSlot σ[i]? (fun d => optH (truth (view s d)) fun c => K c σ s) (fun c => optH (truth c.frz) fun b => K b σ s) := by
  unfold xT; rw [w.eq_2]; simp only [dft, asT, asOp, onSlot]
  cases e : σ[i]? with
  | none => rfl
  | some sl => cases sl <;> simp only [vres, e, Option.getD_some, Slot.look, optK_some] <;> rfl
theorem xV_nil {σ : Slots} {s : Store} {K : List D → Slots → Store → Prop} {X : QX} {h : Hd K} {h2 : Hd X} : xV .nil σ s K X h h2 = K [] σ s := by
  unfold xV; rw [ws.eq_1]
theorem xO_nil {σ : Slots} {s : Store} {K : List Opd → Slots → Store → Prop} {X : QX} {h : Hd K} {h2 : Hd X} : xO .nil σ s K X h h2 = K [] σ s := by
  unfold xO; rw [ws.eq_1]
theorem xU_nil {σ : Slots} {s : Store} {K : List Out → Slots → Store → Prop} {X : QX} {h : Hd K} {h2 : Hd X} : xU .nil σ s K X h h2 = K [] σ s := by
  unfold xU; rw [ws.eq_1]
theorem xV_cons (e : E) (es : Es) {σ : Slots} {s : Store} {K : List D → Slots → Store → Prop} {X : QX} {h : Hd K} {h2 : Hd X} : xV (.cons e es) σ s K X h h2 = xE e σ s (fun o σ s => xV es σ s (fun ds σ s => K (o.frz :: ds) σ s) X) X := by
  unfold xV; rw [ws.eq_2]; rfl
theorem xO_cons (e : E) (es : Es) {σ : Slots} {s : Store} {K : List Opd → Slots → Store → Prop} {X : QX} {h : Hd K} {h2 : Hd X} : xO (.cons e es) σ s K X h h2 = xA e σ s (fun o σ s => xO es σ s (fun ds σ s => K (o :: ds) σ s) X) X := by
  unfold xO; rw [ws.eq_2]; rfl
theorem xU_cons (e : E) (es : Es) {σ : Slots} {s : Store} {K : List Out → Slots → Store → Prop} {X : QX} {h : Hd K} {h2 : Hd X} : xU (.cons e es) σ s K X h h2 = xE e σ s (fun o σ s => xU es σ s (fun ds σ s => K (o :: ds) σ s) X) X := by
  unfold xU; rw [ws.eq_2]; rfl
theorem xV_star (e : E) (es : Es) {σ : Slots} {s : Store} {K : List D → Slots → Store → Prop} {X : QX} {h : Hd K} {h2 : Hd X} : xV (.star e es) σ s K X h h2 = xE e σ s (fun o σ s => optH (seqOf (view s o.frz)) fun xs => xV es σ s (fun ds σ s => K (xs ++ ds) σ s) X) X := by
  unfold xV; rw [ws.eq_3]; rfl
theorem xF_nil {σ : Slots} {s : Store} {K : QB} {h : Hd K} : xF .nil σ s K h = K true σ s := by
  unfold xF; rw [ws.eq_1]
theorem xF_cons (e : E) (es : Es) {σ : Slots} {s : Store} {K : QB} {h : Hd K} : xF (.cons e es) σ s K h = xT e σ s (fun c σ s => iteH c (xF es σ s K) (K false σ s)) noX := by
  unfold xF; rw [ws.eq_2]; rfl
theorem xF_one (e : E) {σ : Slots} {s : Store} {K : QB} {h : Hd K} : xF (.cons e .nil) σ s K h = xT e σ s K noX := by
  rw [xF_cons]
  refine congrArg (fun k => (w e).t σ s k noX) (funext fun c => funext fun σ => funext fun s => ?_)
  cases c with
  | true => rw [iteH_t, xF_nil]
  | false => rw [iteH_f]
theorem xP_nil {σ : Slots} {s : Store} {K : List (D × D) → Slots → Store → Prop} {X : QX} {h : Hd K} {h2 : Hd X} : xP .nil σ s K X h h2 = K [] σ s := by
  unfold xP; rw [wPs.eq_1]
theorem xP_cons (k v : E) (r : Es) {σ : Slots} {s : Store} {K : List (D × D) → Slots → Store → Prop} {X : QX} {h : Hd K} {h2 : Hd X} : xP (.cons k (.cons v r)) σ s K X h h2 = xE k σ s (fun x σ s => xE v σ s (fun y σ s => xP r σ s (fun ps σ s => K ((x.frz, y.frz) :: ps) σ s) X) X) X := by
  unfold xP; rw [wPs.eq_2]; rfl
theorem xN_nil {σ : Slots} {s : Store} {K : Option Int → Slots → Store → Prop} {X : QX} {h : Hd K} {h2 : Hd X} : xN .nil σ s K X h h2 = K none σ s := by
  unfold xN; rw [wO.eq_1]
theorem xN_cons (e : E) (r : Es) {σ : Slots} {s : Store} {K : Option Int → Slots → Store → Prop} {X : QX} {h : Hd K} {h2 : Hd X} : xN (.cons e r) σ s K X h h2 = xA e σ s (fun x σ s => optH (vres σ s x) fun x => onInt x fun i => K (some i) σ s) X := by
  unfold xN; rw [wO.eq_2]; rfl
theorem xI_seq (e : E) {σ : Slots} {s : Store} {K : List D → Slots → Store → Prop} {X : QX} {h : Hd K} {h2 : Hd X} : xI (.seq e) σ s K X h h2 = xE e σ s (fun o σ s => optH (walkOf o.frz) fun xs => K xs σ s) X := by
  unfold xI; rw [wIt.eq_1]; rfl
theorem xI_rng1 (a : E) {σ : Slots} {s : Store} {K : List D → Slots → Store → Prop} {X : QX} {h : Hd K} {h2 : Hd X} : xI (.rng1 a) σ s K X h h2 = xA a σ s (fun x σ s => optH (vres σ s x) fun x => onInt x fun n => iteH (rngOk 0 n) (K (upTo 0 n.toNat) σ s) False) X := by
  unfold xI; rw [wIt.eq_2]; rfl
theorem xI_rng2 (a b : E) {σ : Slots} {s : Store} {K : List D → Slots → Store → Prop} {X : QX} {h : Hd K} {h2 : Hd X} : xI (.rng2 a b) σ s K X h h2 = xA a σ s (fun x σ s => xA b σ s (fun y σ s => optH (vres σ s x) fun x => optH (vres σ s y) fun y => onInt x fun m => onInt y fun n => iteH (rngOk m n) (K (upTo m (n - m).toNat) σ s) False) X) X := by
  unfold xI; rw [wIt.eq_3]
  refine congrArg (fun k => asOp a (w a).v σ s k X) (funext fun x => funext fun σ => funext fun s => congrArg (fun k => asOp b (w b).v σ s k X) (funext fun y => funext fun σ => funext fun s => congrArg (optK (vres σ s x)) (funext fun d => congrArg (optK (vres σ s y)) (funext fun f => ?_))))
  cases d <;> cases f <;> rfl
theorem xI_enum0 (e : E) {σ : Slots} {s : Store} {K : List D → Slots → Store → Prop} {X : QX} {h : Hd K} {h2 : Hd X} : xI (.enum e .nil) σ s K X h h2 = xE e σ s (fun o σ s => optH (seqOf o.frz) fun xs => K (enumD 0 xs) σ s) X := by
  unfold xI; rw [wIt.eq_4]
  refine congrArg (fun k => (w e).v σ s k X) (funext fun x => funext fun σ => funext fun s => congrArg (optK _) (funext fun d => ?_))
  rw [ws.eq_1]; rfl
theorem xI_items (e : E) {σ : Slots} {s : Store} {K : List D → Slots → Store → Prop} {X : QX} {h : Hd K} {h2 : Hd X} : xI (.items e) σ s K X h h2 = xE e σ s (fun o σ s => onDct o.frz fun ks vs => K (zipD ks vs) σ s) X := by
  unfold xI; rw [wIt.eq_6]; rfl
theorem xI_zip (es : Es) {σ : Slots} {s : Store} {K : List D → Slots → Store → Prop} {X : QX} {h : Hd K} {h2 : Hd X} : xI (.zip es) σ s K X h h2 = xV es σ s (fun ds σ s => onZip ds fun xs => K xs σ s) X := by
  unfold xI; rw [wIt.eq_5]; rfl
theorem xB_nil {σ : Slots} {s : Store} {N : QN} {P : Rst} {h : Hd N} {h2 : Hd P} : xB .nil σ s N P h h2 = N σ s := by
  unfold xB; rw [wSs]
theorem xB_cons (st : S) (r : Ss) {σ : Slots} {s : Store} {N : QN} {P : Rst} {h : Hd N} {h2 : Hd P} : xB (.cons st r) σ s N P h h2 = xS st σ s (fun σ s => xB r σ s N P) P := by
  unfold xB; rw [wSs]; rfl
theorem xS_asgN (i : Nat) (e : E) {σ : Slots} {s : Store} {N : QN} {P : Rst} {h : Hd N} {h2 : Hd P} : xS (.asg (.name i) e) σ s N P h h2 = xE e σ s (fun o σ s => goH (σ.set i o.slot) fun σ => N σ s) P.ex := by
  unfold xS; rw [wS] <;> rfl
theorem xS_asgT (ts : List Tg) (e : E) {σ : Slots} {s : Store} {N : QN} {P : Rst} {h : Hd N} {h2 : Hd P} : xS (.asg (.tup ts) e) σ s N P h h2 = xE e σ s (fun o σ s => xG (.tup ts) o.frz σ s N) P.ex := by
  unfold xS; rw [wS] <;> rfl
theorem xS_par (is : List Nat) (es : Es) {σ : Slots} {s : Store} {N : QN} {P : Rst} {h : Hd N} {h2 : Hd P} : xS (.par is es) σ s N P h h2 = xU es σ s (fun os σ s => andH (os.length = is.length) (goH (setsS σ is os) fun σ => N σ s)) P.ex := by
  unfold xS; rw [wS] <;> rfl
theorem xS_setix (o k v : E) {σ : Slots} {s : Store} {N : QN} {P : Rst} {h : Hd N} {h2 : Hd P} : xS (.setix o k v) σ s N P h h2 = xE v σ s (fun y σ s => xA o σ s (fun x σ s => xE k σ s (fun i σ s => upH x σ s (fun c => (setSem c i.frz y.frz).map fun c => (c, .non)) fun _ σ s => N σ s) P.ex) P.ex) P.ex := by
  unfold xS; rw [wS] <;> rfl
def sfSem (cn n : Str) (y : D) (c : Cont) : Option (Cont × D) := match c with
  | .ins c ns vs => if c = cn && decide (ns.length < 100) then some (.ins c (putF ns vs n y).1 (putF ns vs n y).2, .non) else none
  | _ => none
theorem xS_setfld (cn : Str) (o : E) (n : Str) (v : E) {σ : Slots} {s : Store} {N : QN} {P : Rst} {h : Hd N} {h2 : Hd P} : xS (.setfld cn o n v) σ s N P h h2 = xE v σ s (fun y σ s => xA o σ s (fun x σ s => upH x σ s (sfSem cn n y.frz) fun _ σ s => N σ s) P.ex) P.ex := by
  unfold xS; rw [wS] <;> rfl
theorem xS_ex (e : E) {σ : Slots} {s : Store} {N : QN} {P : Rst} {h : Hd N} {h2 : Hd P} : xS (.ex e) σ s N P h h2 = xE e σ s (fun _ σ s => N σ s) P.ex := by
  unfold xS; rw [wS] <;> rfl
theorem xS_retV (i : Nat) {σ : Slots} {s : Store} {N : QN} {P : Rst} {h : Hd N} {h2 : Hd P} : xS (.ret (.var i)) σ s N P h h2 = onSlot σ[i]? (fun d => P.rt (.val d) s) (fun c => P.rt (.own c) s) := by
  unfold xS; rw [wS] <;> rfl
theorem xS_ret_lit (d : D) {σ : Slots} {s : Store} {N : QN} {P : Rst} {h : Hd N} {h2 : Hd P} : xS (.ret (.lit d)) σ s N P h h2 = xE (.lit d) σ s (fun o _ s => P.rt o s) P.ex := by
  unfold xS xE; rw [wS] <;> first | rfl | (intro i q; cases q)
theorem xS_ret_bin (o : BinO) (a b : E) {σ : Slots} {s : Store} {N : QN} {P : Rst} {h : Hd N} {h2 : Hd P} : xS (.ret (.bin o a b)) σ s N P h h2 = xE (.bin o a b) σ s (fun o _ s => P.rt o s) P.ex := by
  unfold xS xE; rw [wS] <;> first | rfl | (intro i q; cases q)
theorem xS_ret_neg (a : E) {σ : Slots} {s : Store} {N : QN} {P : Rst} {h : Hd N} {h2 : Hd P} : xS (.ret (.neg a)) σ s N P h h2 = xE (.neg a) σ s (fun o _ s => P.rt o s) P.ex := by
  unfold xS xE; rw [wS] <;> first | rfl | (intro i q; cases q)
theorem xS_ret_cmp (o : CmpO) (a b : E) {σ : Slots} {s : Store} {N : QN} {P : Rst} {h : Hd N} {h2 : Hd P} : xS (.ret (.cmp o a b)) σ s N P h h2 = xE (.cmp o a b) σ s (fun o _ s => P.rt o s) P.ex := by
  unfold xS xE; rw [wS] <;> first | rfl | (intro i q; cases q)
theorem xS_ret_chain (o p : CmpO) (a b c : E) {σ : Slots} {s : Store} {N : QN} {P : Rst} {h : Hd N} {h2 : Hd P} : xS (.ret (.chain o p a b c)) σ s N P h h2 = xE (.chain o p a b c) σ s (fun o _ s => P.rt o s) P.ex := by
  unfold xS xE; rw [wS] <;> first | rfl | (intro i q; cases q)
theorem xS_ret_not_ (a : E) {σ : Slots} {s : Store} {N : QN} {P : Rst} {h : Hd N} {h2 : Hd P} : xS (.ret (.not_ a)) σ s N P h h2 = xE (.not_ a) σ s (fun o _ s => P.rt o s) P.ex := by
  unfold xS xE; rw [wS] <;> first | rfl | (intro i q; cases q)
theorem xS_ret_and_ (a b : E) {σ : Slots} {s : Store} {N : QN} {P : Rst} {h : Hd N} {h2 : Hd P} : xS (.ret (.and_ a b)) σ s N P h h2 = xE (.and_ a b) σ s (fun o _ s => P.rt o s) P.ex := by
  unfold xS xE; rw [wS] <;> first | rfl | (intro i q; cases q)
theorem xS_ret_or_ (a b : E) {σ : Slots} {s : Store} {N : QN} {P : Rst} {h : Hd N} {h2 : Hd P} : xS (.ret (.or_ a b)) σ s N P h h2 = xE (.or_ a b) σ s (fun o _ s => P.rt o s) P.ex := by
  unfold xS xE; rw [wS] <;> first | rfl | (intro i q; cases q)
theorem xS_ret_ife (c a b : E) {σ : Slots} {s : Store} {N : QN} {P : Rst} {h : Hd N} {h2 : Hd P} : xS (.ret (.ife c a b)) σ s N P h h2 = xE (.ife c a b) σ s (fun o _ s => P.rt o s) P.ex := by
  unfold xS xE; rw [wS] <;> first | rfl | (intro i q; cases q)
theorem xS_ret_tup (es : Es) {σ : Slots} {s : Store} {N : QN} {P : Rst} {h : Hd N} {h2 : Hd P} : xS (.ret (.tup es)) σ s N P h h2 = xE (.tup es) σ s (fun o _ s => P.rt o s) P.ex := by
  unfold xS xE; rw [wS] <;> first | rfl | (intro i q; cases q)
theorem xS_ret_lst (es : Es) {σ : Slots} {s : Store} {N : QN} {P : Rst} {h : Hd N} {h2 : Hd P} : xS (.ret (.lst es)) σ s N P h h2 = xE (.lst es) σ s (fun o _ s => P.rt o s) P.ex := by
  unfold xS xE; rw [wS] <;> first | rfl | (intro i q; cases q)
theorem xS_ret_dct (es : Es) {σ : Slots} {s : Store} {N : QN} {P : Rst} {h : Hd N} {h2 : Hd P} : xS (.ret (.dct es)) σ s N P h h2 = xE (.dct es) σ s (fun o _ s => P.rt o s) P.ex := by
  unfold xS xE; rw [wS] <;> first | rfl | (intro i q; cases q)
theorem xS_ret_ix (a b : E) {σ : Slots} {s : Store} {N : QN} {P : Rst} {h : Hd N} {h2 : Hd P} : xS (.ret (.ix a b)) σ s N P h h2 = xE (.ix a b) σ s (fun o _ s => P.rt o s) P.ex := by
  unfold xS xE; rw [wS] <;> first | rfl | (intro i q; cases q)
theorem xS_ret_sl (a : E) (lo hi : Es) {σ : Slots} {s : Store} {N : QN} {P : Rst} {h : Hd N} {h2 : Hd P} : xS (.ret (.sl a lo hi)) σ s N P h h2 = xE (.sl a lo hi) σ s (fun o _ s => P.rt o s) P.ex := by
  unfold xS xE; rw [wS] <;> first | rfl | (intro i q; cases q)
theorem xS_ret_rev (a : E) {σ : Slots} {s : Store} {N : QN} {P : Rst} {h : Hd N} {h2 : Hd P} : xS (.ret (.rev a)) σ s N P h h2 = xE (.rev a) σ s (fun o _ s => P.rt o s) P.ex := by
  unfold xS xE; rw [wS] <;> first | rfl | (intro i q; cases q)
theorem xS_ret_fld (c : Str) (a : E) (n : Str) {σ : Slots} {s : Store} {N : QN} {P : Rst} {h : Hd N} {h2 : Hd P} : xS (.ret (.fld c a n)) σ s N P h h2 = xE (.fld c a n) σ s (fun o _ s => P.rt o s) P.ex := by
  unfold xS xE; rw [wS] <;> first | rfl | (intro i q; cases q)
theorem xS_ret_prop (c : Str) (g : Fn) (a : E) {σ : Slots} {s : Store} {N : QN} {P : Rst} {h : Hd N} {h2 : Hd P} : xS (.ret (.prop c g a)) σ s N P h h2 = xE (.prop c g a) σ s (fun o _ s => P.rt o s) P.ex := by
  unfold xS xE; rw [wS] <;> first | rfl | (intro i q; cases q)
theorem xS_ret_call (g : Fn) (es : Es) {σ : Slots} {s : Store} {N : QN} {P : Rst} {h : Hd N} {h2 : Hd P} : xS (.ret (.call g es)) σ s N P h h2 = xE (.call g es) σ s (fun o _ s => P.rt o s) P.ex := by
  unfold xS xE; rw [wS] <;> first | rfl | (intro i q; cases q)
theorem xS_ret_callp (g : Fn) (p : List Nat) (es : Es) {σ : Slots} {s : Store} {N : QN} {P : Rst} {h : Hd N} {h2 : Hd P} : xS (.ret (.callp g p es)) σ s N P h h2 = xE (.callp g p es) σ s (fun o _ s => P.rt o s) P.ex := by
  unfold xS xE; rw [wS] <;> first | rfl | (intro i q; cases q)
theorem xS_ret_meth (c m : Str) (g : Fn) (o : E) (es : Es) {σ : Slots} {s : Store} {N : QN} {P : Rst} {h : Hd N} {h2 : Hd P} : xS (.ret (.meth c m g o es)) σ s N P h h2 = xE (.meth c m g o es) σ s (fun o _ s => P.rt o s) P.ex := by
  unfold xS xE; rw [wS] <;> first | rfl | (intro i q; cases q)
theorem xS_ret_mk (c : Str) (g : Fn) (es : Es) {σ : Slots} {s : Store} {N : QN} {P : Rst} {h : Hd N} {h2 : Hd P} : xS (.ret (.mk c g es)) σ s N P h h2 = xE (.mk c g es) σ s (fun o _ s => P.rt o s) P.ex := by
  unfold xS xE; rw [wS] <;> first | rfl | (intro i q; cases q)
theorem xS_ret_alloc (e : E) {σ : Slots} {s : Store} {N : QN} {P : Rst} {h : Hd N} {h2 : Hd P} : xS (.ret (.alloc e)) σ s N P h h2 = xE (.alloc e) σ s (fun o _ s => P.rt o s) P.ex := by
  unfold xS xE; rw [wS] <;> first | rfl | (intro i q; cases q)
theorem xS_ret_bi (b : Bi) (es : Es) {σ : Slots} {s : Store} {N : QN} {P : Rst} {h : Hd N} {h2 : Hd P} : xS (.ret (.bi b es)) σ s N P h h2 = xE (.bi b es) σ s (fun o _ s => P.rt o s) P.ex := by
  unfold xS xE; rw [wS] <;> first | rfl | (intro i q; cases q)
theorem xS_ret_isi (l : List Str) (cs : List Cl) (a : E) {σ : Slots} {s : Store} {N : QN} {P : Rst} {h : Hd N} {h2 : Hd P} : xS (.ret (.isi l cs a)) σ s N P h h2 = xE (.isi l cs a) σ s (fun o _ s => P.rt o s) P.ex := by
  unfold xS xE; rw [wS] <;> first | rfl | (intro i q; cases q)
theorem xS_ret_rng (t : Bool) (es : Es) {σ : Slots} {s : Store} {N : QN} {P : Rst} {h : Hd N} {h2 : Hd P} : xS (.ret (.rng t es)) σ s N P h h2 = xE (.rng t es) σ s (fun o _ s => P.rt o s) P.ex := by
  unfold xS xE; rw [wS] <;> first | rfl | (intro i q; cases q)
theorem xS_ret_bm (m : Bm) (o : E) (es : Es) {σ : Slots} {s : Store} {N : QN} {P : Rst} {h : Hd N} {h2 : Hd P} : xS (.ret (.bm m o es)) σ s N P h h2 = xE (.bm m o es) σ s (fun o _ s => P.rt o s) P.ex := by
  unfold xS xE; rw [wS] <;> first | rfl | (intro i q; cases q)
theorem xS_ret_mm (m : Mm) (o : E) (es : Es) {σ : Slots} {s : Store} {N : QN} {P : Rst} {h : Hd N} {h2 : Hd P} : xS (.ret (.mm m o es)) σ s N P h h2 = xE (.mm m o es) σ s (fun o _ s => P.rt o s) P.ex := by
  unfold xS xE; rw [wS] <;> first | rfl | (intro i q; cases q)
theorem xS_ret_lc (vs : List Nat) (e : E) (c : Cs) {σ : Slots} {s : Store} {N : QN} {P : Rst} {h : Hd N} {h2 : Hd P} : xS (.ret (.lc vs e c)) σ s N P h h2 = xE (.lc vs e c) σ s (fun o _ s => P.rt o s) P.ex := by
  unfold xS xE; rw [wS] <;> first | rfl | (intro i q; cases q)
theorem xS_ret_dc (vs : List Nat) (a b : E) (c : Cs) {σ : Slots} {s : Store} {N : QN} {P : Rst} {h : Hd N} {h2 : Hd P} : xS (.ret (.dc vs a b c)) σ s N P h h2 = xE (.dc vs a b c) σ s (fun o _ s => P.rt o s) P.ex := by
  unfold xS xE; rw [wS] <;> first | rfl | (intro i q; cases q)
theorem xS_ret_eqo (n : Bool) (c : Str) (g : Fn) (a b : E) {σ : Slots} {s : Store} {N : QN} {P : Rst} {h : Hd N} {h2 : Hd P} : xS (.ret (.eqo n c g a b)) σ s N P h h2 = xE (.eqo n c g a b) σ s (fun o _ s => P.rt o s) P.ex := by
  unfold xS xE; rw [wS] <;> first | rfl | (intro i q; cases q)
theorem xS_retn  {σ : Slots} {s : Store} {N : QN} {P : Rst} {h : Hd N} {h2 : Hd P} : xS (.retn) σ s N P h h2 = P.rt (.val .non) s := by
  unfold xS; rw [wS] <;> rfl
theorem xS_ife (c : E) (a b : Ss) {σ : Slots} {s : Store} {N : QN} {P : Rst} {h : Hd N} {h2 : Hd P} : xS (.ife c a b) σ s N P h h2 = xT c σ s (fun r σ s => iteH r (xB a σ s N P) (xB b σ s N P)) P.ex := by
  unfold xS; rw [wS] <;> rfl
theorem for_loop (t : Tg) (b : Ss) (N : QN) (P : Rst) (h : Hd N) (h2 : Hd P) : ∀ (items : List D) (σ : Slots) (s : Store), wLoop (fun x (_ : Unit) σ s k => wTg t x σ s fun σ s => wSs b σ s { P.post N with nx := fun σ s => k () σ s, ct := fun σ s => k () σ s, bk := N }) items () σ s (fun _ σ s => N σ s) = loopH t b items σ s N P h h2
  | [], σ, s => rfl
  | x :: xs, σ, s => by
    have ih := for_loop t b N P h h2 xs
    simp only [wLoop, loopH]
    refine congrArg (fun k => wTg t x σ s k) (funext fun σ => funext fun s => ?_)
    simp only [ih]
    rfl
theorem while_loop (c : E) (b : Ss) (N : QN) (P : Rst) (h : Hd N) (h2 : Hd P) : ∀ (n : Nat) (σ : Slots) (s : Store), wWhile (fun σ s K => wT c σ s K P.ex) (fun σ s k d => wSs b σ s { P.post N with nx := k, ct := k, bk := d }) n σ s N = whH c b n σ s N P h h2
  | 0, σ, s => rfl
  | n + 1, σ, s => by
    have ih := while_loop c b N P h h2 n
    simp only [wWhile, whH]
    refine congrArg (fun k => (w c).t σ s k P.ex) (funext fun r => funext fun σ => funext fun s => ?_)
    cases r with
    | false => rfl
    | true =>
      rw [if_pos rfl, iteH_t]
      have e : (fun σ s => wWhile (fun σ s K => wT c σ s K P.ex) (fun σ s k d => wSs b σ s { P.post N with nx := k, ct := k, bk := d }) n σ s N) = fun σ s => whH c b n σ s N P h h2 := funext fun σ => funext fun s => ih σ s
      rw [e]
      rfl
theorem xS_for (t : Tg) (it : It) (b : Ss) {σ : Slots} {s : Store} {N : QN} {P : Rst} {h : Hd N} {h2 : Hd P} : xS (.for_ t it b) σ s N P h h2 = xI it σ s (fun items σ s => loopH t b items σ s N P ⟨⟩ ⟨⟩) P.ex := by
  unfold xS; rw [wS]
  refine congrArg (fun k => wIt it σ s k P.ex) (funext fun items => funext fun σ => funext fun s => ?_)
  exact for_loop t b N P ⟨⟩ ⟨⟩ items σ s
theorem xS_while (c : E) (b : Ss) {σ : Slots} {s : Store} {N : QN} {P : Rst} {h : Hd N} {h2 : Hd P} : xS (.while_ c b) σ s N P h h2 = whH c b turns σ s N P ⟨⟩ ⟨⟩ := by
  unfold xS; rw [wS]
  exact while_loop c b N P ⟨⟩ ⟨⟩ turns σ s
theorem xS_pass  {σ : Slots} {s : Store} {N : QN} {P : Rst} {h : Hd N} {h2 : Hd P} : xS (.pass) σ s N P h h2 = N σ s := by
  unfold xS; rw [wS] <;> rfl
theorem xS_brk  {σ : Slots} {s : Store} {N : QN} {P : Rst} {h : Hd N} {h2 : Hd P} : xS (.brk) σ s N P h h2 = P.bk σ s := by
  unfold xS; rw [wS] <;> rfl
theorem xS_cont  {σ : Slots} {s : Store} {N : QN} {P : Rst} {h : Hd N} {h2 : Hd P} : xS (.cont) σ s N P h h2 = P.ct σ s := by
  unfold xS; rw [wS] <;> rfl
theorem xS_raise (c : Str) (f : Bool) (e : E) {σ : Slots} {s : Store} {N : QN} {P : Rst} {h : Hd N} {h2 : Hd P} : xS (.raise c f e) σ s N P h h2 = xE e σ s (fun o σ s => P.ex ⟨c, if f then some o.frz else none⟩ σ s) P.ex := by
  unfold xS; rw [wS] <;> rfl
theorem xS_try (b : Ss) (c : Str) (n : Option Nat) (h1 : Ss) {σ : Slots} {s : Store} {N : QN} {P : Rst} {h : Hd N} {h2 : Hd P} : xS (.try_ b c n h1) σ s N P h h2 = xB b σ s N ⟨P.rt, P.bk, P.ct, fun e σ s => iteH (isSub e.c c) (goH (match n with | some i => σ.set i (.val (.exc e.c e.arg.toList)) | none => σ) fun σ => xB h1 σ s N P) (P.ex e σ s)⟩ := by
  unfold xS; rw [wS] <;> rfl
theorem xG_name (i : Nat) (d : D) {σ : Slots} {s : Store} {K : QN} {h : Hd K} : xG (.name i) d σ s K h = goH (σ.set i (.val d)) fun σ => K σ s := by
  unfold xG; rw [wTg] <;> rfl
theorem xG_tup (ts : List Tg) (d : D) {σ : Slots} {s : Store} {K : QN} {h : Hd K} : xG (.tup ts) d σ s K h = onTup d fun xs => andH (xs.length = ts.length) (xGs ts xs σ s K) := by
  unfold xG; cases d <;> simp only [wTg, onTup] <;> rfl
theorem xGs_nil (xs : List D) {σ : Slots} {s : Store} {K : QN} {h : Hd K} : xGs [] xs σ s K h = andH (xs = []) (K σ s) := by
  unfold xGs; rw [wTgs]; rfl
theorem xGs_cons (t : Tg) (ts : List Tg) (xs : List D) {σ : Slots} {s : Store} {K : QN} {h : Hd K} : xGs (t :: ts) xs σ s K h = onCons xs fun x xs => xG t x σ s fun σ s => xGs ts xs σ s K := by
  unfold xGs; cases xs <;> simp only [wTgs, onCons] <;> rfl
theorem loopH_nil (t : Tg) (b : Ss) {σ : Slots} {s : Store} {N : QN} {P : Rst} {h : Hd N} {h2 : Hd P} : loopH t b [] σ s N P h h2 = N σ s := rfl
theorem loopH_cons (t : Tg) (b : Ss) (x : D) (xs : List D) {σ : Slots} {s : Store} {N : QN} {P : Rst} {h : Hd N} {h2 : Hd P} : loopH t b (x :: xs) σ s N P h h2 = xG t x σ s fun σ s => xB b σ s (fun σ s => loopH t b xs σ s N P h h2) ⟨P.rt, N, fun σ s => loopH t b xs σ s N P h h2, P.ex⟩ := rfl
theorem whH_succ (c : E) (b : Ss) (n : Nat) {σ : Slots} {s : Store} {N : QN} {P : Rst} {h : Hd N} {h2 : Hd P} : whH c b (n + 1) σ s N P h h2 = xT c σ s (fun r σ s => iteH r (xB b σ s (fun σ s => whH c b n σ s N P h h2) ⟨P.rt, N, fun σ s => whH c b n σ s N P h h2, P.ex⟩) (N σ s)) P.ex := rfl
theorem lcH_nil (vs : List Nat) (e : E) (t : Tg) (ifs : Es) (acc : List D) {σ : Slots} {s : Store} {K : List D → Slots → Store → Prop} {h : Hd K} : lcH vs e t ifs [] acc σ s K h = K acc σ s := rfl
theorem lcH_cons (vs : List Nat) (e : E) (t : Tg) (ifs : Es) (x : D) (xs acc : List D) {σ : Slots} {s : Store} {K : List D → Slots → Store → Prop} {h : Hd K} : lcH vs e t ifs (x :: xs) acc σ s K h = goH (wipeS σ vs) fun σ => xG t x σ s fun σ s => xF ifs σ s fun c σ s => iteH c (xE e σ s (fun o σ s => iteH (decide (acc.length < big)) (lcH vs e t ifs xs (acc ++ [o.frz]) σ s K h) False) noX) (lcH vs e t ifs xs acc σ s K h) := rfl
theorem lc_loop (vs : List Nat) (e : E) (t : Tg) (ifs : Es) (K : List D → Slots → Store → Prop) (h : Hd K) : ∀ (items acc z : List D) (σ : Slots) (s : Store), wLoop (fun x (a : Acc) σ s k => wTg t x (wipeS σ vs) s fun σ s => (ws ifs).ifs σ s fun c σ s =>
    if c then (w e).v σ s (fun o σ s => if a.1.length < big then k (a.1 ++ [o.frz], []) σ s else False) noX else k a σ s) items (acc, z) σ s (fun a σ s => K a.1 σ s) = lcH vs e t ifs items acc σ s K h
  | [], acc, z, σ, s => rfl
  | x :: xs, acc, z, σ, s => by
    have ih := lc_loop vs e t ifs K h xs
    simp only [wLoop, lcH]
    refine congrArg (fun k => wTg t x (wipeS σ vs) s k) (funext fun σ => funext fun s => congrArg (fun k => (ws ifs).ifs σ s k) (funext fun c => funext fun σ => funext fun s => ?_))
    cases c with
    | false => exact ih acc z σ s
    | true =>
      refine congrArg (fun k => (w e).v σ s k noX) (funext fun o => funext fun σ => funext fun s => ?_)
      by_cases q : acc.length < big
      · rw [if_pos q, decide_eq_true q, iteH_t]
        exact ih _ _ σ s
      · rw [if_neg q, decide_eq_false q, iteH_f]
theorem xE_lc1 (vs : List Nat) (e : E) (t : Tg) (it : It) (ifs : Es) {σ : Slots} {s : Store} {K : QO} {X : QX} {h : Hd K} {h2 : Hd X} : xE (.lc vs e (.one t it ifs)) σ s K X h h2 = xI it σ s (fun items σ1 s => lcH vs e t ifs items [] σ1 s (fun acc σ2 s => goH (backS σ σ2 vs) fun σ => K (.own (.lst acc)) σ s) ⟨⟩) X := by
  unfold xE; rw [w.eq_29]; simp only [dft]; rw [wCs]
  refine congrArg (fun k => wIt it σ s k X) (funext fun items => funext fun σ1 => funext fun s => ?_)
  exact lc_loop vs e t ifs (fun acc σ2 s => goH (backS σ σ2 vs) fun σ => K (.own (.lst acc)) σ s) ⟨⟩ items [] [] σ1 s
/-- a def is entered -/
theorem callH_mk (n m : Nat) (b : Ss) (ds : List D) (s : Store) (Q : Out → Store → Prop) (X : Exc → Store → Prop) (h : Hd Q) (h2 : Hd X) : callH (mkFn n m b) ds s Q X h h2 = andH (ds.length = n)
    (goH (ds.map .val ++ List.replicate (m - n) .unb) fun σ => xB b σ s (fun _ s => Q (.val .non) s) ⟨Q, fun _ _ => False, fun _ _ => False, fun e _ s => X e s⟩) := rfl
theorem callH_in (c : Str) (n m : Nat) (b : Ss) (ds : List D) (s : Store) (Q : Out → Store → Prop) (X : Exc → Store → Prop) (h : Hd Q) (h2 : Hd X) : callH (mkIn c n m b) ds s Q X h h2 = andH (ds.length = n)
    (goH (.own (.ins c [] []) :: ds.map .val ++ List.replicate (m - n - 1) .unb) fun σ => xB b σ s (fun (σ : Slots) s => onSlot σ[0]? (fun _ => False) fun k => Q (.own k) s) ⟨fun _ _ => False, fun _ _ => False, fun _ _ => False, fun e _ s => X e s⟩) := by
  unfold callH mkIn andH goH xB
  refine congrArg (fun z => ds.length = n ∧ z) (congrArg (wSs b _ s) ?_)
  simp only [Post.mk.injEq, and_true]
  funext σ s
  unfold onSlot
  cases σ[0]? with
  | none => rfl
  | some sl => cases sl <;> rfl
end HP

set_option maxHeartbeats 2000000
/-! HpData: the operations on values as equations. -/
namespace HP
open PySem PySem.W

theorem view_int (s : Store) (i : Int) : view s (.int i) = .int i := rfl
theorem view_bl (s : Store) (i : Bool) : view s (.bl i) = .bl i := rfl
theorem view_str (s : Store) (i : Str) : view s (.str i) = .str i := rfl
theorem view_non (s : Store) : view s .non = .non := rfl
theorem view_tup (s : Store) (i : List D) : view s (.tup i) = .tup i := rfl
theorem view_lst (s : Store) (i : List D) : view s (.lst i) = .lst i := rfl
theorem view_scr (s : Store) (i : List D) : view s (.scr i) = .scr i := rfl
theorem view_dct (s : Store) (i j : List D) : view s (.dct i j) = .dct i j := rfl
theorem view_ins (s : Store) (c : Str) (i : List Str) (j : List D) : view s (.ins c i j) = .ins c i j := rfl
theorem view_ref {s : Store} {n : Nat} {c : Cont} (h : s[n]? = some c) : view s (.ref n) = c.frz := by
  show (match s[n]? with
    | some c => c.frz
    | none => D.ref n) = c.frz
  rw [h]
theorem view_r0 (c : Cont) (s : Store) : view (c :: s) (.ref 0) = c.frz := rfl
theorem view_r1 (c d : Cont) (s : Store) : view (c :: d :: s) (.ref 1) = d.frz := rfl
theorem vres_s (σ : Slots) (s : Store) (i : Nat) : vres σ s (.slot i) = (σ[i]?.getD .unb).look s := rfl
theorem look_own (s : Store) (c : Cont) : Slot.look s (.own c) = some c.frz := rfl
theorem look_val (s : Store) (d : D) : Slot.look s (.val d) = some (view s d) := rfl

/-! ### texts -/
theorem toNat_inj : ∀ {a b : List Char}, a.map Char.toNat = b.map Char.toNat → a = b
  | [], [], _ => rfl
  | [], _ :: _, h => by simp at h
  | _ :: _, [], h => by simp at h
  | x :: xs, y :: ys, h => by
    simp only [List.map_cons, List.cons.injEq] at h
    have e : x = y := by
      apply Char.ext
      apply UInt32.toNat_inj.mp
      exact h.1
    rw [e, toNat_inj h.2]
theorem ofString_inj (a b : String) : (Str.ofString a = Str.ofString b) = (a = b) := by
  refine propext ⟨fun h => ?_, fun h => by rw [h]⟩
  rw [Str.ofString_eq_toList, Str.ofString_eq_toList] at h
  simp only [Str.mk.injEq] at h
  have h2 := congrArg Array.toList h
  simp only at h2
  exact String.toList_inj.mp (toNat_inj h2)

/-! ### how deep plain data are -/
def okAt (n : Nat) (d : D) : Bool := d.plain && decide (d.dep ≤ n)
def okAts (n : Nat) (ds : List D) : Bool := plains ds && decide (deps ds ≤ n)
theorem ok_60 (d : D) : d.ok = okAt 60 d := rfl
theorem okAt_int (n : Nat) (i : Int) : okAt n (.int i) = true := by simp [okAt, D.plain, D.dep]
theorem okAt_bl (n : Nat) (i : Bool) : okAt n (.bl i) = true := by simp [okAt, D.plain, D.dep]
theorem okAt_str (n : Nat) (i : Str) : okAt n (.str i) = true := by simp [okAt, D.plain, D.dep]
theorem okAt_non (n : Nat) : okAt n .non = true := by simp [okAt, D.plain, D.dep]
theorem okAt_tup (n : Nat) (ds : List D) : okAt (n + 1) (.tup ds) = okAts n ds := by
  simp only [okAt, okAts, D.plain, D.dep, Nat.add_le_add_iff_right]
theorem okAt_lst (n : Nat) (ds : List D) : okAt (n + 1) (.lst ds) = okAts n ds := by
  simp only [okAt, okAts, D.plain, D.dep, Nat.add_le_add_iff_right]
theorem okAts_nil (n : Nat) : okAts n [] = true := by simp [okAts, plains, deps]
theorem okAts_cons (n : Nat) (d : D) (ds : List D) : okAts n (d :: ds) = (okAt n d && okAts n ds) := by
  simp only [okAts, okAt, plains, deps, Nat.max_le, Bool.decide_and]
  cases d.plain <;> cases plains ds <;> simp
theorem okAts_all {n : Nat} : ∀ {ds : List D}, (∀ d ∈ ds, okAt n d = true) → okAts n ds = true
  | [], _ => okAts_nil n
  | d :: ds, h => by rw [okAts_cons, h d (List.mem_cons_self ..), okAts_all fun d hd => h d (List.mem_cons_of_mem _ hd)]; rfl
theorem okAts_append (n : Nat) : ∀ (a b : List D), okAts n (a ++ b) = (okAts n a && okAts n b)
  | [], b => by rw [okAts_nil]; rfl
  | x :: a, b => by rw [List.cons_append, okAts_cons, okAts_cons, okAts_append n a b, Bool.and_assoc]
theorem okAts_mapI (n : Nat) (l : List Int) : okAts n (l.map D.int) = true := okAts_all fun d h => by
  obtain ⟨x, _, rfl⟩ := List.mem_map.mp h; exact okAt_int n x
theorem okAts_mapS (n : Nat) (l : List Str) : okAts n (l.map D.str) = true := okAts_all fun d h => by
  obtain ⟨x, _, rfl⟩ := List.mem_map.mp h; exact okAt_str n x
theorem okAts_mapB (n : Nat) (l : List Bool) : okAts n (l.map D.bl) = true := okAts_all fun d h => by
  obtain ⟨x, _, rfl⟩ := List.mem_map.mp h; exact okAt_bl n x
theorem okAts_map {α : Type} {n : Nat} {f : α → D} {l : List α} (h : ∀ x, okAt n (f x) = true) : okAts n (l.map f) = true := okAts_all fun d hd => by
  obtain ⟨x, _, rfl⟩ := List.mem_map.mp hd; exact h x

/-! ### == -/
def eqDs (a b : List D) : Bool := PyData.eqvAll (pys a) (pys b)
theorem eqD_int (i j : Int) : eqD (.int i) (.int j) = decide (i = j) := by 
  simp only [eqD, D.py, PyData.eqv]
  rw [Bool.eq_iff_iff]; simp
theorem eqD_str (i j : Str) : eqD (.str i) (.str j) = decide (i = j) := by
  simp only [eqD, D.py, PyData.eqv]
  rw [Bool.eq_iff_iff]; simp
theorem eqD_bl (i j : Bool) : eqD (.bl i) (.bl j) = (i == j) := by simp only [eqD, D.py, PyData.eqv]
theorem eqD_tup (a b : List D) : eqD (.tup a) (.tup b) = eqDs a b := by simp only [eqD, D.py, PyData.eqv, eqDs]
theorem eqD_lst (a b : List D) : eqD (.lst a) (.lst b) = eqDs a b := by simp only [eqD, D.py, PyData.eqv, eqDs]
theorem eqD_nn : eqD .non .non = true := by simp only [eqD, D.py, PyData.eqv]
theorem eqD_nt (a : List D) : eqD .non (.tup a) = false := by simp only [eqD, D.py, PyData.eqv]
theorem eqD_tn (a : List D) : eqD (.tup a) .non = false := by simp only [eqD, D.py, PyData.eqv]
theorem eqD_si (x : Str) (i : Int) : eqD (.str x) (.int i) = false := by simp only [eqD, D.py, PyData.eqv]
theorem eqD_is (x : Str) (i : Int) : eqD (.int i) (.str x) = false := by simp only [eqD, D.py, PyData.eqv]
theorem eqD_st (x : Str) (a : List D) : eqD (.str x) (.tup a) = false := by simp only [eqD, D.py, PyData.eqv]
theorem eqD_ts (x : Str) (a : List D) : eqD (.tup a) (.str x) = false := by simp only [eqD, D.py, PyData.eqv]
theorem eqD_ti (i : Int) (a : List D) : eqD (.tup a) (.int i) = false := by simp only [eqD, D.py, PyData.eqv]
theorem eqD_it (i : Int) (a : List D) : eqD (.int i) (.tup a) = false := by simp only [eqD, D.py, PyData.eqv]
theorem eqD_tl (b a : List D) : eqD (.tup a) (.lst b) = false := by simp only [eqD, D.py, PyData.eqv]
theorem eqD_lt (b a : List D) : eqD (.lst a) (.tup b) = false := by simp only [eqD, D.py, PyData.eqv]
theorem eqDs_nil : eqDs [] [] = true := by simp only [eqDs, pys, PyData.eqvAll]
theorem eqDs_cons (x y : D) (xs ys : List D) : eqDs (x :: xs) (y :: ys) = (eqD x y && eqDs xs ys) := by simp only [eqDs, pys, PyData.eqvAll, eqD]
theorem eqDs_nc (y : D) (ys : List D) : eqDs [] (y :: ys) = false := by simp only [eqDs, pys, PyData.eqvAll]
theorem eqDs_cn (y : D) (ys : List D) : eqDs (y :: ys) [] = false := by simp only [eqDs, pys, PyData.eqvAll]
theorem eqDs_map {α : Type} {f : α → D} {P : α → α → Bool} (h : ∀ x y, eqD (f x) (f y) = P x y) : ∀ (xs ys : List α), eqDs (xs.map f) (ys.map f) = (xs.length == ys.length && (xs.zip ys).all fun p => P p.1 p.2)
  | [], [] => by rw [List.map_nil, eqDs_nil]; rfl
  | [], y :: ys => by rw [List.map_nil, List.map_cons, eqDs_nc]; rfl
  | x :: xs, [] => by rw [List.map_nil, List.map_cons, eqDs_cn]; rfl
  | x :: xs, y :: ys => by
    rw [List.map_cons, List.map_cons, eqDs_cons, h, eqDs_map h xs ys]
    simp only [List.length_cons, List.zip_cons_cons, List.all_cons]
    cases P x y <;> cases hq : (xs.length == ys.length) <;> simp_all
theorem eqDs_mapd {α : Type} [DecidableEq α] {f : α → D} (h : ∀ x y, eqD (f x) (f y) = decide (x = y)) : ∀ (xs ys : List α), eqDs (xs.map f) (ys.map f) = decide (xs = ys)
  | [], [] => by rw [List.map_nil, eqDs_nil]; simp
  | [], y :: ys => by rw [List.map_nil, List.map_cons, eqDs_nc]; simp
  | x :: xs, [] => by rw [List.map_nil, List.map_cons, eqDs_cn]; simp
  | x :: xs, y :: ys => by
    rw [List.map_cons, List.map_cons, eqDs_cons, h, eqDs_mapd h xs ys]
    rw [Bool.eq_iff_iff]; simp
theorem eqDs_strs (xs ys : List Str) : eqDs (xs.map D.str) (ys.map D.str) = decide (xs = ys) := eqDs_mapd eqD_str xs ys
theorem eqDs_ints (xs ys : List Int) : eqDs (xs.map D.int) (ys.map D.int) = decide (xs = ys) := eqDs_mapd eqD_int xs ys
theorem any_strs (z : Str) (xs : List Str) : ((xs.map D.str).any fun y => eqD y (.str z)) = xs.contains z := by
  induction xs with
  | nil => rfl
  | cons x xs ih =>
    rw [List.map_cons, List.any_cons, ih, eqD_str, List.contains_cons]
    refine congrArg (· || xs.contains z) ?_
    rw [Bool.eq_iff_iff]
    simp only [decide_eq_true_eq, beq_iff_eq]
    exact ⟨Eq.symm, Eq.symm⟩
theorem any_map {α : Type} [DecidableEq α] {f : α → D} (h : ∀ x y, eqD (f x) (f y) = decide (x = y)) (z : α) (xs : List α) : ((xs.map f).any fun y => eqD y (f z)) = decide (z ∈ xs) := by
  induction xs with
  | nil => simp
  | cons x xs ih =>
    rw [List.map_cons, List.any_cons, ih, h, Bool.eq_iff_iff]
    simp only [Bool.or_eq_true, decide_eq_true_eq, List.mem_cons]
    exact ⟨fun q => q.imp Eq.symm id, fun q => q.imp Eq.symm id⟩

/-! ### subscripts -/
theorem atI_nat {α : Type} (xs : List α) (i : Nat) : L2.atI xs (i : Int) = xs[i]? := by
  unfold L2.atI L2.ixN
  by_cases h : i < xs.length
  · rw [if_pos (by omega), if_pos (by omega)]; simp
  · rw [if_pos (by omega), if_neg (by omega), List.getElem?_eq_none (by omega)]; rfl
theorem atI_0 {α : Type} (x : α) (xs : List α) : L2.atI (x :: xs) 0 = some x := atI_nat _ 0
theorem atI_1 {α : Type} (x y : α) (xs : List α) : L2.atI (x :: y :: xs) 1 = some y := atI_nat _ 1
theorem atI_2 {α : Type} (x y z : α) (xs : List α) : L2.atI (x :: y :: z :: xs) 2 = some z := atI_nat _ 2
theorem atI_3 {α : Type} (x y z u : α) (xs : List α) : L2.atI (x :: y :: z :: u :: xs) 3 = some u := atI_nat _ 3
theorem atI_4 {α : Type} (x y z u v : α) (xs : List α) : L2.atI (x :: y :: z :: u :: v :: xs) 4 = some v := atI_nat _ 4
theorem atI_last {α : Type} (xs : List α) (x : α) : L2.atI (xs ++ [x]) (-1) = some x := by
  unfold L2.atI L2.ixN
  rw [if_neg (by omega), if_pos (by simp; omega)]
  have e : ((-1 : Int) + ((xs ++ [x]).length : Nat)).toNat = xs.length := by
    rw [List.length_append, List.length_singleton]; omega
  show (some (((-1 : Int) + ((xs ++ [x]).length : Nat)).toNat)).bind (fun j => (xs ++ [x])[j]?) = some x
  rw [e]
  simp
theorem ix_tup (xs : List D) (i : Int) : ixSem (.tup xs) (.int i) = L2.atI xs i := rfl
theorem ix_lst (xs : List D) (i : Int) : ixSem (.lst xs) (.int i) = L2.atI xs i := rfl
theorem ix_dctS (ks vs : List D) (k : Str) : ixSem (.dct ks vs) (.str k) = getD ks vs (.str k) := by simp [ixSem, keyFits, keyOk, isTup]
theorem getD_hit (ks vs : List D) (k v : D) : eqD k k = true → getD (k :: ks) (v :: vs) k = some v := fun h => by
  simp [getD, keyAt, h, List.findIdx?_cons]
theorem getD_cons (x k : D) (ks vs : List D) (v : D) : getD (x :: ks) (v :: vs) k = if eqD x k then some v else getD ks vs k := by
  unfold getD keyAt
  rw [List.findIdx?_cons]
  cases h : eqD x k with
  | true => simp
  | false =>
    simp
    cases h2 : ks.findIdx? (fun x => eqD x k) <;> simp
theorem getD_nil (k : D) : getD [] [] k = none := rfl
theorem keyFits_str (ks : List D) (x : Str) : keyFits ks (.str x) = true := rfl
theorem keyFits_int (ks : List D) (x : Int) : keyFits ks (.int x) = true := rfl
theorem putD_nil (k v : D) : putD [] [] k v = ([k], [v]) := rfl
theorem putD_cons (x k y v : D) (ks vs : List D) : putD (x :: ks) (y :: vs) k v = if eqD x k then (x :: ks, v :: vs) else (x :: (putD ks vs k v).1, y :: (putD ks vs k v).2) := by
  unfold putD keyAt
  rw [List.findIdx?_cons]
  cases h : eqD x k with
  | true => simp
  | false =>
    simp
    cases h2 : ks.findIdx? (fun x => eqD x k) <;> simp
theorem isSome_keyAt (x k : D) (ks : List D) : (keyAt (x :: ks) k).isSome = (eqD x k || (keyAt ks k).isSome) := by
  unfold keyAt
  rw [List.findIdx?_cons]
  cases h : eqD x k with
  | true => simp
  | false => simp
theorem isSome_keyAt0 (k : D) : (keyAt [] k).isSome = false := rfl

/-! ### comparisons -/
theorem cmp_eq (a b : D) : cmpSem .eq a b = if a.ok && b.ok then some (eqD a b) else eqNil a b := rfl
theorem cmp_ne (a b : D) : cmpSem .ne a b = if a.ok && b.ok then some (!eqD a b) else (eqNil a b).map (!·) := by
  simp only [cmpSem, eqSem]
  split <;> rfl
theorem eqD_l0 (xs : List D) : eqD (.lst xs) (.lst []) = xs.isEmpty := by
  cases xs with
  | nil => simp [eqD, D.py, pys, PyData.eqv, PyData.eqvAll]
  | cons x xs => simp [eqD, D.py, pys, PyData.eqv, PyData.eqvAll]
theorem cmp_eq_l0 (xs : List D) : cmpSem .eq (.lst xs) (.lst []) = some xs.isEmpty := by
  rw [cmp_eq, eqD_l0]
  split <;> rfl
theorem cmp_ne_l0 (xs : List D) : cmpSem .ne (.lst xs) (.lst []) = some (!xs.isEmpty) := by
  rw [cmp_ne, eqD_l0]
  split <;> rfl
theorem cmp_in_tup (x : D) (ys : List D) : cmpSem .in_ x (.tup ys) = if x.ok && okAts 60 ys then some (ys.any fun y => eqD y x) else none := by
  cases h : (x.ok && (plains ys && decide (deps ys ≤ 60))) <;> simp [cmpSem, isIn, okAts, Bool.and_assoc, h]
theorem cmp_in_lst (x : D) (ys : List D) : cmpSem .in_ x (.lst ys) = if x.ok && okAts 60 ys then some (ys.any fun y => eqD y x) else none := by
  cases h : (x.ok && (plains ys && decide (deps ys ≤ 60))) <;> simp [cmpSem, isIn, okAts, Bool.and_assoc, h]
theorem cmp_nin_tup (x : D) (ys : List D) : cmpSem .nin x (.tup ys) = if x.ok && okAts 60 ys then some (!ys.any fun y => eqD y x) else none := by
  cases h : (x.ok && (plains ys && decide (deps ys ≤ 60))) <;> simp [cmpSem, isIn, okAts, Bool.and_assoc, h]
theorem cmp_nin_lst (x : D) (ys : List D) : cmpSem .nin x (.lst ys) = if x.ok && okAts 60 ys then some (!ys.any fun y => eqD y x) else none := by
  cases h : (x.ok && (plains ys && decide (deps ys ≤ 60))) <;> simp [cmpSem, isIn, okAts, Bool.and_assoc, h]
theorem cmp_in_dct (ks vs : List D) (x : Str) : cmpSem .in_ (.str x) (.dct ks vs) = some (keyAt ks (.str x)).isSome := rfl
theorem cmp_nin_dct (ks vs : List D) (x : Str) : cmpSem .nin (.str x) (.dct ks vs) = some (!(keyAt ks (.str x)).isSome) := rfl
theorem cmp_lt_int (i j : Int) : cmpSem .lt (.int i) (.int j) = some (decide (i < j)) := rfl
theorem cmp_gt_int (i j : Int) : cmpSem .gt (.int i) (.int j) = some (decide (j < i)) := rfl
theorem cmp_le_int (i j : Int) : cmpSem .le (.int i) (.int j) = some (decide (i ≤ j)) := rfl
theorem cmp_ge_int (i j : Int) : cmpSem .ge (.int i) (.int j) = some (decide (j ≤ i)) := rfl
theorem cmp_is_non (x : D) : cmpSem .is x .non = some (!notNon x) := by cases x <;> rfl
theorem cmp_isn_non (x : D) : cmpSem .isn x .non = some (notNon x) := by cases x <;> rfl
theorem cmp_is_bl (x y : Bool) : cmpSem .is (.bl x) (.bl y) = some (x == y) := rfl
theorem cmp_isn_bl (x y : Bool) : cmpSem .isn (.bl x) (.bl y) = some (!(x == y)) := rfl
/-! ### arithmetic -/
theorem add_int (i j : Int) : binSem .add (.int i) (.int j) = some (.val (.int (i + j))) := rfl
theorem sub_int (i j : Int) : binSem .sub (.int i) (.int j) = some (.val (.int (i - j))) := rfl
theorem add_tup (i j : List D) : binSem .add (.tup i) (.tup j) = if i.length + j.length ≤ big then some (.val (.tup (i ++ j))) else none := rfl
theorem add_lst (i j : List D) : binSem .add (.lst i) (.lst j) = if i.length + j.length ≤ big then some (.own (.lst (i ++ j))) else none := rfl
theorem add_str (i j : Str) : binSem .add (.str i) (.str j) = if i.length + j.length ≤ big then some (.val (.str (i ++ j))) else none := rfl
theorem mul_int (i j : Int) : binSem .mul (.int i) (.int j) = if i.natAbs < 18446744073709551616 || j.natAbs < 18446744073709551616 || i.natAbs.log2 + j.natAbs.log2 < 1000000 then some (.val (.int (i * j))) else none := rfl
theorem mod_int (i j : Int) : binSem .mod (.int i) (.int j) = if 0 < j then some (.val (.int (i % j))) else none := rfl
theorem fdiv_int {i j : Int} (h0 : 0 < j) (h1 : j < 18446744073709551616) : binSem .fdiv (.int i) (.int j) = some (.val (.int (i / j))) := by
  have h : j.natAbs.log2 < 64 := (Nat.log2_lt (by omega)).mpr (by omega)
  simp only [binSem]
  rw [if_pos]
  simp only [Bool.and_eq_true, decide_eq_true_eq]
  exact ⟨h0, by omega⟩
theorem pow_int (i j : Int) : binSem .pow (.int i) (.int j) = if 0 ≤ j && j ≤ 1000000 && i.natAbs < 18446744073709551616 then some (.val (.int (i ^ j.toNat))) else none := rfl
/-! ### builtins -/
theorem len_tup (xs : List D) : biSem .len [.tup xs] = some (.val (.int xs.length)) := rfl
theorem len_lst (xs : List D) : biSem .len [.lst xs] = some (.val (.int xs.length)) := rfl
theorem len_scr (xs : List D) : biSem .len [.scr xs] = some (.val (.int xs.length)) := rfl
theorem abs_int (i : Int) : biSem .abs [.int i] = some (.val (.int (if i < 0 then -i else i))) := rfl
theorem int_int (i : Int) : biSem .int [.int i] = some (.val (.int i)) := rfl
theorem int_bl (i : Bool) : biSem .int [.bl i] = some (.val (.int (if i then 1 else 0))) := rfl
theorem max_int (i j : Int) : biSem .max [.int i, .int j] = some (.val (.int (if j > i then j else i))) := rfl
theorem min_int (i j : Int) : biSem .min [.int i, .int j] = some (.val (.int (if j < i then j else i))) := rfl
theorem list_tup (xs : List D) : biSem .list [.tup xs] = some (.own (.lst xs)) := rfl
theorem list_lst (xs : List D) : biSem .list [.lst xs] = some (.own (.lst xs)) := rfl
theorem tuple_tup (xs : List D) : biSem .tuple [.tup xs] = some (.val (.tup xs)) := rfl
theorem tuple_lst (xs : List D) : biSem .tuple [.lst xs] = some (.val (.tup xs)) := rfl
theorem allBl_map : ∀ bs : List Bool, allBl (bs.map D.bl) = some bs
  | [] => rfl
  | b :: bs => by rw [List.map_cons, allBl, allBl_map bs]; rfl
theorem allStr_map : ∀ bs : List Str, allStr (bs.map D.str) = some bs
  | [] => rfl
  | b :: bs => by rw [List.map_cons, allStr, allStr_map bs]; rfl
theorem all_bls (bs : List Bool) : biSem .all [.lst (bs.map D.bl)] = some (.val (.bl (bs.all id))) := by simp [biSem, allBl_map]
theorem any_bls (bs : List Bool) : biSem .any [.lst (bs.map D.bl)] = some (.val (.bl (bs.any id))) := by simp [biSem, allBl_map]
theorem all_mapP {α : Type} (p : α → Bool) (l : List α) : biSem .all [.lst (l.map fun x => .bl (p x))] = some (.val (.bl (l.all p))) := by
  have e : (l.map fun x => D.bl (p x)) = (l.map p).map D.bl := by rw [List.map_map]; rfl
  rw [e, all_bls, List.all_map]; rfl
theorem any_mapP {α : Type} (p : α → Bool) (l : List α) : biSem .any [.lst (l.map fun x => .bl (p x))] = some (.val (.bl (l.any p))) := by
  have e : (l.map fun x => D.bl (p x)) = (l.map p).map D.bl := by rw [List.map_map]; rfl
  rw [e, any_bls, List.any_map]; rfl
theorem lenset_strs (ss : List Str) : biSem .lenset [.tup (ss.map D.str)] = if ss.length < 4000 then some (.val (.int ((nubS [] ss).length : Nat))) else none := by simp [biSem, allStr_map]
theorem lenset_strsL (ss : List Str) : biSem .lenset [.lst (ss.map D.str)] = if ss.length < 4000 then some (.val (.int ((nubS [] ss).length : Nat))) else none := by simp [biSem, allStr_map]
/-! ### by the front alone -/
theorem fld_ins (c n c' : Str) (ns : List Str) (vs : List D) : fldSem c n (.ins c' ns vs) = if c' = c then lookF ns vs n else none := rfl
theorem isi_non (l : List Str) (cs : List Cl)  : isiSem l cs (.non ) = some (cs.any fun c => isCl c (.non )) := rfl
theorem cl_int_non  : isCl .int (.non ) = false := rfl
theorem cl_bool_non  : isCl .bool (.non ) = false := rfl
theorem cl_str_non  : isCl .str (.non ) = false := rfl
theorem cl_tuple_non  : isCl .tuple (.non ) = false := rfl
theorem cl_list_non  : isCl .list (.non ) = false := rfl
theorem cl_dict_non  : isCl .dict (.non ) = false := rfl
theorem cl_own_non (z : Str)  : isCl (.own z) (.non ) = false := rfl
theorem notNon_non  : notNon (.non ) = false := rfl
theorem isi_bl (l : List Str) (cs : List Cl) (b : Bool) : isiSem l cs (.bl b) = some (cs.any fun c => isCl c (.bl b)) := rfl
theorem cl_int_bl (b : Bool) : isCl .int (.bl b) = true := rfl
theorem cl_bool_bl (b : Bool) : isCl .bool (.bl b) = true := rfl
theorem cl_str_bl (b : Bool) : isCl .str (.bl b) = false := rfl
theorem cl_tuple_bl (b : Bool) : isCl .tuple (.bl b) = false := rfl
theorem cl_list_bl (b : Bool) : isCl .list (.bl b) = false := rfl
theorem cl_dict_bl (b : Bool) : isCl .dict (.bl b) = false := rfl
theorem cl_own_bl (z : Str) (b : Bool) : isCl (.own z) (.bl b) = false := rfl
theorem notNon_bl (b : Bool) : notNon (.bl b) = true := rfl
theorem isi_int (l : List Str) (cs : List Cl) (i : Int) : isiSem l cs (.int i) = some (cs.any fun c => isCl c (.int i)) := rfl
theorem cl_int_int (i : Int) : isCl .int (.int i) = true := rfl
theorem cl_bool_int (i : Int) : isCl .bool (.int i) = false := rfl
theorem cl_str_int (i : Int) : isCl .str (.int i) = false := rfl
theorem cl_tuple_int (i : Int) : isCl .tuple (.int i) = false := rfl
theorem cl_list_int (i : Int) : isCl .list (.int i) = false := rfl
theorem cl_dict_int (i : Int) : isCl .dict (.int i) = false := rfl
theorem cl_own_int (z : Str) (i : Int) : isCl (.own z) (.int i) = false := rfl
theorem notNon_int (i : Int) : notNon (.int i) = true := rfl
theorem isi_str (l : List Str) (cs : List Cl) (x : Str) : isiSem l cs (.str x) = some (cs.any fun c => isCl c (.str x)) := rfl
theorem cl_int_str (x : Str) : isCl .int (.str x) = false := rfl
theorem cl_bool_str (x : Str) : isCl .bool (.str x) = false := rfl
theorem cl_str_str (x : Str) : isCl .str (.str x) = true := rfl
theorem cl_tuple_str (x : Str) : isCl .tuple (.str x) = false := rfl
theorem cl_list_str (x : Str) : isCl .list (.str x) = false := rfl
theorem cl_dict_str (x : Str) : isCl .dict (.str x) = false := rfl
theorem cl_own_str (z : Str) (x : Str) : isCl (.own z) (.str x) = false := rfl
theorem notNon_str (x : Str) : notNon (.str x) = true := rfl
theorem isi_tup (l : List Str) (cs : List Cl) (xs : List D) : isiSem l cs (.tup xs) = some (cs.any fun c => isCl c (.tup xs)) := rfl
theorem cl_int_tup (xs : List D) : isCl .int (.tup xs) = false := rfl
theorem cl_bool_tup (xs : List D) : isCl .bool (.tup xs) = false := rfl
theorem cl_str_tup (xs : List D) : isCl .str (.tup xs) = false := rfl
theorem cl_tuple_tup (xs : List D) : isCl .tuple (.tup xs) = true := rfl
theorem cl_list_tup (xs : List D) : isCl .list (.tup xs) = false := rfl
theorem cl_dict_tup (xs : List D) : isCl .dict (.tup xs) = false := rfl
theorem cl_own_tup (z : Str) (xs : List D) : isCl (.own z) (.tup xs) = false := rfl
theorem notNon_tup (xs : List D) : notNon (.tup xs) = true := rfl
theorem isi_lst (l : List Str) (cs : List Cl) (xs : List D) : isiSem l cs (.lst xs) = some (cs.any fun c => isCl c (.lst xs)) := rfl
theorem cl_int_lst (xs : List D) : isCl .int (.lst xs) = false := rfl
theorem cl_bool_lst (xs : List D) : isCl .bool (.lst xs) = false := rfl
theorem cl_str_lst (xs : List D) : isCl .str (.lst xs) = false := rfl
theorem cl_tuple_lst (xs : List D) : isCl .tuple (.lst xs) = false := rfl
theorem cl_list_lst (xs : List D) : isCl .list (.lst xs) = true := rfl
theorem cl_dict_lst (xs : List D) : isCl .dict (.lst xs) = false := rfl
theorem cl_own_lst (z : Str) (xs : List D) : isCl (.own z) (.lst xs) = false := rfl
theorem notNon_lst (xs : List D) : notNon (.lst xs) = true := rfl
theorem isi_dct (l : List Str) (cs : List Cl) (ks vs : List D) : isiSem l cs (.dct ks vs) = some (cs.any fun c => isCl c (.dct ks vs)) := rfl
theorem cl_int_dct (ks vs : List D) : isCl .int (.dct ks vs) = false := rfl
theorem cl_bool_dct (ks vs : List D) : isCl .bool (.dct ks vs) = false := rfl
theorem cl_str_dct (ks vs : List D) : isCl .str (.dct ks vs) = false := rfl
theorem cl_tuple_dct (ks vs : List D) : isCl .tuple (.dct ks vs) = false := rfl
theorem cl_list_dct (ks vs : List D) : isCl .list (.dct ks vs) = false := rfl
theorem cl_dict_dct (ks vs : List D) : isCl .dict (.dct ks vs) = true := rfl
theorem cl_own_dct (z : Str) (ks vs : List D) : isCl (.own z) (.dct ks vs) = false := rfl
theorem notNon_dct (ks vs : List D) : notNon (.dct ks vs) = true := rfl
theorem isi_ins (l : List Str) (cs : List Cl) (c : Str) (ns : List Str) (vs : List D) : isiSem l cs (.ins c ns vs) = if l.contains c then some (cs.any fun k => isCl k (.ins c ns vs)) else none := rfl
theorem cl_own_ins (z c : Str) (ns : List Str) (vs : List D) : isCl (.own z) (.ins c ns vs) = decide (c = z) := rfl
theorem notNon_ins (c : Str) (ns : List Str) (vs : List D) : notNon (.ins c ns vs) = true := rfl
theorem truth_non : truth .non = some false := rfl
theorem truth_bl (b : Bool) : truth (.bl b) = some b := rfl
theorem truth_int (i : Int) : truth (.int i) = some (decide (i ≠ 0)) := rfl
theorem truth_tup (xs : List D) : truth (.tup xs) = some !xs.isEmpty := rfl
theorem truth_lst (xs : List D) : truth (.lst xs) = some !xs.isEmpty := rfl
theorem walk_tup (xs : List D) : walkOf (.tup xs) = some xs := rfl
theorem walk_lst (xs : List D) : walkOf (.lst xs) = some xs := rfl
theorem walk_scr (xs : List D) : walkOf (.scr xs) = some xs := rfl
theorem walk_str (x : Str) : walkOf (.str x) = some (x.cps.toList.map fun c => .str ⟨#[c]⟩) := rfl
theorem seq_tup (xs : List D) : seqOf (.tup xs) = some xs := rfl
theorem seq_lst (xs : List D) : seqOf (.lst xs) = some xs := rfl
theorem frz_lst (xs : List D) : Cont.frz (.lst xs) = .lst xs := rfl
theorem frz_dct (ks vs : List D) : Cont.frz (.dct ks vs) = .dct ks vs := rfl
theorem frz_ins (c : Str) (ns : List Str) (vs : List D) : Cont.frz (.ins c ns vs) = .ins c ns vs := rfl
theorem ofrz_v (d : D) : Out.frz (.val d) = d := rfl
theorem ofrz_o (c : Cont) : Out.frz (.own c) = c.frz := rfl
theorem oslot_v (d : D) : Out.slot (.val d) = .val d := rfl
theorem oslot_o (c : Cont) : Out.slot (.own c) = .own c := rfl
theorem keep_v (d : D) : Slot.keep (some (.val d)) = .val d := rfl
theorem keep_o (c : Cont) : Slot.keep (some (.own c)) = .unb := rfl
theorem keep_u : Slot.keep (some .unb) = .unb := rfl
theorem setsS_nil (σ : Slots) : setsS σ [] [] = σ := rfl
theorem setsS_cons (σ : Slots) (i : Nat) (is : List Nat) (o : Out) (os : List Out) : setsS σ (i :: is) (o :: os) = setsS (σ.set i o.slot) is os := rfl
theorem isLst_l (xs : List D) : isLst (.lst xs) = true := rfl
theorem isIns_i (c c' : Str) (ns : List Str) (vs : List D) : isIns c (.ins c' ns vs) = decide (c' = c) := rfl
theorem noField_i (m c : Str) (ns : List Str) (vs : List D) : noField m (.ins c ns vs) = !ns.contains m := rfl
theorem mm_app (xs : List D) (x : D) : mmSem .append (.lst xs) [x] = if xs.length < big then some (.lst (xs ++ [x]), .non) else none := rfl
theorem mm_pop0 (xs : List D) : mmSem .pop (.lst xs) [] = match xs.getLast? with | some y => some (.lst xs.dropLast, y) | none => none := rfl
theorem mm_popI (xs : List D) (i : Int) : mmSem .pop (.lst xs) [.int i] = match L2.ixN xs.length i with | some j => (xs[j]?).map fun y => (.lst (xs.eraseIdx j), y) | none => none := rfl
theorem mm_popF (x : D) (xs : List D) : mmSem .pop (.lst (x :: xs)) [.int 0] = some (.lst xs, x) := by
  simp only [mmSem, L2.ixN, List.length_cons]
  rw [if_pos (by omega), if_pos (by omega)]
  rfl
theorem set_lst (xs : List D) (i : Int) (v : D) : setSem (.lst xs) (.int i) v = (L2.ixN xs.length i).map fun j => .lst (xs.set j v) := rfl
theorem set_dct (ks vs : List D) (k v : D) : setSem (.dct ks vs) k v = if keyFits ks k && decide (ks.length < 1000000) then some (.dct (putD ks vs k v).1 (putD ks vs k v).2) else none := rfl
theorem sf_ins (cn n : Str) (y : D) (c : Str) (ns : List Str) (vs : List D) : sfSem cn n y (.ins c ns vs) = if c = cn && decide (ns.length < 100) then some (.ins c (putF ns vs n y).1 (putF ns vs n y).2, .non) else none := rfl
theorem sl_tup (xs : List D) (l h : Option Int) : slSem (.tup xs) l h = some (.val (.tup (cutD xs l h))) := rfl
theorem sl_lst (xs : List D) (l h : Option Int) : slSem (.lst xs) l h = some (.own (.lst (cutD xs l h))) := rfl
theorem ress_nil (σ : Slots) (s : Store) : ress σ s [] = some [] := rfl
theorem ress_cons (σ : Slots) (s : Store) (o : Opd) (os : List Opd) : ress σ s (o :: os) = match vres σ s o, ress σ s os with | some d, some ds => some (d :: ds) | _, _ => none := rfl
end HP

set_option maxHeartbeats 2000000
/-! HpLoop: comprehensions and loops over lists of any length. -/
namespace HP
open PySem
section
variable {α : Type} {f g : α → D} {p : α → Bool} {v : Nat} {e : E} {ifs : Es} {σ : Slots} {s : Store}
/-- [g x for x in l if p x] -/
theorem lc_loopF {K2 : List D → Store → Slots → Prop} (hF : ∀ x (K : QB), xF ifs (σ.set v (.val (f x))) s K = K (p x) (σ.set v (.val (f x))) s) (hE : ∀ x (K : QO), p x = true → xE e (σ.set v (.val (f x))) s K noX = K (.val (g x)) (σ.set v (.val (f x))) s) (σ0 : Slots)
    {h : Hd fun acc σ2 s => goH (backS σ0 σ2 [v]) fun τ => K2 acc s τ} : ∀ (l : List α) (acc : List D) (τ : Slots) (ht : τ.set v .unb = σ.set v .unb), acc.length + l.length ≤ big →
    lcH [v] e (.name v) ifs (l.map f) acc τ s (fun acc σ2 s => goH (backS σ0 σ2 [v]) fun τ => K2 acc s τ) h = goH (σ.set v (Slot.keep σ0[v]?)) (K2 (acc ++ (l.filter p).map g) s)
  | [], acc, τ, ht, hb => by
    have e1 : ∀ y, τ.set v y = σ.set v y := fun y => by
      have := congrArg (fun z : Slots => z.set v y) ht
      simpa [List.set_set] using this
    simp only [List.map_nil, lcH, backS, goH, List.filter_nil, List.append_nil, e1]
  | x :: l, acc, τ, ht, hb => by
    have e1 : ∀ y, τ.set v y = σ.set v y := fun y => by
      have := congrArg (fun z : Slots => z.set v y) ht
      simpa [List.set_set] using this
    rw [List.map_cons, lcH_cons]
    change xG (.name v) (f x) (τ.set v .unb) s _ = _
    rw [xG_name]
    change xF ifs ((τ.set v .unb).set v (.val (f x))) s _ = _
    rw [List.set_set, e1, hF]
    cases hp : p x with
    | false =>
      rw [iteH_f, lc_loopF hF hE σ0 l acc _ (by rw [List.set_set]) (by simp only [List.length_cons] at hb; omega)]
      rw [List.filter_cons_of_neg (by simp [hp])]
    | true =>
      simp only [List.length_cons] at hb
      rw [iteH_t, hE x _ hp, decide_eq_true (by omega), iteH_t, lc_loopF hF hE σ0 l _ _ (by rw [List.set_set]) (by simp only [List.length_append, List.length_singleton]; omega)]
      rw [List.filter_cons_of_pos hp]
      have e2 : acc ++ [(Out.val (g x)).frz] ++ List.map g (List.filter p l) = acc ++ List.map g (x :: List.filter p l) := by simp [Out.frz]
      rw [e2]
theorem lc_fm {K2 : List D → Store → Slots → Prop} (p : α → Bool) (g : α → D) {l : List α} (hF : ∀ x (K : QB), xF ifs (σ.set v (.val (f x))) s K = K (p x) (σ.set v (.val (f x))) s) (hE : ∀ x (K : QO), p x = true → xE e (σ.set v (.val (f x))) s K noX = K (.val (g x)) (σ.set v (.val (f x))) s)
    {σ0 : Slots} {h : Hd fun acc σ2 s => goH (backS σ0 σ2 [v]) fun τ => K2 acc s τ} (hb : l.length ≤ big) :
    lcH [v] e (.name v) ifs (l.map f) [] σ s (fun acc σ2 s => goH (backS σ0 σ2 [v]) fun τ => K2 acc s τ) h = goH (σ.set v (Slot.keep σ0[v]?)) (K2 ((l.filter p).map g) s) :=
  lc_loopF hF hE σ0 l [] σ rfl (by simpa using hb)
/-- [g x for x in l] -/
theorem lc_map {K2 : List D → Store → Slots → Prop} (g : α → D) {l : List α} (hE : ∀ x (K : QO), xE e (σ.set v (.val (f x))) s K noX = K (.val (g x)) (σ.set v (.val (f x))) s)
    {σ0 : Slots} {h : Hd fun acc σ2 s => goH (backS σ0 σ2 [v]) fun τ => K2 acc s τ} (hb : l.length ≤ big) :
    lcH [v] e (.name v) .nil (l.map f) [] σ s (fun acc σ2 s => goH (backS σ0 σ2 [v]) fun τ => K2 acc s τ) h = goH (σ.set v (Slot.keep σ0[v]?)) (K2 (l.map g) s) := by
  rw [lc_fm (fun _ => true) g (fun x K => xF_nil) (fun x K _ => hE x K) hb]
  have e : l.filter (fun _ => true) = l := List.filter_eq_self.mpr fun _ _ => rfl
  rw [e]
end
end HP

set_option maxHeartbeats 2000000
/-! HpShow: repr of data of few items with small numbers. -/
namespace HP
open PySem

mutual
/-- small numbers and few items: at most n in all (texts: of few signs) -/
def rsz : D → Option Nat
  | .non => some 0
  | .bl _ => some 0
  | .int i => if -999999999999 ≤ i ∧ i ≤ 999999999999 then some 0 else none
  | .str x => if (x.cps.toList.all fun c => decide (c < 16 ^ 8)) = true then some x.cps.size else none
  | .tup xs => rszs xs
  | .lst xs => rszs xs
  | .dct _ _ => none
  | .ins _ _ _ => none
  | .ref _ => none
  | .exc _ _ => none
  | .scr _ => none
def rszs : List D → Option Nat
  | [] => some 0
  | x :: xs => match rsz x, rszs xs with
    | some a, some b => some (a + 1 + b)
    | _, _ => none
end
theorem rszs_cons {x : D} {xs : List D} {n : Nat} (h : rszs (x :: xs) = some n) : ∃ a b, rsz x = some a ∧ rszs xs = some b ∧ n = a + 1 + b := by
  simp only [rszs] at h
  cases h1 : rsz x with
  | none => rw [h1] at h; cases h
  | some a =>
    cases h2 : rszs xs with
    | none => rw [h1, h2] at h; cases h
    | some b =>
      rw [h1, h2] at h
      cases h
      exact ⟨a, b, rfl, rfl, rfl⟩
mutual
theorem rsz_ok : ∀ (d : D) (n : Nat), rsz d = some n → PyData.leavesShort 13 d.py = true ∧ d.py.bulk = n ∧ d.py.showable = true
  | .non, n, h => by cases h; exact ⟨rfl, rfl, rfl⟩
  | .bl b, n, h => by cases h; exact ⟨rfl, rfl, rfl⟩
  | .int i, n, h => by
    simp only [rsz] at h
    split at h <;> cases h
    rename_i hz
    refine ⟨?_, rfl, ?_⟩
    · simp only [D.py, PyData.leavesShort, decide_eq_true_eq]
      exact PyData.shown_int_le2 hz.1 hz.2
    · simp only [D.py, PyData.showable, decide_eq_true_eq]
      by_cases h0 : i.natAbs = 0
      · rw [h0]; decide
      · exact Nat.lt_of_lt_of_le ((Nat.log2_lt h0).mpr (show i.natAbs < 2 ^ 40 by omega)) (by decide)
  | .str x, n, h => by
    simp only [rsz] at h
    split at h <;> cases h
    rename_i hz
    exact ⟨by simpa only [D.py, PyData.leavesShort] using hz, rfl, rfl⟩
  | .tup xs, n, h => by
    obtain ⟨h1, h2, h3⟩ := rszs_ok xs n (by simpa only [rsz] using h)
    exact ⟨by simpa only [D.py, PyData.leavesShort] using h1, by simpa only [D.py, PyData.bulk] using h2, by simpa only [D.py, PyData.showable] using h3⟩
  | .lst xs, n, h => by
    obtain ⟨h1, h2, h3⟩ := rszs_ok xs n (by simpa only [rsz] using h)
    exact ⟨by simpa only [D.py, PyData.leavesShort] using h1, by simpa only [D.py, PyData.bulk] using h2, by simpa only [D.py, PyData.showable] using h3⟩
  | .dct _ _, n, h => by cases h
  | .ins _ _ _, n, h => by cases h
  | .ref _, n, h => by cases h
  | .exc _ _, n, h => by cases h
  | .scr _, n, h => by cases h
theorem rszs_ok : ∀ (ds : List D) (n : Nat), rszs ds = some n → PyData.leavesShortAll 13 (pys ds) = true ∧ PyData.bulkAll (pys ds) = n ∧ PyData.showableAll (pys ds) = true
  | [], n, h => by
    simp only [rszs, Option.some.injEq] at h
    subst h
    exact ⟨by simp only [pys, PyData.leavesShortAll], by simp only [pys, PyData.bulkAll], by simp only [pys, PyData.showableAll]⟩
  | d :: ds, n, h => by
    obtain ⟨a, b, ha, hb, rfl⟩ := rszs_cons h
    obtain ⟨h1, h2, h3⟩ := rsz_ok d a ha
    obtain ⟨g1, g2, g3⟩ := rszs_ok ds b hb
    exact ⟨by simp only [pys, PyData.leavesShortAll, h1, g1, Bool.and_self], by simp only [pys, PyData.bulkAll, h2, g2], by simp only [pys, PyData.showableAll, h3, g3, Bool.and_self]⟩
end
/-- repr of such data is a text -/
theorem repr_small {d : D} {n : Nat} (ho : okAt 60 d = true) (h : rsz d = some n) (hn : n ≤ 1000000) : ∃ t, biSem .repr [d] = some (.val (.str t)) := by
  obtain ⟨h1, h2, h3⟩ := rsz_ok d n h
  have e := PyData.shown_le_bulk 13 (by decide) d.py h1
  rw [h2] at e
  have e2 : reprSem d = some d.py.shown := by
    unfold reprSem
    rw [ok_60, ho, h3, Bool.true_and, Bool.true_and, if_pos (decide_eq_true (by unfold big; omega))]
  exact ⟨d.py.shown, (show (reprSem d).map _ = _ by rw [e2]; rfl)⟩
end HP

set_option maxHeartbeats 2000000
/-! HpLoop2: more on lists, dicts and comprehensions. -/
namespace HP
open PySem
theorem iteH_yes {p : Prop} [Decidable p] {x y : Prop} {h : Hd x} {h2 : Hd y} (hp : p) : iteH (decide p) x y h h2 = x := by rw [decide_eq_true hp, iteH_t]
theorem iteH_no {p : Prop} [Decidable p] {x y : Prop} {h : Hd x} {h2 : Hd y} (hp : ¬ p) : iteH (decide p) x y h h2 = y := by rw [decide_eq_false hp, iteH_f]
theorem iteH_eq {b : Bool} {x y z : Prop} {h : Hd x} {h2 : Hd y} (hx : b = true → x = z) (hy : b = false → y = z) : iteH b x y h h2 = z := by
  cases b
  · rw [iteH_f]; exact hy rfl
  · rw [iteH_t]; exact hx rfl
theorem cut_takeN {α : Type} (xs : List α) (n : Nat) : cutD xs none (some (n : Int)) = xs.take n := by
  unfold cutD
  rw [HT.sIx_none, HT.sIx_nat, List.drop_zero, Nat.sub_zero]
  rw [Nat.min_def]
  split
  · rfl
  · rw [List.take_of_length_le (Nat.le_refl _), List.take_of_length_le (by omega)]
theorem cut_dropN {α : Type} (xs : List α) (n : Nat) : cutD xs (some (n : Int)) none = xs.drop n := by
  unfold cutD
  rw [HT.sIx_none, HT.sIx_nat]
  rw [Nat.min_def]
  split
  · rw [List.take_of_length_le (by simp)]
  · rw [List.drop_eq_nil_of_le (Nat.le_refl _), List.drop_eq_nil_of_le (by omega), List.take_nil]
theorem cut_drop1 {α : Type} (xs : List α) (n : Nat) : cutD xs (some ((n : Int) + 1)) none = xs.drop (n + 1) := cut_dropN xs (n + 1)
theorem ix_map {α : Type} (f : α → D) (l : List α) (i : Nat) (z : α) (h : i < l.length) : L2.atI (l.map f) (i : Int) = some (f (l.getD i z)) := by
  rw [atI_nat, List.getElem?_map, List.getElem?_eq_getElem h, List.getD_eq_getElem?_getD, List.getElem?_eq_getElem h]; rfl
theorem atI_neg {α : Type} (l : List α) (k : Nat) (h0 : 0 < k) (h : k ≤ l.length) : L2.atI l (-(k : Int)) = l[l.length - k]? := by
  unfold L2.atI L2.ixN
  rw [if_neg (by omega), if_pos (by omega)]
  have e : (-(k : Int) + (l.length : Nat)).toNat = l.length - k := by omega
  show (some ((-(k : Int) + (l.length : Nat)).toNat)).bind (fun j => l[j]?) = _
  rw [e]; rfl
/-- the last item of a list, by -1 -/
theorem last_map {α : Type} (f : α → D) (l : List α) (z : α) (h : l ≠ []) : L2.atI (l.map f) (-1) = some (f (l.getLastD z)) := by
  have h1 : 0 < l.length := List.length_pos_iff.mpr h
  have := atI_neg (l.map f) 1 (by decide) (by rw [List.length_map]; omega)
  rw [show (-1 : Int) = -((1 : Nat) : Int) by rfl, this, List.length_map, List.getElem?_map]
  obtain ⟨l', x, rfl⟩ : ∃ l' x, l = l' ++ [x] := ⟨l.dropLast, l.getLast h, (List.dropLast_concat_getLast h).symm⟩
  simp
theorem upTo_map : ∀ (n : Nat) (a : Int), upTo a n = (List.range n).map fun (i : Nat) => D.int (a + i)
  | 0, a => rfl
  | n + 1, a => by
    rw [upTo, upTo_map n (a + 1), List.range_succ_eq_map, List.map_cons, List.map_map]
    refine congr (congrArg List.cons ?_) (List.map_congr_left fun i _ => ?_)
    · simp
    · simp only [Function.comp]; congr 1; push_cast; omega
/-! ### comprehensions whose target is a tuple -/
theorem backS_get (σ0 : Slots) : ∀ (vs : List Nat) (σ : Slots) (j : Nat), (backS σ0 σ vs)[j]? = if j ∈ vs ∧ j < σ.length then some (Slot.keep σ0[j]?) else σ[j]?
  | [], σ, j => by simp [backS]
  | v :: vs, σ, j => by
    have hl : ∀ (ws : List Nat) (τ : Slots), (backS σ0 τ ws).length = τ.length := fun ws τ => by
      induction ws with
      | nil => rfl
      | cons w ws ih => rw [backS, List.length_set, ih]
    rw [backS, List.getElem?_set, hl, backS_get σ0 vs σ j]
    by_cases e : v = j
    · subst e
      by_cases h : v < σ.length <;> simp [h]
    · simp [e, Ne.symm e, List.mem_cons]
theorem wipeS_get : ∀ (vs : List Nat) (σ : Slots) (j : Nat), (wipeS σ vs)[j]? = if j ∈ vs ∧ j < σ.length then some .unb else σ[j]?
  | [], σ, j => by simp [wipeS]
  | v :: vs, σ, j => by
    have hl : ∀ (ws : List Nat) (τ : Slots), (wipeS τ ws).length = τ.length := fun ws τ => by
      induction ws with
      | nil => rfl
      | cons w ws ih => rw [wipeS, List.length_set, ih]
    rw [wipeS, List.getElem?_set, hl, wipeS_get vs σ j]
    by_cases e : v = j
    · subst e
      by_cases h : v < σ.length <;> simp [h]
    · simp [e, Ne.symm e, List.mem_cons]
theorem wipeS_lenL (σ : Slots) (vs : List Nat) : (wipeS σ vs).length = σ.length := by
  induction vs with
  | nil => rfl
  | cons w ws ih => rw [wipeS, List.length_set, ih]
theorem back_wipe {σ0 σ τ : Slots} {vs : List Nat} (h : wipeS τ vs = wipeS σ vs) : backS σ0 τ vs = backS σ0 σ vs := by
  have hl : τ.length = σ.length := by rw [← wipeS_lenL τ vs, h, wipeS_lenL]
  apply List.ext_getElem?
  intro j
  rw [backS_get, backS_get, hl]
  by_cases c : j ∈ vs ∧ j < σ.length
  · rw [if_pos c, if_pos c]
  · rw [if_neg c, if_neg c]
    have := congrArg (fun l : Slots => l[j]?) h
    simp only [wipeS_get, hl, if_neg c] at this
    exact this
section
variable {α : Type} {f g : α → D} {p : α → Bool} {vs : List Nat} {t : Tg} {e : E} {ifs : Es} {σ : Slots} {s : Store} {τ : α → Slots}
theorem lc_loopT {K2 : List D → Store → Slots → Prop} (hτ : ∀ x, wipeS (τ x) vs = wipeS σ vs) (hT : ∀ x (K : QN), xG t (f x) (wipeS σ vs) s K = K (τ x) s) (hF : ∀ x (K : QB), xF ifs (τ x) s K = K (p x) (τ x) s) (hE : ∀ x (K : QO), p x = true → xE e (τ x) s K noX = K (.val (g x)) (τ x) s) (σ0 : Slots)
    {h : Hd fun acc σ2 s => goH (backS σ0 σ2 vs) fun τ => K2 acc s τ} : ∀ (l : List α) (acc : List D) (ρ : Slots) (ht : wipeS ρ vs = wipeS σ vs), acc.length + l.length ≤ big →
    lcH vs e t ifs (l.map f) acc ρ s (fun acc σ2 s => goH (backS σ0 σ2 vs) fun τ => K2 acc s τ) h = goH (backS σ0 σ vs) (K2 (acc ++ (l.filter p).map g) s)
  | [], acc, ρ, ht, hb => by
    simp only [List.map_nil, lcH, goH, List.filter_nil, List.append_nil, back_wipe ht]
  | x :: l, acc, ρ, ht, hb => by
    rw [List.map_cons, lcH_cons, ht]
    change xG t (f x) (wipeS σ vs) s _ = _
    rw [hT]
    change xF ifs (τ x) s _ = _
    rw [hF]
    cases hp : p x with
    | false =>
      rw [iteH_f, lc_loopT hτ hT hF hE σ0 l acc _ (hτ x) (by simp only [List.length_cons] at hb; omega)]
      rw [List.filter_cons_of_neg (by simp [hp])]
    | true =>
      simp only [List.length_cons] at hb
      rw [iteH_t, hE x _ hp, decide_eq_true (by omega), iteH_t, lc_loopT hτ hT hF hE σ0 l _ _ (hτ x) (by simp only [List.length_append, List.length_singleton]; omega)]
      rw [List.filter_cons_of_pos hp]
      have e2 : acc ++ [(Out.val (g x)).frz] ++ List.map g (List.filter p l) = acc ++ List.map g (x :: List.filter p l) := by simp [Out.frz]
      rw [e2]
/-- [g x for .. in l if p x] -/
theorem lc_tfm {K2 : List D → Store → Slots → Prop} (p : α → Bool) (g : α → D) (τ : α → Slots) {l : List α} (hτ : ∀ x, wipeS (τ x) vs = wipeS σ vs) (hT : ∀ x (K : QN), xG t (f x) (wipeS σ vs) s K = K (τ x) s) (hF : ∀ x (K : QB), xF ifs (τ x) s K = K (p x) (τ x) s) (hE : ∀ x (K : QO), p x = true → xE e (τ x) s K noX = K (.val (g x)) (τ x) s)
    {σ0 : Slots} {h : Hd fun acc σ2 s => goH (backS σ0 σ2 vs) fun τ => K2 acc s τ} (hb : l.length ≤ big) :
    lcH vs e t ifs (l.map f) [] σ s (fun acc σ2 s => goH (backS σ0 σ2 vs) fun τ => K2 acc s τ) h = goH (backS σ0 σ vs) (K2 ((l.filter p).map g) s) :=
  lc_loopT hτ hT hF hE σ0 l [] σ rfl (by simpa using hb)
theorem lc_tmap {K2 : List D → Store → Slots → Prop} (g : α → D) (τ : α → Slots) {l : List α} (hτ : ∀ x, wipeS (τ x) vs = wipeS σ vs) (hT : ∀ x (K : QN), xG t (f x) (wipeS σ vs) s K = K (τ x) s) (hE : ∀ x (K : QO), xE e (τ x) s K noX = K (.val (g x)) (τ x) s)
    {σ0 : Slots} {h : Hd fun acc σ2 s => goH (backS σ0 σ2 vs) fun τ => K2 acc s τ} (hb : l.length ≤ big) :
    lcH vs e t .nil (l.map f) [] σ s (fun acc σ2 s => goH (backS σ0 σ2 vs) fun τ => K2 acc s τ) h = goH (backS σ0 σ vs) (K2 (l.map g) s) := by
  rw [lc_tfm (fun _ => true) g τ hτ hT (fun x K => xF_nil) (fun x K _ => hE x K) hb]
  have e : l.filter (fun _ => true) = l := List.filter_eq_self.mpr fun _ _ => rfl
  rw [e]
end
theorem sub_of {α : Type} {l : List α} (P : α → Prop) (h : ∀ x ∈ l, P x) : ∃ l' : List {x // P x}, l = l'.map fun x => x.1 := ⟨l.attachWith P h, by simp⟩
section
variable {α : Type} {f : α → D} {v : Nat} {e : E} {ifs : Es} {σ : Slots} {s : Store}
theorem lc_fmP {K2 : List D → Store → Slots → Prop} (P : α → Prop) (p : α → Bool) (g : α → D) {l : List α} (hl : ∀ x ∈ l, P x) (hF : ∀ x, P x → ∀ (K : QB), xF ifs (σ.set v (.val (f x))) s K = K (p x) (σ.set v (.val (f x))) s) (hE : ∀ x, P x → ∀ (K : QO), p x = true → xE e (σ.set v (.val (f x))) s K noX = K (.val (g x)) (σ.set v (.val (f x))) s)
    {σ0 : Slots} {h : Hd fun acc σ2 s => goH (backS σ0 σ2 [v]) fun τ => K2 acc s τ} (hb : l.length ≤ big) :
    lcH [v] e (.name v) ifs (l.map f) [] σ s (fun acc σ2 s => goH (backS σ0 σ2 [v]) fun τ => K2 acc s τ) h = goH (σ.set v (Slot.keep σ0[v]?)) (K2 ((l.filter p).map g) s) := by
  obtain ⟨l', rfl⟩ := sub_of P hl
  rw [List.map_map, List.filter_map, List.map_map]
  exact lc_fm (f := fun x : {x // P x} => f x.1) (fun x => p x.1) (fun x : {x // P x} => g x.1) (fun x K => hF x.1 x.2 K) (fun x K => hE x.1 x.2 K) (by simpa using hb)
/-- [g x for x in l if p x], told of the items alone -/
theorem lc_fmm {K2 : List D → Store → Slots → Prop} (p : α → Bool) (g : α → D) {l : List α} (hF : ∀ x ∈ l, ∀ (K : QB), xF ifs (σ.set v (.val (f x))) s K = K (p x) (σ.set v (.val (f x))) s) (hE : ∀ x ∈ l, ∀ (K : QO), p x = true → xE e (σ.set v (.val (f x))) s K noX = K (.val (g x)) (σ.set v (.val (f x))) s)
    {σ0 : Slots} {h : Hd fun acc σ2 s => goH (backS σ0 σ2 [v]) fun τ => K2 acc s τ} (hb : l.length ≤ big) :
    lcH [v] e (.name v) ifs (l.map f) [] σ s (fun acc σ2 s => goH (backS σ0 σ2 [v]) fun τ => K2 acc s τ) h = goH (σ.set v (Slot.keep σ0[v]?)) (K2 ((l.filter p).map g) s) := lc_fmP (· ∈ l) p g (fun _ q => q) hF hE hb
/-- [g x for x in l], told of the items alone -/
theorem lc_mapm {K2 : List D → Store → Slots → Prop} (g : α → D) {l : List α} (hE : ∀ x ∈ l, ∀ (K : QO), xE e (σ.set v (.val (f x))) s K noX = K (.val (g x)) (σ.set v (.val (f x))) s)
    {σ0 : Slots} {h : Hd fun acc σ2 s => goH (backS σ0 σ2 [v]) fun τ => K2 acc s τ} (hb : l.length ≤ big) :
    lcH [v] e (.name v) .nil (l.map f) [] σ s (fun acc σ2 s => goH (backS σ0 σ2 [v]) fun τ => K2 acc s τ) h = goH (σ.set v (Slot.keep σ0[v]?)) (K2 (l.map g) s) := by
  rw [lc_fmm (fun _ => true) g (fun x _ K => xF_nil) (fun x hx K _ => hE x hx K) hb]
  have e : l.filter (fun _ => true) = l := List.filter_eq_self.mpr fun _ _ => rfl
  rw [e]
end
/-! ### dicts whose keys are texts -/
theorem keyAt_strs (ks : List Str) (k : Str) : keyAt (ks.map .str) (.str k) = ks.findIdx? fun x => decide (x = k) := by
  unfold keyAt
  rw [List.findIdx?_map]
  congr 1
theorem findIdx?_mem {ks : List Str} {k : Str} (h : k ∈ ks) : ks.findIdx? (fun x => decide (x = k)) = some (ks.findIdx fun x => decide (x = k)) := List.findIdx?_eq_some_of_exists ⟨k, h, by simp⟩
theorem findIdx_mem {ks : List Str} {k : Str} (h : k ∈ ks) : ks.findIdx (fun x => decide (x = k)) < ks.length := List.findIdx_lt_length_of_exists ⟨k, h, by simp⟩
theorem getD_strs {α : Type} (f : α → D) (z : α) {ks : List Str} {vs : List α} {k : Str} (h : k ∈ ks) (hl : vs.length = ks.length) : getD (ks.map .str) (vs.map f) (.str k) = some (f (vs.getD (ks.findIdx fun x => decide (x = k)) z)) := by
  unfold getD
  have h1 := findIdx_mem h
  rw [keyAt_strs, findIdx?_mem h, Option.bind_some, List.getElem?_map, List.getElem?_eq_getElem (by omega), List.getD_eq_getElem?_getD, List.getElem?_eq_getElem (by omega)]
  rfl
theorem putD_strs {α : Type} (f : α → D) {ks : List Str} {vs : List α} {k : Str} (x : α) (h : k ∈ ks) : putD (ks.map .str) (vs.map f) (.str k) (f x) = (ks.map .str, (vs.set (ks.findIdx fun x => decide (x = k)) x).map f) := by
  unfold putD
  rw [keyAt_strs, findIdx?_mem h]
  simp only [List.map_set]
theorem putD_new {ks : List Str} {vs : List D} {k : Str} (v : D) (h : k ∉ ks) : putD (ks.map .str) vs (.str k) v = ((ks ++ [k]).map .str, vs ++ [v]) := by
  unfold putD
  have e : ks.findIdx? (fun x => decide (x = k)) = none := List.findIdx?_eq_none_iff.mpr fun x hx => by
    simp only [decide_eq_false_iff_not]
    exact fun q => h (q ▸ hx)
  rw [keyAt_strs, e]
  simp
theorem merge_strs : ∀ (l : List (Str × D)) (ks : List Str) (vs : List D), (ks ++ l.map (·.1)).Nodup → mergeD (ks.map .str) vs (l.map fun p => (.str p.1, p.2)) = some ((ks ++ l.map (·.1)).map .str, vs ++ l.map (·.2))
  | [], ks, vs, _ => by simp [mergeD]
  | p :: l, ks, vs, h => by
    have h1 : p.1 ∉ ks := fun q => by
      rw [List.nodup_append] at h
      exact absurd rfl (h.2.2 p.1 q p.1 (by simp))
    rw [List.map_cons, mergeD, keyFits_str, if_pos rfl, putD_new _ h1, merge_strs l (ks ++ [p.1]) (vs ++ [p.2]) (by simpa using h)]
    simp
theorem pairs_strs (l : List (Str × D)) : pairsOf (l.map fun p => .tup [.str p.1, p.2]) = some (l.map fun p => (.str p.1, p.2)) := by
  induction l with
  | nil => rfl
  | cons x l ih => simp only [List.map_cons, pairsOf, pairOf, ih]
/-- dict([(k, v), ..]) -/
theorem dict_strs (l : List (Str × D)) (h : (l.map (·.1)).Nodup) : biSem .dict [.lst (l.map fun p => .tup [.str p.1, p.2])] = some (.own (.dct (l.map fun p => .str p.1) (l.map (·.2)))) := by
  have := merge_strs l [] [] (by simpa using h)
  simp only [List.map_nil, List.nil_append] at this
  simp only [biSem, pairs_strs, Option.bind_some, this, Option.map_some, List.map_map]
  rfl
end HP

set_option maxHeartbeats 600000
namespace HP
open PySem
/-! HpLoop3: comprehensions of two clauses in symbolic runs. -/
/-- the outer loop of a comprehension of two clauses -/
def lc2H (vs : List Nat) (e : E) (t : Tg) (ifs : Es) (us : List Nat) (t1 : Tg) (it1 : It) (ifs1 : Es) : List D → List D → Slots → Store → (K : List D → Slots → Store → Prop) → (_ : Hd K) → Prop
  | [], acc, σ, s, K, _ => K acc σ s
  | x :: xs, acc, σ, s, K, h => goH (wipeS σ vs) fun σ => xG t x σ s fun σ s => xF ifs σ s fun c σ s => iteH c (xI it1 σ s (fun items σ s => lcH us e t1 ifs1 items acc σ s (fun acc σ s => lc2H vs e t ifs us t1 it1 ifs1 xs acc σ s K h) ⟨⟩) noX) (lc2H vs e t ifs us t1 it1 ifs1 xs acc σ s K h)
theorem lc2H_nil (vs : List Nat) (e : E) (t : Tg) (ifs : Es) (us : List Nat) (t1 : Tg) (it1 : It) (ifs1 : Es) (acc : List D) {σ : Slots} {s : Store} {K : List D → Slots → Store → Prop} {h : Hd K} : lc2H vs e t ifs us t1 it1 ifs1 [] acc σ s K h = K acc σ s := rfl
theorem lc2H_cons (vs : List Nat) (e : E) (t : Tg) (ifs : Es) (us : List Nat) (t1 : Tg) (it1 : It) (ifs1 : Es) (x : D) (xs acc : List D) {σ : Slots} {s : Store} {K : List D → Slots → Store → Prop} {h : Hd K} : lc2H vs e t ifs us t1 it1 ifs1 (x :: xs) acc σ s K h =
    goH (wipeS σ vs) fun σ => xG t x σ s fun σ s => xF ifs σ s fun c σ s => iteH c (xI it1 σ s (fun items σ s => lcH us e t1 ifs1 items acc σ s (fun acc σ s => lc2H vs e t ifs us t1 it1 ifs1 xs acc σ s K h) ⟨⟩) noX) (lc2H vs e t ifs us t1 it1 ifs1 xs acc σ s K h) := rfl
theorem lc2_loop (vs : List Nat) (e : E) (t : Tg) (ifs : Es) (us : List Nat) (t1 : Tg) (it1 : It) (ifs1 : Es) (K : List D → Slots → Store → Prop) (h : Hd K) : ∀ (items acc z : List D) (σ : Slots) (s : Store), wLoop (fun x (a : Acc) σ s k => wTg t x (wipeS σ vs) s fun σ s => (ws ifs).ifs σ s fun c σ s =>
    if c then wIt it1 σ s (fun items σ s => wLoop (fun x (a : Acc) σ s k => wTg t1 x (wipeS σ us) s fun σ s => (ws ifs1).ifs σ s fun c σ s =>
      if c then (w e).v σ s (fun o σ s => if a.1.length < big then k (a.1 ++ [o.frz], []) σ s else False) noX else k a σ s) items a σ s k) noX else k a σ s) items (acc, z) σ s (fun a σ s => K a.1 σ s) = lc2H vs e t ifs us t1 it1 ifs1 items acc σ s K h
  | [], acc, z, σ, s => rfl
  | x :: xs, acc, z, σ, s => by
    have ih := lc2_loop vs e t ifs us t1 it1 ifs1 K h xs
    simp only [wLoop, lc2H]
    refine congrArg (fun k => wTg t x (wipeS σ vs) s k) (funext fun σ => funext fun s => congrArg (fun k => (ws ifs).ifs σ s k) (funext fun c => funext fun σ => funext fun s => ?_))
    cases c with
    | false => exact ih acc z σ s
    | true =>
      refine congrArg (fun k => wIt it1 σ s k noX) (funext fun items => funext fun σ => funext fun s => ?_)
      refine Eq.trans ?_ (lc_loop us e t1 ifs1 (fun acc σ s => lc2H vs e t ifs us t1 it1 ifs1 xs acc σ s K h) ⟨⟩ items acc z σ s)
      refine congrArg (fun k => wLoop _ items (acc, z) σ s k) (funext fun a => funext fun σ => funext fun s => ih a.1 a.2 σ s)
theorem xE_lc2 (vs : List Nat) (e : E) (t : Tg) (it : It) (ifs : Es) (us : List Nat) (t1 : Tg) (it1 : It) (ifs1 : Es) {σ : Slots} {s : Store} {K : QO} {X : QX} {h : Hd K} {h2 : Hd X} : xE (.lc vs e (.more t it ifs us (.one t1 it1 ifs1))) σ s K X h h2 =
    xI it σ s (fun items σ1 s => lc2H vs e t ifs us t1 it1 ifs1 items [] σ1 s (fun acc σ2 s => goH (backS σ σ2 vs) fun σ => K (.own (.lst acc)) σ s) ⟨⟩) X := by
  unfold xE; rw [w.eq_29]; simp only [dft]; rw [wCs]
  refine congrArg (fun k => wIt it σ s k X) (funext fun items => funext fun σ1 => funext fun s => ?_)
  simp only [wCs]
  exact lc2_loop vs e t ifs us t1 it1 ifs1 (fun acc σ2 s => goH (backS σ σ2 vs) fun σ => K (.own (.lst acc)) σ s) ⟨⟩ items [] [] σ1 s
/-- [g x for x in l] behind what was found before; the state may differ at the name -/
theorem lcA {α : Type} {u : Nat} {e : E} {f g : α → D} {σ : Slots} {s : Store} {R : Prop} {K : List D → Slots → Store → Prop} {h : Hd K} (hE : ∀ x (K : QO), xE e (σ.set u (.val (f x))) s K noX = K (.val (g x)) (σ.set u (.val (f x))) s) :
    ∀ (l : List α) (acc : List D) (τ : Slots), τ.set u .unb = σ.set u .unb → acc.length + l.length ≤ big → (∀ τ', τ'.set u .unb = σ.set u .unb → K (acc ++ l.map g) τ' s = R) →
    lcH [u] e (.name u) .nil (l.map f) acc τ s K h = R
  | [], acc, τ, ht, hb, hR => by
    rw [List.map_nil, lcH_nil]
    simpa using hR τ ht
  | x :: l, acc, τ, ht, hb, hR => by
    have e1 : ∀ y, τ.set u y = σ.set u y := fun y => by
      have := congrArg (fun z : Slots => z.set u y) ht
      simpa [List.set_set] using this
    simp only [List.length_cons] at hb
    rw [List.map_cons, lcH_cons]
    change xG (.name u) (f x) (τ.set u .unb) s _ = _
    rw [xG_name]
    change xF .nil ((τ.set u .unb).set u (.val (f x))) s _ = _
    rw [List.set_set, e1, xF_nil, iteH_t, hE, decide_eq_true (by omega), iteH_t]
    refine lcA hE l _ _ (by rw [List.set_set]) (by simp only [List.length_append, List.length_singleton]; omega) fun τ' ht' => ?_
    have e2 : acc ++ [(Out.val (g x)).frz] ++ List.map g l = acc ++ List.map g (x :: l) := by simp [Out.frz]
    rw [e2]
    exact hR τ' ht'
/-- [g x y for x in l for y in m x] -/
theorem lc2A {α β : Type} {v u : Nat} {e : E} {it1 : It} {f : α → D} {f1 : α → β → D} {m : α → List β} {g : α → β → D} {σ : Slots} {s : Store} {R : Prop} {K : List D → Slots → Store → Prop} {h : Hd K} (huv : u ≠ v)
    (hI : ∀ x (K : List D → Slots → Store → Prop), xI it1 ((σ.set u .unb).set v (.val (f x))) s K noX = K ((m x).map (f1 x)) ((σ.set u .unb).set v (.val (f x))) s)
    (hE : ∀ x y (K : QO), xE e ((σ.set v (.val (f x))).set u (.val (f1 x y))) s K noX = K (.val (g x y)) ((σ.set v (.val (f x))).set u (.val (f1 x y))) s) :
    ∀ (l : List α) (acc : List D) (τ : Slots), (τ.set u .unb).set v .unb = (σ.set u .unb).set v .unb → acc.length + (l.flatMap m).length ≤ big →
    (∀ τ', (τ'.set u .unb).set v .unb = (σ.set u .unb).set v .unb → K (acc ++ l.flatMap fun x => (m x).map (g x)) τ' s = R) →
    lc2H [v, u] e (.name v) .nil [u] (.name u) it1 .nil (l.map f) acc τ s K h = R
  | [], acc, τ, ht, hb, hR => by
    rw [List.map_nil, lc2H_nil]
    simpa using hR τ ht
  | x :: l, acc, τ, ht, hb, hR => by
    simp only [List.flatMap_cons, List.length_append] at hb
    rw [List.map_cons, lc2H_cons]
    change xG (.name v) (f x) ((τ.set u .unb).set v .unb) s _ = _
    rw [xG_name, ht]
    change xF .nil (((σ.set u .unb).set v .unb).set v (.val (f x))) s _ = _
    rw [List.set_set, xF_nil, iteH_t, hI]
    refine lcA (σ := σ.set v (.val (f x))) (f := f1 x) (g := g x) (hE x) (m x) acc _ (by rw [List.set_comm _ _ huv, List.set_set, List.set_comm _ _ huv.symm]) (by omega) fun τ' ht' => ?_
    refine lc2A huv hI hE l _ τ' ?_ (by simp only [List.length_append, List.length_map]; omega) fun τ2 ht2 => ?_
    · rw [ht', List.set_comm _ _ huv.symm, List.set_set, List.set_comm _ _ huv]
    · rw [List.append_assoc]
      exact hR τ2 ht2
/-- the same, from the beginning and as a value -/
theorem lc2_map {α β : Type} {v u : Nat} {e : E} {it1 : It} {f : α → D} {f1 : α → β → D} {m : α → List β} {g : α → β → D} {σ σ0 : Slots} {s : Store} {K2 : List D → Store → Slots → Prop} {h : Hd fun acc σ2 s => goH (backS σ0 σ2 [v, u]) fun τ => K2 acc s τ} (l : List α) (huv : u ≠ v)
    (hI : ∀ x (K : List D → Slots → Store → Prop), xI it1 ((σ.set u .unb).set v (.val (f x))) s K noX = K ((m x).map (f1 x)) ((σ.set u .unb).set v (.val (f x))) s)
    (hE : ∀ x y (K : QO), xE e ((σ.set v (.val (f x))).set u (.val (f1 x y))) s K noX = K (.val (g x y)) ((σ.set v (.val (f x))).set u (.val (f1 x y))) s) (hb : (l.flatMap m).length ≤ big) :
    lc2H [v, u] e (.name v) .nil [u] (.name u) it1 .nil (l.map f) [] σ s (fun acc σ2 s => goH (backS σ0 σ2 [v, u]) fun τ => K2 acc s τ) h = goH (backS σ0 σ [v, u]) (K2 (l.flatMap fun x => (m x).map (g x)) s) := by
  refine lc2A huv hI hE l [] σ rfl (by simpa using hb) fun τ' ht => ?_
  have e : backS σ0 τ' [v, u] = backS σ0 σ [v, u] := back_wipe (by simpa only [wipeS] using ht)
  rw [e, List.nil_append]
end HP

set_option maxHeartbeats 600000
namespace HP
open PySem
/-! P0: draws. -/
local macro_rules | `(tactic| walk_at "hp") => `(tactic| simp (config := { dsimp := false, failIfUnchanged := false, implicitDefEqProofs := false }) only [↓xA_lit, ↓xA_bin, ↓xA_neg, ↓xA_cmp, ↓xA_chain, ↓xA_not_, ↓xA_and_, ↓xA_or_, ↓xA_ife, ↓xA_tup, ↓xA_lst, ↓xA_dct, ↓xA_ix, ↓xA_sl, ↓xA_rev, ↓xA_fld, ↓xA_prop, ↓xA_call, ↓xA_callp, ↓xA_meth, ↓xA_mk, ↓xA_alloc, ↓xA_bi, ↓xA_isi, ↓xA_rng, ↓xA_bm, ↓xA_mm, ↓xA_lc, ↓xA_dc, ↓xA_eqo, ↓xA_var, ↓xE_lit, ↓xE_var, ↓xE_bin, ↓xE_neg, ↓xE_cmp, ↓xT_cmp, ↓xE_chain, ↓xT_chain, ↓xE_not_, ↓xT_not_, ↓xE_and_, ↓xT_and_, ↓xE_or_, ↓xT_or_, ↓xE_ife, ↓xT_ife, ↓xE_tup, ↓xE_lst, ↓xE_dct, ↓xE_ix, ↓xE_sl, ↓xE_rev, ↓xE_fld, ↓xE_call, ↓xE_callp, ↓xE_meth, ↓xE_mk, ↓xE_prop, ↓xE_alloc, ↓xE_bi, ↓xE_isi, ↓xT_isi, ↓xE_eqo, ↓xT_eqo, ↓xE_rng, ↓xE_bm, ↓xE_mm, ↓xT_lit, ↓xT_bin, ↓xT_neg, ↓xT_tup, ↓xT_lst, ↓xT_dct, ↓xT_ix, ↓xT_sl, ↓xT_rev, ↓xT_fld, ↓xT_prop, ↓xT_call, ↓xT_callp, ↓xT_meth, ↓xT_mk, ↓xT_alloc, ↓xT_bi, ↓xT_rng, ↓xT_bm, ↓xT_mm, ↓xT_lc, ↓xT_dc, ↓xT_var, ↓xV_nil, ↓xO_nil, ↓xU_nil, ↓xV_cons, ↓xO_cons, ↓xU_cons, ↓xV_star, ↓xF_nil, ↓xF_one, ↓xP_nil, ↓xP_cons, ↓xN_nil, ↓xN_cons, ↓xI_seq, ↓xI_rng1, ↓xI_rng2, ↓xI_enum0, ↓xI_items, ↓xI_zip, ↓xB_nil, ↓xB_cons, ↓xS_asgN, ↓xS_asgT, ↓xS_par, ↓xS_setix, ↓xS_setfld, ↓xS_ex, ↓xS_retV, ↓xS_ret_lit, ↓xS_ret_bin, ↓xS_ret_neg, ↓xS_ret_cmp, ↓xS_ret_chain, ↓xS_ret_not_, ↓xS_ret_and_, ↓xS_ret_or_, ↓xS_ret_ife, ↓xS_ret_tup, ↓xS_ret_lst, ↓xS_ret_dct, ↓xS_ret_ix, ↓xS_ret_sl, ↓xS_ret_rev, ↓xS_ret_fld, ↓xS_ret_prop, ↓xS_ret_call, ↓xS_ret_callp, ↓xS_ret_meth, ↓xS_ret_mk, ↓xS_ret_alloc, ↓xS_ret_bi, ↓xS_ret_isi, ↓xS_ret_rng, ↓xS_ret_bm, ↓xS_ret_mm, ↓xS_ret_lc, ↓xS_ret_dc, ↓xS_ret_eqo, ↓xS_retn, ↓xS_ife, ↓xS_for, ↓xS_while, ↓xS_pass, ↓xS_brk, ↓xS_cont, ↓xS_raise, ↓xS_try, ↓xG_name, ↓xG_tup, ↓xGs_nil, ↓xGs_cons, ↓loopH_nil, ↓loopH_cons, ↓xE_lc1, ↓optH_s, ↓iteH_t, ↓iteH_f, ↓andH_t, goH_go, ↓onSlot_v, ↓onSlot_o, ↓onInt_i, ↓onBl_b, ↓onOwn_o, ↓onTup_t, ↓onTup_l, ↓onCons_c, ↓onDct_d, ↓onZip_l, ↓onZip_t, ↓callH_mk, pick, List.getD_cons_zero, List.getD_cons_succ, ↓callH_in, ↓upH_s, ↓upH_r,
  vres_v, vres_s, look_own, look_val, view_int, view_bl, view_str, view_non, view_tup, view_lst, view_scr, view_dct, view_ins, view_r0, view_r1, Option.getD_some, Option.map_some, Option.map_none, Option.bind_some, Option.bind_none, Option.getD_none,
  fld_ins, isi_non, cl_int_non, cl_bool_non, cl_str_non, cl_tuple_non, cl_list_non, cl_dict_non, cl_own_non, notNon_non, isi_bl, cl_int_bl, cl_bool_bl, cl_str_bl, cl_tuple_bl, cl_list_bl, cl_dict_bl, cl_own_bl, notNon_bl, isi_int, cl_int_int, cl_bool_int, cl_str_int, cl_tuple_int, cl_list_int, cl_dict_int, cl_own_int, notNon_int, isi_str, cl_int_str, cl_bool_str, cl_str_str, cl_tuple_str, cl_list_str, cl_dict_str, cl_own_str, notNon_str, isi_tup, cl_int_tup, cl_bool_tup, cl_str_tup, cl_tuple_tup, cl_list_tup, cl_dict_tup, cl_own_tup, notNon_tup, isi_lst, cl_int_lst, cl_bool_lst, cl_str_lst, cl_tuple_lst, cl_list_lst, cl_dict_lst, cl_own_lst, notNon_lst, isi_dct, cl_int_dct, cl_bool_dct, cl_str_dct, cl_tuple_dct, cl_list_dct, cl_dict_dct, cl_own_dct, notNon_dct, isi_ins, cl_own_ins, notNon_ins, truth_non, truth_bl, truth_int, truth_tup, truth_lst, walk_tup, walk_lst, walk_scr, walk_str, seq_tup, seq_lst, frz_lst, frz_dct, frz_ins, ofrz_v, ofrz_o, oslot_v, oslot_o, keep_v, keep_o, keep_u, setsS_nil, setsS_cons, isLst_l, isIns_i, noField_i, mm_app, mm_popF, set_lst, set_dct, sf_ins, sl_tup, sl_lst, ress_nil, ress_cons,
  Bm.ok, all, List.any_cons, List.any_nil, List.contains_cons, List.contains_nil, Option.isSome_some, lookF, putF, wipeS, backS,
  List.getElem?_cons_zero, List.getElem?_cons_succ, List.length_cons, List.length_nil, List.map_cons, List.map_nil, List.replicate_zero, List.replicate_succ, List.cons_append, List.nil_append, List.set_cons_zero, List.set_cons_succ, List.getElem?_nil, Nat.reduceAdd, Nat.reduceSub, Nat.reduceLeDiff, Nat.reduceLT, Nat.reduceEqDiff, big, Int.cast_ofNat_Int, Int.reduceLE, Int.reduceLT, Int.reduceNeg, Int.reduceAdd, Int.reduceSub, Int.reduceMul, Int.reducePow, Int.reduceAbs, Int.reduceToNat, Int.reduceEq, Int.reduceDiv, Int.reduceMod, upTo, ↓lcH_nil, ↓lcH_cons,
  ok_60, okAt_int, okAt_bl, okAt_str, okAt_non, okAt_tup, okAt_lst, okAts_nil, okAts_cons, okAts_mapI, okAts_mapS, okAts_mapB, Bool.and_true, Bool.true_and, Bool.and_false, Bool.false_and, Bool.or_true, Bool.true_or, Bool.or_false, Bool.false_or, Bool.not_true, Bool.not_false, Bool.not_not, Bool.false_eq_true, if_true, if_false, ↓reduceIte, decide_true, decide_false, decide_eq_true_eq, eq_self, true_and, and_true, and_self, ofString_inj, String.reduceEq,
  eqD_int, eqD_str, eqD_bl, eqD_tup, eqD_lst, eqD_nn, eqD_nt, eqD_tn, eqD_si, eqD_is, eqD_st, eqD_ts, eqD_ti, eqD_it, eqD_tl, eqD_lt, eqDs_nil, eqDs_cons, eqDs_nc, eqDs_cn, eqDs_strs, eqDs_ints, any_strs,
  atI_0, atI_1, atI_2, atI_3, atI_4, ix_tup, ix_lst, ix_dctS, getD_cons, putD_cons, putD_nil, keyFits_str, keyFits_int, isSome_keyAt, isSome_keyAt0, mergeD,
  cmp_eq, cmp_ne, cmp_in_tup, cmp_in_lst, cmp_nin_tup, cmp_nin_lst, cmp_in_dct, cmp_nin_dct, cmp_lt_int, cmp_gt_int, cmp_le_int, cmp_ge_int, cmp_is_non, cmp_isn_non, cmp_is_bl, cmp_isn_bl,
  add_int, sub_int, add_tup, add_lst, add_str, mul_int, mod_int, fdiv_int, pow_int, len_tup, len_lst, len_scr, abs_int, int_int, int_bl, max_int, min_int, list_tup, list_lst, tuple_tup, tuple_lst, all_bls, any_bls, lenset_strs, lenset_strsL, all_mapP, any_mapP, List.length_map])
local macro_rules | `(tactic| walk_at "hps") => `(tactic| simp (config := { dsimp := false, failIfUnchanged := false, implicitDefEqProofs := false }) only [↓xA_lit, ↓xA_bin, ↓xA_neg, ↓xA_cmp, ↓xA_chain, ↓xA_not_, ↓xA_and_, ↓xA_or_, ↓xA_ife, ↓xA_tup, ↓xA_lst, ↓xA_dct, ↓xA_ix, ↓xA_sl, ↓xA_rev, ↓xA_fld, ↓xA_prop, ↓xA_call, ↓xA_callp, ↓xA_meth, ↓xA_mk, ↓xA_alloc, ↓xA_bi, ↓xA_isi, ↓xA_rng, ↓xA_bm, ↓xA_mm, ↓xA_lc, ↓xA_dc, ↓xA_eqo, ↓xA_var, ↓xE_lit, ↓xE_var, ↓xE_bin, ↓xE_neg, ↓xE_cmp, ↓xT_cmp, ↓xE_chain, ↓xT_chain, ↓xE_not_, ↓xT_not_, ↓xE_and_, ↓xT_and_, ↓xE_or_, ↓xT_or_, ↓xE_ife, ↓xT_ife, ↓xE_tup, ↓xE_lst, ↓xE_dct, ↓xE_ix, ↓xE_sl, ↓xE_rev, ↓xE_fld, ↓xE_call, ↓xE_callp, ↓xE_meth, ↓xE_mk, ↓xE_prop, ↓xE_alloc, ↓xE_bi, ↓xE_isi, ↓xT_isi, ↓xE_eqo, ↓xT_eqo, ↓xE_rng, ↓xE_bm, ↓xE_mm, ↓xT_lit, ↓xT_bin, ↓xT_neg, ↓xT_tup, ↓xT_lst, ↓xT_dct, ↓xT_ix, ↓xT_sl, ↓xT_rev, ↓xT_fld, ↓xT_prop, ↓xT_call, ↓xT_callp, ↓xT_meth, ↓xT_mk, ↓xT_alloc, ↓xT_bi, ↓xT_rng, ↓xT_bm, ↓xT_mm, ↓xT_lc, ↓xT_dc, ↓xT_var, ↓xV_nil, ↓xO_nil, ↓xU_nil, ↓xV_cons, ↓xO_cons, ↓xU_cons, ↓xV_star, ↓xF_nil, ↓xF_one, ↓xP_nil, ↓xP_cons, ↓xN_nil, ↓xN_cons, ↓xI_seq, ↓xI_rng1, ↓xI_rng2, ↓xI_enum0, ↓xI_items, ↓xI_zip, ↓xB_nil, ↓xB_cons, ↓xS_asgN, ↓xS_asgT, ↓xS_par, ↓xS_setix, ↓xS_setfld, ↓xS_ex, ↓xS_retV, ↓xS_ret_lit, ↓xS_ret_bin, ↓xS_ret_neg, ↓xS_ret_cmp, ↓xS_ret_chain, ↓xS_ret_not_, ↓xS_ret_and_, ↓xS_ret_or_, ↓xS_ret_ife, ↓xS_ret_tup, ↓xS_ret_lst, ↓xS_ret_dct, ↓xS_ret_ix, ↓xS_ret_sl, ↓xS_ret_rev, ↓xS_ret_fld, ↓xS_ret_prop, ↓xS_ret_call, ↓xS_ret_callp, ↓xS_ret_meth, ↓xS_ret_mk, ↓xS_ret_alloc, ↓xS_ret_bi, ↓xS_ret_isi, ↓xS_ret_rng, ↓xS_ret_bm, ↓xS_ret_mm, ↓xS_ret_lc, ↓xS_ret_dc, ↓xS_ret_eqo, ↓xS_retn, ↓xS_ife, ↓xS_for, ↓xS_while, ↓xS_pass, ↓xS_brk, ↓xS_cont, ↓xS_raise, ↓xS_try, ↓xG_name, ↓xG_tup, ↓xGs_nil, ↓xGs_cons, ↓loopH_nil, ↓loopH_cons, ↓xE_lc1, ↓optH_s, ↓iteH_t, ↓iteH_f, ↓andH_t, goH_go, ↓onSlot_v, ↓onSlot_o, ↓onInt_i, ↓onBl_b, ↓onOwn_o, ↓onTup_t, ↓onTup_l, ↓onCons_c, ↓onDct_d, ↓onZip_l, ↓onZip_t, ↓callH_mk, pick, List.getD_cons_zero, List.getD_cons_succ, ↓callH_in, ↓upH_s, ↓upH_r,
  vres_v, vres_s, look_own, look_val, view_int, view_bl, view_str, view_non, view_tup, view_lst, view_scr, view_dct, view_ins, view_r0, view_r1, Option.getD_some, Option.map_some, Option.map_none, Option.bind_some, Option.bind_none, Option.getD_none,
  fld_ins, isi_non, cl_int_non, cl_bool_non, cl_str_non, cl_tuple_non, cl_list_non, cl_dict_non, cl_own_non, notNon_non, isi_bl, cl_int_bl, cl_bool_bl, cl_str_bl, cl_tuple_bl, cl_list_bl, cl_dict_bl, cl_own_bl, notNon_bl, isi_int, cl_int_int, cl_bool_int, cl_str_int, cl_tuple_int, cl_list_int, cl_dict_int, cl_own_int, notNon_int, isi_str, cl_int_str, cl_bool_str, cl_str_str, cl_tuple_str, cl_list_str, cl_dict_str, cl_own_str, notNon_str, isi_tup, cl_int_tup, cl_bool_tup, cl_str_tup, cl_tuple_tup, cl_list_tup, cl_dict_tup, cl_own_tup, notNon_tup, isi_lst, cl_int_lst, cl_bool_lst, cl_str_lst, cl_tuple_lst, cl_list_lst, cl_dict_lst, cl_own_lst, notNon_lst, isi_dct, cl_int_dct, cl_bool_dct, cl_str_dct, cl_tuple_dct, cl_list_dct, cl_dict_dct, cl_own_dct, notNon_dct, isi_ins, cl_own_ins, notNon_ins, truth_non, truth_bl, truth_int, truth_tup, truth_lst, walk_tup, walk_lst, walk_scr, walk_str, seq_tup, seq_lst, frz_lst, frz_dct, frz_ins, ofrz_v, ofrz_o, oslot_v, oslot_o, keep_v, keep_o, keep_u, setsS_nil, setsS_cons, isLst_l, isIns_i, noField_i, mm_app, mm_popF, set_lst, set_dct, sf_ins, sl_tup, sl_lst, ress_nil, ress_cons,
  Bm.ok, all, List.any_cons, List.any_nil, List.contains_cons, List.contains_nil, Option.isSome_some, lookF, putF, wipeS, backS,
  List.getElem?_cons_zero, List.getElem?_cons_succ, List.length_cons, List.length_nil, List.map_cons, List.map_nil, List.replicate_zero, List.replicate_succ, List.cons_append, List.nil_append, List.set_cons_zero, List.set_cons_succ, List.getElem?_nil, Nat.reduceAdd, Nat.reduceSub, Nat.reduceLeDiff, Nat.reduceLT, Nat.reduceEqDiff, big, Int.cast_ofNat_Int, Int.reduceLE, Int.reduceLT, Int.reduceNeg, Int.reduceAdd, Int.reduceSub, Int.reduceMul, Int.reducePow, Int.reduceAbs, Int.reduceToNat, Int.reduceEq, Int.reduceDiv, Int.reduceMod, upTo, ↓lcH_nil, ↓lcH_cons,
  ok_60, okAt_int, okAt_bl, okAt_str, okAt_non, okAt_tup, okAt_lst, okAts_nil, okAts_cons, okAts_mapI, okAts_mapS, okAts_mapB, Bool.and_true, Bool.true_and, Bool.and_false, Bool.false_and, Bool.or_true, Bool.true_or, Bool.or_false, Bool.false_or, Bool.not_true, Bool.not_false, Bool.not_not, Bool.false_eq_true, if_true, if_false, ↓reduceIte, decide_true, decide_false, decide_eq_true_eq, eq_self, true_and, and_true, and_self, ofString_inj, String.reduceEq,
  eqD_int, eqD_str, eqD_bl, eqD_tup, eqD_lst, eqD_nn, eqD_nt, eqD_tn, eqD_si, eqD_is, eqD_st, eqD_ts, eqD_ti, eqD_it, eqD_tl, eqD_lt, eqDs_nil, eqDs_cons, eqDs_nc, eqDs_cn, eqDs_strs, eqDs_ints, any_strs,
  atI_0, atI_1, atI_2, atI_3, atI_4, ix_tup, ix_lst, ix_dctS, getD_cons, putD_cons, putD_nil, keyFits_str, keyFits_int, isSome_keyAt, isSome_keyAt0, mergeD,
  cmp_eq, cmp_ne, cmp_in_tup, cmp_in_lst, cmp_nin_tup, cmp_nin_lst, cmp_in_dct, cmp_nin_dct, cmp_lt_int, cmp_gt_int, cmp_le_int, cmp_ge_int, cmp_is_non, cmp_isn_non, cmp_is_bl, cmp_isn_bl,
  add_int, sub_int, add_tup, add_lst, add_str, mul_int, mod_int, fdiv_int, pow_int, len_tup, len_lst, len_scr, abs_int, int_int, int_bl, max_int, min_int, list_tup, list_lst, tuple_tup, tuple_lst, all_bls, any_bls, lenset_strs, lenset_strsL, all_mapP, any_mapP, List.length_map, *])
local macro_rules | `(tactic| walk_at "lif") => `(tactic| (rw [if_pos]; rotate_left; (simp (config := { failIfUnchanged := false }) only [List.length_append, List.length_map, List.length_cons, List.length_nil, List.length_set, List.length_take, List.length_drop, List.length_range, big]; omega)))
local macro_rules | `(tactic| walk_at "len") => `(tactic| (rw [iteH_yes (p := _ ≤ _)]; rotate_left; (simp (config := { failIfUnchanged := false }) only [List.length_append, List.length_map, List.length_cons, List.length_nil, List.length_set, List.length_take, List.length_drop, List.length_range]; omega)))
/-- the draws' two things in front of the store -/
abbrev drs (great cells : List Int) (rest turn : Int) (m : Store) : Store := .lst (great.map .int) :: .dct [.str "great", .str "rest", .str "cells", .str "turn"] [.ref 0, .int rest, .lst (cells.map .int), .int turn] :: m
def Draws (s m : Store) : Prop := ∃ great cells rest turn, s = drs great cells rest turn m

theorem blend_loop1 {s : Store} {r t f p : Int} {N : QN} {P : Rst} {h : Hd N} {h2 : Hd P} {d0 : D} (hp : 0 < p) : ∀ (cells : List Int) (b : Int) (sl : Slot), 0 ≤ b → b < p →
    (∀ b sl, 0 ≤ b → b < p → N [.val d0, .val (.int t), .val (.int f), .val (.int p), .val (.int b), sl] s) →
    loopH (.name 5) l__law_blend_1 (cells.map .int) [.val d0, .val (.int t), .val (.int f), .val (.int p), .val (.int b), sl] s N P h h2
  | [], b, sl, h1, h3, hN => hN b sl h1 h3
  | c :: cs, b, sl, h1, h3, hN => by
    rw [List.map_cons, loopH_cons]
    unfold l__law_blend_1
    walk_at "hps"
    exact blend_loop1 (r := r) hp cs _ _ (Int.emod_nonneg _ (by omega)) (Int.emod_lt_of_pos _ hp) hN
theorem blend_turn {great cells : List Int} {rest turn : Int} {m : Store} {N : QN} {P : Rst} {h : Hd N} {h2 : Hd P} {t f p : Int} {s4 s5 : Slot} (hp : 0 < p) (hp2 : p < 4294967296)
    (hN : ∀ f s3 s4 s5, N [.val (.ref 1), .val (.int t), .val (.int f), s3, s4, s5] (drs great cells rest turn m)) :
    xB l__law_blend_2 [.val (.ref 1), .val (.int t), .val (.int f), .val (.int p), s4, s5] (drs great cells rest turn m) N P h h2 := by
  unfold l__law_blend_2
  walk_at "hps"
  with_reducible refine blend_loop1 (r := 0) hp _ _ _ (Int.emod_nonneg _ (by omega)) (Int.emod_lt_of_pos _ hp) fun b sl h1 h3 => ?_
  have e : b.natAbs < 18446744073709551616 := by omega
  walk_at "hps"
theorem blend_spec {great cells : List Int} {rest turn : Int} {m : Store} {Q : Out → Store → Prop} {X : Exc → Store → Prop} {h : Hd Q} {h2 : Hd X} (hQ : ∀ i turn, Q (.val (.int i)) (drs great cells rest turn m)) : callH g__law_blend [.ref 1] (drs great cells rest turn m) Q X h h2 := by
  unfold g__law_blend b__law_blend
  walk_at "hp"
  with_reducible refine blend_turn (by decide) (by decide) fun f s3 s4 s5 => ?_
  walk_at "hp"
  with_reducible refine blend_turn (by decide) (by decide) fun f s3 s4 s5 => ?_
  walk_at "hp"
  with_reducible refine blend_turn (by decide) (by decide) fun f s3 s4 s5 => ?_
  walk_at "hp"
  with_reducible refine blend_turn (by decide) (by decide) fun f s3 s4 s5 => ?_
  walk_at "hp"
  exact hQ _ _
/-- one number is drawn -/
theorem take_spec {s m : Store} {n : Int} {Q : Out → Store → Prop} {X : Exc → Store → Prop} {h : Hd Q} {h2 : Hd X} (hs : Draws s m) (h0 : 0 < n) (h1 : n < 18446744073709551616) (hQ : ∀ i s, 0 ≤ i → i < n → Draws s m → Q (.val (.int i)) s) :
    callH g__law_take [.ref 1, .int n] s Q X h h2 := by
  obtain ⟨great, cells, rest, turn, rfl⟩ := hs
  unfold g__law_take b__law_take
  have fin : ∀ (great cells : List Int) (rest turn : Int), Q (.val (.int (rest % n))) (drs great cells (rest / n) turn m) := fun great cells rest turn => hQ _ _ (Int.emod_nonneg _ (by omega)) (Int.emod_lt_of_pos _ h0) ⟨_, _, _, _, rfl⟩
  clear hQ
  by_cases h3 : rest = 0
  · cases great with
    | nil =>
      walk_at "hps"
      with_reducible refine blend_spec fun i turn => ?_
      walk_at "hps"
      exact fin [] _ _ _
    | cons g gs =>
      by_cases h4 : g = 0
      · walk_at "hps"
        with_reducible refine blend_spec fun i turn => ?_
        walk_at "hps"
      · walk_at "hps"
  · walk_at "hps"
/-- the beginning of the draws -/
theorem begin_spec {ns : List Int} {Q : Out → Store → Prop} {X : Exc → Store → Prop} {h : Hd Q} {h2 : Hd X} (hl : ns.length ≤ 63) (hQ : ∀ s, Draws s [] → Q (.val (.ref 1)) s) : callH g__law_begin [.scr (ns.map .int)] [] Q X h h2 := by
  unfold g__law_begin b__law_begin
  walk_at "hp"
  rw [lc_fm (fun x : Int => decide ((10 : Int) ^ 18 ≤ if x < 0 then -x else x)) (fun x : Int => D.int ((if x < 0 then -x else x) - 10 ^ 18)) (fun x K => by walk_at "hp") (fun x K _ => by walk_at "hp") (by unfold big; omega)]
  walk_at "hp"
  rw [lc_map (fun x : Int => D.int (if x < 0 then -x else x)) (fun x K => by walk_at "hp") (by unfold big; omega)]
  walk_at "hp"
  refine hQ _ ⟨((ns.filter (fun x : Int => decide ((10 : Int) ^ 18 ≤ if x < 0 then -x else x))).map (fun x : Int => (if x < 0 then -x else x) - 10 ^ 18)), ns.map (fun x : Int => if x < 0 then -x else x), 0, 0, ?_⟩
  rw [drs, List.map_map, List.map_map]
  rfl
end HP

set_option maxHeartbeats 600000
namespace HP
open PySem
/-! P1: records, rules, their joins. -/
structure Rec where
  t : Int
  d : Bool
  p : Int
  s : Int
deriving DecidableEq
def Rec.D (r : Rec) : HP.D := .tup [.int r.t, .bl r.d, .int r.p, .int r.s]
structure RuleM where
  order : List Str
  kept : List Str
  slack : Int
  raises : List Str
def RuleM.D (r : RuleM) : HP.D := .ins "Rule" ["own_order", "own_kept", "own_slack", "own_raises"] [.tup (r.order.map .str), .tup (r.kept.map .str), .int r.slack, .tup (r.raises.map .str)]
theorem rec_view (s : Store) (r : Rec) : view s r.D = r.D := rfl
theorem rec_ok (n : Nat) (r : Rec) : okAt (n + 1) r.D = true := by simp only [Rec.D, okAt_tup, okAts_cons, okAts_nil, okAt_int, okAt_bl, Bool.and_self]
theorem rec_eq (a b : Rec) : eqD a.D b.D = decide (a = b) := by
  cases a; cases b
  simp only [Rec.D, eqD_tup, eqDs_cons, eqDs_nil, eqD_int, eqD_bl, Rec.mk.injEq, Bool.and_true]
  rw [Bool.eq_iff_iff]; simp
theorem rec_tup (r : Rec) (k : List HP.D → Prop) (h : Hd k) : onTup r.D k h = k [.int r.t, .bl r.d, .int r.p, .int r.s] := rfl
theorem rec_ix0 (r : Rec) : ixSem r.D (.int 0) = some (.int r.t) := rfl
theorem rec_ix1 (r : Rec) : ixSem r.D (.int 1) = some (.bl r.d) := rfl
theorem rec_ix2 (r : Rec) : ixSem r.D (.int 2) = some (.int r.p) := rfl
theorem rec_ix3 (r : Rec) : ixSem r.D (.int 3) = some (.int r.s) := rfl
theorem rule_view (s : Store) (r : RuleM) : view s r.D = r.D := rfl
theorem rule_f0 (r : RuleM) : fldSem "Rule" "own_order" r.D = some (.tup (r.order.map .str)) := by simp [fldSem, RuleM.D, lookF, ofString_inj]
theorem rule_f1 (r : RuleM) : fldSem "Rule" "own_kept" r.D = some (.tup (r.kept.map .str)) := by simp [fldSem, RuleM.D, lookF, ofString_inj]
theorem rule_f2 (r : RuleM) : fldSem "Rule" "own_slack" r.D = some (.int r.slack) := by simp [fldSem, RuleM.D, lookF, ofString_inj]
theorem rule_f3 (r : RuleM) : fldSem "Rule" "own_raises" r.D = some (.tup (r.raises.map .str)) := by simp [fldSem, RuleM.D, lookF, ofString_inj]
local macro_rules | `(tactic| walk_at "hp") => `(tactic| simp (config := { dsimp := false, failIfUnchanged := false, implicitDefEqProofs := false }) only [↓xA_lit, ↓xA_bin, ↓xA_neg, ↓xA_cmp, ↓xA_chain, ↓xA_not_, ↓xA_and_, ↓xA_or_, ↓xA_ife, ↓xA_tup, ↓xA_lst, ↓xA_dct, ↓xA_ix, ↓xA_sl, ↓xA_rev, ↓xA_fld, ↓xA_prop, ↓xA_call, ↓xA_callp, ↓xA_meth, ↓xA_mk, ↓xA_alloc, ↓xA_bi, ↓xA_isi, ↓xA_rng, ↓xA_bm, ↓xA_mm, ↓xA_lc, ↓xA_dc, ↓xA_eqo, ↓xA_var, ↓xE_lit, ↓xE_var, ↓xE_bin, ↓xE_neg, ↓xE_cmp, ↓xT_cmp, ↓xE_chain, ↓xT_chain, ↓xE_not_, ↓xT_not_, ↓xE_and_, ↓xT_and_, ↓xE_or_, ↓xT_or_, ↓xE_ife, ↓xT_ife, ↓xE_tup, ↓xE_lst, ↓xE_dct, ↓xE_ix, ↓xE_sl, ↓xE_rev, ↓xE_fld, ↓xE_call, ↓xE_callp, ↓xE_meth, ↓xE_mk, ↓xE_prop, ↓xE_alloc, ↓xE_bi, ↓xE_isi, ↓xT_isi, ↓xE_eqo, ↓xT_eqo, ↓xE_rng, ↓xE_bm, ↓xE_mm, ↓xT_lit, ↓xT_bin, ↓xT_neg, ↓xT_tup, ↓xT_lst, ↓xT_dct, ↓xT_ix, ↓xT_sl, ↓xT_rev, ↓xT_fld, ↓xT_prop, ↓xT_call, ↓xT_callp, ↓xT_meth, ↓xT_mk, ↓xT_alloc, ↓xT_bi, ↓xT_rng, ↓xT_bm, ↓xT_mm, ↓xT_lc, ↓xT_dc, ↓xT_var, ↓xV_nil, ↓xO_nil, ↓xU_nil, ↓xV_cons, ↓xO_cons, ↓xU_cons, ↓xV_star, ↓xF_nil, ↓xF_one, ↓xP_nil, ↓xP_cons, ↓xN_nil, ↓xN_cons, ↓xI_seq, ↓xI_rng1, ↓xI_rng2, ↓xI_enum0, ↓xI_items, ↓xI_zip, ↓xB_nil, ↓xB_cons, ↓xS_asgN, ↓xS_asgT, ↓xS_par, ↓xS_setix, ↓xS_setfld, ↓xS_ex, ↓xS_retV, ↓xS_ret_lit, ↓xS_ret_bin, ↓xS_ret_neg, ↓xS_ret_cmp, ↓xS_ret_chain, ↓xS_ret_not_, ↓xS_ret_and_, ↓xS_ret_or_, ↓xS_ret_ife, ↓xS_ret_tup, ↓xS_ret_lst, ↓xS_ret_dct, ↓xS_ret_ix, ↓xS_ret_sl, ↓xS_ret_rev, ↓xS_ret_fld, ↓xS_ret_prop, ↓xS_ret_call, ↓xS_ret_callp, ↓xS_ret_meth, ↓xS_ret_mk, ↓xS_ret_alloc, ↓xS_ret_bi, ↓xS_ret_isi, ↓xS_ret_rng, ↓xS_ret_bm, ↓xS_ret_mm, ↓xS_ret_lc, ↓xS_ret_dc, ↓xS_ret_eqo, ↓xS_retn, ↓xS_ife, ↓xS_for, ↓xS_while, ↓xS_pass, ↓xS_brk, ↓xS_cont, ↓xS_raise, ↓xS_try, ↓xG_name, ↓xG_tup, ↓xGs_nil, ↓xGs_cons, ↓loopH_nil, ↓loopH_cons, ↓xE_lc1, ↓optH_s, ↓iteH_t, ↓iteH_f, ↓andH_t, goH_go, ↓onSlot_v, ↓onSlot_o, ↓onInt_i, ↓onBl_b, ↓onOwn_o, ↓onTup_t, ↓onTup_l, ↓onCons_c, ↓onDct_d, ↓onZip_l, ↓onZip_t, ↓callH_mk, pick, List.getD_cons_zero, List.getD_cons_succ, ↓callH_in, ↓upH_s, ↓upH_r,
  vres_v, vres_s, look_own, look_val, view_int, view_bl, view_str, view_non, view_tup, view_lst, view_scr, view_dct, view_ins, view_r0, view_r1, Option.getD_some, Option.map_some, Option.map_none, Option.bind_some, Option.bind_none, Option.getD_none,
  fld_ins, isi_non, cl_int_non, cl_bool_non, cl_str_non, cl_tuple_non, cl_list_non, cl_dict_non, cl_own_non, notNon_non, isi_bl, cl_int_bl, cl_bool_bl, cl_str_bl, cl_tuple_bl, cl_list_bl, cl_dict_bl, cl_own_bl, notNon_bl, isi_int, cl_int_int, cl_bool_int, cl_str_int, cl_tuple_int, cl_list_int, cl_dict_int, cl_own_int, notNon_int, isi_str, cl_int_str, cl_bool_str, cl_str_str, cl_tuple_str, cl_list_str, cl_dict_str, cl_own_str, notNon_str, isi_tup, cl_int_tup, cl_bool_tup, cl_str_tup, cl_tuple_tup, cl_list_tup, cl_dict_tup, cl_own_tup, notNon_tup, isi_lst, cl_int_lst, cl_bool_lst, cl_str_lst, cl_tuple_lst, cl_list_lst, cl_dict_lst, cl_own_lst, notNon_lst, isi_dct, cl_int_dct, cl_bool_dct, cl_str_dct, cl_tuple_dct, cl_list_dct, cl_dict_dct, cl_own_dct, notNon_dct, isi_ins, cl_own_ins, notNon_ins, truth_non, truth_bl, truth_int, truth_tup, truth_lst, walk_tup, walk_lst, walk_scr, walk_str, seq_tup, seq_lst, frz_lst, frz_dct, frz_ins, ofrz_v, ofrz_o, oslot_v, oslot_o, keep_v, keep_o, keep_u, setsS_nil, setsS_cons, isLst_l, isIns_i, noField_i, mm_app, mm_popF, set_lst, set_dct, sf_ins, sl_tup, sl_lst, ress_nil, ress_cons,
  Bm.ok, all, List.any_cons, List.any_nil, List.contains_cons, List.contains_nil, Option.isSome_some, lookF, putF, wipeS, backS,
  List.getElem?_cons_zero, List.getElem?_cons_succ, List.length_cons, List.length_nil, List.map_cons, List.map_nil, List.replicate_zero, List.replicate_succ, List.cons_append, List.nil_append, List.set_cons_zero, List.set_cons_succ, List.getElem?_nil, Nat.reduceAdd, Nat.reduceSub, Nat.reduceLeDiff, Nat.reduceLT, Nat.reduceEqDiff, big, Int.cast_ofNat_Int, Int.reduceLE, Int.reduceLT, Int.reduceNeg, Int.reduceAdd, Int.reduceSub, Int.reduceMul, Int.reducePow, Int.reduceAbs, Int.reduceToNat, Int.reduceEq, Int.reduceDiv, Int.reduceMod, upTo, ↓lcH_nil, ↓lcH_cons,
  ok_60, okAt_int, okAt_bl, okAt_str, okAt_non, okAt_tup, okAt_lst, okAts_nil, okAts_cons, okAts_mapI, okAts_mapS, okAts_mapB, Bool.and_true, Bool.true_and, Bool.and_false, Bool.false_and, Bool.or_true, Bool.true_or, Bool.or_false, Bool.false_or, Bool.not_true, Bool.not_false, Bool.not_not, Bool.false_eq_true, if_true, if_false, ↓reduceIte, decide_true, decide_false, decide_eq_true_eq, eq_self, true_and, and_true, and_self, ofString_inj, String.reduceEq,
  eqD_int, eqD_str, eqD_bl, eqD_tup, eqD_lst, eqD_nn, eqD_nt, eqD_tn, eqD_si, eqD_is, eqD_st, eqD_ts, eqD_ti, eqD_it, eqD_tl, eqD_lt, eqDs_nil, eqDs_cons, eqDs_nc, eqDs_cn, eqDs_strs, eqDs_ints, any_strs,
  atI_0, atI_1, atI_2, atI_3, atI_4, ix_tup, ix_lst, ix_dctS, getD_cons, putD_cons, putD_nil, keyFits_str, keyFits_int, isSome_keyAt, isSome_keyAt0, mergeD,
  cmp_eq, cmp_ne, cmp_in_tup, cmp_in_lst, cmp_nin_tup, cmp_nin_lst, cmp_in_dct, cmp_nin_dct, cmp_lt_int, cmp_gt_int, cmp_le_int, cmp_ge_int, cmp_is_non, cmp_isn_non, cmp_is_bl, cmp_isn_bl,
  add_int, sub_int, add_tup, add_lst, add_str, mul_int, mod_int, fdiv_int, pow_int, len_tup, len_lst, len_scr, abs_int, int_int, int_bl, max_int, min_int, list_tup, list_lst, tuple_tup, tuple_lst, all_bls, any_bls, lenset_strs, lenset_strsL, all_mapP, any_mapP, List.length_map, rec_view, rec_ok, rec_eq, ↓rec_tup, rec_ix0, rec_ix1, rec_ix2, rec_ix3, rule_view, rule_f0, rule_f1, rule_f2, rule_f3])
local macro_rules | `(tactic| walk_at "hps") => `(tactic| simp (config := { dsimp := false, failIfUnchanged := false, implicitDefEqProofs := false }) only [↓xA_lit, ↓xA_bin, ↓xA_neg, ↓xA_cmp, ↓xA_chain, ↓xA_not_, ↓xA_and_, ↓xA_or_, ↓xA_ife, ↓xA_tup, ↓xA_lst, ↓xA_dct, ↓xA_ix, ↓xA_sl, ↓xA_rev, ↓xA_fld, ↓xA_prop, ↓xA_call, ↓xA_callp, ↓xA_meth, ↓xA_mk, ↓xA_alloc, ↓xA_bi, ↓xA_isi, ↓xA_rng, ↓xA_bm, ↓xA_mm, ↓xA_lc, ↓xA_dc, ↓xA_eqo, ↓xA_var, ↓xE_lit, ↓xE_var, ↓xE_bin, ↓xE_neg, ↓xE_cmp, ↓xT_cmp, ↓xE_chain, ↓xT_chain, ↓xE_not_, ↓xT_not_, ↓xE_and_, ↓xT_and_, ↓xE_or_, ↓xT_or_, ↓xE_ife, ↓xT_ife, ↓xE_tup, ↓xE_lst, ↓xE_dct, ↓xE_ix, ↓xE_sl, ↓xE_rev, ↓xE_fld, ↓xE_call, ↓xE_callp, ↓xE_meth, ↓xE_mk, ↓xE_prop, ↓xE_alloc, ↓xE_bi, ↓xE_isi, ↓xT_isi, ↓xE_eqo, ↓xT_eqo, ↓xE_rng, ↓xE_bm, ↓xE_mm, ↓xT_lit, ↓xT_bin, ↓xT_neg, ↓xT_tup, ↓xT_lst, ↓xT_dct, ↓xT_ix, ↓xT_sl, ↓xT_rev, ↓xT_fld, ↓xT_prop, ↓xT_call, ↓xT_callp, ↓xT_meth, ↓xT_mk, ↓xT_alloc, ↓xT_bi, ↓xT_rng, ↓xT_bm, ↓xT_mm, ↓xT_lc, ↓xT_dc, ↓xT_var, ↓xV_nil, ↓xO_nil, ↓xU_nil, ↓xV_cons, ↓xO_cons, ↓xU_cons, ↓xV_star, ↓xF_nil, ↓xF_one, ↓xP_nil, ↓xP_cons, ↓xN_nil, ↓xN_cons, ↓xI_seq, ↓xI_rng1, ↓xI_rng2, ↓xI_enum0, ↓xI_items, ↓xI_zip, ↓xB_nil, ↓xB_cons, ↓xS_asgN, ↓xS_asgT, ↓xS_par, ↓xS_setix, ↓xS_setfld, ↓xS_ex, ↓xS_retV, ↓xS_ret_lit, ↓xS_ret_bin, ↓xS_ret_neg, ↓xS_ret_cmp, ↓xS_ret_chain, ↓xS_ret_not_, ↓xS_ret_and_, ↓xS_ret_or_, ↓xS_ret_ife, ↓xS_ret_tup, ↓xS_ret_lst, ↓xS_ret_dct, ↓xS_ret_ix, ↓xS_ret_sl, ↓xS_ret_rev, ↓xS_ret_fld, ↓xS_ret_prop, ↓xS_ret_call, ↓xS_ret_callp, ↓xS_ret_meth, ↓xS_ret_mk, ↓xS_ret_alloc, ↓xS_ret_bi, ↓xS_ret_isi, ↓xS_ret_rng, ↓xS_ret_bm, ↓xS_ret_mm, ↓xS_ret_lc, ↓xS_ret_dc, ↓xS_ret_eqo, ↓xS_retn, ↓xS_ife, ↓xS_for, ↓xS_while, ↓xS_pass, ↓xS_brk, ↓xS_cont, ↓xS_raise, ↓xS_try, ↓xG_name, ↓xG_tup, ↓xGs_nil, ↓xGs_cons, ↓loopH_nil, ↓loopH_cons, ↓xE_lc1, ↓optH_s, ↓iteH_t, ↓iteH_f, ↓andH_t, goH_go, ↓onSlot_v, ↓onSlot_o, ↓onInt_i, ↓onBl_b, ↓onOwn_o, ↓onTup_t, ↓onTup_l, ↓onCons_c, ↓onDct_d, ↓onZip_l, ↓onZip_t, ↓callH_mk, pick, List.getD_cons_zero, List.getD_cons_succ, ↓callH_in, ↓upH_s, ↓upH_r,
  vres_v, vres_s, look_own, look_val, view_int, view_bl, view_str, view_non, view_tup, view_lst, view_scr, view_dct, view_ins, view_r0, view_r1, Option.getD_some, Option.map_some, Option.map_none, Option.bind_some, Option.bind_none, Option.getD_none,
  fld_ins, isi_non, cl_int_non, cl_bool_non, cl_str_non, cl_tuple_non, cl_list_non, cl_dict_non, cl_own_non, notNon_non, isi_bl, cl_int_bl, cl_bool_bl, cl_str_bl, cl_tuple_bl, cl_list_bl, cl_dict_bl, cl_own_bl, notNon_bl, isi_int, cl_int_int, cl_bool_int, cl_str_int, cl_tuple_int, cl_list_int, cl_dict_int, cl_own_int, notNon_int, isi_str, cl_int_str, cl_bool_str, cl_str_str, cl_tuple_str, cl_list_str, cl_dict_str, cl_own_str, notNon_str, isi_tup, cl_int_tup, cl_bool_tup, cl_str_tup, cl_tuple_tup, cl_list_tup, cl_dict_tup, cl_own_tup, notNon_tup, isi_lst, cl_int_lst, cl_bool_lst, cl_str_lst, cl_tuple_lst, cl_list_lst, cl_dict_lst, cl_own_lst, notNon_lst, isi_dct, cl_int_dct, cl_bool_dct, cl_str_dct, cl_tuple_dct, cl_list_dct, cl_dict_dct, cl_own_dct, notNon_dct, isi_ins, cl_own_ins, notNon_ins, truth_non, truth_bl, truth_int, truth_tup, truth_lst, walk_tup, walk_lst, walk_scr, walk_str, seq_tup, seq_lst, frz_lst, frz_dct, frz_ins, ofrz_v, ofrz_o, oslot_v, oslot_o, keep_v, keep_o, keep_u, setsS_nil, setsS_cons, isLst_l, isIns_i, noField_i, mm_app, mm_popF, set_lst, set_dct, sf_ins, sl_tup, sl_lst, ress_nil, ress_cons,
  Bm.ok, all, List.any_cons, List.any_nil, List.contains_cons, List.contains_nil, Option.isSome_some, lookF, putF, wipeS, backS,
  List.getElem?_cons_zero, List.getElem?_cons_succ, List.length_cons, List.length_nil, List.map_cons, List.map_nil, List.replicate_zero, List.replicate_succ, List.cons_append, List.nil_append, List.set_cons_zero, List.set_cons_succ, List.getElem?_nil, Nat.reduceAdd, Nat.reduceSub, Nat.reduceLeDiff, Nat.reduceLT, Nat.reduceEqDiff, big, Int.cast_ofNat_Int, Int.reduceLE, Int.reduceLT, Int.reduceNeg, Int.reduceAdd, Int.reduceSub, Int.reduceMul, Int.reducePow, Int.reduceAbs, Int.reduceToNat, Int.reduceEq, Int.reduceDiv, Int.reduceMod, upTo, ↓lcH_nil, ↓lcH_cons,
  ok_60, okAt_int, okAt_bl, okAt_str, okAt_non, okAt_tup, okAt_lst, okAts_nil, okAts_cons, okAts_mapI, okAts_mapS, okAts_mapB, Bool.and_true, Bool.true_and, Bool.and_false, Bool.false_and, Bool.or_true, Bool.true_or, Bool.or_false, Bool.false_or, Bool.not_true, Bool.not_false, Bool.not_not, Bool.false_eq_true, if_true, if_false, ↓reduceIte, decide_true, decide_false, decide_eq_true_eq, eq_self, true_and, and_true, and_self, ofString_inj, String.reduceEq,
  eqD_int, eqD_str, eqD_bl, eqD_tup, eqD_lst, eqD_nn, eqD_nt, eqD_tn, eqD_si, eqD_is, eqD_st, eqD_ts, eqD_ti, eqD_it, eqD_tl, eqD_lt, eqDs_nil, eqDs_cons, eqDs_nc, eqDs_cn, eqDs_strs, eqDs_ints, any_strs,
  atI_0, atI_1, atI_2, atI_3, atI_4, ix_tup, ix_lst, ix_dctS, getD_cons, putD_cons, putD_nil, keyFits_str, keyFits_int, isSome_keyAt, isSome_keyAt0, mergeD,
  cmp_eq, cmp_ne, cmp_in_tup, cmp_in_lst, cmp_nin_tup, cmp_nin_lst, cmp_in_dct, cmp_nin_dct, cmp_lt_int, cmp_gt_int, cmp_le_int, cmp_ge_int, cmp_is_non, cmp_isn_non, cmp_is_bl, cmp_isn_bl,
  add_int, sub_int, add_tup, add_lst, add_str, mul_int, mod_int, fdiv_int, pow_int, len_tup, len_lst, len_scr, abs_int, int_int, int_bl, max_int, min_int, list_tup, list_lst, tuple_tup, tuple_lst, all_bls, any_bls, lenset_strs, lenset_strsL, all_mapP, any_mapP, List.length_map, rec_view, rec_ok, rec_eq, ↓rec_tup, rec_ix0, rec_ix1, rec_ix2, rec_ix3, rule_view, rule_f0, rule_f1, rule_f2, rule_f3, *])
local macro_rules | `(tactic| walk_at "lif") => `(tactic| (rw [if_pos]; rotate_left; (simp (config := { failIfUnchanged := false }) only [List.length_append, List.length_map, List.length_cons, List.length_nil, List.length_set, List.length_take, List.length_drop, List.length_range, big]; omega)))
local macro_rules | `(tactic| walk_at "len") => `(tactic| (rw [iteH_yes (p := _ ≤ _)]; rotate_left; (simp (config := { failIfUnchanged := false }) only [List.length_append, List.length_map, List.length_cons, List.length_nil, List.length_set, List.length_take, List.length_drop, List.length_range]; omega)))
def beatsM (r : RuleM) (key : Str) (a b : Rec) : Bool :=
  if key = "turn" then decide (b.t < a.t) else if key = "done" then a.d && !b.d else if key = "newest" then decide (b.s + r.slack < a.s) else decide (b.p < a.p)
/-- the greater of two records -/
def Rec.ltB (a b : Rec) : Bool := decide (a.t < b.t) || (decide (a.t = b.t) && ((!a.d && b.d) || ((a.d == b.d) && (decide (a.p < b.p) || (decide (a.p = b.p) && decide (a.s < b.s))))))
def maxR (a b : Rec) : Rec := if a.ltB b then b else a
theorem rec_lt (a b : Rec) : ltD a.D b.D = a.ltB b := by
  cases a with
  | mk t d p s =>
  cases b with
  | mk t2 d2 p2 s2 =>
  simp only [ltD, Rec.D, D.py, pys, PySem.W.dataLt_tuple, Rec.ltB]
  by_cases h1 : t = t2
  · subst h1
    rw [PySem.W.dataLt_all_yes rfl (by simp [PyData.eqv])]
    by_cases h2 : d = d2
    · subst h2
      rw [PySem.W.dataLt_all_yes rfl (by simp [PyData.eqv])]
      by_cases h3 : p = p2
      · subst h3
        rw [PySem.W.dataLt_all_yes rfl (by simp [PyData.eqv])]
        by_cases h4 : s = s2
        · subst h4
          rw [PySem.W.dataLt_all_yes rfl (by simp [PyData.eqv])]
          simp
          rfl
        · rw [PySem.W.dataLt_all_no rfl (by simp [PyData.eqv, h4]), PySem.W.dataLt_int]
          simp
      · rw [PySem.W.dataLt_all_no rfl (by simp [PyData.eqv, h3]), PySem.W.dataLt_int]
        simp [h3]
    · rw [PySem.W.dataLt_all_no rfl (by cases d <;> cases d2 <;> simp_all [PyData.eqv]), PySem.W.dataLt_bool]
      cases d <;> cases d2 <;> simp_all [PyProof.Rows.b2i]
  · rw [PySem.W.dataLt_all_no rfl (by simp [PyData.eqv, h1]), PySem.W.dataLt_int]
    simp [h1]
theorem rec_alike (a b : Rec) : PySem.W.alike a.D.py b.D.py = true := rfl
theorem rec_sortable (a b : Rec) : sortable [a.D, b.D] = true := by
  have h1 : ∀ r : Rec, notNon r.D = true := fun r => rfl
  have h2 : ∀ r : Rec, tupNe r.D = true := fun r => rfl
  simp only [sortable, List.all_cons, List.all_nil, rec_alike, ok_60, rec_ok 59, h1, h2, Bool.and_self, Bool.or_true, Bool.true_or]
theorem max_rec (a b : Rec) : biSem .max [.lst [a.D, b.D]] = some (.val (maxR a b).D) := by
  simp only [biSem, rec_sortable, if_true, maxL, List.foldl, rec_lt, maxR]
  cases a.ltB b <;> rfl
def strongM (r : RuleM) (a b : Rec) : List Str → Rec
  | [] => maxR a b
  | k :: ks => if beatsM r k a b then a else if beatsM r k b a then b else strongM r a b ks
def strong (r : RuleM) (a b : Rec) : Rec := strongM r a b r.order
local macro_rules | `(tactic| walk_at "hp") => `(tactic| simp (config := { dsimp := false, failIfUnchanged := false, implicitDefEqProofs := false }) only [↓xA_lit, ↓xA_bin, ↓xA_neg, ↓xA_cmp, ↓xA_chain, ↓xA_not_, ↓xA_and_, ↓xA_or_, ↓xA_ife, ↓xA_tup, ↓xA_lst, ↓xA_dct, ↓xA_ix, ↓xA_sl, ↓xA_rev, ↓xA_fld, ↓xA_prop, ↓xA_call, ↓xA_callp, ↓xA_meth, ↓xA_mk, ↓xA_alloc, ↓xA_bi, ↓xA_isi, ↓xA_rng, ↓xA_bm, ↓xA_mm, ↓xA_lc, ↓xA_dc, ↓xA_eqo, ↓xA_var, ↓xE_lit, ↓xE_var, ↓xE_bin, ↓xE_neg, ↓xE_cmp, ↓xT_cmp, ↓xE_chain, ↓xT_chain, ↓xE_not_, ↓xT_not_, ↓xE_and_, ↓xT_and_, ↓xE_or_, ↓xT_or_, ↓xE_ife, ↓xT_ife, ↓xE_tup, ↓xE_lst, ↓xE_dct, ↓xE_ix, ↓xE_sl, ↓xE_rev, ↓xE_fld, ↓xE_call, ↓xE_callp, ↓xE_meth, ↓xE_mk, ↓xE_prop, ↓xE_alloc, ↓xE_bi, ↓xE_isi, ↓xT_isi, ↓xE_eqo, ↓xT_eqo, ↓xE_rng, ↓xE_bm, ↓xE_mm, ↓xT_lit, ↓xT_bin, ↓xT_neg, ↓xT_tup, ↓xT_lst, ↓xT_dct, ↓xT_ix, ↓xT_sl, ↓xT_rev, ↓xT_fld, ↓xT_prop, ↓xT_call, ↓xT_callp, ↓xT_meth, ↓xT_mk, ↓xT_alloc, ↓xT_bi, ↓xT_rng, ↓xT_bm, ↓xT_mm, ↓xT_lc, ↓xT_dc, ↓xT_var, ↓xV_nil, ↓xO_nil, ↓xU_nil, ↓xV_cons, ↓xO_cons, ↓xU_cons, ↓xV_star, ↓xF_nil, ↓xF_one, ↓xP_nil, ↓xP_cons, ↓xN_nil, ↓xN_cons, ↓xI_seq, ↓xI_rng1, ↓xI_rng2, ↓xI_enum0, ↓xI_items, ↓xI_zip, ↓xB_nil, ↓xB_cons, ↓xS_asgN, ↓xS_asgT, ↓xS_par, ↓xS_setix, ↓xS_setfld, ↓xS_ex, ↓xS_retV, ↓xS_ret_lit, ↓xS_ret_bin, ↓xS_ret_neg, ↓xS_ret_cmp, ↓xS_ret_chain, ↓xS_ret_not_, ↓xS_ret_and_, ↓xS_ret_or_, ↓xS_ret_ife, ↓xS_ret_tup, ↓xS_ret_lst, ↓xS_ret_dct, ↓xS_ret_ix, ↓xS_ret_sl, ↓xS_ret_rev, ↓xS_ret_fld, ↓xS_ret_prop, ↓xS_ret_call, ↓xS_ret_callp, ↓xS_ret_meth, ↓xS_ret_mk, ↓xS_ret_alloc, ↓xS_ret_bi, ↓xS_ret_isi, ↓xS_ret_rng, ↓xS_ret_bm, ↓xS_ret_mm, ↓xS_ret_lc, ↓xS_ret_dc, ↓xS_ret_eqo, ↓xS_retn, ↓xS_ife, ↓xS_for, ↓xS_while, ↓xS_pass, ↓xS_brk, ↓xS_cont, ↓xS_raise, ↓xS_try, ↓xG_name, ↓xG_tup, ↓xGs_nil, ↓xGs_cons, ↓loopH_nil, ↓loopH_cons, ↓xE_lc1, ↓optH_s, ↓iteH_t, ↓iteH_f, ↓andH_t, goH_go, ↓onSlot_v, ↓onSlot_o, ↓onInt_i, ↓onBl_b, ↓onOwn_o, ↓onTup_t, ↓onTup_l, ↓onCons_c, ↓onDct_d, ↓onZip_l, ↓onZip_t, ↓callH_mk, pick, List.getD_cons_zero, List.getD_cons_succ, ↓callH_in, ↓upH_s, ↓upH_r,
  vres_v, vres_s, look_own, look_val, view_int, view_bl, view_str, view_non, view_tup, view_lst, view_scr, view_dct, view_ins, view_r0, view_r1, Option.getD_some, Option.map_some, Option.map_none, Option.bind_some, Option.bind_none, Option.getD_none,
  fld_ins, isi_non, cl_int_non, cl_bool_non, cl_str_non, cl_tuple_non, cl_list_non, cl_dict_non, cl_own_non, notNon_non, isi_bl, cl_int_bl, cl_bool_bl, cl_str_bl, cl_tuple_bl, cl_list_bl, cl_dict_bl, cl_own_bl, notNon_bl, isi_int, cl_int_int, cl_bool_int, cl_str_int, cl_tuple_int, cl_list_int, cl_dict_int, cl_own_int, notNon_int, isi_str, cl_int_str, cl_bool_str, cl_str_str, cl_tuple_str, cl_list_str, cl_dict_str, cl_own_str, notNon_str, isi_tup, cl_int_tup, cl_bool_tup, cl_str_tup, cl_tuple_tup, cl_list_tup, cl_dict_tup, cl_own_tup, notNon_tup, isi_lst, cl_int_lst, cl_bool_lst, cl_str_lst, cl_tuple_lst, cl_list_lst, cl_dict_lst, cl_own_lst, notNon_lst, isi_dct, cl_int_dct, cl_bool_dct, cl_str_dct, cl_tuple_dct, cl_list_dct, cl_dict_dct, cl_own_dct, notNon_dct, isi_ins, cl_own_ins, notNon_ins, truth_non, truth_bl, truth_int, truth_tup, truth_lst, walk_tup, walk_lst, walk_scr, walk_str, seq_tup, seq_lst, frz_lst, frz_dct, frz_ins, ofrz_v, ofrz_o, oslot_v, oslot_o, keep_v, keep_o, keep_u, setsS_nil, setsS_cons, isLst_l, isIns_i, noField_i, mm_app, mm_popF, set_lst, set_dct, sf_ins, sl_tup, sl_lst, ress_nil, ress_cons,
  Bm.ok, all, List.any_cons, List.any_nil, List.contains_cons, List.contains_nil, Option.isSome_some, lookF, putF, wipeS, backS,
  List.getElem?_cons_zero, List.getElem?_cons_succ, List.length_cons, List.length_nil, List.map_cons, List.map_nil, List.replicate_zero, List.replicate_succ, List.cons_append, List.nil_append, List.set_cons_zero, List.set_cons_succ, List.getElem?_nil, Nat.reduceAdd, Nat.reduceSub, Nat.reduceLeDiff, Nat.reduceLT, Nat.reduceEqDiff, big, Int.cast_ofNat_Int, Int.reduceLE, Int.reduceLT, Int.reduceNeg, Int.reduceAdd, Int.reduceSub, Int.reduceMul, Int.reducePow, Int.reduceAbs, Int.reduceToNat, Int.reduceEq, Int.reduceDiv, Int.reduceMod, upTo, ↓lcH_nil, ↓lcH_cons,
  ok_60, okAt_int, okAt_bl, okAt_str, okAt_non, okAt_tup, okAt_lst, okAts_nil, okAts_cons, okAts_mapI, okAts_mapS, okAts_mapB, Bool.and_true, Bool.true_and, Bool.and_false, Bool.false_and, Bool.or_true, Bool.true_or, Bool.or_false, Bool.false_or, Bool.not_true, Bool.not_false, Bool.not_not, Bool.false_eq_true, if_true, if_false, ↓reduceIte, decide_true, decide_false, decide_eq_true_eq, eq_self, true_and, and_true, and_self, ofString_inj, String.reduceEq,
  eqD_int, eqD_str, eqD_bl, eqD_tup, eqD_lst, eqD_nn, eqD_nt, eqD_tn, eqD_si, eqD_is, eqD_st, eqD_ts, eqD_ti, eqD_it, eqD_tl, eqD_lt, eqDs_nil, eqDs_cons, eqDs_nc, eqDs_cn, eqDs_strs, eqDs_ints, any_strs,
  atI_0, atI_1, atI_2, atI_3, atI_4, ix_tup, ix_lst, ix_dctS, getD_cons, putD_cons, putD_nil, keyFits_str, keyFits_int, isSome_keyAt, isSome_keyAt0, mergeD,
  cmp_eq, cmp_ne, cmp_in_tup, cmp_in_lst, cmp_nin_tup, cmp_nin_lst, cmp_in_dct, cmp_nin_dct, cmp_lt_int, cmp_gt_int, cmp_le_int, cmp_ge_int, cmp_is_non, cmp_isn_non, cmp_is_bl, cmp_isn_bl,
  add_int, sub_int, add_tup, add_lst, add_str, mul_int, mod_int, fdiv_int, pow_int, len_tup, len_lst, len_scr, abs_int, int_int, int_bl, max_int, min_int, list_tup, list_lst, tuple_tup, tuple_lst, all_bls, any_bls, lenset_strs, lenset_strsL, all_mapP, any_mapP, List.length_map, rec_view, rec_ok, rec_eq, ↓rec_tup, rec_ix0, rec_ix1, rec_ix2, rec_ix3, rule_view, rule_f0, rule_f1, rule_f2, rule_f3, max_rec])
local macro_rules | `(tactic| walk_at "hps") => `(tactic| simp (config := { dsimp := false, failIfUnchanged := false, implicitDefEqProofs := false }) only [↓xA_lit, ↓xA_bin, ↓xA_neg, ↓xA_cmp, ↓xA_chain, ↓xA_not_, ↓xA_and_, ↓xA_or_, ↓xA_ife, ↓xA_tup, ↓xA_lst, ↓xA_dct, ↓xA_ix, ↓xA_sl, ↓xA_rev, ↓xA_fld, ↓xA_prop, ↓xA_call, ↓xA_callp, ↓xA_meth, ↓xA_mk, ↓xA_alloc, ↓xA_bi, ↓xA_isi, ↓xA_rng, ↓xA_bm, ↓xA_mm, ↓xA_lc, ↓xA_dc, ↓xA_eqo, ↓xA_var, ↓xE_lit, ↓xE_var, ↓xE_bin, ↓xE_neg, ↓xE_cmp, ↓xT_cmp, ↓xE_chain, ↓xT_chain, ↓xE_not_, ↓xT_not_, ↓xE_and_, ↓xT_and_, ↓xE_or_, ↓xT_or_, ↓xE_ife, ↓xT_ife, ↓xE_tup, ↓xE_lst, ↓xE_dct, ↓xE_ix, ↓xE_sl, ↓xE_rev, ↓xE_fld, ↓xE_call, ↓xE_callp, ↓xE_meth, ↓xE_mk, ↓xE_prop, ↓xE_alloc, ↓xE_bi, ↓xE_isi, ↓xT_isi, ↓xE_eqo, ↓xT_eqo, ↓xE_rng, ↓xE_bm, ↓xE_mm, ↓xT_lit, ↓xT_bin, ↓xT_neg, ↓xT_tup, ↓xT_lst, ↓xT_dct, ↓xT_ix, ↓xT_sl, ↓xT_rev, ↓xT_fld, ↓xT_prop, ↓xT_call, ↓xT_callp, ↓xT_meth, ↓xT_mk, ↓xT_alloc, ↓xT_bi, ↓xT_rng, ↓xT_bm, ↓xT_mm, ↓xT_lc, ↓xT_dc, ↓xT_var, ↓xV_nil, ↓xO_nil, ↓xU_nil, ↓xV_cons, ↓xO_cons, ↓xU_cons, ↓xV_star, ↓xF_nil, ↓xF_one, ↓xP_nil, ↓xP_cons, ↓xN_nil, ↓xN_cons, ↓xI_seq, ↓xI_rng1, ↓xI_rng2, ↓xI_enum0, ↓xI_items, ↓xI_zip, ↓xB_nil, ↓xB_cons, ↓xS_asgN, ↓xS_asgT, ↓xS_par, ↓xS_setix, ↓xS_setfld, ↓xS_ex, ↓xS_retV, ↓xS_ret_lit, ↓xS_ret_bin, ↓xS_ret_neg, ↓xS_ret_cmp, ↓xS_ret_chain, ↓xS_ret_not_, ↓xS_ret_and_, ↓xS_ret_or_, ↓xS_ret_ife, ↓xS_ret_tup, ↓xS_ret_lst, ↓xS_ret_dct, ↓xS_ret_ix, ↓xS_ret_sl, ↓xS_ret_rev, ↓xS_ret_fld, ↓xS_ret_prop, ↓xS_ret_call, ↓xS_ret_callp, ↓xS_ret_meth, ↓xS_ret_mk, ↓xS_ret_alloc, ↓xS_ret_bi, ↓xS_ret_isi, ↓xS_ret_rng, ↓xS_ret_bm, ↓xS_ret_mm, ↓xS_ret_lc, ↓xS_ret_dc, ↓xS_ret_eqo, ↓xS_retn, ↓xS_ife, ↓xS_for, ↓xS_while, ↓xS_pass, ↓xS_brk, ↓xS_cont, ↓xS_raise, ↓xS_try, ↓xG_name, ↓xG_tup, ↓xGs_nil, ↓xGs_cons, ↓loopH_nil, ↓loopH_cons, ↓xE_lc1, ↓optH_s, ↓iteH_t, ↓iteH_f, ↓andH_t, goH_go, ↓onSlot_v, ↓onSlot_o, ↓onInt_i, ↓onBl_b, ↓onOwn_o, ↓onTup_t, ↓onTup_l, ↓onCons_c, ↓onDct_d, ↓onZip_l, ↓onZip_t, ↓callH_mk, pick, List.getD_cons_zero, List.getD_cons_succ, ↓callH_in, ↓upH_s, ↓upH_r,
  vres_v, vres_s, look_own, look_val, view_int, view_bl, view_str, view_non, view_tup, view_lst, view_scr, view_dct, view_ins, view_r0, view_r1, Option.getD_some, Option.map_some, Option.map_none, Option.bind_some, Option.bind_none, Option.getD_none,
  fld_ins, isi_non, cl_int_non, cl_bool_non, cl_str_non, cl_tuple_non, cl_list_non, cl_dict_non, cl_own_non, notNon_non, isi_bl, cl_int_bl, cl_bool_bl, cl_str_bl, cl_tuple_bl, cl_list_bl, cl_dict_bl, cl_own_bl, notNon_bl, isi_int, cl_int_int, cl_bool_int, cl_str_int, cl_tuple_int, cl_list_int, cl_dict_int, cl_own_int, notNon_int, isi_str, cl_int_str, cl_bool_str, cl_str_str, cl_tuple_str, cl_list_str, cl_dict_str, cl_own_str, notNon_str, isi_tup, cl_int_tup, cl_bool_tup, cl_str_tup, cl_tuple_tup, cl_list_tup, cl_dict_tup, cl_own_tup, notNon_tup, isi_lst, cl_int_lst, cl_bool_lst, cl_str_lst, cl_tuple_lst, cl_list_lst, cl_dict_lst, cl_own_lst, notNon_lst, isi_dct, cl_int_dct, cl_bool_dct, cl_str_dct, cl_tuple_dct, cl_list_dct, cl_dict_dct, cl_own_dct, notNon_dct, isi_ins, cl_own_ins, notNon_ins, truth_non, truth_bl, truth_int, truth_tup, truth_lst, walk_tup, walk_lst, walk_scr, walk_str, seq_tup, seq_lst, frz_lst, frz_dct, frz_ins, ofrz_v, ofrz_o, oslot_v, oslot_o, keep_v, keep_o, keep_u, setsS_nil, setsS_cons, isLst_l, isIns_i, noField_i, mm_app, mm_popF, set_lst, set_dct, sf_ins, sl_tup, sl_lst, ress_nil, ress_cons,
  Bm.ok, all, List.any_cons, List.any_nil, List.contains_cons, List.contains_nil, Option.isSome_some, lookF, putF, wipeS, backS,
  List.getElem?_cons_zero, List.getElem?_cons_succ, List.length_cons, List.length_nil, List.map_cons, List.map_nil, List.replicate_zero, List.replicate_succ, List.cons_append, List.nil_append, List.set_cons_zero, List.set_cons_succ, List.getElem?_nil, Nat.reduceAdd, Nat.reduceSub, Nat.reduceLeDiff, Nat.reduceLT, Nat.reduceEqDiff, big, Int.cast_ofNat_Int, Int.reduceLE, Int.reduceLT, Int.reduceNeg, Int.reduceAdd, Int.reduceSub, Int.reduceMul, Int.reducePow, Int.reduceAbs, Int.reduceToNat, Int.reduceEq, Int.reduceDiv, Int.reduceMod, upTo, ↓lcH_nil, ↓lcH_cons,
  ok_60, okAt_int, okAt_bl, okAt_str, okAt_non, okAt_tup, okAt_lst, okAts_nil, okAts_cons, okAts_mapI, okAts_mapS, okAts_mapB, Bool.and_true, Bool.true_and, Bool.and_false, Bool.false_and, Bool.or_true, Bool.true_or, Bool.or_false, Bool.false_or, Bool.not_true, Bool.not_false, Bool.not_not, Bool.false_eq_true, if_true, if_false, ↓reduceIte, decide_true, decide_false, decide_eq_true_eq, eq_self, true_and, and_true, and_self, ofString_inj, String.reduceEq,
  eqD_int, eqD_str, eqD_bl, eqD_tup, eqD_lst, eqD_nn, eqD_nt, eqD_tn, eqD_si, eqD_is, eqD_st, eqD_ts, eqD_ti, eqD_it, eqD_tl, eqD_lt, eqDs_nil, eqDs_cons, eqDs_nc, eqDs_cn, eqDs_strs, eqDs_ints, any_strs,
  atI_0, atI_1, atI_2, atI_3, atI_4, ix_tup, ix_lst, ix_dctS, getD_cons, putD_cons, putD_nil, keyFits_str, keyFits_int, isSome_keyAt, isSome_keyAt0, mergeD,
  cmp_eq, cmp_ne, cmp_in_tup, cmp_in_lst, cmp_nin_tup, cmp_nin_lst, cmp_in_dct, cmp_nin_dct, cmp_lt_int, cmp_gt_int, cmp_le_int, cmp_ge_int, cmp_is_non, cmp_isn_non, cmp_is_bl, cmp_isn_bl,
  add_int, sub_int, add_tup, add_lst, add_str, mul_int, mod_int, fdiv_int, pow_int, len_tup, len_lst, len_scr, abs_int, int_int, int_bl, max_int, min_int, list_tup, list_lst, tuple_tup, tuple_lst, all_bls, any_bls, lenset_strs, lenset_strsL, all_mapP, any_mapP, List.length_map, rec_view, rec_ok, rec_eq, ↓rec_tup, rec_ix0, rec_ix1, rec_ix2, rec_ix3, rule_view, rule_f0, rule_f1, rule_f2, rule_f3, max_rec, *])
local macro_rules | `(tactic| walk_at "lif") => `(tactic| (rw [if_pos]; rotate_left; (simp (config := { failIfUnchanged := false }) only [List.length_append, List.length_map, List.length_cons, List.length_nil, List.length_set, List.length_take, List.length_drop, List.length_range, big]; omega)))
local macro_rules | `(tactic| walk_at "len") => `(tactic| (rw [iteH_yes (p := _ ≤ _)]; rotate_left; (simp (config := { failIfUnchanged := false }) only [List.length_append, List.length_map, List.length_cons, List.length_nil, List.length_set, List.length_take, List.length_drop, List.length_range]; omega)))
def joinM (r : RuleM) (a b : Rec) : Rec :=
  let x := strong r a b
  if a.t = b.t then ⟨x.t, if r.kept.contains "done" then a.d || b.d else x.d, if r.kept.contains "place" then (if b.p > a.p then b.p else a.p) else x.p, if r.kept.contains "stamp" then (if b.s > a.s then b.s else a.s) else x.s⟩ else x
local macro_rules | `(tactic| walk_at "hp") => `(tactic| simp (config := { dsimp := false, failIfUnchanged := false, implicitDefEqProofs := false }) only [↓xA_lit, ↓xA_bin, ↓xA_neg, ↓xA_cmp, ↓xA_chain, ↓xA_not_, ↓xA_and_, ↓xA_or_, ↓xA_ife, ↓xA_tup, ↓xA_lst, ↓xA_dct, ↓xA_ix, ↓xA_sl, ↓xA_rev, ↓xA_fld, ↓xA_prop, ↓xA_call, ↓xA_callp, ↓xA_meth, ↓xA_mk, ↓xA_alloc, ↓xA_bi, ↓xA_isi, ↓xA_rng, ↓xA_bm, ↓xA_mm, ↓xA_lc, ↓xA_dc, ↓xA_eqo, ↓xA_var, ↓xE_lit, ↓xE_var, ↓xE_bin, ↓xE_neg, ↓xE_cmp, ↓xT_cmp, ↓xE_chain, ↓xT_chain, ↓xE_not_, ↓xT_not_, ↓xE_and_, ↓xT_and_, ↓xE_or_, ↓xT_or_, ↓xE_ife, ↓xT_ife, ↓xE_tup, ↓xE_lst, ↓xE_dct, ↓xE_ix, ↓xE_sl, ↓xE_rev, ↓xE_fld, ↓xE_call, ↓xE_callp, ↓xE_meth, ↓xE_mk, ↓xE_prop, ↓xE_alloc, ↓xE_bi, ↓xE_isi, ↓xT_isi, ↓xE_eqo, ↓xT_eqo, ↓xE_rng, ↓xE_bm, ↓xE_mm, ↓xT_lit, ↓xT_bin, ↓xT_neg, ↓xT_tup, ↓xT_lst, ↓xT_dct, ↓xT_ix, ↓xT_sl, ↓xT_rev, ↓xT_fld, ↓xT_prop, ↓xT_call, ↓xT_callp, ↓xT_meth, ↓xT_mk, ↓xT_alloc, ↓xT_bi, ↓xT_rng, ↓xT_bm, ↓xT_mm, ↓xT_lc, ↓xT_dc, ↓xT_var, ↓xV_nil, ↓xO_nil, ↓xU_nil, ↓xV_cons, ↓xO_cons, ↓xU_cons, ↓xV_star, ↓xF_nil, ↓xF_one, ↓xP_nil, ↓xP_cons, ↓xN_nil, ↓xN_cons, ↓xI_seq, ↓xI_rng1, ↓xI_rng2, ↓xI_enum0, ↓xI_items, ↓xI_zip, ↓xB_nil, ↓xB_cons, ↓xS_asgN, ↓xS_asgT, ↓xS_par, ↓xS_setix, ↓xS_setfld, ↓xS_ex, ↓xS_retV, ↓xS_ret_lit, ↓xS_ret_bin, ↓xS_ret_neg, ↓xS_ret_cmp, ↓xS_ret_chain, ↓xS_ret_not_, ↓xS_ret_and_, ↓xS_ret_or_, ↓xS_ret_ife, ↓xS_ret_tup, ↓xS_ret_lst, ↓xS_ret_dct, ↓xS_ret_ix, ↓xS_ret_sl, ↓xS_ret_rev, ↓xS_ret_fld, ↓xS_ret_prop, ↓xS_ret_call, ↓xS_ret_callp, ↓xS_ret_meth, ↓xS_ret_mk, ↓xS_ret_alloc, ↓xS_ret_bi, ↓xS_ret_isi, ↓xS_ret_rng, ↓xS_ret_bm, ↓xS_ret_mm, ↓xS_ret_lc, ↓xS_ret_dc, ↓xS_ret_eqo, ↓xS_retn, ↓xS_ife, ↓xS_for, ↓xS_while, ↓xS_pass, ↓xS_brk, ↓xS_cont, ↓xS_raise, ↓xS_try, ↓xG_name, ↓xG_tup, ↓xGs_nil, ↓xGs_cons, ↓loopH_nil, ↓loopH_cons, ↓xE_lc1, ↓optH_s, ↓iteH_t, ↓iteH_f, ↓andH_t, goH_go, ↓onSlot_v, ↓onSlot_o, ↓onInt_i, ↓onBl_b, ↓onOwn_o, ↓onTup_t, ↓onTup_l, ↓onCons_c, ↓onDct_d, ↓onZip_l, ↓onZip_t, ↓callH_mk, pick, List.getD_cons_zero, List.getD_cons_succ, ↓callH_in, ↓upH_s, ↓upH_r,
  vres_v, vres_s, look_own, look_val, view_int, view_bl, view_str, view_non, view_tup, view_lst, view_scr, view_dct, view_ins, view_r0, view_r1, Option.getD_some, Option.map_some, Option.map_none, Option.bind_some, Option.bind_none, Option.getD_none,
  fld_ins, isi_non, cl_int_non, cl_bool_non, cl_str_non, cl_tuple_non, cl_list_non, cl_dict_non, cl_own_non, notNon_non, isi_bl, cl_int_bl, cl_bool_bl, cl_str_bl, cl_tuple_bl, cl_list_bl, cl_dict_bl, cl_own_bl, notNon_bl, isi_int, cl_int_int, cl_bool_int, cl_str_int, cl_tuple_int, cl_list_int, cl_dict_int, cl_own_int, notNon_int, isi_str, cl_int_str, cl_bool_str, cl_str_str, cl_tuple_str, cl_list_str, cl_dict_str, cl_own_str, notNon_str, isi_tup, cl_int_tup, cl_bool_tup, cl_str_tup, cl_tuple_tup, cl_list_tup, cl_dict_tup, cl_own_tup, notNon_tup, isi_lst, cl_int_lst, cl_bool_lst, cl_str_lst, cl_tuple_lst, cl_list_lst, cl_dict_lst, cl_own_lst, notNon_lst, isi_dct, cl_int_dct, cl_bool_dct, cl_str_dct, cl_tuple_dct, cl_list_dct, cl_dict_dct, cl_own_dct, notNon_dct, isi_ins, cl_own_ins, notNon_ins, truth_non, truth_bl, truth_int, truth_tup, truth_lst, walk_tup, walk_lst, walk_scr, walk_str, seq_tup, seq_lst, frz_lst, frz_dct, frz_ins, ofrz_v, ofrz_o, oslot_v, oslot_o, keep_v, keep_o, keep_u, setsS_nil, setsS_cons, isLst_l, isIns_i, noField_i, mm_app, mm_popF, set_lst, set_dct, sf_ins, sl_tup, sl_lst, ress_nil, ress_cons,
  Bm.ok, all, List.any_cons, List.any_nil, List.contains_cons, List.contains_nil, Option.isSome_some, lookF, putF, wipeS, backS,
  List.getElem?_cons_zero, List.getElem?_cons_succ, List.length_cons, List.length_nil, List.map_cons, List.map_nil, List.replicate_zero, List.replicate_succ, List.cons_append, List.nil_append, List.set_cons_zero, List.set_cons_succ, List.getElem?_nil, Nat.reduceAdd, Nat.reduceSub, Nat.reduceLeDiff, Nat.reduceLT, Nat.reduceEqDiff, big, Int.cast_ofNat_Int, Int.reduceLE, Int.reduceLT, Int.reduceNeg, Int.reduceAdd, Int.reduceSub, Int.reduceMul, Int.reducePow, Int.reduceAbs, Int.reduceToNat, Int.reduceEq, Int.reduceDiv, Int.reduceMod, upTo, ↓lcH_nil, ↓lcH_cons,
  ok_60, okAt_int, okAt_bl, okAt_str, okAt_non, okAt_tup, okAt_lst, okAts_nil, okAts_cons, okAts_mapI, okAts_mapS, okAts_mapB, Bool.and_true, Bool.true_and, Bool.and_false, Bool.false_and, Bool.or_true, Bool.true_or, Bool.or_false, Bool.false_or, Bool.not_true, Bool.not_false, Bool.not_not, Bool.false_eq_true, if_true, if_false, ↓reduceIte, decide_true, decide_false, decide_eq_true_eq, eq_self, true_and, and_true, and_self, ofString_inj, String.reduceEq,
  eqD_int, eqD_str, eqD_bl, eqD_tup, eqD_lst, eqD_nn, eqD_nt, eqD_tn, eqD_si, eqD_is, eqD_st, eqD_ts, eqD_ti, eqD_it, eqD_tl, eqD_lt, eqDs_nil, eqDs_cons, eqDs_nc, eqDs_cn, eqDs_strs, eqDs_ints, any_strs,
  atI_0, atI_1, atI_2, atI_3, atI_4, ix_tup, ix_lst, ix_dctS, getD_cons, putD_cons, putD_nil, keyFits_str, keyFits_int, isSome_keyAt, isSome_keyAt0, mergeD,
  cmp_eq, cmp_ne, cmp_in_tup, cmp_in_lst, cmp_nin_tup, cmp_nin_lst, cmp_in_dct, cmp_nin_dct, cmp_lt_int, cmp_gt_int, cmp_le_int, cmp_ge_int, cmp_is_non, cmp_isn_non, cmp_is_bl, cmp_isn_bl,
  add_int, sub_int, add_tup, add_lst, add_str, mul_int, mod_int, fdiv_int, pow_int, len_tup, len_lst, len_scr, abs_int, int_int, int_bl, max_int, min_int, list_tup, list_lst, tuple_tup, tuple_lst, all_bls, any_bls, lenset_strs, lenset_strsL, all_mapP, any_mapP, List.length_map, rec_view, rec_ok, rec_eq, ↓rec_tup, rec_ix0, rec_ix1, rec_ix2, rec_ix3, rule_view, rule_f0, rule_f1, rule_f2, rule_f3, max_rec])
local macro_rules | `(tactic| walk_at "hps") => `(tactic| simp (config := { dsimp := false, failIfUnchanged := false, implicitDefEqProofs := false }) only [↓xA_lit, ↓xA_bin, ↓xA_neg, ↓xA_cmp, ↓xA_chain, ↓xA_not_, ↓xA_and_, ↓xA_or_, ↓xA_ife, ↓xA_tup, ↓xA_lst, ↓xA_dct, ↓xA_ix, ↓xA_sl, ↓xA_rev, ↓xA_fld, ↓xA_prop, ↓xA_call, ↓xA_callp, ↓xA_meth, ↓xA_mk, ↓xA_alloc, ↓xA_bi, ↓xA_isi, ↓xA_rng, ↓xA_bm, ↓xA_mm, ↓xA_lc, ↓xA_dc, ↓xA_eqo, ↓xA_var, ↓xE_lit, ↓xE_var, ↓xE_bin, ↓xE_neg, ↓xE_cmp, ↓xT_cmp, ↓xE_chain, ↓xT_chain, ↓xE_not_, ↓xT_not_, ↓xE_and_, ↓xT_and_, ↓xE_or_, ↓xT_or_, ↓xE_ife, ↓xT_ife, ↓xE_tup, ↓xE_lst, ↓xE_dct, ↓xE_ix, ↓xE_sl, ↓xE_rev, ↓xE_fld, ↓xE_call, ↓xE_callp, ↓xE_meth, ↓xE_mk, ↓xE_prop, ↓xE_alloc, ↓xE_bi, ↓xE_isi, ↓xT_isi, ↓xE_eqo, ↓xT_eqo, ↓xE_rng, ↓xE_bm, ↓xE_mm, ↓xT_lit, ↓xT_bin, ↓xT_neg, ↓xT_tup, ↓xT_lst, ↓xT_dct, ↓xT_ix, ↓xT_sl, ↓xT_rev, ↓xT_fld, ↓xT_prop, ↓xT_call, ↓xT_callp, ↓xT_meth, ↓xT_mk, ↓xT_alloc, ↓xT_bi, ↓xT_rng, ↓xT_bm, ↓xT_mm, ↓xT_lc, ↓xT_dc, ↓xT_var, ↓xV_nil, ↓xO_nil, ↓xU_nil, ↓xV_cons, ↓xO_cons, ↓xU_cons, ↓xV_star, ↓xF_nil, ↓xF_one, ↓xP_nil, ↓xP_cons, ↓xN_nil, ↓xN_cons, ↓xI_seq, ↓xI_rng1, ↓xI_rng2, ↓xI_enum0, ↓xI_items, ↓xI_zip, ↓xB_nil, ↓xB_cons, ↓xS_asgN, ↓xS_asgT, ↓xS_par, ↓xS_setix, ↓xS_setfld, ↓xS_ex, ↓xS_retV, ↓xS_ret_lit, ↓xS_ret_bin, ↓xS_ret_neg, ↓xS_ret_cmp, ↓xS_ret_chain, ↓xS_ret_not_, ↓xS_ret_and_, ↓xS_ret_or_, ↓xS_ret_ife, ↓xS_ret_tup, ↓xS_ret_lst, ↓xS_ret_dct, ↓xS_ret_ix, ↓xS_ret_sl, ↓xS_ret_rev, ↓xS_ret_fld, ↓xS_ret_prop, ↓xS_ret_call, ↓xS_ret_callp, ↓xS_ret_meth, ↓xS_ret_mk, ↓xS_ret_alloc, ↓xS_ret_bi, ↓xS_ret_isi, ↓xS_ret_rng, ↓xS_ret_bm, ↓xS_ret_mm, ↓xS_ret_lc, ↓xS_ret_dc, ↓xS_ret_eqo, ↓xS_retn, ↓xS_ife, ↓xS_for, ↓xS_while, ↓xS_pass, ↓xS_brk, ↓xS_cont, ↓xS_raise, ↓xS_try, ↓xG_name, ↓xG_tup, ↓xGs_nil, ↓xGs_cons, ↓loopH_nil, ↓loopH_cons, ↓xE_lc1, ↓optH_s, ↓iteH_t, ↓iteH_f, ↓andH_t, goH_go, ↓onSlot_v, ↓onSlot_o, ↓onInt_i, ↓onBl_b, ↓onOwn_o, ↓onTup_t, ↓onTup_l, ↓onCons_c, ↓onDct_d, ↓onZip_l, ↓onZip_t, ↓callH_mk, pick, List.getD_cons_zero, List.getD_cons_succ, ↓callH_in, ↓upH_s, ↓upH_r,
  vres_v, vres_s, look_own, look_val, view_int, view_bl, view_str, view_non, view_tup, view_lst, view_scr, view_dct, view_ins, view_r0, view_r1, Option.getD_some, Option.map_some, Option.map_none, Option.bind_some, Option.bind_none, Option.getD_none,
  fld_ins, isi_non, cl_int_non, cl_bool_non, cl_str_non, cl_tuple_non, cl_list_non, cl_dict_non, cl_own_non, notNon_non, isi_bl, cl_int_bl, cl_bool_bl, cl_str_bl, cl_tuple_bl, cl_list_bl, cl_dict_bl, cl_own_bl, notNon_bl, isi_int, cl_int_int, cl_bool_int, cl_str_int, cl_tuple_int, cl_list_int, cl_dict_int, cl_own_int, notNon_int, isi_str, cl_int_str, cl_bool_str, cl_str_str, cl_tuple_str, cl_list_str, cl_dict_str, cl_own_str, notNon_str, isi_tup, cl_int_tup, cl_bool_tup, cl_str_tup, cl_tuple_tup, cl_list_tup, cl_dict_tup, cl_own_tup, notNon_tup, isi_lst, cl_int_lst, cl_bool_lst, cl_str_lst, cl_tuple_lst, cl_list_lst, cl_dict_lst, cl_own_lst, notNon_lst, isi_dct, cl_int_dct, cl_bool_dct, cl_str_dct, cl_tuple_dct, cl_list_dct, cl_dict_dct, cl_own_dct, notNon_dct, isi_ins, cl_own_ins, notNon_ins, truth_non, truth_bl, truth_int, truth_tup, truth_lst, walk_tup, walk_lst, walk_scr, walk_str, seq_tup, seq_lst, frz_lst, frz_dct, frz_ins, ofrz_v, ofrz_o, oslot_v, oslot_o, keep_v, keep_o, keep_u, setsS_nil, setsS_cons, isLst_l, isIns_i, noField_i, mm_app, mm_popF, set_lst, set_dct, sf_ins, sl_tup, sl_lst, ress_nil, ress_cons,
  Bm.ok, all, List.any_cons, List.any_nil, List.contains_cons, List.contains_nil, Option.isSome_some, lookF, putF, wipeS, backS,
  List.getElem?_cons_zero, List.getElem?_cons_succ, List.length_cons, List.length_nil, List.map_cons, List.map_nil, List.replicate_zero, List.replicate_succ, List.cons_append, List.nil_append, List.set_cons_zero, List.set_cons_succ, List.getElem?_nil, Nat.reduceAdd, Nat.reduceSub, Nat.reduceLeDiff, Nat.reduceLT, Nat.reduceEqDiff, big, Int.cast_ofNat_Int, Int.reduceLE, Int.reduceLT, Int.reduceNeg, Int.reduceAdd, Int.reduceSub, Int.reduceMul, Int.reducePow, Int.reduceAbs, Int.reduceToNat, Int.reduceEq, Int.reduceDiv, Int.reduceMod, upTo, ↓lcH_nil, ↓lcH_cons,
  ok_60, okAt_int, okAt_bl, okAt_str, okAt_non, okAt_tup, okAt_lst, okAts_nil, okAts_cons, okAts_mapI, okAts_mapS, okAts_mapB, Bool.and_true, Bool.true_and, Bool.and_false, Bool.false_and, Bool.or_true, Bool.true_or, Bool.or_false, Bool.false_or, Bool.not_true, Bool.not_false, Bool.not_not, Bool.false_eq_true, if_true, if_false, ↓reduceIte, decide_true, decide_false, decide_eq_true_eq, eq_self, true_and, and_true, and_self, ofString_inj, String.reduceEq,
  eqD_int, eqD_str, eqD_bl, eqD_tup, eqD_lst, eqD_nn, eqD_nt, eqD_tn, eqD_si, eqD_is, eqD_st, eqD_ts, eqD_ti, eqD_it, eqD_tl, eqD_lt, eqDs_nil, eqDs_cons, eqDs_nc, eqDs_cn, eqDs_strs, eqDs_ints, any_strs,
  atI_0, atI_1, atI_2, atI_3, atI_4, ix_tup, ix_lst, ix_dctS, getD_cons, putD_cons, putD_nil, keyFits_str, keyFits_int, isSome_keyAt, isSome_keyAt0, mergeD,
  cmp_eq, cmp_ne, cmp_in_tup, cmp_in_lst, cmp_nin_tup, cmp_nin_lst, cmp_in_dct, cmp_nin_dct, cmp_lt_int, cmp_gt_int, cmp_le_int, cmp_ge_int, cmp_is_non, cmp_isn_non, cmp_is_bl, cmp_isn_bl,
  add_int, sub_int, add_tup, add_lst, add_str, mul_int, mod_int, fdiv_int, pow_int, len_tup, len_lst, len_scr, abs_int, int_int, int_bl, max_int, min_int, list_tup, list_lst, tuple_tup, tuple_lst, all_bls, any_bls, lenset_strs, lenset_strsL, all_mapP, any_mapP, List.length_map, rec_view, rec_ok, rec_eq, ↓rec_tup, rec_ix0, rec_ix1, rec_ix2, rec_ix3, rule_view, rule_f0, rule_f1, rule_f2, rule_f3, max_rec, *])
local macro_rules | `(tactic| walk_at "lif") => `(tactic| (rw [if_pos]; rotate_left; (simp (config := { failIfUnchanged := false }) only [List.length_append, List.length_map, List.length_cons, List.length_nil, List.length_set, List.length_take, List.length_drop, List.length_range, big]; omega)))
local macro_rules | `(tactic| walk_at "len") => `(tactic| (rw [iteH_yes (p := _ ≤ _)]; rotate_left; (simp (config := { failIfUnchanged := false }) only [List.length_append, List.length_map, List.length_cons, List.length_nil, List.length_set, List.length_take, List.length_drop, List.length_range]; omega)))
end HP

set_option maxHeartbeats 600000
namespace HP
open PySem
/-! P2: rules made; records and deeds judged, where they are right. -/
theorem rec_isi (l : List Str) (cs : List Cl) (r : Rec) : isiSem l cs r.D = some (cs.any fun c => isCl c r.D) := rfl
theorem rec_cl_t (r : Rec) : isCl .tuple r.D = true := rfl
theorem rec_cl_l (r : Rec) : isCl .list r.D = false := rfl
theorem rec_len (r : Rec) : biSem .len [r.D] = some (.val (.int 4)) := rfl
theorem rule_isi (r : RuleM) : isiSem all [.own "Rule"] r.D = some true := by
  simp [isiSem, RuleM.D, all, isCl, ofString_inj]
variable (s : Store) (Q : Out → Store → Prop) (X : Exc → Store → Prop) (h : Hd Q) (h2 : Hd X)
def Rec.Ok (r : Rec) : Prop := 0 ≤ r.t ∧ 0 ≤ r.p ∧ 0 ≤ r.s
local macro_rules | `(tactic| walk_at "hp") => `(tactic| simp (config := { dsimp := false, failIfUnchanged := false, implicitDefEqProofs := false }) only [↓xA_lit, ↓xA_bin, ↓xA_neg, ↓xA_cmp, ↓xA_chain, ↓xA_not_, ↓xA_and_, ↓xA_or_, ↓xA_ife, ↓xA_tup, ↓xA_lst, ↓xA_dct, ↓xA_ix, ↓xA_sl, ↓xA_rev, ↓xA_fld, ↓xA_prop, ↓xA_call, ↓xA_callp, ↓xA_meth, ↓xA_mk, ↓xA_alloc, ↓xA_bi, ↓xA_isi, ↓xA_rng, ↓xA_bm, ↓xA_mm, ↓xA_lc, ↓xA_dc, ↓xA_eqo, ↓xA_var, ↓xE_lit, ↓xE_var, ↓xE_bin, ↓xE_neg, ↓xE_cmp, ↓xT_cmp, ↓xE_chain, ↓xT_chain, ↓xE_not_, ↓xT_not_, ↓xE_and_, ↓xT_and_, ↓xE_or_, ↓xT_or_, ↓xE_ife, ↓xT_ife, ↓xE_tup, ↓xE_lst, ↓xE_dct, ↓xE_ix, ↓xE_sl, ↓xE_rev, ↓xE_fld, ↓xE_call, ↓xE_callp, ↓xE_meth, ↓xE_mk, ↓xE_prop, ↓xE_alloc, ↓xE_bi, ↓xE_isi, ↓xT_isi, ↓xE_eqo, ↓xT_eqo, ↓xE_rng, ↓xE_bm, ↓xE_mm, ↓xT_lit, ↓xT_bin, ↓xT_neg, ↓xT_tup, ↓xT_lst, ↓xT_dct, ↓xT_ix, ↓xT_sl, ↓xT_rev, ↓xT_fld, ↓xT_prop, ↓xT_call, ↓xT_callp, ↓xT_meth, ↓xT_mk, ↓xT_alloc, ↓xT_bi, ↓xT_rng, ↓xT_bm, ↓xT_mm, ↓xT_lc, ↓xT_dc, ↓xT_var, ↓xV_nil, ↓xO_nil, ↓xU_nil, ↓xV_cons, ↓xO_cons, ↓xU_cons, ↓xV_star, ↓xF_nil, ↓xF_one, ↓xP_nil, ↓xP_cons, ↓xN_nil, ↓xN_cons, ↓xI_seq, ↓xI_rng1, ↓xI_rng2, ↓xI_enum0, ↓xI_items, ↓xI_zip, ↓xB_nil, ↓xB_cons, ↓xS_asgN, ↓xS_asgT, ↓xS_par, ↓xS_setix, ↓xS_setfld, ↓xS_ex, ↓xS_retV, ↓xS_ret_lit, ↓xS_ret_bin, ↓xS_ret_neg, ↓xS_ret_cmp, ↓xS_ret_chain, ↓xS_ret_not_, ↓xS_ret_and_, ↓xS_ret_or_, ↓xS_ret_ife, ↓xS_ret_tup, ↓xS_ret_lst, ↓xS_ret_dct, ↓xS_ret_ix, ↓xS_ret_sl, ↓xS_ret_rev, ↓xS_ret_fld, ↓xS_ret_prop, ↓xS_ret_call, ↓xS_ret_callp, ↓xS_ret_meth, ↓xS_ret_mk, ↓xS_ret_alloc, ↓xS_ret_bi, ↓xS_ret_isi, ↓xS_ret_rng, ↓xS_ret_bm, ↓xS_ret_mm, ↓xS_ret_lc, ↓xS_ret_dc, ↓xS_ret_eqo, ↓xS_retn, ↓xS_ife, ↓xS_for, ↓xS_while, ↓xS_pass, ↓xS_brk, ↓xS_cont, ↓xS_raise, ↓xS_try, ↓xG_name, ↓xG_tup, ↓xGs_nil, ↓xGs_cons, ↓loopH_nil, ↓loopH_cons, ↓xE_lc1, ↓optH_s, ↓iteH_t, ↓iteH_f, ↓andH_t, goH_go, ↓onSlot_v, ↓onSlot_o, ↓onInt_i, ↓onBl_b, ↓onOwn_o, ↓onTup_t, ↓onTup_l, ↓onCons_c, ↓onDct_d, ↓onZip_l, ↓onZip_t, ↓callH_mk, pick, List.getD_cons_zero, List.getD_cons_succ, ↓callH_in, ↓upH_s, ↓upH_r,
  vres_v, vres_s, look_own, look_val, view_int, view_bl, view_str, view_non, view_tup, view_lst, view_scr, view_dct, view_ins, view_r0, view_r1, Option.getD_some, Option.map_some, Option.map_none, Option.bind_some, Option.bind_none, Option.getD_none,
  fld_ins, isi_non, cl_int_non, cl_bool_non, cl_str_non, cl_tuple_non, cl_list_non, cl_dict_non, cl_own_non, notNon_non, isi_bl, cl_int_bl, cl_bool_bl, cl_str_bl, cl_tuple_bl, cl_list_bl, cl_dict_bl, cl_own_bl, notNon_bl, isi_int, cl_int_int, cl_bool_int, cl_str_int, cl_tuple_int, cl_list_int, cl_dict_int, cl_own_int, notNon_int, isi_str, cl_int_str, cl_bool_str, cl_str_str, cl_tuple_str, cl_list_str, cl_dict_str, cl_own_str, notNon_str, isi_tup, cl_int_tup, cl_bool_tup, cl_str_tup, cl_tuple_tup, cl_list_tup, cl_dict_tup, cl_own_tup, notNon_tup, isi_lst, cl_int_lst, cl_bool_lst, cl_str_lst, cl_tuple_lst, cl_list_lst, cl_dict_lst, cl_own_lst, notNon_lst, isi_dct, cl_int_dct, cl_bool_dct, cl_str_dct, cl_tuple_dct, cl_list_dct, cl_dict_dct, cl_own_dct, notNon_dct, isi_ins, cl_own_ins, notNon_ins, truth_non, truth_bl, truth_int, truth_tup, truth_lst, walk_tup, walk_lst, walk_scr, walk_str, seq_tup, seq_lst, frz_lst, frz_dct, frz_ins, ofrz_v, ofrz_o, oslot_v, oslot_o, keep_v, keep_o, keep_u, setsS_nil, setsS_cons, isLst_l, isIns_i, noField_i, mm_app, mm_popF, set_lst, set_dct, sf_ins, sl_tup, sl_lst, ress_nil, ress_cons,
  Bm.ok, all, List.any_cons, List.any_nil, List.contains_cons, List.contains_nil, Option.isSome_some, lookF, putF, wipeS, backS,
  List.getElem?_cons_zero, List.getElem?_cons_succ, List.length_cons, List.length_nil, List.map_cons, List.map_nil, List.replicate_zero, List.replicate_succ, List.cons_append, List.nil_append, List.set_cons_zero, List.set_cons_succ, List.getElem?_nil, Nat.reduceAdd, Nat.reduceSub, Nat.reduceLeDiff, Nat.reduceLT, Nat.reduceEqDiff, big, Int.cast_ofNat_Int, Int.reduceLE, Int.reduceLT, Int.reduceNeg, Int.reduceAdd, Int.reduceSub, Int.reduceMul, Int.reducePow, Int.reduceAbs, Int.reduceToNat, Int.reduceEq, Int.reduceDiv, Int.reduceMod, upTo, ↓lcH_nil, ↓lcH_cons,
  ok_60, okAt_int, okAt_bl, okAt_str, okAt_non, okAt_tup, okAt_lst, okAts_nil, okAts_cons, okAts_mapI, okAts_mapS, okAts_mapB, Bool.and_true, Bool.true_and, Bool.and_false, Bool.false_and, Bool.or_true, Bool.true_or, Bool.or_false, Bool.false_or, Bool.not_true, Bool.not_false, Bool.not_not, Bool.false_eq_true, if_true, if_false, ↓reduceIte, decide_true, decide_false, decide_eq_true_eq, eq_self, true_and, and_true, and_self, ofString_inj, String.reduceEq,
  eqD_int, eqD_str, eqD_bl, eqD_tup, eqD_lst, eqD_nn, eqD_nt, eqD_tn, eqD_si, eqD_is, eqD_st, eqD_ts, eqD_ti, eqD_it, eqD_tl, eqD_lt, eqDs_nil, eqDs_cons, eqDs_nc, eqDs_cn, eqDs_strs, eqDs_ints, any_strs,
  atI_0, atI_1, atI_2, atI_3, atI_4, ix_tup, ix_lst, ix_dctS, getD_cons, putD_cons, putD_nil, keyFits_str, keyFits_int, isSome_keyAt, isSome_keyAt0, mergeD,
  cmp_eq, cmp_ne, cmp_in_tup, cmp_in_lst, cmp_nin_tup, cmp_nin_lst, cmp_in_dct, cmp_nin_dct, cmp_lt_int, cmp_gt_int, cmp_le_int, cmp_ge_int, cmp_is_non, cmp_isn_non, cmp_is_bl, cmp_isn_bl,
  add_int, sub_int, add_tup, add_lst, add_str, mul_int, mod_int, fdiv_int, pow_int, len_tup, len_lst, len_scr, abs_int, int_int, int_bl, max_int, min_int, list_tup, list_lst, tuple_tup, tuple_lst, all_bls, any_bls, lenset_strs, lenset_strsL, all_mapP, any_mapP, List.length_map, rec_view, rec_ok, rec_eq, ↓rec_tup, rec_ix0, rec_ix1, rec_ix2, rec_ix3, rule_view, rule_f0, rule_f1, rule_f2, rule_f3, max_rec, rec_isi, rec_cl_t, rec_cl_l, rec_len, rule_isi])
local macro_rules | `(tactic| walk_at "hps") => `(tactic| simp (config := { dsimp := false, failIfUnchanged := false, implicitDefEqProofs := false }) only [↓xA_lit, ↓xA_bin, ↓xA_neg, ↓xA_cmp, ↓xA_chain, ↓xA_not_, ↓xA_and_, ↓xA_or_, ↓xA_ife, ↓xA_tup, ↓xA_lst, ↓xA_dct, ↓xA_ix, ↓xA_sl, ↓xA_rev, ↓xA_fld, ↓xA_prop, ↓xA_call, ↓xA_callp, ↓xA_meth, ↓xA_mk, ↓xA_alloc, ↓xA_bi, ↓xA_isi, ↓xA_rng, ↓xA_bm, ↓xA_mm, ↓xA_lc, ↓xA_dc, ↓xA_eqo, ↓xA_var, ↓xE_lit, ↓xE_var, ↓xE_bin, ↓xE_neg, ↓xE_cmp, ↓xT_cmp, ↓xE_chain, ↓xT_chain, ↓xE_not_, ↓xT_not_, ↓xE_and_, ↓xT_and_, ↓xE_or_, ↓xT_or_, ↓xE_ife, ↓xT_ife, ↓xE_tup, ↓xE_lst, ↓xE_dct, ↓xE_ix, ↓xE_sl, ↓xE_rev, ↓xE_fld, ↓xE_call, ↓xE_callp, ↓xE_meth, ↓xE_mk, ↓xE_prop, ↓xE_alloc, ↓xE_bi, ↓xE_isi, ↓xT_isi, ↓xE_eqo, ↓xT_eqo, ↓xE_rng, ↓xE_bm, ↓xE_mm, ↓xT_lit, ↓xT_bin, ↓xT_neg, ↓xT_tup, ↓xT_lst, ↓xT_dct, ↓xT_ix, ↓xT_sl, ↓xT_rev, ↓xT_fld, ↓xT_prop, ↓xT_call, ↓xT_callp, ↓xT_meth, ↓xT_mk, ↓xT_alloc, ↓xT_bi, ↓xT_rng, ↓xT_bm, ↓xT_mm, ↓xT_lc, ↓xT_dc, ↓xT_var, ↓xV_nil, ↓xO_nil, ↓xU_nil, ↓xV_cons, ↓xO_cons, ↓xU_cons, ↓xV_star, ↓xF_nil, ↓xF_one, ↓xP_nil, ↓xP_cons, ↓xN_nil, ↓xN_cons, ↓xI_seq, ↓xI_rng1, ↓xI_rng2, ↓xI_enum0, ↓xI_items, ↓xI_zip, ↓xB_nil, ↓xB_cons, ↓xS_asgN, ↓xS_asgT, ↓xS_par, ↓xS_setix, ↓xS_setfld, ↓xS_ex, ↓xS_retV, ↓xS_ret_lit, ↓xS_ret_bin, ↓xS_ret_neg, ↓xS_ret_cmp, ↓xS_ret_chain, ↓xS_ret_not_, ↓xS_ret_and_, ↓xS_ret_or_, ↓xS_ret_ife, ↓xS_ret_tup, ↓xS_ret_lst, ↓xS_ret_dct, ↓xS_ret_ix, ↓xS_ret_sl, ↓xS_ret_rev, ↓xS_ret_fld, ↓xS_ret_prop, ↓xS_ret_call, ↓xS_ret_callp, ↓xS_ret_meth, ↓xS_ret_mk, ↓xS_ret_alloc, ↓xS_ret_bi, ↓xS_ret_isi, ↓xS_ret_rng, ↓xS_ret_bm, ↓xS_ret_mm, ↓xS_ret_lc, ↓xS_ret_dc, ↓xS_ret_eqo, ↓xS_retn, ↓xS_ife, ↓xS_for, ↓xS_while, ↓xS_pass, ↓xS_brk, ↓xS_cont, ↓xS_raise, ↓xS_try, ↓xG_name, ↓xG_tup, ↓xGs_nil, ↓xGs_cons, ↓loopH_nil, ↓loopH_cons, ↓xE_lc1, ↓optH_s, ↓iteH_t, ↓iteH_f, ↓andH_t, goH_go, ↓onSlot_v, ↓onSlot_o, ↓onInt_i, ↓onBl_b, ↓onOwn_o, ↓onTup_t, ↓onTup_l, ↓onCons_c, ↓onDct_d, ↓onZip_l, ↓onZip_t, ↓callH_mk, pick, List.getD_cons_zero, List.getD_cons_succ, ↓callH_in, ↓upH_s, ↓upH_r,
  vres_v, vres_s, look_own, look_val, view_int, view_bl, view_str, view_non, view_tup, view_lst, view_scr, view_dct, view_ins, view_r0, view_r1, Option.getD_some, Option.map_some, Option.map_none, Option.bind_some, Option.bind_none, Option.getD_none,
  fld_ins, isi_non, cl_int_non, cl_bool_non, cl_str_non, cl_tuple_non, cl_list_non, cl_dict_non, cl_own_non, notNon_non, isi_bl, cl_int_bl, cl_bool_bl, cl_str_bl, cl_tuple_bl, cl_list_bl, cl_dict_bl, cl_own_bl, notNon_bl, isi_int, cl_int_int, cl_bool_int, cl_str_int, cl_tuple_int, cl_list_int, cl_dict_int, cl_own_int, notNon_int, isi_str, cl_int_str, cl_bool_str, cl_str_str, cl_tuple_str, cl_list_str, cl_dict_str, cl_own_str, notNon_str, isi_tup, cl_int_tup, cl_bool_tup, cl_str_tup, cl_tuple_tup, cl_list_tup, cl_dict_tup, cl_own_tup, notNon_tup, isi_lst, cl_int_lst, cl_bool_lst, cl_str_lst, cl_tuple_lst, cl_list_lst, cl_dict_lst, cl_own_lst, notNon_lst, isi_dct, cl_int_dct, cl_bool_dct, cl_str_dct, cl_tuple_dct, cl_list_dct, cl_dict_dct, cl_own_dct, notNon_dct, isi_ins, cl_own_ins, notNon_ins, truth_non, truth_bl, truth_int, truth_tup, truth_lst, walk_tup, walk_lst, walk_scr, walk_str, seq_tup, seq_lst, frz_lst, frz_dct, frz_ins, ofrz_v, ofrz_o, oslot_v, oslot_o, keep_v, keep_o, keep_u, setsS_nil, setsS_cons, isLst_l, isIns_i, noField_i, mm_app, mm_popF, set_lst, set_dct, sf_ins, sl_tup, sl_lst, ress_nil, ress_cons,
  Bm.ok, all, List.any_cons, List.any_nil, List.contains_cons, List.contains_nil, Option.isSome_some, lookF, putF, wipeS, backS,
  List.getElem?_cons_zero, List.getElem?_cons_succ, List.length_cons, List.length_nil, List.map_cons, List.map_nil, List.replicate_zero, List.replicate_succ, List.cons_append, List.nil_append, List.set_cons_zero, List.set_cons_succ, List.getElem?_nil, Nat.reduceAdd, Nat.reduceSub, Nat.reduceLeDiff, Nat.reduceLT, Nat.reduceEqDiff, big, Int.cast_ofNat_Int, Int.reduceLE, Int.reduceLT, Int.reduceNeg, Int.reduceAdd, Int.reduceSub, Int.reduceMul, Int.reducePow, Int.reduceAbs, Int.reduceToNat, Int.reduceEq, Int.reduceDiv, Int.reduceMod, upTo, ↓lcH_nil, ↓lcH_cons,
  ok_60, okAt_int, okAt_bl, okAt_str, okAt_non, okAt_tup, okAt_lst, okAts_nil, okAts_cons, okAts_mapI, okAts_mapS, okAts_mapB, Bool.and_true, Bool.true_and, Bool.and_false, Bool.false_and, Bool.or_true, Bool.true_or, Bool.or_false, Bool.false_or, Bool.not_true, Bool.not_false, Bool.not_not, Bool.false_eq_true, if_true, if_false, ↓reduceIte, decide_true, decide_false, decide_eq_true_eq, eq_self, true_and, and_true, and_self, ofString_inj, String.reduceEq,
  eqD_int, eqD_str, eqD_bl, eqD_tup, eqD_lst, eqD_nn, eqD_nt, eqD_tn, eqD_si, eqD_is, eqD_st, eqD_ts, eqD_ti, eqD_it, eqD_tl, eqD_lt, eqDs_nil, eqDs_cons, eqDs_nc, eqDs_cn, eqDs_strs, eqDs_ints, any_strs,
  atI_0, atI_1, atI_2, atI_3, atI_4, ix_tup, ix_lst, ix_dctS, getD_cons, putD_cons, putD_nil, keyFits_str, keyFits_int, isSome_keyAt, isSome_keyAt0, mergeD,
  cmp_eq, cmp_ne, cmp_in_tup, cmp_in_lst, cmp_nin_tup, cmp_nin_lst, cmp_in_dct, cmp_nin_dct, cmp_lt_int, cmp_gt_int, cmp_le_int, cmp_ge_int, cmp_is_non, cmp_isn_non, cmp_is_bl, cmp_isn_bl,
  add_int, sub_int, add_tup, add_lst, add_str, mul_int, mod_int, fdiv_int, pow_int, len_tup, len_lst, len_scr, abs_int, int_int, int_bl, max_int, min_int, list_tup, list_lst, tuple_tup, tuple_lst, all_bls, any_bls, lenset_strs, lenset_strsL, all_mapP, any_mapP, List.length_map, rec_view, rec_ok, rec_eq, ↓rec_tup, rec_ix0, rec_ix1, rec_ix2, rec_ix3, rule_view, rule_f0, rule_f1, rule_f2, rule_f3, max_rec, rec_isi, rec_cl_t, rec_cl_l, rec_len, rule_isi, *])
local macro_rules | `(tactic| walk_at "lif") => `(tactic| (rw [if_pos]; rotate_left; (simp (config := { failIfUnchanged := false }) only [List.length_append, List.length_map, List.length_cons, List.length_nil, List.length_set, List.length_take, List.length_drop, List.length_range, big]; omega)))
local macro_rules | `(tactic| walk_at "len") => `(tactic| (rw [iteH_yes (p := _ ≤ _)]; rotate_left; (simp (config := { failIfUnchanged := false }) only [List.length_append, List.length_map, List.length_cons, List.length_nil, List.length_set, List.length_take, List.length_drop, List.length_range]; omega)))
theorem is_number_i (i : Int) : callH g_is_number [.int i] s Q X h h2 = Q (.val (.bl true)) s := by
  unfold g_is_number b_is_number
  walk_at "hp"
local macro_rules | `(tactic| walk_at "hp") => `(tactic| simp (config := { dsimp := false, failIfUnchanged := false, implicitDefEqProofs := false }) only [↓xA_lit, ↓xA_bin, ↓xA_neg, ↓xA_cmp, ↓xA_chain, ↓xA_not_, ↓xA_and_, ↓xA_or_, ↓xA_ife, ↓xA_tup, ↓xA_lst, ↓xA_dct, ↓xA_ix, ↓xA_sl, ↓xA_rev, ↓xA_fld, ↓xA_prop, ↓xA_call, ↓xA_callp, ↓xA_meth, ↓xA_mk, ↓xA_alloc, ↓xA_bi, ↓xA_isi, ↓xA_rng, ↓xA_bm, ↓xA_mm, ↓xA_lc, ↓xA_dc, ↓xA_eqo, ↓xA_var, ↓xE_lit, ↓xE_var, ↓xE_bin, ↓xE_neg, ↓xE_cmp, ↓xT_cmp, ↓xE_chain, ↓xT_chain, ↓xE_not_, ↓xT_not_, ↓xE_and_, ↓xT_and_, ↓xE_or_, ↓xT_or_, ↓xE_ife, ↓xT_ife, ↓xE_tup, ↓xE_lst, ↓xE_dct, ↓xE_ix, ↓xE_sl, ↓xE_rev, ↓xE_fld, ↓xE_call, ↓xE_callp, ↓xE_meth, ↓xE_mk, ↓xE_prop, ↓xE_alloc, ↓xE_bi, ↓xE_isi, ↓xT_isi, ↓xE_eqo, ↓xT_eqo, ↓xE_rng, ↓xE_bm, ↓xE_mm, ↓xT_lit, ↓xT_bin, ↓xT_neg, ↓xT_tup, ↓xT_lst, ↓xT_dct, ↓xT_ix, ↓xT_sl, ↓xT_rev, ↓xT_fld, ↓xT_prop, ↓xT_call, ↓xT_callp, ↓xT_meth, ↓xT_mk, ↓xT_alloc, ↓xT_bi, ↓xT_rng, ↓xT_bm, ↓xT_mm, ↓xT_lc, ↓xT_dc, ↓xT_var, ↓xV_nil, ↓xO_nil, ↓xU_nil, ↓xV_cons, ↓xO_cons, ↓xU_cons, ↓xV_star, ↓xF_nil, ↓xF_one, ↓xP_nil, ↓xP_cons, ↓xN_nil, ↓xN_cons, ↓xI_seq, ↓xI_rng1, ↓xI_rng2, ↓xI_enum0, ↓xI_items, ↓xI_zip, ↓xB_nil, ↓xB_cons, ↓xS_asgN, ↓xS_asgT, ↓xS_par, ↓xS_setix, ↓xS_setfld, ↓xS_ex, ↓xS_retV, ↓xS_ret_lit, ↓xS_ret_bin, ↓xS_ret_neg, ↓xS_ret_cmp, ↓xS_ret_chain, ↓xS_ret_not_, ↓xS_ret_and_, ↓xS_ret_or_, ↓xS_ret_ife, ↓xS_ret_tup, ↓xS_ret_lst, ↓xS_ret_dct, ↓xS_ret_ix, ↓xS_ret_sl, ↓xS_ret_rev, ↓xS_ret_fld, ↓xS_ret_prop, ↓xS_ret_call, ↓xS_ret_callp, ↓xS_ret_meth, ↓xS_ret_mk, ↓xS_ret_alloc, ↓xS_ret_bi, ↓xS_ret_isi, ↓xS_ret_rng, ↓xS_ret_bm, ↓xS_ret_mm, ↓xS_ret_lc, ↓xS_ret_dc, ↓xS_ret_eqo, ↓xS_retn, ↓xS_ife, ↓xS_for, ↓xS_while, ↓xS_pass, ↓xS_brk, ↓xS_cont, ↓xS_raise, ↓xS_try, ↓xG_name, ↓xG_tup, ↓xGs_nil, ↓xGs_cons, ↓loopH_nil, ↓loopH_cons, ↓xE_lc1, ↓optH_s, ↓iteH_t, ↓iteH_f, ↓andH_t, goH_go, ↓onSlot_v, ↓onSlot_o, ↓onInt_i, ↓onBl_b, ↓onOwn_o, ↓onTup_t, ↓onTup_l, ↓onCons_c, ↓onDct_d, ↓onZip_l, ↓onZip_t, ↓callH_mk, pick, List.getD_cons_zero, List.getD_cons_succ, ↓callH_in, ↓upH_s, ↓upH_r,
  vres_v, vres_s, look_own, look_val, view_int, view_bl, view_str, view_non, view_tup, view_lst, view_scr, view_dct, view_ins, view_r0, view_r1, Option.getD_some, Option.map_some, Option.map_none, Option.bind_some, Option.bind_none, Option.getD_none,
  fld_ins, isi_non, cl_int_non, cl_bool_non, cl_str_non, cl_tuple_non, cl_list_non, cl_dict_non, cl_own_non, notNon_non, isi_bl, cl_int_bl, cl_bool_bl, cl_str_bl, cl_tuple_bl, cl_list_bl, cl_dict_bl, cl_own_bl, notNon_bl, isi_int, cl_int_int, cl_bool_int, cl_str_int, cl_tuple_int, cl_list_int, cl_dict_int, cl_own_int, notNon_int, isi_str, cl_int_str, cl_bool_str, cl_str_str, cl_tuple_str, cl_list_str, cl_dict_str, cl_own_str, notNon_str, isi_tup, cl_int_tup, cl_bool_tup, cl_str_tup, cl_tuple_tup, cl_list_tup, cl_dict_tup, cl_own_tup, notNon_tup, isi_lst, cl_int_lst, cl_bool_lst, cl_str_lst, cl_tuple_lst, cl_list_lst, cl_dict_lst, cl_own_lst, notNon_lst, isi_dct, cl_int_dct, cl_bool_dct, cl_str_dct, cl_tuple_dct, cl_list_dct, cl_dict_dct, cl_own_dct, notNon_dct, isi_ins, cl_own_ins, notNon_ins, truth_non, truth_bl, truth_int, truth_tup, truth_lst, walk_tup, walk_lst, walk_scr, walk_str, seq_tup, seq_lst, frz_lst, frz_dct, frz_ins, ofrz_v, ofrz_o, oslot_v, oslot_o, keep_v, keep_o, keep_u, setsS_nil, setsS_cons, isLst_l, isIns_i, noField_i, mm_app, mm_popF, set_lst, set_dct, sf_ins, sl_tup, sl_lst, ress_nil, ress_cons,
  Bm.ok, all, List.any_cons, List.any_nil, List.contains_cons, List.contains_nil, Option.isSome_some, lookF, putF, wipeS, backS,
  List.getElem?_cons_zero, List.getElem?_cons_succ, List.length_cons, List.length_nil, List.map_cons, List.map_nil, List.replicate_zero, List.replicate_succ, List.cons_append, List.nil_append, List.set_cons_zero, List.set_cons_succ, List.getElem?_nil, Nat.reduceAdd, Nat.reduceSub, Nat.reduceLeDiff, Nat.reduceLT, Nat.reduceEqDiff, big, Int.cast_ofNat_Int, Int.reduceLE, Int.reduceLT, Int.reduceNeg, Int.reduceAdd, Int.reduceSub, Int.reduceMul, Int.reducePow, Int.reduceAbs, Int.reduceToNat, Int.reduceEq, Int.reduceDiv, Int.reduceMod, upTo, ↓lcH_nil, ↓lcH_cons,
  ok_60, okAt_int, okAt_bl, okAt_str, okAt_non, okAt_tup, okAt_lst, okAts_nil, okAts_cons, okAts_mapI, okAts_mapS, okAts_mapB, Bool.and_true, Bool.true_and, Bool.and_false, Bool.false_and, Bool.or_true, Bool.true_or, Bool.or_false, Bool.false_or, Bool.not_true, Bool.not_false, Bool.not_not, Bool.false_eq_true, if_true, if_false, ↓reduceIte, decide_true, decide_false, decide_eq_true_eq, eq_self, true_and, and_true, and_self, ofString_inj, String.reduceEq,
  eqD_int, eqD_str, eqD_bl, eqD_tup, eqD_lst, eqD_nn, eqD_nt, eqD_tn, eqD_si, eqD_is, eqD_st, eqD_ts, eqD_ti, eqD_it, eqD_tl, eqD_lt, eqDs_nil, eqDs_cons, eqDs_nc, eqDs_cn, eqDs_strs, eqDs_ints, any_strs,
  atI_0, atI_1, atI_2, atI_3, atI_4, ix_tup, ix_lst, ix_dctS, getD_cons, putD_cons, putD_nil, keyFits_str, keyFits_int, isSome_keyAt, isSome_keyAt0, mergeD,
  cmp_eq, cmp_ne, cmp_in_tup, cmp_in_lst, cmp_nin_tup, cmp_nin_lst, cmp_in_dct, cmp_nin_dct, cmp_lt_int, cmp_gt_int, cmp_le_int, cmp_ge_int, cmp_is_non, cmp_isn_non, cmp_is_bl, cmp_isn_bl,
  add_int, sub_int, add_tup, add_lst, add_str, mul_int, mod_int, fdiv_int, pow_int, len_tup, len_lst, len_scr, abs_int, int_int, int_bl, max_int, min_int, list_tup, list_lst, tuple_tup, tuple_lst, all_bls, any_bls, lenset_strs, lenset_strsL, all_mapP, any_mapP, List.length_map, rec_view, rec_ok, rec_eq, ↓rec_tup, rec_ix0, rec_ix1, rec_ix2, rec_ix3, rule_view, rule_f0, rule_f1, rule_f2, rule_f3, max_rec, rec_isi, rec_cl_t, rec_cl_l, rec_len, rule_isi, ↓is_number_i])
local macro_rules | `(tactic| walk_at "hps") => `(tactic| simp (config := { dsimp := false, failIfUnchanged := false, implicitDefEqProofs := false }) only [↓xA_lit, ↓xA_bin, ↓xA_neg, ↓xA_cmp, ↓xA_chain, ↓xA_not_, ↓xA_and_, ↓xA_or_, ↓xA_ife, ↓xA_tup, ↓xA_lst, ↓xA_dct, ↓xA_ix, ↓xA_sl, ↓xA_rev, ↓xA_fld, ↓xA_prop, ↓xA_call, ↓xA_callp, ↓xA_meth, ↓xA_mk, ↓xA_alloc, ↓xA_bi, ↓xA_isi, ↓xA_rng, ↓xA_bm, ↓xA_mm, ↓xA_lc, ↓xA_dc, ↓xA_eqo, ↓xA_var, ↓xE_lit, ↓xE_var, ↓xE_bin, ↓xE_neg, ↓xE_cmp, ↓xT_cmp, ↓xE_chain, ↓xT_chain, ↓xE_not_, ↓xT_not_, ↓xE_and_, ↓xT_and_, ↓xE_or_, ↓xT_or_, ↓xE_ife, ↓xT_ife, ↓xE_tup, ↓xE_lst, ↓xE_dct, ↓xE_ix, ↓xE_sl, ↓xE_rev, ↓xE_fld, ↓xE_call, ↓xE_callp, ↓xE_meth, ↓xE_mk, ↓xE_prop, ↓xE_alloc, ↓xE_bi, ↓xE_isi, ↓xT_isi, ↓xE_eqo, ↓xT_eqo, ↓xE_rng, ↓xE_bm, ↓xE_mm, ↓xT_lit, ↓xT_bin, ↓xT_neg, ↓xT_tup, ↓xT_lst, ↓xT_dct, ↓xT_ix, ↓xT_sl, ↓xT_rev, ↓xT_fld, ↓xT_prop, ↓xT_call, ↓xT_callp, ↓xT_meth, ↓xT_mk, ↓xT_alloc, ↓xT_bi, ↓xT_rng, ↓xT_bm, ↓xT_mm, ↓xT_lc, ↓xT_dc, ↓xT_var, ↓xV_nil, ↓xO_nil, ↓xU_nil, ↓xV_cons, ↓xO_cons, ↓xU_cons, ↓xV_star, ↓xF_nil, ↓xF_one, ↓xP_nil, ↓xP_cons, ↓xN_nil, ↓xN_cons, ↓xI_seq, ↓xI_rng1, ↓xI_rng2, ↓xI_enum0, ↓xI_items, ↓xI_zip, ↓xB_nil, ↓xB_cons, ↓xS_asgN, ↓xS_asgT, ↓xS_par, ↓xS_setix, ↓xS_setfld, ↓xS_ex, ↓xS_retV, ↓xS_ret_lit, ↓xS_ret_bin, ↓xS_ret_neg, ↓xS_ret_cmp, ↓xS_ret_chain, ↓xS_ret_not_, ↓xS_ret_and_, ↓xS_ret_or_, ↓xS_ret_ife, ↓xS_ret_tup, ↓xS_ret_lst, ↓xS_ret_dct, ↓xS_ret_ix, ↓xS_ret_sl, ↓xS_ret_rev, ↓xS_ret_fld, ↓xS_ret_prop, ↓xS_ret_call, ↓xS_ret_callp, ↓xS_ret_meth, ↓xS_ret_mk, ↓xS_ret_alloc, ↓xS_ret_bi, ↓xS_ret_isi, ↓xS_ret_rng, ↓xS_ret_bm, ↓xS_ret_mm, ↓xS_ret_lc, ↓xS_ret_dc, ↓xS_ret_eqo, ↓xS_retn, ↓xS_ife, ↓xS_for, ↓xS_while, ↓xS_pass, ↓xS_brk, ↓xS_cont, ↓xS_raise, ↓xS_try, ↓xG_name, ↓xG_tup, ↓xGs_nil, ↓xGs_cons, ↓loopH_nil, ↓loopH_cons, ↓xE_lc1, ↓optH_s, ↓iteH_t, ↓iteH_f, ↓andH_t, goH_go, ↓onSlot_v, ↓onSlot_o, ↓onInt_i, ↓onBl_b, ↓onOwn_o, ↓onTup_t, ↓onTup_l, ↓onCons_c, ↓onDct_d, ↓onZip_l, ↓onZip_t, ↓callH_mk, pick, List.getD_cons_zero, List.getD_cons_succ, ↓callH_in, ↓upH_s, ↓upH_r,
  vres_v, vres_s, look_own, look_val, view_int, view_bl, view_str, view_non, view_tup, view_lst, view_scr, view_dct, view_ins, view_r0, view_r1, Option.getD_some, Option.map_some, Option.map_none, Option.bind_some, Option.bind_none, Option.getD_none,
  fld_ins, isi_non, cl_int_non, cl_bool_non, cl_str_non, cl_tuple_non, cl_list_non, cl_dict_non, cl_own_non, notNon_non, isi_bl, cl_int_bl, cl_bool_bl, cl_str_bl, cl_tuple_bl, cl_list_bl, cl_dict_bl, cl_own_bl, notNon_bl, isi_int, cl_int_int, cl_bool_int, cl_str_int, cl_tuple_int, cl_list_int, cl_dict_int, cl_own_int, notNon_int, isi_str, cl_int_str, cl_bool_str, cl_str_str, cl_tuple_str, cl_list_str, cl_dict_str, cl_own_str, notNon_str, isi_tup, cl_int_tup, cl_bool_tup, cl_str_tup, cl_tuple_tup, cl_list_tup, cl_dict_tup, cl_own_tup, notNon_tup, isi_lst, cl_int_lst, cl_bool_lst, cl_str_lst, cl_tuple_lst, cl_list_lst, cl_dict_lst, cl_own_lst, notNon_lst, isi_dct, cl_int_dct, cl_bool_dct, cl_str_dct, cl_tuple_dct, cl_list_dct, cl_dict_dct, cl_own_dct, notNon_dct, isi_ins, cl_own_ins, notNon_ins, truth_non, truth_bl, truth_int, truth_tup, truth_lst, walk_tup, walk_lst, walk_scr, walk_str, seq_tup, seq_lst, frz_lst, frz_dct, frz_ins, ofrz_v, ofrz_o, oslot_v, oslot_o, keep_v, keep_o, keep_u, setsS_nil, setsS_cons, isLst_l, isIns_i, noField_i, mm_app, mm_popF, set_lst, set_dct, sf_ins, sl_tup, sl_lst, ress_nil, ress_cons,
  Bm.ok, all, List.any_cons, List.any_nil, List.contains_cons, List.contains_nil, Option.isSome_some, lookF, putF, wipeS, backS,
  List.getElem?_cons_zero, List.getElem?_cons_succ, List.length_cons, List.length_nil, List.map_cons, List.map_nil, List.replicate_zero, List.replicate_succ, List.cons_append, List.nil_append, List.set_cons_zero, List.set_cons_succ, List.getElem?_nil, Nat.reduceAdd, Nat.reduceSub, Nat.reduceLeDiff, Nat.reduceLT, Nat.reduceEqDiff, big, Int.cast_ofNat_Int, Int.reduceLE, Int.reduceLT, Int.reduceNeg, Int.reduceAdd, Int.reduceSub, Int.reduceMul, Int.reducePow, Int.reduceAbs, Int.reduceToNat, Int.reduceEq, Int.reduceDiv, Int.reduceMod, upTo, ↓lcH_nil, ↓lcH_cons,
  ok_60, okAt_int, okAt_bl, okAt_str, okAt_non, okAt_tup, okAt_lst, okAts_nil, okAts_cons, okAts_mapI, okAts_mapS, okAts_mapB, Bool.and_true, Bool.true_and, Bool.and_false, Bool.false_and, Bool.or_true, Bool.true_or, Bool.or_false, Bool.false_or, Bool.not_true, Bool.not_false, Bool.not_not, Bool.false_eq_true, if_true, if_false, ↓reduceIte, decide_true, decide_false, decide_eq_true_eq, eq_self, true_and, and_true, and_self, ofString_inj, String.reduceEq,
  eqD_int, eqD_str, eqD_bl, eqD_tup, eqD_lst, eqD_nn, eqD_nt, eqD_tn, eqD_si, eqD_is, eqD_st, eqD_ts, eqD_ti, eqD_it, eqD_tl, eqD_lt, eqDs_nil, eqDs_cons, eqDs_nc, eqDs_cn, eqDs_strs, eqDs_ints, any_strs,
  atI_0, atI_1, atI_2, atI_3, atI_4, ix_tup, ix_lst, ix_dctS, getD_cons, putD_cons, putD_nil, keyFits_str, keyFits_int, isSome_keyAt, isSome_keyAt0, mergeD,
  cmp_eq, cmp_ne, cmp_in_tup, cmp_in_lst, cmp_nin_tup, cmp_nin_lst, cmp_in_dct, cmp_nin_dct, cmp_lt_int, cmp_gt_int, cmp_le_int, cmp_ge_int, cmp_is_non, cmp_isn_non, cmp_is_bl, cmp_isn_bl,
  add_int, sub_int, add_tup, add_lst, add_str, mul_int, mod_int, fdiv_int, pow_int, len_tup, len_lst, len_scr, abs_int, int_int, int_bl, max_int, min_int, list_tup, list_lst, tuple_tup, tuple_lst, all_bls, any_bls, lenset_strs, lenset_strsL, all_mapP, any_mapP, List.length_map, rec_view, rec_ok, rec_eq, ↓rec_tup, rec_ix0, rec_ix1, rec_ix2, rec_ix3, rule_view, rule_f0, rule_f1, rule_f2, rule_f3, max_rec, rec_isi, rec_cl_t, rec_cl_l, rec_len, rule_isi, ↓is_number_i, *])
local macro_rules | `(tactic| walk_at "lif") => `(tactic| (rw [if_pos]; rotate_left; (simp (config := { failIfUnchanged := false }) only [List.length_append, List.length_map, List.length_cons, List.length_nil, List.length_set, List.length_take, List.length_drop, List.length_range, big]; omega)))
local macro_rules | `(tactic| walk_at "len") => `(tactic| (rw [iteH_yes (p := _ ≤ _)]; rotate_left; (simp (config := { failIfUnchanged := false }) only [List.length_append, List.length_map, List.length_cons, List.length_nil, List.length_set, List.length_take, List.length_drop, List.length_range]; omega)))
theorem is_number_in_i (i a b : Int) : callH g_is_number_in [.int i, .int a, .int b] s Q X h h2 = Q (.val (.bl (decide (a ≤ i) && decide (i ≤ b)))) s := by
  unfold g_is_number_in b_is_number_in
  by_cases h1 : a ≤ i <;> walk_at "hps"
local macro_rules | `(tactic| walk_at "hp") => `(tactic| simp (config := { dsimp := false, failIfUnchanged := false, implicitDefEqProofs := false }) only [↓xA_lit, ↓xA_bin, ↓xA_neg, ↓xA_cmp, ↓xA_chain, ↓xA_not_, ↓xA_and_, ↓xA_or_, ↓xA_ife, ↓xA_tup, ↓xA_lst, ↓xA_dct, ↓xA_ix, ↓xA_sl, ↓xA_rev, ↓xA_fld, ↓xA_prop, ↓xA_call, ↓xA_callp, ↓xA_meth, ↓xA_mk, ↓xA_alloc, ↓xA_bi, ↓xA_isi, ↓xA_rng, ↓xA_bm, ↓xA_mm, ↓xA_lc, ↓xA_dc, ↓xA_eqo, ↓xA_var, ↓xE_lit, ↓xE_var, ↓xE_bin, ↓xE_neg, ↓xE_cmp, ↓xT_cmp, ↓xE_chain, ↓xT_chain, ↓xE_not_, ↓xT_not_, ↓xE_and_, ↓xT_and_, ↓xE_or_, ↓xT_or_, ↓xE_ife, ↓xT_ife, ↓xE_tup, ↓xE_lst, ↓xE_dct, ↓xE_ix, ↓xE_sl, ↓xE_rev, ↓xE_fld, ↓xE_call, ↓xE_callp, ↓xE_meth, ↓xE_mk, ↓xE_prop, ↓xE_alloc, ↓xE_bi, ↓xE_isi, ↓xT_isi, ↓xE_eqo, ↓xT_eqo, ↓xE_rng, ↓xE_bm, ↓xE_mm, ↓xT_lit, ↓xT_bin, ↓xT_neg, ↓xT_tup, ↓xT_lst, ↓xT_dct, ↓xT_ix, ↓xT_sl, ↓xT_rev, ↓xT_fld, ↓xT_prop, ↓xT_call, ↓xT_callp, ↓xT_meth, ↓xT_mk, ↓xT_alloc, ↓xT_bi, ↓xT_rng, ↓xT_bm, ↓xT_mm, ↓xT_lc, ↓xT_dc, ↓xT_var, ↓xV_nil, ↓xO_nil, ↓xU_nil, ↓xV_cons, ↓xO_cons, ↓xU_cons, ↓xV_star, ↓xF_nil, ↓xF_one, ↓xP_nil, ↓xP_cons, ↓xN_nil, ↓xN_cons, ↓xI_seq, ↓xI_rng1, ↓xI_rng2, ↓xI_enum0, ↓xI_items, ↓xI_zip, ↓xB_nil, ↓xB_cons, ↓xS_asgN, ↓xS_asgT, ↓xS_par, ↓xS_setix, ↓xS_setfld, ↓xS_ex, ↓xS_retV, ↓xS_ret_lit, ↓xS_ret_bin, ↓xS_ret_neg, ↓xS_ret_cmp, ↓xS_ret_chain, ↓xS_ret_not_, ↓xS_ret_and_, ↓xS_ret_or_, ↓xS_ret_ife, ↓xS_ret_tup, ↓xS_ret_lst, ↓xS_ret_dct, ↓xS_ret_ix, ↓xS_ret_sl, ↓xS_ret_rev, ↓xS_ret_fld, ↓xS_ret_prop, ↓xS_ret_call, ↓xS_ret_callp, ↓xS_ret_meth, ↓xS_ret_mk, ↓xS_ret_alloc, ↓xS_ret_bi, ↓xS_ret_isi, ↓xS_ret_rng, ↓xS_ret_bm, ↓xS_ret_mm, ↓xS_ret_lc, ↓xS_ret_dc, ↓xS_ret_eqo, ↓xS_retn, ↓xS_ife, ↓xS_for, ↓xS_while, ↓xS_pass, ↓xS_brk, ↓xS_cont, ↓xS_raise, ↓xS_try, ↓xG_name, ↓xG_tup, ↓xGs_nil, ↓xGs_cons, ↓loopH_nil, ↓loopH_cons, ↓xE_lc1, ↓optH_s, ↓iteH_t, ↓iteH_f, ↓andH_t, goH_go, ↓onSlot_v, ↓onSlot_o, ↓onInt_i, ↓onBl_b, ↓onOwn_o, ↓onTup_t, ↓onTup_l, ↓onCons_c, ↓onDct_d, ↓onZip_l, ↓onZip_t, ↓callH_mk, pick, List.getD_cons_zero, List.getD_cons_succ, ↓callH_in, ↓upH_s, ↓upH_r,
  vres_v, vres_s, look_own, look_val, view_int, view_bl, view_str, view_non, view_tup, view_lst, view_scr, view_dct, view_ins, view_r0, view_r1, Option.getD_some, Option.map_some, Option.map_none, Option.bind_some, Option.bind_none, Option.getD_none,
  fld_ins, isi_non, cl_int_non, cl_bool_non, cl_str_non, cl_tuple_non, cl_list_non, cl_dict_non, cl_own_non, notNon_non, isi_bl, cl_int_bl, cl_bool_bl, cl_str_bl, cl_tuple_bl, cl_list_bl, cl_dict_bl, cl_own_bl, notNon_bl, isi_int, cl_int_int, cl_bool_int, cl_str_int, cl_tuple_int, cl_list_int, cl_dict_int, cl_own_int, notNon_int, isi_str, cl_int_str, cl_bool_str, cl_str_str, cl_tuple_str, cl_list_str, cl_dict_str, cl_own_str, notNon_str, isi_tup, cl_int_tup, cl_bool_tup, cl_str_tup, cl_tuple_tup, cl_list_tup, cl_dict_tup, cl_own_tup, notNon_tup, isi_lst, cl_int_lst, cl_bool_lst, cl_str_lst, cl_tuple_lst, cl_list_lst, cl_dict_lst, cl_own_lst, notNon_lst, isi_dct, cl_int_dct, cl_bool_dct, cl_str_dct, cl_tuple_dct, cl_list_dct, cl_dict_dct, cl_own_dct, notNon_dct, isi_ins, cl_own_ins, notNon_ins, truth_non, truth_bl, truth_int, truth_tup, truth_lst, walk_tup, walk_lst, walk_scr, walk_str, seq_tup, seq_lst, frz_lst, frz_dct, frz_ins, ofrz_v, ofrz_o, oslot_v, oslot_o, keep_v, keep_o, keep_u, setsS_nil, setsS_cons, isLst_l, isIns_i, noField_i, mm_app, mm_popF, set_lst, set_dct, sf_ins, sl_tup, sl_lst, ress_nil, ress_cons,
  Bm.ok, all, List.any_cons, List.any_nil, List.contains_cons, List.contains_nil, Option.isSome_some, lookF, putF, wipeS, backS,
  List.getElem?_cons_zero, List.getElem?_cons_succ, List.length_cons, List.length_nil, List.map_cons, List.map_nil, List.replicate_zero, List.replicate_succ, List.cons_append, List.nil_append, List.set_cons_zero, List.set_cons_succ, List.getElem?_nil, Nat.reduceAdd, Nat.reduceSub, Nat.reduceLeDiff, Nat.reduceLT, Nat.reduceEqDiff, big, Int.cast_ofNat_Int, Int.reduceLE, Int.reduceLT, Int.reduceNeg, Int.reduceAdd, Int.reduceSub, Int.reduceMul, Int.reducePow, Int.reduceAbs, Int.reduceToNat, Int.reduceEq, Int.reduceDiv, Int.reduceMod, upTo, ↓lcH_nil, ↓lcH_cons,
  ok_60, okAt_int, okAt_bl, okAt_str, okAt_non, okAt_tup, okAt_lst, okAts_nil, okAts_cons, okAts_mapI, okAts_mapS, okAts_mapB, Bool.and_true, Bool.true_and, Bool.and_false, Bool.false_and, Bool.or_true, Bool.true_or, Bool.or_false, Bool.false_or, Bool.not_true, Bool.not_false, Bool.not_not, Bool.false_eq_true, if_true, if_false, ↓reduceIte, decide_true, decide_false, decide_eq_true_eq, eq_self, true_and, and_true, and_self, ofString_inj, String.reduceEq,
  eqD_int, eqD_str, eqD_bl, eqD_tup, eqD_lst, eqD_nn, eqD_nt, eqD_tn, eqD_si, eqD_is, eqD_st, eqD_ts, eqD_ti, eqD_it, eqD_tl, eqD_lt, eqDs_nil, eqDs_cons, eqDs_nc, eqDs_cn, eqDs_strs, eqDs_ints, any_strs,
  atI_0, atI_1, atI_2, atI_3, atI_4, ix_tup, ix_lst, ix_dctS, getD_cons, putD_cons, putD_nil, keyFits_str, keyFits_int, isSome_keyAt, isSome_keyAt0, mergeD,
  cmp_eq, cmp_ne, cmp_in_tup, cmp_in_lst, cmp_nin_tup, cmp_nin_lst, cmp_in_dct, cmp_nin_dct, cmp_lt_int, cmp_gt_int, cmp_le_int, cmp_ge_int, cmp_is_non, cmp_isn_non, cmp_is_bl, cmp_isn_bl,
  add_int, sub_int, add_tup, add_lst, add_str, mul_int, mod_int, fdiv_int, pow_int, len_tup, len_lst, len_scr, abs_int, int_int, int_bl, max_int, min_int, list_tup, list_lst, tuple_tup, tuple_lst, all_bls, any_bls, lenset_strs, lenset_strsL, all_mapP, any_mapP, List.length_map, rec_view, rec_ok, rec_eq, ↓rec_tup, rec_ix0, rec_ix1, rec_ix2, rec_ix3, rule_view, rule_f0, rule_f1, rule_f2, rule_f3, max_rec, rec_isi, rec_cl_t, rec_cl_l, rec_len, rule_isi, ↓is_number_i, ↓is_number_in_i])
local macro_rules | `(tactic| walk_at "hps") => `(tactic| simp (config := { dsimp := false, failIfUnchanged := false, implicitDefEqProofs := false }) only [↓xA_lit, ↓xA_bin, ↓xA_neg, ↓xA_cmp, ↓xA_chain, ↓xA_not_, ↓xA_and_, ↓xA_or_, ↓xA_ife, ↓xA_tup, ↓xA_lst, ↓xA_dct, ↓xA_ix, ↓xA_sl, ↓xA_rev, ↓xA_fld, ↓xA_prop, ↓xA_call, ↓xA_callp, ↓xA_meth, ↓xA_mk, ↓xA_alloc, ↓xA_bi, ↓xA_isi, ↓xA_rng, ↓xA_bm, ↓xA_mm, ↓xA_lc, ↓xA_dc, ↓xA_eqo, ↓xA_var, ↓xE_lit, ↓xE_var, ↓xE_bin, ↓xE_neg, ↓xE_cmp, ↓xT_cmp, ↓xE_chain, ↓xT_chain, ↓xE_not_, ↓xT_not_, ↓xE_and_, ↓xT_and_, ↓xE_or_, ↓xT_or_, ↓xE_ife, ↓xT_ife, ↓xE_tup, ↓xE_lst, ↓xE_dct, ↓xE_ix, ↓xE_sl, ↓xE_rev, ↓xE_fld, ↓xE_call, ↓xE_callp, ↓xE_meth, ↓xE_mk, ↓xE_prop, ↓xE_alloc, ↓xE_bi, ↓xE_isi, ↓xT_isi, ↓xE_eqo, ↓xT_eqo, ↓xE_rng, ↓xE_bm, ↓xE_mm, ↓xT_lit, ↓xT_bin, ↓xT_neg, ↓xT_tup, ↓xT_lst, ↓xT_dct, ↓xT_ix, ↓xT_sl, ↓xT_rev, ↓xT_fld, ↓xT_prop, ↓xT_call, ↓xT_callp, ↓xT_meth, ↓xT_mk, ↓xT_alloc, ↓xT_bi, ↓xT_rng, ↓xT_bm, ↓xT_mm, ↓xT_lc, ↓xT_dc, ↓xT_var, ↓xV_nil, ↓xO_nil, ↓xU_nil, ↓xV_cons, ↓xO_cons, ↓xU_cons, ↓xV_star, ↓xF_nil, ↓xF_one, ↓xP_nil, ↓xP_cons, ↓xN_nil, ↓xN_cons, ↓xI_seq, ↓xI_rng1, ↓xI_rng2, ↓xI_enum0, ↓xI_items, ↓xI_zip, ↓xB_nil, ↓xB_cons, ↓xS_asgN, ↓xS_asgT, ↓xS_par, ↓xS_setix, ↓xS_setfld, ↓xS_ex, ↓xS_retV, ↓xS_ret_lit, ↓xS_ret_bin, ↓xS_ret_neg, ↓xS_ret_cmp, ↓xS_ret_chain, ↓xS_ret_not_, ↓xS_ret_and_, ↓xS_ret_or_, ↓xS_ret_ife, ↓xS_ret_tup, ↓xS_ret_lst, ↓xS_ret_dct, ↓xS_ret_ix, ↓xS_ret_sl, ↓xS_ret_rev, ↓xS_ret_fld, ↓xS_ret_prop, ↓xS_ret_call, ↓xS_ret_callp, ↓xS_ret_meth, ↓xS_ret_mk, ↓xS_ret_alloc, ↓xS_ret_bi, ↓xS_ret_isi, ↓xS_ret_rng, ↓xS_ret_bm, ↓xS_ret_mm, ↓xS_ret_lc, ↓xS_ret_dc, ↓xS_ret_eqo, ↓xS_retn, ↓xS_ife, ↓xS_for, ↓xS_while, ↓xS_pass, ↓xS_brk, ↓xS_cont, ↓xS_raise, ↓xS_try, ↓xG_name, ↓xG_tup, ↓xGs_nil, ↓xGs_cons, ↓loopH_nil, ↓loopH_cons, ↓xE_lc1, ↓optH_s, ↓iteH_t, ↓iteH_f, ↓andH_t, goH_go, ↓onSlot_v, ↓onSlot_o, ↓onInt_i, ↓onBl_b, ↓onOwn_o, ↓onTup_t, ↓onTup_l, ↓onCons_c, ↓onDct_d, ↓onZip_l, ↓onZip_t, ↓callH_mk, pick, List.getD_cons_zero, List.getD_cons_succ, ↓callH_in, ↓upH_s, ↓upH_r,
  vres_v, vres_s, look_own, look_val, view_int, view_bl, view_str, view_non, view_tup, view_lst, view_scr, view_dct, view_ins, view_r0, view_r1, Option.getD_some, Option.map_some, Option.map_none, Option.bind_some, Option.bind_none, Option.getD_none,
  fld_ins, isi_non, cl_int_non, cl_bool_non, cl_str_non, cl_tuple_non, cl_list_non, cl_dict_non, cl_own_non, notNon_non, isi_bl, cl_int_bl, cl_bool_bl, cl_str_bl, cl_tuple_bl, cl_list_bl, cl_dict_bl, cl_own_bl, notNon_bl, isi_int, cl_int_int, cl_bool_int, cl_str_int, cl_tuple_int, cl_list_int, cl_dict_int, cl_own_int, notNon_int, isi_str, cl_int_str, cl_bool_str, cl_str_str, cl_tuple_str, cl_list_str, cl_dict_str, cl_own_str, notNon_str, isi_tup, cl_int_tup, cl_bool_tup, cl_str_tup, cl_tuple_tup, cl_list_tup, cl_dict_tup, cl_own_tup, notNon_tup, isi_lst, cl_int_lst, cl_bool_lst, cl_str_lst, cl_tuple_lst, cl_list_lst, cl_dict_lst, cl_own_lst, notNon_lst, isi_dct, cl_int_dct, cl_bool_dct, cl_str_dct, cl_tuple_dct, cl_list_dct, cl_dict_dct, cl_own_dct, notNon_dct, isi_ins, cl_own_ins, notNon_ins, truth_non, truth_bl, truth_int, truth_tup, truth_lst, walk_tup, walk_lst, walk_scr, walk_str, seq_tup, seq_lst, frz_lst, frz_dct, frz_ins, ofrz_v, ofrz_o, oslot_v, oslot_o, keep_v, keep_o, keep_u, setsS_nil, setsS_cons, isLst_l, isIns_i, noField_i, mm_app, mm_popF, set_lst, set_dct, sf_ins, sl_tup, sl_lst, ress_nil, ress_cons,
  Bm.ok, all, List.any_cons, List.any_nil, List.contains_cons, List.contains_nil, Option.isSome_some, lookF, putF, wipeS, backS,
  List.getElem?_cons_zero, List.getElem?_cons_succ, List.length_cons, List.length_nil, List.map_cons, List.map_nil, List.replicate_zero, List.replicate_succ, List.cons_append, List.nil_append, List.set_cons_zero, List.set_cons_succ, List.getElem?_nil, Nat.reduceAdd, Nat.reduceSub, Nat.reduceLeDiff, Nat.reduceLT, Nat.reduceEqDiff, big, Int.cast_ofNat_Int, Int.reduceLE, Int.reduceLT, Int.reduceNeg, Int.reduceAdd, Int.reduceSub, Int.reduceMul, Int.reducePow, Int.reduceAbs, Int.reduceToNat, Int.reduceEq, Int.reduceDiv, Int.reduceMod, upTo, ↓lcH_nil, ↓lcH_cons,
  ok_60, okAt_int, okAt_bl, okAt_str, okAt_non, okAt_tup, okAt_lst, okAts_nil, okAts_cons, okAts_mapI, okAts_mapS, okAts_mapB, Bool.and_true, Bool.true_and, Bool.and_false, Bool.false_and, Bool.or_true, Bool.true_or, Bool.or_false, Bool.false_or, Bool.not_true, Bool.not_false, Bool.not_not, Bool.false_eq_true, if_true, if_false, ↓reduceIte, decide_true, decide_false, decide_eq_true_eq, eq_self, true_and, and_true, and_self, ofString_inj, String.reduceEq,
  eqD_int, eqD_str, eqD_bl, eqD_tup, eqD_lst, eqD_nn, eqD_nt, eqD_tn, eqD_si, eqD_is, eqD_st, eqD_ts, eqD_ti, eqD_it, eqD_tl, eqD_lt, eqDs_nil, eqDs_cons, eqDs_nc, eqDs_cn, eqDs_strs, eqDs_ints, any_strs,
  atI_0, atI_1, atI_2, atI_3, atI_4, ix_tup, ix_lst, ix_dctS, getD_cons, putD_cons, putD_nil, keyFits_str, keyFits_int, isSome_keyAt, isSome_keyAt0, mergeD,
  cmp_eq, cmp_ne, cmp_in_tup, cmp_in_lst, cmp_nin_tup, cmp_nin_lst, cmp_in_dct, cmp_nin_dct, cmp_lt_int, cmp_gt_int, cmp_le_int, cmp_ge_int, cmp_is_non, cmp_isn_non, cmp_is_bl, cmp_isn_bl,
  add_int, sub_int, add_tup, add_lst, add_str, mul_int, mod_int, fdiv_int, pow_int, len_tup, len_lst, len_scr, abs_int, int_int, int_bl, max_int, min_int, list_tup, list_lst, tuple_tup, tuple_lst, all_bls, any_bls, lenset_strs, lenset_strsL, all_mapP, any_mapP, List.length_map, rec_view, rec_ok, rec_eq, ↓rec_tup, rec_ix0, rec_ix1, rec_ix2, rec_ix3, rule_view, rule_f0, rule_f1, rule_f2, rule_f3, max_rec, rec_isi, rec_cl_t, rec_cl_l, rec_len, rule_isi, ↓is_number_i, ↓is_number_in_i, *])
local macro_rules | `(tactic| walk_at "lif") => `(tactic| (rw [if_pos]; rotate_left; (simp (config := { failIfUnchanged := false }) only [List.length_append, List.length_map, List.length_cons, List.length_nil, List.length_set, List.length_take, List.length_drop, List.length_range, big]; omega)))
local macro_rules | `(tactic| walk_at "len") => `(tactic| (rw [iteH_yes (p := _ ≤ _)]; rotate_left; (simp (config := { failIfUnchanged := false }) only [List.length_append, List.length_map, List.length_cons, List.length_nil, List.length_set, List.length_take, List.length_drop, List.length_range]; omega)))
/-! ### rules -/
structure RuleM.Ok (r : RuleM) : Prop where
  o : ∀ k ∈ r.order, k ∈ (["turn", "done", "newest", "furthest"] : List Str)
  n : r.order.Nodup
  k : r.kept.Sublist ["done", "place", "stamp"]
  s0 : 0 ≤ r.slack
  s4 : r.slack ≤ 4
  r : r.raises.Sublist ["again", "back"]
def RuleM.C (r : RuleM) : Cont := .ins "Rule" ["own_order", "own_kept", "own_slack", "own_raises"] [.tup (r.order.map .str), .tup (r.kept.map .str), .int r.slack, .tup (r.raises.map .str)]
theorem rule_frz (r : RuleM) : r.C.frz = r.D := rfl
theorem nubS_nodup : ∀ (l acc : List Str), (acc ++ l).Nodup → nubS acc l = acc ++ l
  | [], acc, _ => by simp [nubS]
  | x :: l, acc, h => by
    rw [nubS]
    have h1 : acc.contains x = false := by
      cases q : acc.contains x with
      | false => rfl
      | true =>
        have := List.contains_iff_mem.mp q
        rw [List.nodup_append] at h
        exact absurd rfl (h.2.2 x this x (List.mem_cons_self ..))
    rw [h1, if_neg Bool.false_ne_true, nubS_nodup l (acc ++ [x]) (by simpa using h)]
    simp
/-- as texts are compared -/
def ltS (a b : Str) : Bool := decide (a.cps.toList < b.cps.toList)
theorem ltD_str (a b : Str) : ltD (.str a) (.str b) = ltS a b := by
  simp only [ltD, D.py, PySem.W.dataLt_str, ltS]
theorem sortD_strs {l : List Str} (h : l.Pairwise fun a b => ltS b a = false) : sortD (l.map D.str) = l.map D.str := by
  unfold sortD
  refine List.mergeSort_of_pairwise ?_
  rw [List.pairwise_map]
  refine h.imp fun q => ?_
  simp only [leD, ltD_str, q, Bool.not_false]
theorem sortable_strs (l : List Str) : sortable (l.map D.str) = true := by
  have h1 : ∀ x : Str, (D.str x).ok = true := fun x => by rw [ok_60, okAt_str]
  simp [sortable, h1, notNon, isTup, D.py, PySem.W.alike]
theorem sorted_strs {l : List Str} (h : l.Pairwise fun a b => ltS b a = false) (hl : l.length ≤ big) : biSem .sorted [.tup (l.map D.str)] = some (.own (.lst (l.map D.str))) := by
  simp only [biSem, seqOf, Option.bind_some, sortable_strs, List.length_map, Bool.true_and, decide_eq_true_eq]
  rw [if_pos hl, sortD_strs h]
theorem are_some_r {l k : List Str} (hk : ∀ x ∈ l, x ∈ k) (hn : l.Nodup) (hl : l.length < 4000) : callH g_are_some [.tup (l.map .str), .tup (k.map .str)] s Q X h h2 = Q (.val (.bl true)) s := by
  unfold g_are_some b_are_some
  walk_at "hp"
  rw [lc_map (fun x => D.bl (k.contains x)) (fun x K => by walk_at "hp") (by unfold big; omega)]
  have e1 : l.all k.contains = true := List.all_eq_true.mpr fun x hx => by simpa using hk x hx
  have e2 : (nubS [] l).length = l.length := by rw [nubS_nodup l [] (by simpa using hn)]; rfl
  walk_at "hps"
theorem are_asc_r {l k : List Str} (hk : ∀ x ∈ l, x ∈ k) (hn : l.Nodup) (hl : l.length < 4000) (hs : l.Pairwise fun a b => ltS b a = false) : callH g_are_ascending_some [.tup (l.map .str), .tup (k.map .str)] s Q X h h2 = Q (.val (.bl true)) s := by
  unfold g_are_ascending_some b_are_ascending_some
  walk_at "hp"
  rw [are_some_r _ _ _ _ _ hk hn hl]
  walk_at "hp"
  rw [sorted_strs hs (by unfold big; omega)]
  walk_at "hp"
theorem sub_asc {l k : List Str} (h : l.Sublist k) (hk : k.Pairwise fun a b => ltS b a = false) (hn : k.Nodup) (hl : k.length < 100) : (∀ x ∈ l, x ∈ k) ∧ l.Nodup ∧ l.length < 4000 ∧ l.Pairwise fun a b => ltS b a = false :=
  ⟨fun x hx => h.subset hx, h.nodup hn, by have := h.length_le; omega, hk.sublist h⟩
theorem nodup_len : ∀ {l k : List Str}, l.Nodup → (∀ x ∈ l, x ∈ k) → l.length ≤ k.length
  | [], k, _, _ => by simp
  | x :: l, k, h, hk => by
    obtain ⟨h1, h3⟩ := List.nodup_cons.mp h
    have hx := hk x (List.mem_cons_self ..)
    have e := List.length_erase_of_mem hx
    have : l.length ≤ (k.erase x).length := nodup_len h3 fun y hy => (List.mem_erase_of_ne (fun q => by subst q; exact h1 hy)).mpr (hk y (List.mem_cons_of_mem _ hy))
    have : 0 < k.length := List.length_pos_of_mem hx
    simp only [List.length_cons]
    omega
theorem keys_map : [D.str "turn", .str "done", .str "newest", .str "furthest"] = (["turn", "done", "newest", "furthest"] : List Str).map D.str := rfl
theorem kept_map : [D.str "done", .str "place", .str "stamp"] = (["done", "place", "stamp"] : List Str).map D.str := rfl
theorem raises_map : [D.str "again", .str "back"] = (["again", "back"] : List Str).map D.str := rfl
theorem rule_init_r {r : RuleM} (hr : r.Ok) : callH g_Rule_init [.tup (r.order.map .str), .tup (r.kept.map .str), .int r.slack, .tup (r.raises.map .str)] s Q X h h2 = Q (.own r.C) s := by
  obtain ⟨q1, q2, q3, q4⟩ := sub_asc hr.k (by decide) (by decide) (by decide)
  obtain ⟨p1, p2, p3, p4⟩ := sub_asc hr.r (by decide) (by decide) (by decide)
  have hl := nodup_len hr.n hr.o
  have s0 := hr.s0
  have s4 := hr.s4
  unfold g_Rule_init b_Rule_init
  walk_at "hp"
  rw [keys_map, are_some_r _ _ _ _ _ hr.o hr.n (by simp only [List.length_cons, List.length_nil] at hl; omega)]
  walk_at "hp"
  rw [kept_map, are_asc_r _ _ _ _ _ q1 q2 q3 q4]
  walk_at "hps"
  rw [raises_map, are_asc_r _ _ _ _ _ p1 p2 p3 p4]
  walk_at "hp"
  rfl
end HP

set_option maxHeartbeats 600000
namespace HP
open PySem
/-! P3: rules by parts; deeds. -/
variable (s : Store) (Q : Out → Store → Prop) (X : Exc → Store → Prop) (h : Hd Q) (h2 : Hd X)
local macro_rules | `(tactic| walk_at "hp") => `(tactic| simp (config := { dsimp := false, failIfUnchanged := false, implicitDefEqProofs := false }) only [↓xA_lit, ↓xA_bin, ↓xA_neg, ↓xA_cmp, ↓xA_chain, ↓xA_not_, ↓xA_and_, ↓xA_or_, ↓xA_ife, ↓xA_tup, ↓xA_lst, ↓xA_dct, ↓xA_ix, ↓xA_sl, ↓xA_rev, ↓xA_fld, ↓xA_prop, ↓xA_call, ↓xA_callp, ↓xA_meth, ↓xA_mk, ↓xA_alloc, ↓xA_bi, ↓xA_isi, ↓xA_rng, ↓xA_bm, ↓xA_mm, ↓xA_lc, ↓xA_dc, ↓xA_eqo, ↓xA_var, ↓xE_lit, ↓xE_var, ↓xE_bin, ↓xE_neg, ↓xE_cmp, ↓xT_cmp, ↓xE_chain, ↓xT_chain, ↓xE_not_, ↓xT_not_, ↓xE_and_, ↓xT_and_, ↓xE_or_, ↓xT_or_, ↓xE_ife, ↓xT_ife, ↓xE_tup, ↓xE_lst, ↓xE_dct, ↓xE_ix, ↓xE_sl, ↓xE_rev, ↓xE_fld, ↓xE_call, ↓xE_callp, ↓xE_meth, ↓xE_mk, ↓xE_prop, ↓xE_alloc, ↓xE_bi, ↓xE_isi, ↓xT_isi, ↓xE_eqo, ↓xT_eqo, ↓xE_rng, ↓xE_bm, ↓xE_mm, ↓xT_lit, ↓xT_bin, ↓xT_neg, ↓xT_tup, ↓xT_lst, ↓xT_dct, ↓xT_ix, ↓xT_sl, ↓xT_rev, ↓xT_fld, ↓xT_prop, ↓xT_call, ↓xT_callp, ↓xT_meth, ↓xT_mk, ↓xT_alloc, ↓xT_bi, ↓xT_rng, ↓xT_bm, ↓xT_mm, ↓xT_lc, ↓xT_dc, ↓xT_var, ↓xV_nil, ↓xO_nil, ↓xU_nil, ↓xV_cons, ↓xO_cons, ↓xU_cons, ↓xV_star, ↓xF_nil, ↓xF_one, ↓xP_nil, ↓xP_cons, ↓xN_nil, ↓xN_cons, ↓xI_seq, ↓xI_rng1, ↓xI_rng2, ↓xI_enum0, ↓xI_items, ↓xI_zip, ↓xB_nil, ↓xB_cons, ↓xS_asgN, ↓xS_asgT, ↓xS_par, ↓xS_setix, ↓xS_setfld, ↓xS_ex, ↓xS_retV, ↓xS_ret_lit, ↓xS_ret_bin, ↓xS_ret_neg, ↓xS_ret_cmp, ↓xS_ret_chain, ↓xS_ret_not_, ↓xS_ret_and_, ↓xS_ret_or_, ↓xS_ret_ife, ↓xS_ret_tup, ↓xS_ret_lst, ↓xS_ret_dct, ↓xS_ret_ix, ↓xS_ret_sl, ↓xS_ret_rev, ↓xS_ret_fld, ↓xS_ret_prop, ↓xS_ret_call, ↓xS_ret_callp, ↓xS_ret_meth, ↓xS_ret_mk, ↓xS_ret_alloc, ↓xS_ret_bi, ↓xS_ret_isi, ↓xS_ret_rng, ↓xS_ret_bm, ↓xS_ret_mm, ↓xS_ret_lc, ↓xS_ret_dc, ↓xS_ret_eqo, ↓xS_retn, ↓xS_ife, ↓xS_for, ↓xS_while, ↓xS_pass, ↓xS_brk, ↓xS_cont, ↓xS_raise, ↓xS_try, ↓xG_name, ↓xG_tup, ↓xGs_nil, ↓xGs_cons, ↓loopH_nil, ↓loopH_cons, ↓xE_lc1, ↓optH_s, ↓iteH_t, ↓iteH_f, ↓andH_t, goH_go, ↓onSlot_v, ↓onSlot_o, ↓onInt_i, ↓onBl_b, ↓onOwn_o, ↓onTup_t, ↓onTup_l, ↓onCons_c, ↓onDct_d, ↓onZip_l, ↓onZip_t, ↓callH_mk, pick, List.getD_cons_zero, List.getD_cons_succ, ↓callH_in, ↓upH_s, ↓upH_r,
  vres_v, vres_s, look_own, look_val, view_int, view_bl, view_str, view_non, view_tup, view_lst, view_scr, view_dct, view_ins, view_r0, view_r1, Option.getD_some, Option.map_some, Option.map_none, Option.bind_some, Option.bind_none, Option.getD_none,
  fld_ins, isi_non, cl_int_non, cl_bool_non, cl_str_non, cl_tuple_non, cl_list_non, cl_dict_non, cl_own_non, notNon_non, isi_bl, cl_int_bl, cl_bool_bl, cl_str_bl, cl_tuple_bl, cl_list_bl, cl_dict_bl, cl_own_bl, notNon_bl, isi_int, cl_int_int, cl_bool_int, cl_str_int, cl_tuple_int, cl_list_int, cl_dict_int, cl_own_int, notNon_int, isi_str, cl_int_str, cl_bool_str, cl_str_str, cl_tuple_str, cl_list_str, cl_dict_str, cl_own_str, notNon_str, isi_tup, cl_int_tup, cl_bool_tup, cl_str_tup, cl_tuple_tup, cl_list_tup, cl_dict_tup, cl_own_tup, notNon_tup, isi_lst, cl_int_lst, cl_bool_lst, cl_str_lst, cl_tuple_lst, cl_list_lst, cl_dict_lst, cl_own_lst, notNon_lst, isi_dct, cl_int_dct, cl_bool_dct, cl_str_dct, cl_tuple_dct, cl_list_dct, cl_dict_dct, cl_own_dct, notNon_dct, isi_ins, cl_own_ins, notNon_ins, truth_non, truth_bl, truth_int, truth_tup, truth_lst, walk_tup, walk_lst, walk_scr, walk_str, seq_tup, seq_lst, frz_lst, frz_dct, frz_ins, ofrz_v, ofrz_o, oslot_v, oslot_o, keep_v, keep_o, keep_u, setsS_nil, setsS_cons, isLst_l, isIns_i, noField_i, mm_app, mm_popF, set_lst, set_dct, sf_ins, sl_tup, sl_lst, ress_nil, ress_cons,
  Bm.ok, all, List.any_cons, List.any_nil, List.contains_cons, List.contains_nil, Option.isSome_some, lookF, putF, wipeS, backS,
  List.getElem?_cons_zero, List.getElem?_cons_succ, List.length_cons, List.length_nil, List.map_cons, List.map_nil, List.replicate_zero, List.replicate_succ, List.cons_append, List.nil_append, List.set_cons_zero, List.set_cons_succ, List.getElem?_nil, Nat.reduceAdd, Nat.reduceSub, Nat.reduceLeDiff, Nat.reduceLT, Nat.reduceEqDiff, big, Int.cast_ofNat_Int, Int.reduceLE, Int.reduceLT, Int.reduceNeg, Int.reduceAdd, Int.reduceSub, Int.reduceMul, Int.reducePow, Int.reduceAbs, Int.reduceToNat, Int.reduceEq, Int.reduceDiv, Int.reduceMod, upTo, ↓lcH_nil, ↓lcH_cons,
  ok_60, okAt_int, okAt_bl, okAt_str, okAt_non, okAt_tup, okAt_lst, okAts_nil, okAts_cons, okAts_mapI, okAts_mapS, okAts_mapB, Bool.and_true, Bool.true_and, Bool.and_false, Bool.false_and, Bool.or_true, Bool.true_or, Bool.or_false, Bool.false_or, Bool.not_true, Bool.not_false, Bool.not_not, Bool.false_eq_true, if_true, if_false, ↓reduceIte, decide_true, decide_false, decide_eq_true_eq, eq_self, true_and, and_true, and_self, ofString_inj, String.reduceEq,
  eqD_int, eqD_str, eqD_bl, eqD_tup, eqD_lst, eqD_nn, eqD_nt, eqD_tn, eqD_si, eqD_is, eqD_st, eqD_ts, eqD_ti, eqD_it, eqD_tl, eqD_lt, eqDs_nil, eqDs_cons, eqDs_nc, eqDs_cn, eqDs_strs, eqDs_ints, any_strs,
  atI_0, atI_1, atI_2, atI_3, atI_4, ix_tup, ix_lst, ix_dctS, getD_cons, putD_cons, putD_nil, keyFits_str, keyFits_int, isSome_keyAt, isSome_keyAt0, mergeD,
  cmp_eq, cmp_ne, cmp_in_tup, cmp_in_lst, cmp_nin_tup, cmp_nin_lst, cmp_in_dct, cmp_nin_dct, cmp_lt_int, cmp_gt_int, cmp_le_int, cmp_ge_int, cmp_is_non, cmp_isn_non, cmp_is_bl, cmp_isn_bl,
  add_int, sub_int, add_tup, add_lst, add_str, mul_int, mod_int, fdiv_int, pow_int, len_tup, len_lst, len_scr, abs_int, int_int, int_bl, max_int, min_int, list_tup, list_lst, tuple_tup, tuple_lst, all_bls, any_bls, lenset_strs, lenset_strsL, all_mapP, any_mapP, List.length_map, rec_view, rec_ok, rec_eq, ↓rec_tup, rec_ix0, rec_ix1, rec_ix2, rec_ix3, rule_view, rule_f0, rule_f1, rule_f2, rule_f3, max_rec, rec_isi, rec_cl_t, rec_cl_l, rec_len, rule_isi, ↓is_number_i, ↓is_number_in_i])
local macro_rules | `(tactic| walk_at "hps") => `(tactic| simp (config := { dsimp := false, failIfUnchanged := false, implicitDefEqProofs := false }) only [↓xA_lit, ↓xA_bin, ↓xA_neg, ↓xA_cmp, ↓xA_chain, ↓xA_not_, ↓xA_and_, ↓xA_or_, ↓xA_ife, ↓xA_tup, ↓xA_lst, ↓xA_dct, ↓xA_ix, ↓xA_sl, ↓xA_rev, ↓xA_fld, ↓xA_prop, ↓xA_call, ↓xA_callp, ↓xA_meth, ↓xA_mk, ↓xA_alloc, ↓xA_bi, ↓xA_isi, ↓xA_rng, ↓xA_bm, ↓xA_mm, ↓xA_lc, ↓xA_dc, ↓xA_eqo, ↓xA_var, ↓xE_lit, ↓xE_var, ↓xE_bin, ↓xE_neg, ↓xE_cmp, ↓xT_cmp, ↓xE_chain, ↓xT_chain, ↓xE_not_, ↓xT_not_, ↓xE_and_, ↓xT_and_, ↓xE_or_, ↓xT_or_, ↓xE_ife, ↓xT_ife, ↓xE_tup, ↓xE_lst, ↓xE_dct, ↓xE_ix, ↓xE_sl, ↓xE_rev, ↓xE_fld, ↓xE_call, ↓xE_callp, ↓xE_meth, ↓xE_mk, ↓xE_prop, ↓xE_alloc, ↓xE_bi, ↓xE_isi, ↓xT_isi, ↓xE_eqo, ↓xT_eqo, ↓xE_rng, ↓xE_bm, ↓xE_mm, ↓xT_lit, ↓xT_bin, ↓xT_neg, ↓xT_tup, ↓xT_lst, ↓xT_dct, ↓xT_ix, ↓xT_sl, ↓xT_rev, ↓xT_fld, ↓xT_prop, ↓xT_call, ↓xT_callp, ↓xT_meth, ↓xT_mk, ↓xT_alloc, ↓xT_bi, ↓xT_rng, ↓xT_bm, ↓xT_mm, ↓xT_lc, ↓xT_dc, ↓xT_var, ↓xV_nil, ↓xO_nil, ↓xU_nil, ↓xV_cons, ↓xO_cons, ↓xU_cons, ↓xV_star, ↓xF_nil, ↓xF_one, ↓xP_nil, ↓xP_cons, ↓xN_nil, ↓xN_cons, ↓xI_seq, ↓xI_rng1, ↓xI_rng2, ↓xI_enum0, ↓xI_items, ↓xI_zip, ↓xB_nil, ↓xB_cons, ↓xS_asgN, ↓xS_asgT, ↓xS_par, ↓xS_setix, ↓xS_setfld, ↓xS_ex, ↓xS_retV, ↓xS_ret_lit, ↓xS_ret_bin, ↓xS_ret_neg, ↓xS_ret_cmp, ↓xS_ret_chain, ↓xS_ret_not_, ↓xS_ret_and_, ↓xS_ret_or_, ↓xS_ret_ife, ↓xS_ret_tup, ↓xS_ret_lst, ↓xS_ret_dct, ↓xS_ret_ix, ↓xS_ret_sl, ↓xS_ret_rev, ↓xS_ret_fld, ↓xS_ret_prop, ↓xS_ret_call, ↓xS_ret_callp, ↓xS_ret_meth, ↓xS_ret_mk, ↓xS_ret_alloc, ↓xS_ret_bi, ↓xS_ret_isi, ↓xS_ret_rng, ↓xS_ret_bm, ↓xS_ret_mm, ↓xS_ret_lc, ↓xS_ret_dc, ↓xS_ret_eqo, ↓xS_retn, ↓xS_ife, ↓xS_for, ↓xS_while, ↓xS_pass, ↓xS_brk, ↓xS_cont, ↓xS_raise, ↓xS_try, ↓xG_name, ↓xG_tup, ↓xGs_nil, ↓xGs_cons, ↓loopH_nil, ↓loopH_cons, ↓xE_lc1, ↓optH_s, ↓iteH_t, ↓iteH_f, ↓andH_t, goH_go, ↓onSlot_v, ↓onSlot_o, ↓onInt_i, ↓onBl_b, ↓onOwn_o, ↓onTup_t, ↓onTup_l, ↓onCons_c, ↓onDct_d, ↓onZip_l, ↓onZip_t, ↓callH_mk, pick, List.getD_cons_zero, List.getD_cons_succ, ↓callH_in, ↓upH_s, ↓upH_r,
  vres_v, vres_s, look_own, look_val, view_int, view_bl, view_str, view_non, view_tup, view_lst, view_scr, view_dct, view_ins, view_r0, view_r1, Option.getD_some, Option.map_some, Option.map_none, Option.bind_some, Option.bind_none, Option.getD_none,
  fld_ins, isi_non, cl_int_non, cl_bool_non, cl_str_non, cl_tuple_non, cl_list_non, cl_dict_non, cl_own_non, notNon_non, isi_bl, cl_int_bl, cl_bool_bl, cl_str_bl, cl_tuple_bl, cl_list_bl, cl_dict_bl, cl_own_bl, notNon_bl, isi_int, cl_int_int, cl_bool_int, cl_str_int, cl_tuple_int, cl_list_int, cl_dict_int, cl_own_int, notNon_int, isi_str, cl_int_str, cl_bool_str, cl_str_str, cl_tuple_str, cl_list_str, cl_dict_str, cl_own_str, notNon_str, isi_tup, cl_int_tup, cl_bool_tup, cl_str_tup, cl_tuple_tup, cl_list_tup, cl_dict_tup, cl_own_tup, notNon_tup, isi_lst, cl_int_lst, cl_bool_lst, cl_str_lst, cl_tuple_lst, cl_list_lst, cl_dict_lst, cl_own_lst, notNon_lst, isi_dct, cl_int_dct, cl_bool_dct, cl_str_dct, cl_tuple_dct, cl_list_dct, cl_dict_dct, cl_own_dct, notNon_dct, isi_ins, cl_own_ins, notNon_ins, truth_non, truth_bl, truth_int, truth_tup, truth_lst, walk_tup, walk_lst, walk_scr, walk_str, seq_tup, seq_lst, frz_lst, frz_dct, frz_ins, ofrz_v, ofrz_o, oslot_v, oslot_o, keep_v, keep_o, keep_u, setsS_nil, setsS_cons, isLst_l, isIns_i, noField_i, mm_app, mm_popF, set_lst, set_dct, sf_ins, sl_tup, sl_lst, ress_nil, ress_cons,
  Bm.ok, all, List.any_cons, List.any_nil, List.contains_cons, List.contains_nil, Option.isSome_some, lookF, putF, wipeS, backS,
  List.getElem?_cons_zero, List.getElem?_cons_succ, List.length_cons, List.length_nil, List.map_cons, List.map_nil, List.replicate_zero, List.replicate_succ, List.cons_append, List.nil_append, List.set_cons_zero, List.set_cons_succ, List.getElem?_nil, Nat.reduceAdd, Nat.reduceSub, Nat.reduceLeDiff, Nat.reduceLT, Nat.reduceEqDiff, big, Int.cast_ofNat_Int, Int.reduceLE, Int.reduceLT, Int.reduceNeg, Int.reduceAdd, Int.reduceSub, Int.reduceMul, Int.reducePow, Int.reduceAbs, Int.reduceToNat, Int.reduceEq, Int.reduceDiv, Int.reduceMod, upTo, ↓lcH_nil, ↓lcH_cons,
  ok_60, okAt_int, okAt_bl, okAt_str, okAt_non, okAt_tup, okAt_lst, okAts_nil, okAts_cons, okAts_mapI, okAts_mapS, okAts_mapB, Bool.and_true, Bool.true_and, Bool.and_false, Bool.false_and, Bool.or_true, Bool.true_or, Bool.or_false, Bool.false_or, Bool.not_true, Bool.not_false, Bool.not_not, Bool.false_eq_true, if_true, if_false, ↓reduceIte, decide_true, decide_false, decide_eq_true_eq, eq_self, true_and, and_true, and_self, ofString_inj, String.reduceEq,
  eqD_int, eqD_str, eqD_bl, eqD_tup, eqD_lst, eqD_nn, eqD_nt, eqD_tn, eqD_si, eqD_is, eqD_st, eqD_ts, eqD_ti, eqD_it, eqD_tl, eqD_lt, eqDs_nil, eqDs_cons, eqDs_nc, eqDs_cn, eqDs_strs, eqDs_ints, any_strs,
  atI_0, atI_1, atI_2, atI_3, atI_4, ix_tup, ix_lst, ix_dctS, getD_cons, putD_cons, putD_nil, keyFits_str, keyFits_int, isSome_keyAt, isSome_keyAt0, mergeD,
  cmp_eq, cmp_ne, cmp_in_tup, cmp_in_lst, cmp_nin_tup, cmp_nin_lst, cmp_in_dct, cmp_nin_dct, cmp_lt_int, cmp_gt_int, cmp_le_int, cmp_ge_int, cmp_is_non, cmp_isn_non, cmp_is_bl, cmp_isn_bl,
  add_int, sub_int, add_tup, add_lst, add_str, mul_int, mod_int, fdiv_int, pow_int, len_tup, len_lst, len_scr, abs_int, int_int, int_bl, max_int, min_int, list_tup, list_lst, tuple_tup, tuple_lst, all_bls, any_bls, lenset_strs, lenset_strsL, all_mapP, any_mapP, List.length_map, rec_view, rec_ok, rec_eq, ↓rec_tup, rec_ix0, rec_ix1, rec_ix2, rec_ix3, rule_view, rule_f0, rule_f1, rule_f2, rule_f3, max_rec, rec_isi, rec_cl_t, rec_cl_l, rec_len, rule_isi, ↓is_number_i, ↓is_number_in_i, *])
local macro_rules | `(tactic| walk_at "lif") => `(tactic| (rw [if_pos]; rotate_left; (simp (config := { failIfUnchanged := false }) only [List.length_append, List.length_map, List.length_cons, List.length_nil, List.length_set, List.length_take, List.length_drop, List.length_range, big]; omega)))
local macro_rules | `(tactic| walk_at "len") => `(tactic| (rw [iteH_yes (p := _ ≤ _)]; rotate_left; (simp (config := { failIfUnchanged := false }) only [List.length_append, List.length_map, List.length_cons, List.length_nil, List.length_set, List.length_take, List.length_drop, List.length_range]; omega)))
theorem with_slack_r {r : RuleM} {n : Int} (hr : RuleM.Ok { r with slack := n }) : callH g_Rule_with_part [r.D, .str "slack", .int n] s Q X h h2 = Q (.own (RuleM.C { r with slack := n })) s := by
  unfold g_Rule_with_part b_Rule_with_part
  walk_at "hp"
  with_reducible exact rule_init_r s _ _ _ _ hr
theorem with_order_r {r : RuleM} {l : List Str} (hr : RuleM.Ok { r with order := l }) : callH g_Rule_with_part [r.D, .str "order", .tup (l.map .str)] s Q X h h2 = Q (.own (RuleM.C { r with order := l })) s := by
  unfold g_Rule_with_part b_Rule_with_part
  walk_at "hp"
  with_reducible exact rule_init_r s _ _ _ _ hr
theorem with_kept_r {r : RuleM} {l : List Str} (hr : RuleM.Ok { r with kept := l }) : callH g_Rule_with_part [r.D, .str "kept", .tup (l.map .str)] s Q X h h2 = Q (.own (RuleM.C { r with kept := l })) s := by
  unfold g_Rule_with_part b_Rule_with_part
  walk_at "hp"
  with_reducible exact rule_init_r s _ _ _ _ hr
theorem with_raises_r {r : RuleM} {l : List Str} (hr : RuleM.Ok { r with raises := l }) : callH g_Rule_with_part [r.D, .str "raises", .tup (l.map .str)] s Q X h h2 = Q (.own (RuleM.C { r with raises := l })) s := by
  unfold g_Rule_with_part b_Rule_with_part
  walk_at "hp"
  with_reducible exact rule_init_r s _ _ _ _ hr
/-! ### deeds -/
inductive Deed where
  | hear (p : Int)
  | back (p : Int)
  | finish
  | again
def Deed.D : Deed → HP.D
  | .hear p => .tup [.str "hear", .int p]
  | .back p => .tup [.str "back", .int p]
  | .finish => .tup [.str "finish"]
  | .again => .tup [.str "again"]
def Deed.word : Deed → Str
  | .hear _ => "hear"
  | .back _ => "back"
  | .finish => "finish"
  | .again => "again"
def deedOk (top : Int) (r : Rec) : Deed → Bool
  | .hear p => decide (r.p ≤ p) && decide (p ≤ top)
  | .back p => decide (0 ≤ p) && decide (p ≤ r.p - 1)
  | .finish => !r.d
  | .again => true
def deedM (rule : RuleM) (r : Rec) (d : Deed) (stamp : Int) : Rec :=
  let t := if rule.raises.contains d.word then r.t + 1 else r.t
  match d with
  | .hear p => ⟨t, r.d, p, stamp⟩
  | .back p => ⟨t, r.d, p, stamp⟩
  | .finish => ⟨t, true, r.p, stamp⟩
  | .again => ⟨t, false, 0, stamp⟩
end HP

set_option maxHeartbeats 600000
namespace HP
open PySem
/-! P4: a drawn order. -/
variable {s m : Store} {Q : Out → Store → Prop} {X : Exc → Store → Prop} {h : Hd Q} {h2 : Hd X}
theorem popI {left : List D} {k : Int} (h0 : 0 ≤ k) (h1 : k < left.length) : ∃ x, left[k.toNat]? = some x ∧ mmSem .pop (.lst left) [.int k] = some (.lst (left.eraseIdx k.toNat), x) := by
  have hk : k.toNat < left.length := by omega
  refine ⟨left[k.toNat], List.getElem?_eq_getElem hk, ?_⟩
  simp only [mmSem, L2.ixN]
  rw [if_pos h0, if_pos h1]
  simp [List.getElem?_eq_getElem hk]
theorem ne_nil {left : List D} (ho : okAts 59 left = true) : cmpSem .ne (.lst left) (.lst []) = some (!left.isEmpty) := by
  rw [cmp_ne, ok_60, ok_60, okAt_lst, okAt_lst, ho, okAts_nil]
  cases left <;> simp [eqD_lst, eqDs_nil, eqDs_cn]
theorem okAts_erase {n : Nat} {l : List D} (h : okAts n l = true) (k : Nat) : okAts n (l.eraseIdx k) = true := by
  have : ∀ {l : List D}, okAts n l = true → ∀ d ∈ l, okAt n d = true := by
    intro l
    induction l with
    | nil => intro _ d hd; cases hd
    | cons x l ih =>
      intro h d hd
      rw [okAts_cons, Bool.and_eq_true] at h
      rcases List.mem_cons.mp hd with rfl | hd
      · exact h.1
      · exact ih h.2 d hd
  exact okAts_all fun d hd => this h d (List.mem_of_mem_eraseIdx hd)
theorem erase_perm {α : Type} : ∀ {l : List α} {k : Nat} {x : α}, l[k]? = some x → List.Perm (x :: l.eraseIdx k) l
  | [], k, x, h => by simp at h
  | y :: l, 0, x, h => by
    simp only [List.getElem?_cons_zero, Option.some.injEq] at h
    subst h
    exact List.Perm.refl _
  | y :: l, k + 1, x, h => by
    simp only [List.getElem?_cons_succ] at h
    rw [List.eraseIdx_cons_succ]
    exact (List.Perm.swap y x _).trans ((erase_perm h).cons y)
local macro_rules | `(tactic| walk_at "hp") => `(tactic| simp (config := { dsimp := false, failIfUnchanged := false, implicitDefEqProofs := false }) only [↓xA_lit, ↓xA_bin, ↓xA_neg, ↓xA_cmp, ↓xA_chain, ↓xA_not_, ↓xA_and_, ↓xA_or_, ↓xA_ife, ↓xA_tup, ↓xA_lst, ↓xA_dct, ↓xA_ix, ↓xA_sl, ↓xA_rev, ↓xA_fld, ↓xA_prop, ↓xA_call, ↓xA_callp, ↓xA_meth, ↓xA_mk, ↓xA_alloc, ↓xA_bi, ↓xA_isi, ↓xA_rng, ↓xA_bm, ↓xA_mm, ↓xA_lc, ↓xA_dc, ↓xA_eqo, ↓xA_var, ↓xE_lit, ↓xE_var, ↓xE_bin, ↓xE_neg, ↓xE_cmp, ↓xT_cmp, ↓xE_chain, ↓xT_chain, ↓xE_not_, ↓xT_not_, ↓xE_and_, ↓xT_and_, ↓xE_or_, ↓xT_or_, ↓xE_ife, ↓xT_ife, ↓xE_tup, ↓xE_lst, ↓xE_dct, ↓xE_ix, ↓xE_sl, ↓xE_rev, ↓xE_fld, ↓xE_call, ↓xE_callp, ↓xE_meth, ↓xE_mk, ↓xE_prop, ↓xE_alloc, ↓xE_bi, ↓xE_isi, ↓xT_isi, ↓xE_eqo, ↓xT_eqo, ↓xE_rng, ↓xE_bm, ↓xE_mm, ↓xT_lit, ↓xT_bin, ↓xT_neg, ↓xT_tup, ↓xT_lst, ↓xT_dct, ↓xT_ix, ↓xT_sl, ↓xT_rev, ↓xT_fld, ↓xT_prop, ↓xT_call, ↓xT_callp, ↓xT_meth, ↓xT_mk, ↓xT_alloc, ↓xT_bi, ↓xT_rng, ↓xT_bm, ↓xT_mm, ↓xT_lc, ↓xT_dc, ↓xT_var, ↓xV_nil, ↓xO_nil, ↓xU_nil, ↓xV_cons, ↓xO_cons, ↓xU_cons, ↓xV_star, ↓xF_nil, ↓xF_one, ↓xP_nil, ↓xP_cons, ↓xN_nil, ↓xN_cons, ↓xI_seq, ↓xI_rng1, ↓xI_rng2, ↓xI_enum0, ↓xI_items, ↓xI_zip, ↓xB_nil, ↓xB_cons, ↓xS_asgN, ↓xS_asgT, ↓xS_par, ↓xS_setix, ↓xS_setfld, ↓xS_ex, ↓xS_retV, ↓xS_ret_lit, ↓xS_ret_bin, ↓xS_ret_neg, ↓xS_ret_cmp, ↓xS_ret_chain, ↓xS_ret_not_, ↓xS_ret_and_, ↓xS_ret_or_, ↓xS_ret_ife, ↓xS_ret_tup, ↓xS_ret_lst, ↓xS_ret_dct, ↓xS_ret_ix, ↓xS_ret_sl, ↓xS_ret_rev, ↓xS_ret_fld, ↓xS_ret_prop, ↓xS_ret_call, ↓xS_ret_callp, ↓xS_ret_meth, ↓xS_ret_mk, ↓xS_ret_alloc, ↓xS_ret_bi, ↓xS_ret_isi, ↓xS_ret_rng, ↓xS_ret_bm, ↓xS_ret_mm, ↓xS_ret_lc, ↓xS_ret_dc, ↓xS_ret_eqo, ↓xS_retn, ↓xS_ife, ↓xS_for, ↓xS_while, ↓xS_pass, ↓xS_brk, ↓xS_cont, ↓xS_raise, ↓xS_try, ↓xG_name, ↓xG_tup, ↓xGs_nil, ↓xGs_cons, ↓loopH_nil, ↓loopH_cons, ↓xE_lc1, ↓optH_s, ↓iteH_t, ↓iteH_f, ↓andH_t, goH_go, ↓onSlot_v, ↓onSlot_o, ↓onInt_i, ↓onBl_b, ↓onOwn_o, ↓onTup_t, ↓onTup_l, ↓onCons_c, ↓onDct_d, ↓onZip_l, ↓onZip_t, ↓callH_mk, pick, List.getD_cons_zero, List.getD_cons_succ, ↓callH_in, ↓upH_s, ↓upH_r,
  vres_v, vres_s, look_own, look_val, view_int, view_bl, view_str, view_non, view_tup, view_lst, view_scr, view_dct, view_ins, view_r0, view_r1, Option.getD_some, Option.map_some, Option.map_none, Option.bind_some, Option.bind_none, Option.getD_none,
  fld_ins, isi_non, cl_int_non, cl_bool_non, cl_str_non, cl_tuple_non, cl_list_non, cl_dict_non, cl_own_non, notNon_non, isi_bl, cl_int_bl, cl_bool_bl, cl_str_bl, cl_tuple_bl, cl_list_bl, cl_dict_bl, cl_own_bl, notNon_bl, isi_int, cl_int_int, cl_bool_int, cl_str_int, cl_tuple_int, cl_list_int, cl_dict_int, cl_own_int, notNon_int, isi_str, cl_int_str, cl_bool_str, cl_str_str, cl_tuple_str, cl_list_str, cl_dict_str, cl_own_str, notNon_str, isi_tup, cl_int_tup, cl_bool_tup, cl_str_tup, cl_tuple_tup, cl_list_tup, cl_dict_tup, cl_own_tup, notNon_tup, isi_lst, cl_int_lst, cl_bool_lst, cl_str_lst, cl_tuple_lst, cl_list_lst, cl_dict_lst, cl_own_lst, notNon_lst, isi_dct, cl_int_dct, cl_bool_dct, cl_str_dct, cl_tuple_dct, cl_list_dct, cl_dict_dct, cl_own_dct, notNon_dct, isi_ins, cl_own_ins, notNon_ins, truth_non, truth_bl, truth_int, truth_tup, truth_lst, walk_tup, walk_lst, walk_scr, walk_str, seq_tup, seq_lst, frz_lst, frz_dct, frz_ins, ofrz_v, ofrz_o, oslot_v, oslot_o, keep_v, keep_o, keep_u, setsS_nil, setsS_cons, isLst_l, isIns_i, noField_i, mm_app, mm_popF, set_lst, set_dct, sf_ins, sl_tup, sl_lst, ress_nil, ress_cons,
  Bm.ok, all, List.any_cons, List.any_nil, List.contains_cons, List.contains_nil, Option.isSome_some, lookF, putF, wipeS, backS,
  List.getElem?_cons_zero, List.getElem?_cons_succ, List.length_cons, List.length_nil, List.map_cons, List.map_nil, List.replicate_zero, List.replicate_succ, List.cons_append, List.nil_append, List.set_cons_zero, List.set_cons_succ, List.getElem?_nil, Nat.reduceAdd, Nat.reduceSub, Nat.reduceLeDiff, Nat.reduceLT, Nat.reduceEqDiff, big, Int.cast_ofNat_Int, Int.reduceLE, Int.reduceLT, Int.reduceNeg, Int.reduceAdd, Int.reduceSub, Int.reduceMul, Int.reducePow, Int.reduceAbs, Int.reduceToNat, Int.reduceEq, Int.reduceDiv, Int.reduceMod, upTo, ↓lcH_nil, ↓lcH_cons,
  ok_60, okAt_int, okAt_bl, okAt_str, okAt_non, okAt_tup, okAt_lst, okAts_nil, okAts_cons, okAts_mapI, okAts_mapS, okAts_mapB, Bool.and_true, Bool.true_and, Bool.and_false, Bool.false_and, Bool.or_true, Bool.true_or, Bool.or_false, Bool.false_or, Bool.not_true, Bool.not_false, Bool.not_not, Bool.false_eq_true, if_true, if_false, ↓reduceIte, decide_true, decide_false, decide_eq_true_eq, eq_self, true_and, and_true, and_self, ofString_inj, String.reduceEq,
  eqD_int, eqD_str, eqD_bl, eqD_tup, eqD_lst, eqD_nn, eqD_nt, eqD_tn, eqD_si, eqD_is, eqD_st, eqD_ts, eqD_ti, eqD_it, eqD_tl, eqD_lt, eqDs_nil, eqDs_cons, eqDs_nc, eqDs_cn, eqDs_strs, eqDs_ints, any_strs,
  atI_0, atI_1, atI_2, atI_3, atI_4, ix_tup, ix_lst, ix_dctS, getD_cons, putD_cons, putD_nil, keyFits_str, keyFits_int, isSome_keyAt, isSome_keyAt0, mergeD,
  cmp_eq, cmp_ne, cmp_in_tup, cmp_in_lst, cmp_nin_tup, cmp_nin_lst, cmp_in_dct, cmp_nin_dct, cmp_lt_int, cmp_gt_int, cmp_le_int, cmp_ge_int, cmp_is_non, cmp_isn_non, cmp_is_bl, cmp_isn_bl,
  add_int, sub_int, add_tup, add_lst, add_str, mul_int, mod_int, fdiv_int, pow_int, len_tup, len_lst, len_scr, abs_int, int_int, int_bl, max_int, min_int, list_tup, list_lst, tuple_tup, tuple_lst, all_bls, any_bls, lenset_strs, lenset_strsL, all_mapP, any_mapP, List.length_map, ne_nil, List.isEmpty_cons, List.isEmpty_nil])
local macro_rules | `(tactic| walk_at "hps") => `(tactic| simp (config := { dsimp := false, failIfUnchanged := false, implicitDefEqProofs := false }) only [↓xA_lit, ↓xA_bin, ↓xA_neg, ↓xA_cmp, ↓xA_chain, ↓xA_not_, ↓xA_and_, ↓xA_or_, ↓xA_ife, ↓xA_tup, ↓xA_lst, ↓xA_dct, ↓xA_ix, ↓xA_sl, ↓xA_rev, ↓xA_fld, ↓xA_prop, ↓xA_call, ↓xA_callp, ↓xA_meth, ↓xA_mk, ↓xA_alloc, ↓xA_bi, ↓xA_isi, ↓xA_rng, ↓xA_bm, ↓xA_mm, ↓xA_lc, ↓xA_dc, ↓xA_eqo, ↓xA_var, ↓xE_lit, ↓xE_var, ↓xE_bin, ↓xE_neg, ↓xE_cmp, ↓xT_cmp, ↓xE_chain, ↓xT_chain, ↓xE_not_, ↓xT_not_, ↓xE_and_, ↓xT_and_, ↓xE_or_, ↓xT_or_, ↓xE_ife, ↓xT_ife, ↓xE_tup, ↓xE_lst, ↓xE_dct, ↓xE_ix, ↓xE_sl, ↓xE_rev, ↓xE_fld, ↓xE_call, ↓xE_callp, ↓xE_meth, ↓xE_mk, ↓xE_prop, ↓xE_alloc, ↓xE_bi, ↓xE_isi, ↓xT_isi, ↓xE_eqo, ↓xT_eqo, ↓xE_rng, ↓xE_bm, ↓xE_mm, ↓xT_lit, ↓xT_bin, ↓xT_neg, ↓xT_tup, ↓xT_lst, ↓xT_dct, ↓xT_ix, ↓xT_sl, ↓xT_rev, ↓xT_fld, ↓xT_prop, ↓xT_call, ↓xT_callp, ↓xT_meth, ↓xT_mk, ↓xT_alloc, ↓xT_bi, ↓xT_rng, ↓xT_bm, ↓xT_mm, ↓xT_lc, ↓xT_dc, ↓xT_var, ↓xV_nil, ↓xO_nil, ↓xU_nil, ↓xV_cons, ↓xO_cons, ↓xU_cons, ↓xV_star, ↓xF_nil, ↓xF_one, ↓xP_nil, ↓xP_cons, ↓xN_nil, ↓xN_cons, ↓xI_seq, ↓xI_rng1, ↓xI_rng2, ↓xI_enum0, ↓xI_items, ↓xI_zip, ↓xB_nil, ↓xB_cons, ↓xS_asgN, ↓xS_asgT, ↓xS_par, ↓xS_setix, ↓xS_setfld, ↓xS_ex, ↓xS_retV, ↓xS_ret_lit, ↓xS_ret_bin, ↓xS_ret_neg, ↓xS_ret_cmp, ↓xS_ret_chain, ↓xS_ret_not_, ↓xS_ret_and_, ↓xS_ret_or_, ↓xS_ret_ife, ↓xS_ret_tup, ↓xS_ret_lst, ↓xS_ret_dct, ↓xS_ret_ix, ↓xS_ret_sl, ↓xS_ret_rev, ↓xS_ret_fld, ↓xS_ret_prop, ↓xS_ret_call, ↓xS_ret_callp, ↓xS_ret_meth, ↓xS_ret_mk, ↓xS_ret_alloc, ↓xS_ret_bi, ↓xS_ret_isi, ↓xS_ret_rng, ↓xS_ret_bm, ↓xS_ret_mm, ↓xS_ret_lc, ↓xS_ret_dc, ↓xS_ret_eqo, ↓xS_retn, ↓xS_ife, ↓xS_for, ↓xS_while, ↓xS_pass, ↓xS_brk, ↓xS_cont, ↓xS_raise, ↓xS_try, ↓xG_name, ↓xG_tup, ↓xGs_nil, ↓xGs_cons, ↓loopH_nil, ↓loopH_cons, ↓xE_lc1, ↓optH_s, ↓iteH_t, ↓iteH_f, ↓andH_t, goH_go, ↓onSlot_v, ↓onSlot_o, ↓onInt_i, ↓onBl_b, ↓onOwn_o, ↓onTup_t, ↓onTup_l, ↓onCons_c, ↓onDct_d, ↓onZip_l, ↓onZip_t, ↓callH_mk, pick, List.getD_cons_zero, List.getD_cons_succ, ↓callH_in, ↓upH_s, ↓upH_r,
  vres_v, vres_s, look_own, look_val, view_int, view_bl, view_str, view_non, view_tup, view_lst, view_scr, view_dct, view_ins, view_r0, view_r1, Option.getD_some, Option.map_some, Option.map_none, Option.bind_some, Option.bind_none, Option.getD_none,
  fld_ins, isi_non, cl_int_non, cl_bool_non, cl_str_non, cl_tuple_non, cl_list_non, cl_dict_non, cl_own_non, notNon_non, isi_bl, cl_int_bl, cl_bool_bl, cl_str_bl, cl_tuple_bl, cl_list_bl, cl_dict_bl, cl_own_bl, notNon_bl, isi_int, cl_int_int, cl_bool_int, cl_str_int, cl_tuple_int, cl_list_int, cl_dict_int, cl_own_int, notNon_int, isi_str, cl_int_str, cl_bool_str, cl_str_str, cl_tuple_str, cl_list_str, cl_dict_str, cl_own_str, notNon_str, isi_tup, cl_int_tup, cl_bool_tup, cl_str_tup, cl_tuple_tup, cl_list_tup, cl_dict_tup, cl_own_tup, notNon_tup, isi_lst, cl_int_lst, cl_bool_lst, cl_str_lst, cl_tuple_lst, cl_list_lst, cl_dict_lst, cl_own_lst, notNon_lst, isi_dct, cl_int_dct, cl_bool_dct, cl_str_dct, cl_tuple_dct, cl_list_dct, cl_dict_dct, cl_own_dct, notNon_dct, isi_ins, cl_own_ins, notNon_ins, truth_non, truth_bl, truth_int, truth_tup, truth_lst, walk_tup, walk_lst, walk_scr, walk_str, seq_tup, seq_lst, frz_lst, frz_dct, frz_ins, ofrz_v, ofrz_o, oslot_v, oslot_o, keep_v, keep_o, keep_u, setsS_nil, setsS_cons, isLst_l, isIns_i, noField_i, mm_app, mm_popF, set_lst, set_dct, sf_ins, sl_tup, sl_lst, ress_nil, ress_cons,
  Bm.ok, all, List.any_cons, List.any_nil, List.contains_cons, List.contains_nil, Option.isSome_some, lookF, putF, wipeS, backS,
  List.getElem?_cons_zero, List.getElem?_cons_succ, List.length_cons, List.length_nil, List.map_cons, List.map_nil, List.replicate_zero, List.replicate_succ, List.cons_append, List.nil_append, List.set_cons_zero, List.set_cons_succ, List.getElem?_nil, Nat.reduceAdd, Nat.reduceSub, Nat.reduceLeDiff, Nat.reduceLT, Nat.reduceEqDiff, big, Int.cast_ofNat_Int, Int.reduceLE, Int.reduceLT, Int.reduceNeg, Int.reduceAdd, Int.reduceSub, Int.reduceMul, Int.reducePow, Int.reduceAbs, Int.reduceToNat, Int.reduceEq, Int.reduceDiv, Int.reduceMod, upTo, ↓lcH_nil, ↓lcH_cons,
  ok_60, okAt_int, okAt_bl, okAt_str, okAt_non, okAt_tup, okAt_lst, okAts_nil, okAts_cons, okAts_mapI, okAts_mapS, okAts_mapB, Bool.and_true, Bool.true_and, Bool.and_false, Bool.false_and, Bool.or_true, Bool.true_or, Bool.or_false, Bool.false_or, Bool.not_true, Bool.not_false, Bool.not_not, Bool.false_eq_true, if_true, if_false, ↓reduceIte, decide_true, decide_false, decide_eq_true_eq, eq_self, true_and, and_true, and_self, ofString_inj, String.reduceEq,
  eqD_int, eqD_str, eqD_bl, eqD_tup, eqD_lst, eqD_nn, eqD_nt, eqD_tn, eqD_si, eqD_is, eqD_st, eqD_ts, eqD_ti, eqD_it, eqD_tl, eqD_lt, eqDs_nil, eqDs_cons, eqDs_nc, eqDs_cn, eqDs_strs, eqDs_ints, any_strs,
  atI_0, atI_1, atI_2, atI_3, atI_4, ix_tup, ix_lst, ix_dctS, getD_cons, putD_cons, putD_nil, keyFits_str, keyFits_int, isSome_keyAt, isSome_keyAt0, mergeD,
  cmp_eq, cmp_ne, cmp_in_tup, cmp_in_lst, cmp_nin_tup, cmp_nin_lst, cmp_in_dct, cmp_nin_dct, cmp_lt_int, cmp_gt_int, cmp_le_int, cmp_ge_int, cmp_is_non, cmp_isn_non, cmp_is_bl, cmp_isn_bl,
  add_int, sub_int, add_tup, add_lst, add_str, mul_int, mod_int, fdiv_int, pow_int, len_tup, len_lst, len_scr, abs_int, int_int, int_bl, max_int, min_int, list_tup, list_lst, tuple_tup, tuple_lst, all_bls, any_bls, lenset_strs, lenset_strsL, all_mapP, any_mapP, List.length_map, ne_nil, List.isEmpty_cons, List.isEmpty_nil, *])
local macro_rules | `(tactic| walk_at "lif") => `(tactic| (rw [if_pos]; rotate_left; (simp (config := { failIfUnchanged := false }) only [List.length_append, List.length_map, List.length_cons, List.length_nil, List.length_set, List.length_take, List.length_drop, List.length_range, big]; omega)))
local macro_rules | `(tactic| walk_at "len") => `(tactic| (rw [iteH_yes (p := _ ≤ _)]; rotate_left; (simp (config := { failIfUnchanged := false }) only [List.length_append, List.length_map, List.length_cons, List.length_nil, List.length_set, List.length_take, List.length_drop, List.length_range]; omega)))
theorem mixed_loop {d1 : D} {N : QN} {P : Rst} {h3 : Hd N} {h4 : Hd P} {l : List D} (hN : ∀ l' s, l'.Perm l → Draws s m → N [.val (.ref 1), .val d1, .own (.lst []), .own (.lst l')] s) : ∀ (n : Nat) (left found : List D) (s : Store), left.length < n → left.length + found.length ≤ 1000 → okAts 59 left = true → (found ++ left).Perm l → Draws s m →
    whH (.cmp .ne (.var 2) (.lst .nil)) l__law_mixed_1 n [.val (.ref 1), .val d1, .own (.lst left), .own (.lst found)] s N P h3 h4
  | 0, left, found, s, hn, _, _, _, _ => by omega
  | n + 1, left, found, s, hn, hb, ho, hp, hs => by
    rw [whH_succ]
    cases left with
    | nil =>
      walk_at "hps"
      exact hN _ _ (by simpa using hp) hs
    | cons y ys =>
      unfold l__law_mixed_1
      walk_at "hps"
      with_reducible refine take_spec hs ?_ ?_ fun k s' k0 k1 hs' => ?_
      · omega
      · simp only [List.length_cons] at hb; omega
      obtain ⟨x, hx, hpop⟩ := popI (left := y :: ys) k0 (by simpa using k1)
      walk_at "hp"
      rw [hpop]
      walk_at "hp"
      have e1 : found.length < 16777216 := by omega
      walk_at "hps"
      have hl : ((y :: ys).eraseIdx k.toNat).length = ys.length := by
        rw [List.length_eraseIdx, if_pos (by simp only [List.length_cons]; omega)]
        simp
      refine mixed_loop hN n _ _ s' ?_ ?_ (okAts_erase ho _) ?_ hs'
      · simp only [List.length_cons] at hn; omega
      · simp only [List.length_cons, List.length_append, List.length_nil] at hb ⊢; omega
      · refine List.Perm.trans ?_ hp
        rw [List.append_assoc]
        exact (erase_perm hx).append_left found
theorem mixed_spec {l : List D} (hs : Draws s m) (hl : l.length ≤ 1000) (ho : okAts 59 l = true) (hQ : ∀ l' s, l'.Perm l → Draws s m → Q (.own (.lst l')) s) : callH g__law_mixed [.ref 1, .lst l] s Q X h h2 := by
  unfold g__law_mixed b__law_mixed
  walk_at "hp"
  refine mixed_loop (l := l) (fun l' s hp hs => ?_) _ _ _ _ ?_ ?_ ho (by simpa using List.Perm.refl l) hs
  · walk_at "hp"
    exact hQ _ _ hp hs
  · unfold turns; omega
  · simpa using hl
end HP

set_option maxHeartbeats 600000
namespace HP
open PySem
/-! P5: what laws do with records and rules. -/
variable {s : Store} {Q : Out → Store → Prop} {X : Exc → Store → Prop} {h : Hd Q} {h2 : Hd X}
theorem rec_fold (t p z : Int) (d : Bool) : D.tup [.int t, .bl d, .int p, .int z] = Rec.D ⟨t, d, p, z⟩ := rfl
theorem rule_isIns (r : RuleM) : isIns "Rule" r.D = true := by simp [isIns, RuleM.D]
theorem rule_noField (r : RuleM) : noField "with_part" r.D = true := by simp [noField, RuleM.D, ofString_inj]
theorem rec_sl3 (r : Rec) : slSem r.D none (some 3) = some (.val (.tup [.int r.t, .bl r.d, .int r.p])) := rfl
theorem rec_sl1 (r : Rec) : slSem r.D (some 1) none = some (.val (.tup [.bl r.d, .int r.p, .int r.s])) := rfl
theorem rule_init_e (r : RuleM) (o k rs : List D) (n : Int) (ok : r.Ok) (ho : o = r.order.map .str := by rfl) (hk : k = r.kept.map .str := by rfl) (hr : rs = r.raises.map .str := by rfl) (hn : n = r.slack := by rfl) :
    callH g_Rule_init [.tup o, .tup k, .int n, .tup rs] s Q X h h2 = Q (.own r.C) s := by
  subst ho hk hr hn
  exact rule_init_r s Q X h h2 ok
/-- rules with few parts are right -/
theorem ok_of {o k r : List Str} {n : Int} (h0 : 0 ≤ n) (h4 : n ≤ 4) (ho : (o.all fun x => (["turn", "done", "newest", "furthest"] : List Str).contains x) = true) (hn : o.Nodup) (hk : k.isSublist ["done", "place", "stamp"] = true) (hr : r.isSublist ["again", "back"] = true) : RuleM.Ok ⟨o, k, n, r⟩ :=
  ⟨fun x hx => by simpa using List.all_eq_true.mp ho x hx, hn, List.isSublist_iff_sublist.mp hk, h0, h4, List.isSublist_iff_sublist.mp hr⟩
/-- a drawn order of texts -/
theorem perm_map {α β : Type} {f : α → β} : ∀ {k : List α} {l : List β}, l.Perm (k.map f) → ∃ l' : List α, l = l'.map f ∧ l'.Perm k := fun {k l} h => by
  generalize hk : k.map f = m at h
  induction h generalizing k with
  | nil =>
    cases k with
    | nil => exact ⟨[], rfl, List.Perm.refl _⟩
    | cons x k => simp at hk
  | cons x h ih =>
    cases k with
    | nil => simp at hk
    | cons y k =>
      simp only [List.map_cons, List.cons.injEq] at hk
      obtain ⟨l', e, q⟩ := ih hk.2
      exact ⟨y :: l', by rw [List.map_cons, hk.1, e], q.cons y⟩
  | swap x y l0 =>
    match k, hk with
    | a :: b :: k, hk =>
      simp only [List.map_cons, List.cons.injEq] at hk
      exact ⟨b :: a :: k, by simp [hk.1, hk.2.1, hk.2.2], List.Perm.swap a b k⟩
  | trans h1 h2 ih1 ih2 =>
    obtain ⟨l', e, q⟩ := ih2 hk
    obtain ⟨l'', e2, q2⟩ := ih1 e.symm
    exact ⟨l'', e2, q2.trans q⟩
theorem cut_take {α : Type} (xs : List α) (n : Nat) : cutD xs none (some (n : Int)) = xs.take n := by
  unfold cutD
  rw [HT.sIx_none, HT.sIx_nat, List.drop_zero, Nat.sub_zero]
  rw [Nat.min_def]
  split
  · rfl
  · rw [List.take_of_length_le (Nat.le_refl _), List.take_of_length_le (by omega)]
/-! ### joins by one key -/
theorem join_nokept {r : RuleM} {a b : Rec} (hk : r.kept = []) : joinM r a b = strong r a b := by
  unfold joinM
  rw [hk]
  split
  · simp only [List.contains_nil, if_false, Bool.false_eq_true]
  · rfl
theorem join_l {r : RuleM} {a b : Rec} {k : Str} (h : beatsM r k a b = true) (hk : r.kept = [] := by rfl) (ho : r.order = [k] := by rfl) : joinM r a b = a := by
  rw [join_nokept hk, strong, ho, strongM, if_pos h]
theorem join_r {r : RuleM} {a b : Rec} {k : Str} (h1 : beatsM r k a b = false) (h : beatsM r k b a = true) (hk : r.kept = [] := by rfl) (ho : r.order = [k] := by rfl) : joinM r a b = b := by
  rw [join_nokept hk, strong, ho, strongM, h1, if_neg Bool.false_ne_true, if_pos h]
theorem join_m {r : RuleM} {a b : Rec} {k : Str} (h1 : beatsM r k a b = false) (h : beatsM r k b a = false) (hk : r.kept = [] := by rfl) (ho : r.order = [k] := by rfl) : joinM r a b = maxR a b := by
  rw [join_nokept hk, strong, ho, strongM, h1, if_neg Bool.false_ne_true, h, if_neg Bool.false_ne_true, strongM]
theorem beats_turn (r : RuleM) (a b : Rec) : beatsM r "turn" a b = decide (b.t < a.t) := by simp [beatsM]
theorem beats_done (r : RuleM) (a b : Rec) : beatsM r "done" a b = (a.d && !b.d) := by simp [beatsM, ofString_inj]
theorem beats_newest (r : RuleM) (a b : Rec) : beatsM r "newest" a b = decide (b.s + r.slack < a.s) := by simp [beatsM, ofString_inj]
theorem beats_furthest (r : RuleM) (a b : Rec) : beatsM r "furthest" a b = decide (b.p < a.p) := by simp [beatsM, ofString_inj]
end HP

set_option maxHeartbeats 600000
namespace HP
open PySem
/-! P6: drawn choices, drawn models of rules, drawn records. -/
variable {s m : Store} {Q : Out → Store → Prop} {X : Exc → Store → Prop} {h : Hd Q} {h2 : Hd X}
local macro_rules | `(tactic| walk_at "hp") => `(tactic| simp (config := { dsimp := false, failIfUnchanged := false, implicitDefEqProofs := false }) only [↓xA_lit, ↓xA_bin, ↓xA_neg, ↓xA_cmp, ↓xA_chain, ↓xA_not_, ↓xA_and_, ↓xA_or_, ↓xA_ife, ↓xA_tup, ↓xA_lst, ↓xA_dct, ↓xA_ix, ↓xA_sl, ↓xA_rev, ↓xA_fld, ↓xA_prop, ↓xA_call, ↓xA_callp, ↓xA_meth, ↓xA_mk, ↓xA_alloc, ↓xA_bi, ↓xA_isi, ↓xA_rng, ↓xA_bm, ↓xA_mm, ↓xA_lc, ↓xA_dc, ↓xA_eqo, ↓xA_var, ↓xE_lit, ↓xE_var, ↓xE_bin, ↓xE_neg, ↓xE_cmp, ↓xT_cmp, ↓xE_chain, ↓xT_chain, ↓xE_not_, ↓xT_not_, ↓xE_and_, ↓xT_and_, ↓xE_or_, ↓xT_or_, ↓xE_ife, ↓xT_ife, ↓xE_tup, ↓xE_lst, ↓xE_dct, ↓xE_ix, ↓xE_sl, ↓xE_rev, ↓xE_fld, ↓xE_call, ↓xE_callp, ↓xE_meth, ↓xE_mk, ↓xE_prop, ↓xE_alloc, ↓xE_bi, ↓xE_isi, ↓xT_isi, ↓xE_eqo, ↓xT_eqo, ↓xE_rng, ↓xE_bm, ↓xE_mm, ↓xT_lit, ↓xT_bin, ↓xT_neg, ↓xT_tup, ↓xT_lst, ↓xT_dct, ↓xT_ix, ↓xT_sl, ↓xT_rev, ↓xT_fld, ↓xT_prop, ↓xT_call, ↓xT_callp, ↓xT_meth, ↓xT_mk, ↓xT_alloc, ↓xT_bi, ↓xT_rng, ↓xT_bm, ↓xT_mm, ↓xT_lc, ↓xT_dc, ↓xT_var, ↓xV_nil, ↓xO_nil, ↓xU_nil, ↓xV_cons, ↓xO_cons, ↓xU_cons, ↓xV_star, ↓xF_nil, ↓xF_one, ↓xP_nil, ↓xP_cons, ↓xN_nil, ↓xN_cons, ↓xI_seq, ↓xI_rng1, ↓xI_rng2, ↓xI_enum0, ↓xI_items, ↓xI_zip, ↓xB_nil, ↓xB_cons, ↓xS_asgN, ↓xS_asgT, ↓xS_par, ↓xS_setix, ↓xS_setfld, ↓xS_ex, ↓xS_retV, ↓xS_ret_lit, ↓xS_ret_bin, ↓xS_ret_neg, ↓xS_ret_cmp, ↓xS_ret_chain, ↓xS_ret_not_, ↓xS_ret_and_, ↓xS_ret_or_, ↓xS_ret_ife, ↓xS_ret_tup, ↓xS_ret_lst, ↓xS_ret_dct, ↓xS_ret_ix, ↓xS_ret_sl, ↓xS_ret_rev, ↓xS_ret_fld, ↓xS_ret_prop, ↓xS_ret_call, ↓xS_ret_callp, ↓xS_ret_meth, ↓xS_ret_mk, ↓xS_ret_alloc, ↓xS_ret_bi, ↓xS_ret_isi, ↓xS_ret_rng, ↓xS_ret_bm, ↓xS_ret_mm, ↓xS_ret_lc, ↓xS_ret_dc, ↓xS_ret_eqo, ↓xS_retn, ↓xS_ife, ↓xS_for, ↓xS_while, ↓xS_pass, ↓xS_brk, ↓xS_cont, ↓xS_raise, ↓xS_try, ↓xG_name, ↓xG_tup, ↓xGs_nil, ↓xGs_cons, ↓loopH_nil, ↓loopH_cons, ↓xE_lc1, ↓optH_s, ↓iteH_t, ↓iteH_f, ↓andH_t, goH_go, ↓onSlot_v, ↓onSlot_o, ↓onInt_i, ↓onBl_b, ↓onOwn_o, ↓onTup_t, ↓onTup_l, ↓onCons_c, ↓onDct_d, ↓onZip_l, ↓onZip_t, ↓callH_mk, pick, List.getD_cons_zero, List.getD_cons_succ, ↓callH_in, ↓upH_s, ↓upH_r,
  vres_v, vres_s, look_own, look_val, view_int, view_bl, view_str, view_non, view_tup, view_lst, view_scr, view_dct, view_ins, view_r0, view_r1, Option.getD_some, Option.map_some, Option.map_none, Option.bind_some, Option.bind_none, Option.getD_none,
  fld_ins, isi_non, cl_int_non, cl_bool_non, cl_str_non, cl_tuple_non, cl_list_non, cl_dict_non, cl_own_non, notNon_non, isi_bl, cl_int_bl, cl_bool_bl, cl_str_bl, cl_tuple_bl, cl_list_bl, cl_dict_bl, cl_own_bl, notNon_bl, isi_int, cl_int_int, cl_bool_int, cl_str_int, cl_tuple_int, cl_list_int, cl_dict_int, cl_own_int, notNon_int, isi_str, cl_int_str, cl_bool_str, cl_str_str, cl_tuple_str, cl_list_str, cl_dict_str, cl_own_str, notNon_str, isi_tup, cl_int_tup, cl_bool_tup, cl_str_tup, cl_tuple_tup, cl_list_tup, cl_dict_tup, cl_own_tup, notNon_tup, isi_lst, cl_int_lst, cl_bool_lst, cl_str_lst, cl_tuple_lst, cl_list_lst, cl_dict_lst, cl_own_lst, notNon_lst, isi_dct, cl_int_dct, cl_bool_dct, cl_str_dct, cl_tuple_dct, cl_list_dct, cl_dict_dct, cl_own_dct, notNon_dct, isi_ins, cl_own_ins, notNon_ins, truth_non, truth_bl, truth_int, truth_tup, truth_lst, walk_tup, walk_lst, walk_scr, walk_str, seq_tup, seq_lst, frz_lst, frz_dct, frz_ins, ofrz_v, ofrz_o, oslot_v, oslot_o, keep_v, keep_o, keep_u, setsS_nil, setsS_cons, isLst_l, isIns_i, noField_i, mm_app, mm_popF, set_lst, set_dct, sf_ins, sl_tup, sl_lst, ress_nil, ress_cons,
  Bm.ok, all, List.any_cons, List.any_nil, List.contains_cons, List.contains_nil, Option.isSome_some, lookF, putF, wipeS, backS,
  List.getElem?_cons_zero, List.getElem?_cons_succ, List.length_cons, List.length_nil, List.map_cons, List.map_nil, List.replicate_zero, List.replicate_succ, List.cons_append, List.nil_append, List.set_cons_zero, List.set_cons_succ, List.getElem?_nil, Nat.reduceAdd, Nat.reduceSub, Nat.reduceLeDiff, Nat.reduceLT, Nat.reduceEqDiff, big, Int.cast_ofNat_Int, Int.reduceLE, Int.reduceLT, Int.reduceNeg, Int.reduceAdd, Int.reduceSub, Int.reduceMul, Int.reducePow, Int.reduceAbs, Int.reduceToNat, Int.reduceEq, Int.reduceDiv, Int.reduceMod, upTo, ↓lcH_nil, ↓lcH_cons,
  ok_60, okAt_int, okAt_bl, okAt_str, okAt_non, okAt_tup, okAt_lst, okAts_nil, okAts_cons, okAts_mapI, okAts_mapS, okAts_mapB, Bool.and_true, Bool.true_and, Bool.and_false, Bool.false_and, Bool.or_true, Bool.true_or, Bool.or_false, Bool.false_or, Bool.not_true, Bool.not_false, Bool.not_not, Bool.false_eq_true, if_true, if_false, ↓reduceIte, decide_true, decide_false, decide_eq_true_eq, eq_self, true_and, and_true, and_self, ofString_inj, String.reduceEq,
  eqD_int, eqD_str, eqD_bl, eqD_tup, eqD_lst, eqD_nn, eqD_nt, eqD_tn, eqD_si, eqD_is, eqD_st, eqD_ts, eqD_ti, eqD_it, eqD_tl, eqD_lt, eqDs_nil, eqDs_cons, eqDs_nc, eqDs_cn, eqDs_strs, eqDs_ints, any_strs,
  atI_0, atI_1, atI_2, atI_3, atI_4, ix_tup, ix_lst, ix_dctS, getD_cons, putD_cons, putD_nil, keyFits_str, keyFits_int, isSome_keyAt, isSome_keyAt0, mergeD,
  cmp_eq, cmp_ne, cmp_in_tup, cmp_in_lst, cmp_nin_tup, cmp_nin_lst, cmp_in_dct, cmp_nin_dct, cmp_lt_int, cmp_gt_int, cmp_le_int, cmp_ge_int, cmp_is_non, cmp_isn_non, cmp_is_bl, cmp_isn_bl,
  add_int, sub_int, add_tup, add_lst, add_str, mul_int, mod_int, fdiv_int, pow_int, len_tup, len_lst, len_scr, abs_int, int_int, int_bl, max_int, min_int, list_tup, list_lst, tuple_tup, tuple_lst, all_bls, any_bls, lenset_strs, lenset_strsL, all_mapP, any_mapP, List.length_map, rec_view, rec_ok, rec_eq, ↓rec_tup, rec_ix0, rec_ix1, rec_ix2, rec_ix3, rule_view, rule_f0, rule_f1, rule_f2, rule_f3, max_rec, rec_fold, rule_frz, rule_isIns, rule_noField, rec_sl3, rec_sl1])
local macro_rules | `(tactic| walk_at "hps") => `(tactic| simp (config := { dsimp := false, failIfUnchanged := false, implicitDefEqProofs := false }) only [↓xA_lit, ↓xA_bin, ↓xA_neg, ↓xA_cmp, ↓xA_chain, ↓xA_not_, ↓xA_and_, ↓xA_or_, ↓xA_ife, ↓xA_tup, ↓xA_lst, ↓xA_dct, ↓xA_ix, ↓xA_sl, ↓xA_rev, ↓xA_fld, ↓xA_prop, ↓xA_call, ↓xA_callp, ↓xA_meth, ↓xA_mk, ↓xA_alloc, ↓xA_bi, ↓xA_isi, ↓xA_rng, ↓xA_bm, ↓xA_mm, ↓xA_lc, ↓xA_dc, ↓xA_eqo, ↓xA_var, ↓xE_lit, ↓xE_var, ↓xE_bin, ↓xE_neg, ↓xE_cmp, ↓xT_cmp, ↓xE_chain, ↓xT_chain, ↓xE_not_, ↓xT_not_, ↓xE_and_, ↓xT_and_, ↓xE_or_, ↓xT_or_, ↓xE_ife, ↓xT_ife, ↓xE_tup, ↓xE_lst, ↓xE_dct, ↓xE_ix, ↓xE_sl, ↓xE_rev, ↓xE_fld, ↓xE_call, ↓xE_callp, ↓xE_meth, ↓xE_mk, ↓xE_prop, ↓xE_alloc, ↓xE_bi, ↓xE_isi, ↓xT_isi, ↓xE_eqo, ↓xT_eqo, ↓xE_rng, ↓xE_bm, ↓xE_mm, ↓xT_lit, ↓xT_bin, ↓xT_neg, ↓xT_tup, ↓xT_lst, ↓xT_dct, ↓xT_ix, ↓xT_sl, ↓xT_rev, ↓xT_fld, ↓xT_prop, ↓xT_call, ↓xT_callp, ↓xT_meth, ↓xT_mk, ↓xT_alloc, ↓xT_bi, ↓xT_rng, ↓xT_bm, ↓xT_mm, ↓xT_lc, ↓xT_dc, ↓xT_var, ↓xV_nil, ↓xO_nil, ↓xU_nil, ↓xV_cons, ↓xO_cons, ↓xU_cons, ↓xV_star, ↓xF_nil, ↓xF_one, ↓xP_nil, ↓xP_cons, ↓xN_nil, ↓xN_cons, ↓xI_seq, ↓xI_rng1, ↓xI_rng2, ↓xI_enum0, ↓xI_items, ↓xI_zip, ↓xB_nil, ↓xB_cons, ↓xS_asgN, ↓xS_asgT, ↓xS_par, ↓xS_setix, ↓xS_setfld, ↓xS_ex, ↓xS_retV, ↓xS_ret_lit, ↓xS_ret_bin, ↓xS_ret_neg, ↓xS_ret_cmp, ↓xS_ret_chain, ↓xS_ret_not_, ↓xS_ret_and_, ↓xS_ret_or_, ↓xS_ret_ife, ↓xS_ret_tup, ↓xS_ret_lst, ↓xS_ret_dct, ↓xS_ret_ix, ↓xS_ret_sl, ↓xS_ret_rev, ↓xS_ret_fld, ↓xS_ret_prop, ↓xS_ret_call, ↓xS_ret_callp, ↓xS_ret_meth, ↓xS_ret_mk, ↓xS_ret_alloc, ↓xS_ret_bi, ↓xS_ret_isi, ↓xS_ret_rng, ↓xS_ret_bm, ↓xS_ret_mm, ↓xS_ret_lc, ↓xS_ret_dc, ↓xS_ret_eqo, ↓xS_retn, ↓xS_ife, ↓xS_for, ↓xS_while, ↓xS_pass, ↓xS_brk, ↓xS_cont, ↓xS_raise, ↓xS_try, ↓xG_name, ↓xG_tup, ↓xGs_nil, ↓xGs_cons, ↓loopH_nil, ↓loopH_cons, ↓xE_lc1, ↓optH_s, ↓iteH_t, ↓iteH_f, ↓andH_t, goH_go, ↓onSlot_v, ↓onSlot_o, ↓onInt_i, ↓onBl_b, ↓onOwn_o, ↓onTup_t, ↓onTup_l, ↓onCons_c, ↓onDct_d, ↓onZip_l, ↓onZip_t, ↓callH_mk, pick, List.getD_cons_zero, List.getD_cons_succ, ↓callH_in, ↓upH_s, ↓upH_r,
  vres_v, vres_s, look_own, look_val, view_int, view_bl, view_str, view_non, view_tup, view_lst, view_scr, view_dct, view_ins, view_r0, view_r1, Option.getD_some, Option.map_some, Option.map_none, Option.bind_some, Option.bind_none, Option.getD_none,
  fld_ins, isi_non, cl_int_non, cl_bool_non, cl_str_non, cl_tuple_non, cl_list_non, cl_dict_non, cl_own_non, notNon_non, isi_bl, cl_int_bl, cl_bool_bl, cl_str_bl, cl_tuple_bl, cl_list_bl, cl_dict_bl, cl_own_bl, notNon_bl, isi_int, cl_int_int, cl_bool_int, cl_str_int, cl_tuple_int, cl_list_int, cl_dict_int, cl_own_int, notNon_int, isi_str, cl_int_str, cl_bool_str, cl_str_str, cl_tuple_str, cl_list_str, cl_dict_str, cl_own_str, notNon_str, isi_tup, cl_int_tup, cl_bool_tup, cl_str_tup, cl_tuple_tup, cl_list_tup, cl_dict_tup, cl_own_tup, notNon_tup, isi_lst, cl_int_lst, cl_bool_lst, cl_str_lst, cl_tuple_lst, cl_list_lst, cl_dict_lst, cl_own_lst, notNon_lst, isi_dct, cl_int_dct, cl_bool_dct, cl_str_dct, cl_tuple_dct, cl_list_dct, cl_dict_dct, cl_own_dct, notNon_dct, isi_ins, cl_own_ins, notNon_ins, truth_non, truth_bl, truth_int, truth_tup, truth_lst, walk_tup, walk_lst, walk_scr, walk_str, seq_tup, seq_lst, frz_lst, frz_dct, frz_ins, ofrz_v, ofrz_o, oslot_v, oslot_o, keep_v, keep_o, keep_u, setsS_nil, setsS_cons, isLst_l, isIns_i, noField_i, mm_app, mm_popF, set_lst, set_dct, sf_ins, sl_tup, sl_lst, ress_nil, ress_cons,
  Bm.ok, all, List.any_cons, List.any_nil, List.contains_cons, List.contains_nil, Option.isSome_some, lookF, putF, wipeS, backS,
  List.getElem?_cons_zero, List.getElem?_cons_succ, List.length_cons, List.length_nil, List.map_cons, List.map_nil, List.replicate_zero, List.replicate_succ, List.cons_append, List.nil_append, List.set_cons_zero, List.set_cons_succ, List.getElem?_nil, Nat.reduceAdd, Nat.reduceSub, Nat.reduceLeDiff, Nat.reduceLT, Nat.reduceEqDiff, big, Int.cast_ofNat_Int, Int.reduceLE, Int.reduceLT, Int.reduceNeg, Int.reduceAdd, Int.reduceSub, Int.reduceMul, Int.reducePow, Int.reduceAbs, Int.reduceToNat, Int.reduceEq, Int.reduceDiv, Int.reduceMod, upTo, ↓lcH_nil, ↓lcH_cons,
  ok_60, okAt_int, okAt_bl, okAt_str, okAt_non, okAt_tup, okAt_lst, okAts_nil, okAts_cons, okAts_mapI, okAts_mapS, okAts_mapB, Bool.and_true, Bool.true_and, Bool.and_false, Bool.false_and, Bool.or_true, Bool.true_or, Bool.or_false, Bool.false_or, Bool.not_true, Bool.not_false, Bool.not_not, Bool.false_eq_true, if_true, if_false, ↓reduceIte, decide_true, decide_false, decide_eq_true_eq, eq_self, true_and, and_true, and_self, ofString_inj, String.reduceEq,
  eqD_int, eqD_str, eqD_bl, eqD_tup, eqD_lst, eqD_nn, eqD_nt, eqD_tn, eqD_si, eqD_is, eqD_st, eqD_ts, eqD_ti, eqD_it, eqD_tl, eqD_lt, eqDs_nil, eqDs_cons, eqDs_nc, eqDs_cn, eqDs_strs, eqDs_ints, any_strs,
  atI_0, atI_1, atI_2, atI_3, atI_4, ix_tup, ix_lst, ix_dctS, getD_cons, putD_cons, putD_nil, keyFits_str, keyFits_int, isSome_keyAt, isSome_keyAt0, mergeD,
  cmp_eq, cmp_ne, cmp_in_tup, cmp_in_lst, cmp_nin_tup, cmp_nin_lst, cmp_in_dct, cmp_nin_dct, cmp_lt_int, cmp_gt_int, cmp_le_int, cmp_ge_int, cmp_is_non, cmp_isn_non, cmp_is_bl, cmp_isn_bl,
  add_int, sub_int, add_tup, add_lst, add_str, mul_int, mod_int, fdiv_int, pow_int, len_tup, len_lst, len_scr, abs_int, int_int, int_bl, max_int, min_int, list_tup, list_lst, tuple_tup, tuple_lst, all_bls, any_bls, lenset_strs, lenset_strsL, all_mapP, any_mapP, List.length_map, rec_view, rec_ok, rec_eq, ↓rec_tup, rec_ix0, rec_ix1, rec_ix2, rec_ix3, rule_view, rule_f0, rule_f1, rule_f2, rule_f3, max_rec, rec_fold, rule_frz, rule_isIns, rule_noField, rec_sl3, rec_sl1, *])
local macro_rules | `(tactic| walk_at "lif") => `(tactic| (rw [if_pos]; rotate_left; (simp (config := { failIfUnchanged := false }) only [List.length_append, List.length_map, List.length_cons, List.length_nil, List.length_set, List.length_take, List.length_drop, List.length_range, big]; omega)))
local macro_rules | `(tactic| walk_at "len") => `(tactic| (rw [iteH_yes (p := _ ≤ _)]; rotate_left; (simp (config := { failIfUnchanged := false }) only [List.length_append, List.length_map, List.length_cons, List.length_nil, List.length_set, List.length_take, List.length_drop, List.length_range]; omega)))
theorem pick_spec {l : List D} (hs : Draws s m) (hl : 0 < l.length) (hb : l.length ≤ 1000) (hQ : ∀ x ∈ l, ∀ s, Draws s m → Q (.val x) s) : callH g__law_pick [.ref 1, .lst l] s Q X h h2 := by
  unfold g__law_pick b__law_pick
  walk_at "hp"
  with_reducible refine take_spec hs (by omega) (by omega) fun k s' k0 k1 hs' => ?_
  walk_at "hp"
  obtain ⟨n, rfl⟩ := Int.eq_ofNat_of_zero_le k0
  have hn : n < l.length := by omega
  have e : L2.atI l ((n : Nat) : Int) = some l[n] := by rw [atI_nat, List.getElem?_eq_getElem hn]
  rw [e]
  walk_at "hp"
  exact hQ _ (List.getElem_mem hn) _ hs'
theorem some_loop {w : D} {K : List D → Slots → Store → Prop} {h3 : Hd K} : ∀ (l acc : List Str) (s : Store) (sl : Slot), Draws s m → acc.length + l.length ≤ 1000 →
    (∀ l' : List Str, List.Sublist l' l → ∀ s sl, Draws s m → K ((acc ++ l').map .str) [.val (.ref 1), .val w, sl] s) →
    lcH [2] (.var 2) (.name 2) (.cons (.cmp .eq (.call g__law_take (.cons (.var 0) (.cons (.lit (.int 2)) .nil))) (.lit (.int 0))) .nil) (l.map .str) (acc.map .str) [.val (.ref 1), .val w, sl] s K h3
  | [], acc, s, sl, hs, hb, hK => by
    rw [List.map_nil, lcH_nil]
    simpa using hK [] (List.Sublist.refl []) s sl hs
  | x :: l, acc, s, sl, hs, hb, hK => by
    simp only [List.length_cons] at hb
    rw [List.map_cons, lcH_cons]
    walk_at "hp"
    with_reducible refine take_spec hs (by decide) (by decide) fun k s1 k0 k1 hs1 => ?_
    walk_at "hp"
    refine iteH_dec (fun hk => ?_) fun hk => ?_
    · have e : acc.length < 16777216 := by omega
      walk_at "hps"
      have e2 : acc.map D.str ++ [(Out.val (D.str x)).frz] = (acc ++ [x]).map D.str := by simp [Out.frz]
      first | rw [e2] | rw [show acc.map D.str ++ [D.str x] = (acc ++ [x]).map D.str by simp]
      refine some_loop l (acc ++ [x]) s1 _ hs1 (by simp only [List.length_append, List.length_singleton]; omega) fun l' hl s2 sl2 hs2 => ?_
      have := hK (x :: l') (hl.cons₂ x) s2 sl2 hs2
      rwa [List.append_cons] at this
    · exact some_loop l acc s1 _ hs1 (by omega) fun l' hl s2 sl2 hs2 => hK l' (hl.cons x) s2 sl2 hs2
theorem some_spec {l : List Str} (hs : Draws s m) (hl : l.length ≤ 1000) (hQ : ∀ l' : List Str, List.Sublist l' l → ∀ s, Draws s m → Q (.val (.tup (l'.map .str))) s) : callH g__law_some [.ref 1, .lst (l.map .str)] s Q X h h2 := by
  unfold g__law_some b__law_some
  walk_at "hp"
  refine some_loop l [] s _ hs (by simpa using hl) fun l' hl' s' sl' hs' => ?_
  rw [List.nil_append]
  walk_at "hp"
  exact hQ l' hl' s' hs'
/-! ### the model of a rule -/
def RuleM.W (r : RuleM) : Cont := .dct [.str "order", .str "kept", .str "slack", .str "raises"] [.tup (r.order.map .str), .tup (r.kept.map .str), .int r.slack, .tup (r.raises.map .str)]
def RuleM.WD (r : RuleM) : HP.D := .dct [.str "order", .str "kept", .str "slack", .str "raises"] [.tup (r.order.map .str), .tup (r.kept.map .str), .int r.slack, .tup (r.raises.map .str)]
theorem way_frz (r : RuleM) : r.W.frz = r.WD := rfl
theorem way_view (s : Store) (r : RuleM) : view s r.WD = r.WD := rfl
theorem way_o (r : RuleM) : ixSem r.WD (.str "order") = some (.tup (r.order.map .str)) := by simp [RuleM.WD, ix_dctS, getD_cons, eqD_str, ofString_inj]
theorem way_k (r : RuleM) : ixSem r.WD (.str "kept") = some (.tup (r.kept.map .str)) := by simp [RuleM.WD, ix_dctS, getD_cons, eqD_str, ofString_inj]
theorem way_s (r : RuleM) : ixSem r.WD (.str "slack") = some (.int r.slack) := by simp [RuleM.WD, ix_dctS, getD_cons, eqD_str, ofString_inj]
theorem way_r (r : RuleM) : ixSem r.WD (.str "raises") = some (.tup (r.raises.map .str)) := by simp [RuleM.WD, ix_dctS, getD_cons, eqD_str, ofString_inj]
theorem slack_of {x : D} (hx : x ∈ [D.int 0, D.int 0, D.int 1, D.int 2, D.int 3, D.int 4]) : ∃ n : Int, x = .int n ∧ 0 ≤ n ∧ n ≤ 4 := by
  simp only [List.mem_cons, List.not_mem_nil, or_false] at hx
  rcases hx with rfl | rfl | rfl | rfl | rfl | rfl <;> exact ⟨_, rfl, by decide, by decide⟩
theorem way_spec (hs : Draws s m) (hQ : ∀ r : RuleM, r.Ok → ∀ s, Draws s m → Q (.own r.W) s) : callH g__law_way [.ref 1] s Q X h h2 := by
  unfold g__law_way b__law_way
  walk_at "hp"
  refine mixed_spec hs (by decide) (by decide) fun l s1 hl hs1 => ?_
  walk_at "hp"
  with_reducible refine take_spec hs1 (by decide) (by decide) fun n s2 n0 n1 hs2 => ?_
  walk_at "hp"
  obtain ⟨ks, rfl, hp⟩ := perm_map (f := D.str) (k := ["turn", "done", "newest", "furthest"]) hl
  have en : n = ((n.toNat : Nat) : Int) := by omega
  rw [en, cut_take, ← List.map_take]
  have hsub : (ks.take n.toNat).Sublist ks := List.take_sublist _ _
  have hmem : ∀ x ∈ ks.take n.toNat, x ∈ (["turn", "done", "newest", "furthest"] : List Str) := fun x hx => hp.subset (hsub.subset hx)
  have hnd : (ks.take n.toNat).Nodup := hsub.nodup (hp.nodup_iff.mpr (by decide))
  have hlen : (ks.take n.toNat).length ≤ 4 := by rw [List.length_take]; omega
  generalize ks.take n.toNat = o at hmem hnd hlen
  walk_at "hp"
  with_reducible refine take_spec hs2 (by decide) (by decide) fun z s3 z0 z1 hs3 => ?_
  walk_at "hp"
  refine iteH_dec (fun hz => ?_) fun hz => ?_
  rotate_left
  · walk_at "hp"
    refine some_spec (l := ["done", "place", "stamp"]) hs3 (by decide) fun k hk s4 hs4 => ?_
    walk_at "hp"
    refine some_spec (l := ["again", "back"]) hs4 (by decide) fun r hr s5 hs5 => ?_
    walk_at "hp"
    refine pick_spec hs5 (by decide) (by decide) fun x hx s6 hs6 => ?_
    obtain ⟨n, rfl, n0, n4⟩ := slack_of hx
    walk_at "hp"
    exact hQ ⟨o, k, n, r⟩ ⟨hmem, hnd, hk, n0, n4, hr⟩ s6 hs6
  walk_at "hp"
  cases ht : o.contains "turn" with
  | true =>
    walk_at "hps"
    refine some_spec (l := ["done", "place", "stamp"]) hs3 (by decide) fun k hk s4 hs4 => ?_
    walk_at "hp"
    refine some_spec (l := ["again", "back"]) hs4 (by decide) fun r hr s5 hs5 => ?_
    walk_at "hp"
    refine pick_spec hs5 (by decide) (by decide) fun x hx s6 hs6 => ?_
    obtain ⟨n, rfl, n0, n4⟩ := slack_of hx
    walk_at "hp"
    exact hQ ⟨o, k, n, r⟩ ⟨hmem, hnd, hk, n0, n4, hr⟩ s6 hs6
  | false =>
    walk_at "hps"
    rw [if_pos (by omega)]
    walk_at "hp"
    refine some_spec (l := ["done", "place", "stamp"]) hs3 (by decide) fun k hk s4 hs4 => ?_
    walk_at "hp"
    refine some_spec (l := ["again", "back"]) hs4 (by decide) fun r hr s5 hs5 => ?_
    walk_at "hp"
    refine pick_spec hs5 (by decide) (by decide) fun x hx s6 hs6 => ?_
    obtain ⟨n, rfl, n0, n4⟩ := slack_of hx
    walk_at "hp"
    refine hQ ⟨"turn" :: o, k, n, r⟩ ⟨fun x hx => ?_, ?_, hk, n0, n4, hr⟩ s6 hs6
    · rcases List.mem_cons.mp hx with rfl | hx
      · simp
      · exact hmem x hx
    · refine List.nodup_cons.mpr ⟨fun hm => ?_, hnd⟩
      rw [List.contains_iff_mem.mpr hm] at ht
      cases ht
end HP

set_option maxHeartbeats 600000
namespace HP
open PySem
/-! P7: the laws' own stronger one and join. -/
variable {s m : Store} {Q : Out → Store → Prop} {X : Exc → Store → Prop} {h : Hd Q} {h2 : Hd X}
inductive Key4 where
  | turn | done | newest | furthest
deriving DecidableEq
def Key4.str : Key4 → Str
  | .turn => "turn"
  | .done => "done"
  | .newest => "newest"
  | .furthest => "furthest"
theorem keys_of : ∀ {o : List Str}, (∀ k ∈ o, k ∈ (["turn", "done", "newest", "furthest"] : List Str)) → ∃ ks : List Key4, o = ks.map Key4.str
  | [], _ => ⟨[], rfl⟩
  | k :: o, hk => by
    obtain ⟨ks, e⟩ := keys_of fun x hx => hk x (List.mem_cons_of_mem _ hx)
    have h1 := hk k (List.mem_cons_self ..)
    simp only [List.mem_cons, List.not_mem_nil, or_false] at h1
    rcases h1 with rfl | rfl | rfl | rfl
    · exact ⟨.turn :: ks, by rw [e]; rfl⟩
    · exact ⟨.done :: ks, by rw [e]; rfl⟩
    · exact ⟨.newest :: ks, by rw [e]; rfl⟩
    · exact ⟨.furthest :: ks, by rw [e]; rfl⟩
def bInt (b : Bool) : Int := if b then 1 else 0
def newM (r : RuleM) (a b : Rec) : Int := if r.slack < (if a.s - b.s < 0 then -(a.s - b.s) else a.s - b.s) then a.s - b.s else 0
def gapM (r : RuleM) (a b : Rec) : Key4 → Int
  | .turn => a.t - b.t
  | .done => bInt a.d - bInt b.d
  | .newest => newM r a b
  | .furthest => a.p - b.p
theorem gap_pos (r : RuleM) (hr : 0 ≤ r.slack) (a b : Rec) (k : Key4) : beatsM r k.str a b = decide (0 < gapM r a b k) := by
  cases k with
  | turn => simp only [Key4.str, beats_turn, gapM]; exact decide_eq_decide.mpr (by omega)
  | done => obtain ⟨t, d, p, z⟩ := a; obtain ⟨t2, d2, p2, z2⟩ := b; simp only [Key4.str, beats_done, gapM, bInt]; cases d <;> cases d2 <;> simp
  | newest => simp only [Key4.str, beats_newest, gapM, newM]; refine decide_eq_decide.mpr ?_; split <;> split at * <;> omega
  | furthest => simp only [Key4.str, beats_furthest, gapM]; exact decide_eq_decide.mpr (by omega)
theorem gap_neg (r : RuleM) (hr : 0 ≤ r.slack) (a b : Rec) (k : Key4) : beatsM r k.str b a = decide (gapM r a b k < 0) := by
  cases k with
  | turn => simp only [Key4.str, beats_turn, gapM]; exact decide_eq_decide.mpr (by omega)
  | done => obtain ⟨t, d, p, z⟩ := a; obtain ⟨t2, d2, p2, z2⟩ := b; simp only [Key4.str, beats_done, gapM, bInt]; cases d <;> cases d2 <;> simp
  | newest => simp only [Key4.str, beats_newest, gapM, newM]; refine decide_eq_decide.mpr ?_; split <;> split at * <;> omega
  | furthest => simp only [Key4.str, beats_furthest, gapM]; exact decide_eq_decide.mpr (by omega)
theorem strong_gaps (r : RuleM) (hr : 0 ≤ r.slack) (a b : Rec) : ∀ ks : List Key4, strongM r a b (ks.map Key4.str) = match ks.filter fun k => !decide (gapM r a b k = 0) with
    | [] => maxR a b
    | k :: _ => if 0 < gapM r a b k then a else b
  | [] => rfl
  | k :: ks => by
    rw [List.map_cons, strongM, gap_pos r hr, gap_neg r hr, strong_gaps r hr a b ks]
    by_cases h1 : 0 < gapM r a b k
    · rw [if_pos (decide_eq_true h1), List.filter_cons, if_pos (show (!decide (gapM r a b k = 0)) = true by rw [decide_eq_false (by omega)]; rfl)]
      simp only [if_pos h1]
    · rw [if_neg (by simp only [decide_eq_true_eq]; exact h1)]
      by_cases h2 : gapM r a b k < 0
      · rw [if_pos (decide_eq_true h2), List.filter_cons, if_pos (show (!decide (gapM r a b k = 0)) = true by rw [decide_eq_false (by omega)]; rfl)]
        simp only [if_neg h1]
      · rw [if_neg (by simp only [decide_eq_true_eq]; exact h2), List.filter_cons, if_neg (show ¬ (!decide (gapM r a b k = 0)) = true by rw [decide_eq_true (by omega)]; simp)]
theorem max_gt (a b : Rec) : (if b.ltB a = true then a else b) = maxR a b := by
  obtain ⟨t, d, p, z⟩ := a
  obtain ⟨t2, d2, p2, z2⟩ := b
  unfold maxR
  cases h1 : Rec.ltB ⟨t, d, p, z⟩ ⟨t2, d2, p2, z2⟩ <;> cases h2 : Rec.ltB ⟨t2, d2, p2, z2⟩ ⟨t, d, p, z⟩ <;> simp only [if_true, if_false, Bool.false_eq_true]
  all_goals
    cases d <;> cases d2 <;> simp [Rec.ltB] at h1 h2 ⊢ <;> omega
theorem cmp_gt_rec (a b : Rec) : cmpSem .gt a.D b.D = some (b.ltB a) := by
  have e : cmpSem .gt a.D b.D = ltSem b.D a.D := rfl
  rw [e]
  unfold ltSem
  rw [ok_60, ok_60, rec_ok 59, rec_ok 59, rec_alike, rec_lt]
  rfl
local macro_rules | `(tactic| walk_at "hp") => `(tactic| simp (config := { dsimp := false, failIfUnchanged := false, implicitDefEqProofs := false }) only [↓xA_lit, ↓xA_bin, ↓xA_neg, ↓xA_cmp, ↓xA_chain, ↓xA_not_, ↓xA_and_, ↓xA_or_, ↓xA_ife, ↓xA_tup, ↓xA_lst, ↓xA_dct, ↓xA_ix, ↓xA_sl, ↓xA_rev, ↓xA_fld, ↓xA_prop, ↓xA_call, ↓xA_callp, ↓xA_meth, ↓xA_mk, ↓xA_alloc, ↓xA_bi, ↓xA_isi, ↓xA_rng, ↓xA_bm, ↓xA_mm, ↓xA_lc, ↓xA_dc, ↓xA_eqo, ↓xA_var, ↓xE_lit, ↓xE_var, ↓xE_bin, ↓xE_neg, ↓xE_cmp, ↓xT_cmp, ↓xE_chain, ↓xT_chain, ↓xE_not_, ↓xT_not_, ↓xE_and_, ↓xT_and_, ↓xE_or_, ↓xT_or_, ↓xE_ife, ↓xT_ife, ↓xE_tup, ↓xE_lst, ↓xE_dct, ↓xE_ix, ↓xE_sl, ↓xE_rev, ↓xE_fld, ↓xE_call, ↓xE_callp, ↓xE_meth, ↓xE_mk, ↓xE_prop, ↓xE_alloc, ↓xE_bi, ↓xE_isi, ↓xT_isi, ↓xE_eqo, ↓xT_eqo, ↓xE_rng, ↓xE_bm, ↓xE_mm, ↓xT_lit, ↓xT_bin, ↓xT_neg, ↓xT_tup, ↓xT_lst, ↓xT_dct, ↓xT_ix, ↓xT_sl, ↓xT_rev, ↓xT_fld, ↓xT_prop, ↓xT_call, ↓xT_callp, ↓xT_meth, ↓xT_mk, ↓xT_alloc, ↓xT_bi, ↓xT_rng, ↓xT_bm, ↓xT_mm, ↓xT_lc, ↓xT_dc, ↓xT_var, ↓xV_nil, ↓xO_nil, ↓xU_nil, ↓xV_cons, ↓xO_cons, ↓xU_cons, ↓xV_star, ↓xF_nil, ↓xF_one, ↓xP_nil, ↓xP_cons, ↓xN_nil, ↓xN_cons, ↓xI_seq, ↓xI_rng1, ↓xI_rng2, ↓xI_enum0, ↓xI_items, ↓xI_zip, ↓xB_nil, ↓xB_cons, ↓xS_asgN, ↓xS_asgT, ↓xS_par, ↓xS_setix, ↓xS_setfld, ↓xS_ex, ↓xS_retV, ↓xS_ret_lit, ↓xS_ret_bin, ↓xS_ret_neg, ↓xS_ret_cmp, ↓xS_ret_chain, ↓xS_ret_not_, ↓xS_ret_and_, ↓xS_ret_or_, ↓xS_ret_ife, ↓xS_ret_tup, ↓xS_ret_lst, ↓xS_ret_dct, ↓xS_ret_ix, ↓xS_ret_sl, ↓xS_ret_rev, ↓xS_ret_fld, ↓xS_ret_prop, ↓xS_ret_call, ↓xS_ret_callp, ↓xS_ret_meth, ↓xS_ret_mk, ↓xS_ret_alloc, ↓xS_ret_bi, ↓xS_ret_isi, ↓xS_ret_rng, ↓xS_ret_bm, ↓xS_ret_mm, ↓xS_ret_lc, ↓xS_ret_dc, ↓xS_ret_eqo, ↓xS_retn, ↓xS_ife, ↓xS_for, ↓xS_while, ↓xS_pass, ↓xS_brk, ↓xS_cont, ↓xS_raise, ↓xS_try, ↓xG_name, ↓xG_tup, ↓xGs_nil, ↓xGs_cons, ↓loopH_nil, ↓loopH_cons, ↓xE_lc1, ↓optH_s, ↓iteH_t, ↓iteH_f, ↓andH_t, goH_go, ↓onSlot_v, ↓onSlot_o, ↓onInt_i, ↓onBl_b, ↓onOwn_o, ↓onTup_t, ↓onTup_l, ↓onCons_c, ↓onDct_d, ↓onZip_l, ↓onZip_t, ↓callH_mk, pick, List.getD_cons_zero, List.getD_cons_succ, ↓callH_in, ↓upH_s, ↓upH_r,
  vres_v, vres_s, look_own, look_val, view_int, view_bl, view_str, view_non, view_tup, view_lst, view_scr, view_dct, view_ins, view_r0, view_r1, Option.getD_some, Option.map_some, Option.map_none, Option.bind_some, Option.bind_none, Option.getD_none,
  fld_ins, isi_non, cl_int_non, cl_bool_non, cl_str_non, cl_tuple_non, cl_list_non, cl_dict_non, cl_own_non, notNon_non, isi_bl, cl_int_bl, cl_bool_bl, cl_str_bl, cl_tuple_bl, cl_list_bl, cl_dict_bl, cl_own_bl, notNon_bl, isi_int, cl_int_int, cl_bool_int, cl_str_int, cl_tuple_int, cl_list_int, cl_dict_int, cl_own_int, notNon_int, isi_str, cl_int_str, cl_bool_str, cl_str_str, cl_tuple_str, cl_list_str, cl_dict_str, cl_own_str, notNon_str, isi_tup, cl_int_tup, cl_bool_tup, cl_str_tup, cl_tuple_tup, cl_list_tup, cl_dict_tup, cl_own_tup, notNon_tup, isi_lst, cl_int_lst, cl_bool_lst, cl_str_lst, cl_tuple_lst, cl_list_lst, cl_dict_lst, cl_own_lst, notNon_lst, isi_dct, cl_int_dct, cl_bool_dct, cl_str_dct, cl_tuple_dct, cl_list_dct, cl_dict_dct, cl_own_dct, notNon_dct, isi_ins, cl_own_ins, notNon_ins, truth_non, truth_bl, truth_int, truth_tup, truth_lst, walk_tup, walk_lst, walk_scr, walk_str, seq_tup, seq_lst, frz_lst, frz_dct, frz_ins, ofrz_v, ofrz_o, oslot_v, oslot_o, keep_v, keep_o, keep_u, setsS_nil, setsS_cons, isLst_l, isIns_i, noField_i, mm_app, mm_popF, set_lst, set_dct, sf_ins, sl_tup, sl_lst, ress_nil, ress_cons,
  Bm.ok, all, List.any_cons, List.any_nil, List.contains_cons, List.contains_nil, Option.isSome_some, lookF, putF, wipeS, backS,
  List.getElem?_cons_zero, List.getElem?_cons_succ, List.length_cons, List.length_nil, List.map_cons, List.map_nil, List.replicate_zero, List.replicate_succ, List.cons_append, List.nil_append, List.set_cons_zero, List.set_cons_succ, List.getElem?_nil, Nat.reduceAdd, Nat.reduceSub, Nat.reduceLeDiff, Nat.reduceLT, Nat.reduceEqDiff, big, Int.cast_ofNat_Int, Int.reduceLE, Int.reduceLT, Int.reduceNeg, Int.reduceAdd, Int.reduceSub, Int.reduceMul, Int.reducePow, Int.reduceAbs, Int.reduceToNat, Int.reduceEq, Int.reduceDiv, Int.reduceMod, upTo, ↓lcH_nil, ↓lcH_cons,
  ok_60, okAt_int, okAt_bl, okAt_str, okAt_non, okAt_tup, okAt_lst, okAts_nil, okAts_cons, okAts_mapI, okAts_mapS, okAts_mapB, Bool.and_true, Bool.true_and, Bool.and_false, Bool.false_and, Bool.or_true, Bool.true_or, Bool.or_false, Bool.false_or, Bool.not_true, Bool.not_false, Bool.not_not, Bool.false_eq_true, if_true, if_false, ↓reduceIte, decide_true, decide_false, decide_eq_true_eq, eq_self, true_and, and_true, and_self, ofString_inj, String.reduceEq,
  eqD_int, eqD_str, eqD_bl, eqD_tup, eqD_lst, eqD_nn, eqD_nt, eqD_tn, eqD_si, eqD_is, eqD_st, eqD_ts, eqD_ti, eqD_it, eqD_tl, eqD_lt, eqDs_nil, eqDs_cons, eqDs_nc, eqDs_cn, eqDs_strs, eqDs_ints, any_strs,
  atI_0, atI_1, atI_2, atI_3, atI_4, ix_tup, ix_lst, ix_dctS, getD_cons, putD_cons, putD_nil, keyFits_str, keyFits_int, isSome_keyAt, isSome_keyAt0, mergeD,
  cmp_eq, cmp_ne, cmp_in_tup, cmp_in_lst, cmp_nin_tup, cmp_nin_lst, cmp_in_dct, cmp_nin_dct, cmp_lt_int, cmp_gt_int, cmp_le_int, cmp_ge_int, cmp_is_non, cmp_isn_non, cmp_is_bl, cmp_isn_bl,
  add_int, sub_int, add_tup, add_lst, add_str, mul_int, mod_int, fdiv_int, pow_int, len_tup, len_lst, len_scr, abs_int, int_int, int_bl, max_int, min_int, list_tup, list_lst, tuple_tup, tuple_lst, all_bls, any_bls, lenset_strs, lenset_strsL, all_mapP, any_mapP, List.length_map, rec_view, rec_ok, rec_eq, ↓rec_tup, rec_ix0, rec_ix1, rec_ix2, rec_ix3, rule_view, rule_f0, rule_f1, rule_f2, rule_f3, max_rec, rec_fold, rule_frz, rule_isIns, rule_noField, rec_sl3, rec_sl1, way_view, way_o, way_k, way_s, way_r, cmp_gt_rec])
local macro_rules | `(tactic| walk_at "hps") => `(tactic| simp (config := { dsimp := false, failIfUnchanged := false, implicitDefEqProofs := false }) only [↓xA_lit, ↓xA_bin, ↓xA_neg, ↓xA_cmp, ↓xA_chain, ↓xA_not_, ↓xA_and_, ↓xA_or_, ↓xA_ife, ↓xA_tup, ↓xA_lst, ↓xA_dct, ↓xA_ix, ↓xA_sl, ↓xA_rev, ↓xA_fld, ↓xA_prop, ↓xA_call, ↓xA_callp, ↓xA_meth, ↓xA_mk, ↓xA_alloc, ↓xA_bi, ↓xA_isi, ↓xA_rng, ↓xA_bm, ↓xA_mm, ↓xA_lc, ↓xA_dc, ↓xA_eqo, ↓xA_var, ↓xE_lit, ↓xE_var, ↓xE_bin, ↓xE_neg, ↓xE_cmp, ↓xT_cmp, ↓xE_chain, ↓xT_chain, ↓xE_not_, ↓xT_not_, ↓xE_and_, ↓xT_and_, ↓xE_or_, ↓xT_or_, ↓xE_ife, ↓xT_ife, ↓xE_tup, ↓xE_lst, ↓xE_dct, ↓xE_ix, ↓xE_sl, ↓xE_rev, ↓xE_fld, ↓xE_call, ↓xE_callp, ↓xE_meth, ↓xE_mk, ↓xE_prop, ↓xE_alloc, ↓xE_bi, ↓xE_isi, ↓xT_isi, ↓xE_eqo, ↓xT_eqo, ↓xE_rng, ↓xE_bm, ↓xE_mm, ↓xT_lit, ↓xT_bin, ↓xT_neg, ↓xT_tup, ↓xT_lst, ↓xT_dct, ↓xT_ix, ↓xT_sl, ↓xT_rev, ↓xT_fld, ↓xT_prop, ↓xT_call, ↓xT_callp, ↓xT_meth, ↓xT_mk, ↓xT_alloc, ↓xT_bi, ↓xT_rng, ↓xT_bm, ↓xT_mm, ↓xT_lc, ↓xT_dc, ↓xT_var, ↓xV_nil, ↓xO_nil, ↓xU_nil, ↓xV_cons, ↓xO_cons, ↓xU_cons, ↓xV_star, ↓xF_nil, ↓xF_one, ↓xP_nil, ↓xP_cons, ↓xN_nil, ↓xN_cons, ↓xI_seq, ↓xI_rng1, ↓xI_rng2, ↓xI_enum0, ↓xI_items, ↓xI_zip, ↓xB_nil, ↓xB_cons, ↓xS_asgN, ↓xS_asgT, ↓xS_par, ↓xS_setix, ↓xS_setfld, ↓xS_ex, ↓xS_retV, ↓xS_ret_lit, ↓xS_ret_bin, ↓xS_ret_neg, ↓xS_ret_cmp, ↓xS_ret_chain, ↓xS_ret_not_, ↓xS_ret_and_, ↓xS_ret_or_, ↓xS_ret_ife, ↓xS_ret_tup, ↓xS_ret_lst, ↓xS_ret_dct, ↓xS_ret_ix, ↓xS_ret_sl, ↓xS_ret_rev, ↓xS_ret_fld, ↓xS_ret_prop, ↓xS_ret_call, ↓xS_ret_callp, ↓xS_ret_meth, ↓xS_ret_mk, ↓xS_ret_alloc, ↓xS_ret_bi, ↓xS_ret_isi, ↓xS_ret_rng, ↓xS_ret_bm, ↓xS_ret_mm, ↓xS_ret_lc, ↓xS_ret_dc, ↓xS_ret_eqo, ↓xS_retn, ↓xS_ife, ↓xS_for, ↓xS_while, ↓xS_pass, ↓xS_brk, ↓xS_cont, ↓xS_raise, ↓xS_try, ↓xG_name, ↓xG_tup, ↓xGs_nil, ↓xGs_cons, ↓loopH_nil, ↓loopH_cons, ↓xE_lc1, ↓optH_s, ↓iteH_t, ↓iteH_f, ↓andH_t, goH_go, ↓onSlot_v, ↓onSlot_o, ↓onInt_i, ↓onBl_b, ↓onOwn_o, ↓onTup_t, ↓onTup_l, ↓onCons_c, ↓onDct_d, ↓onZip_l, ↓onZip_t, ↓callH_mk, pick, List.getD_cons_zero, List.getD_cons_succ, ↓callH_in, ↓upH_s, ↓upH_r,
  vres_v, vres_s, look_own, look_val, view_int, view_bl, view_str, view_non, view_tup, view_lst, view_scr, view_dct, view_ins, view_r0, view_r1, Option.getD_some, Option.map_some, Option.map_none, Option.bind_some, Option.bind_none, Option.getD_none,
  fld_ins, isi_non, cl_int_non, cl_bool_non, cl_str_non, cl_tuple_non, cl_list_non, cl_dict_non, cl_own_non, notNon_non, isi_bl, cl_int_bl, cl_bool_bl, cl_str_bl, cl_tuple_bl, cl_list_bl, cl_dict_bl, cl_own_bl, notNon_bl, isi_int, cl_int_int, cl_bool_int, cl_str_int, cl_tuple_int, cl_list_int, cl_dict_int, cl_own_int, notNon_int, isi_str, cl_int_str, cl_bool_str, cl_str_str, cl_tuple_str, cl_list_str, cl_dict_str, cl_own_str, notNon_str, isi_tup, cl_int_tup, cl_bool_tup, cl_str_tup, cl_tuple_tup, cl_list_tup, cl_dict_tup, cl_own_tup, notNon_tup, isi_lst, cl_int_lst, cl_bool_lst, cl_str_lst, cl_tuple_lst, cl_list_lst, cl_dict_lst, cl_own_lst, notNon_lst, isi_dct, cl_int_dct, cl_bool_dct, cl_str_dct, cl_tuple_dct, cl_list_dct, cl_dict_dct, cl_own_dct, notNon_dct, isi_ins, cl_own_ins, notNon_ins, truth_non, truth_bl, truth_int, truth_tup, truth_lst, walk_tup, walk_lst, walk_scr, walk_str, seq_tup, seq_lst, frz_lst, frz_dct, frz_ins, ofrz_v, ofrz_o, oslot_v, oslot_o, keep_v, keep_o, keep_u, setsS_nil, setsS_cons, isLst_l, isIns_i, noField_i, mm_app, mm_popF, set_lst, set_dct, sf_ins, sl_tup, sl_lst, ress_nil, ress_cons,
  Bm.ok, all, List.any_cons, List.any_nil, List.contains_cons, List.contains_nil, Option.isSome_some, lookF, putF, wipeS, backS,
  List.getElem?_cons_zero, List.getElem?_cons_succ, List.length_cons, List.length_nil, List.map_cons, List.map_nil, List.replicate_zero, List.replicate_succ, List.cons_append, List.nil_append, List.set_cons_zero, List.set_cons_succ, List.getElem?_nil, Nat.reduceAdd, Nat.reduceSub, Nat.reduceLeDiff, Nat.reduceLT, Nat.reduceEqDiff, big, Int.cast_ofNat_Int, Int.reduceLE, Int.reduceLT, Int.reduceNeg, Int.reduceAdd, Int.reduceSub, Int.reduceMul, Int.reducePow, Int.reduceAbs, Int.reduceToNat, Int.reduceEq, Int.reduceDiv, Int.reduceMod, upTo, ↓lcH_nil, ↓lcH_cons,
  ok_60, okAt_int, okAt_bl, okAt_str, okAt_non, okAt_tup, okAt_lst, okAts_nil, okAts_cons, okAts_mapI, okAts_mapS, okAts_mapB, Bool.and_true, Bool.true_and, Bool.and_false, Bool.false_and, Bool.or_true, Bool.true_or, Bool.or_false, Bool.false_or, Bool.not_true, Bool.not_false, Bool.not_not, Bool.false_eq_true, if_true, if_false, ↓reduceIte, decide_true, decide_false, decide_eq_true_eq, eq_self, true_and, and_true, and_self, ofString_inj, String.reduceEq,
  eqD_int, eqD_str, eqD_bl, eqD_tup, eqD_lst, eqD_nn, eqD_nt, eqD_tn, eqD_si, eqD_is, eqD_st, eqD_ts, eqD_ti, eqD_it, eqD_tl, eqD_lt, eqDs_nil, eqDs_cons, eqDs_nc, eqDs_cn, eqDs_strs, eqDs_ints, any_strs,
  atI_0, atI_1, atI_2, atI_3, atI_4, ix_tup, ix_lst, ix_dctS, getD_cons, putD_cons, putD_nil, keyFits_str, keyFits_int, isSome_keyAt, isSome_keyAt0, mergeD,
  cmp_eq, cmp_ne, cmp_in_tup, cmp_in_lst, cmp_nin_tup, cmp_nin_lst, cmp_in_dct, cmp_nin_dct, cmp_lt_int, cmp_gt_int, cmp_le_int, cmp_ge_int, cmp_is_non, cmp_isn_non, cmp_is_bl, cmp_isn_bl,
  add_int, sub_int, add_tup, add_lst, add_str, mul_int, mod_int, fdiv_int, pow_int, len_tup, len_lst, len_scr, abs_int, int_int, int_bl, max_int, min_int, list_tup, list_lst, tuple_tup, tuple_lst, all_bls, any_bls, lenset_strs, lenset_strsL, all_mapP, any_mapP, List.length_map, rec_view, rec_ok, rec_eq, ↓rec_tup, rec_ix0, rec_ix1, rec_ix2, rec_ix3, rule_view, rule_f0, rule_f1, rule_f2, rule_f3, max_rec, rec_fold, rule_frz, rule_isIns, rule_noField, rec_sl3, rec_sl1, way_view, way_o, way_k, way_s, way_r, cmp_gt_rec, *])
local macro_rules | `(tactic| walk_at "lif") => `(tactic| (rw [if_pos]; rotate_left; (simp (config := { failIfUnchanged := false }) only [List.length_append, List.length_map, List.length_cons, List.length_nil, List.length_set, List.length_take, List.length_drop, List.length_range, big]; omega)))
local macro_rules | `(tactic| walk_at "len") => `(tactic| (rw [iteH_yes (p := _ ≤ _)]; rotate_left; (simp (config := { failIfUnchanged := false }) only [List.length_append, List.length_map, List.length_cons, List.length_nil, List.length_set, List.length_take, List.length_drop, List.length_range]; omega)))
theorem cmp_gt_bl (x y : Bool) : cmpSem .gt (.bl x) (.bl y) = some (x && !y) := by
  cases x <;> cases y <;> rfl
theorem ixN_40 : L2.ixN 4 0 = some 0 := rfl
theorem ixN_41 : L2.ixN 4 1 = some 1 := rfl
theorem ixN_42 : L2.ixN 4 2 = some 2 := rfl
theorem ixN_43 : L2.ixN 4 3 = some 3 := rfl
theorem rec_list (r : Rec) : biSem .list [r.D] = some (.own (.lst [.int r.t, .bl r.d, .int r.p, .int r.s])) := rfl
local macro_rules | `(tactic| walk_at "hp") => `(tactic| simp (config := { dsimp := false, failIfUnchanged := false, implicitDefEqProofs := false }) only [↓xA_lit, ↓xA_bin, ↓xA_neg, ↓xA_cmp, ↓xA_chain, ↓xA_not_, ↓xA_and_, ↓xA_or_, ↓xA_ife, ↓xA_tup, ↓xA_lst, ↓xA_dct, ↓xA_ix, ↓xA_sl, ↓xA_rev, ↓xA_fld, ↓xA_prop, ↓xA_call, ↓xA_callp, ↓xA_meth, ↓xA_mk, ↓xA_alloc, ↓xA_bi, ↓xA_isi, ↓xA_rng, ↓xA_bm, ↓xA_mm, ↓xA_lc, ↓xA_dc, ↓xA_eqo, ↓xA_var, ↓xE_lit, ↓xE_var, ↓xE_bin, ↓xE_neg, ↓xE_cmp, ↓xT_cmp, ↓xE_chain, ↓xT_chain, ↓xE_not_, ↓xT_not_, ↓xE_and_, ↓xT_and_, ↓xE_or_, ↓xT_or_, ↓xE_ife, ↓xT_ife, ↓xE_tup, ↓xE_lst, ↓xE_dct, ↓xE_ix, ↓xE_sl, ↓xE_rev, ↓xE_fld, ↓xE_call, ↓xE_callp, ↓xE_meth, ↓xE_mk, ↓xE_prop, ↓xE_alloc, ↓xE_bi, ↓xE_isi, ↓xT_isi, ↓xE_eqo, ↓xT_eqo, ↓xE_rng, ↓xE_bm, ↓xE_mm, ↓xT_lit, ↓xT_bin, ↓xT_neg, ↓xT_tup, ↓xT_lst, ↓xT_dct, ↓xT_ix, ↓xT_sl, ↓xT_rev, ↓xT_fld, ↓xT_prop, ↓xT_call, ↓xT_callp, ↓xT_meth, ↓xT_mk, ↓xT_alloc, ↓xT_bi, ↓xT_rng, ↓xT_bm, ↓xT_mm, ↓xT_lc, ↓xT_dc, ↓xT_var, ↓xV_nil, ↓xO_nil, ↓xU_nil, ↓xV_cons, ↓xO_cons, ↓xU_cons, ↓xV_star, ↓xF_nil, ↓xF_one, ↓xP_nil, ↓xP_cons, ↓xN_nil, ↓xN_cons, ↓xI_seq, ↓xI_rng1, ↓xI_rng2, ↓xI_enum0, ↓xI_items, ↓xI_zip, ↓xB_nil, ↓xB_cons, ↓xS_asgN, ↓xS_asgT, ↓xS_par, ↓xS_setix, ↓xS_setfld, ↓xS_ex, ↓xS_retV, ↓xS_ret_lit, ↓xS_ret_bin, ↓xS_ret_neg, ↓xS_ret_cmp, ↓xS_ret_chain, ↓xS_ret_not_, ↓xS_ret_and_, ↓xS_ret_or_, ↓xS_ret_ife, ↓xS_ret_tup, ↓xS_ret_lst, ↓xS_ret_dct, ↓xS_ret_ix, ↓xS_ret_sl, ↓xS_ret_rev, ↓xS_ret_fld, ↓xS_ret_prop, ↓xS_ret_call, ↓xS_ret_callp, ↓xS_ret_meth, ↓xS_ret_mk, ↓xS_ret_alloc, ↓xS_ret_bi, ↓xS_ret_isi, ↓xS_ret_rng, ↓xS_ret_bm, ↓xS_ret_mm, ↓xS_ret_lc, ↓xS_ret_dc, ↓xS_ret_eqo, ↓xS_retn, ↓xS_ife, ↓xS_for, ↓xS_while, ↓xS_pass, ↓xS_brk, ↓xS_cont, ↓xS_raise, ↓xS_try, ↓xG_name, ↓xG_tup, ↓xGs_nil, ↓xGs_cons, ↓loopH_nil, ↓loopH_cons, ↓xE_lc1, ↓optH_s, ↓iteH_t, ↓iteH_f, ↓andH_t, goH_go, ↓onSlot_v, ↓onSlot_o, ↓onInt_i, ↓onBl_b, ↓onOwn_o, ↓onTup_t, ↓onTup_l, ↓onCons_c, ↓onDct_d, ↓onZip_l, ↓onZip_t, ↓callH_mk, pick, List.getD_cons_zero, List.getD_cons_succ, ↓callH_in, ↓upH_s, ↓upH_r,
  vres_v, vres_s, look_own, look_val, view_int, view_bl, view_str, view_non, view_tup, view_lst, view_scr, view_dct, view_ins, view_r0, view_r1, Option.getD_some, Option.map_some, Option.map_none, Option.bind_some, Option.bind_none, Option.getD_none,
  fld_ins, isi_non, cl_int_non, cl_bool_non, cl_str_non, cl_tuple_non, cl_list_non, cl_dict_non, cl_own_non, notNon_non, isi_bl, cl_int_bl, cl_bool_bl, cl_str_bl, cl_tuple_bl, cl_list_bl, cl_dict_bl, cl_own_bl, notNon_bl, isi_int, cl_int_int, cl_bool_int, cl_str_int, cl_tuple_int, cl_list_int, cl_dict_int, cl_own_int, notNon_int, isi_str, cl_int_str, cl_bool_str, cl_str_str, cl_tuple_str, cl_list_str, cl_dict_str, cl_own_str, notNon_str, isi_tup, cl_int_tup, cl_bool_tup, cl_str_tup, cl_tuple_tup, cl_list_tup, cl_dict_tup, cl_own_tup, notNon_tup, isi_lst, cl_int_lst, cl_bool_lst, cl_str_lst, cl_tuple_lst, cl_list_lst, cl_dict_lst, cl_own_lst, notNon_lst, isi_dct, cl_int_dct, cl_bool_dct, cl_str_dct, cl_tuple_dct, cl_list_dct, cl_dict_dct, cl_own_dct, notNon_dct, isi_ins, cl_own_ins, notNon_ins, truth_non, truth_bl, truth_int, truth_tup, truth_lst, walk_tup, walk_lst, walk_scr, walk_str, seq_tup, seq_lst, frz_lst, frz_dct, frz_ins, ofrz_v, ofrz_o, oslot_v, oslot_o, keep_v, keep_o, keep_u, setsS_nil, setsS_cons, isLst_l, isIns_i, noField_i, mm_app, mm_popF, set_lst, set_dct, sf_ins, sl_tup, sl_lst, ress_nil, ress_cons,
  Bm.ok, all, List.any_cons, List.any_nil, List.contains_cons, List.contains_nil, Option.isSome_some, lookF, putF, wipeS, backS,
  List.getElem?_cons_zero, List.getElem?_cons_succ, List.length_cons, List.length_nil, List.map_cons, List.map_nil, List.replicate_zero, List.replicate_succ, List.cons_append, List.nil_append, List.set_cons_zero, List.set_cons_succ, List.getElem?_nil, Nat.reduceAdd, Nat.reduceSub, Nat.reduceLeDiff, Nat.reduceLT, Nat.reduceEqDiff, big, Int.cast_ofNat_Int, Int.reduceLE, Int.reduceLT, Int.reduceNeg, Int.reduceAdd, Int.reduceSub, Int.reduceMul, Int.reducePow, Int.reduceAbs, Int.reduceToNat, Int.reduceEq, Int.reduceDiv, Int.reduceMod, upTo, ↓lcH_nil, ↓lcH_cons,
  ok_60, okAt_int, okAt_bl, okAt_str, okAt_non, okAt_tup, okAt_lst, okAts_nil, okAts_cons, okAts_mapI, okAts_mapS, okAts_mapB, Bool.and_true, Bool.true_and, Bool.and_false, Bool.false_and, Bool.or_true, Bool.true_or, Bool.or_false, Bool.false_or, Bool.not_true, Bool.not_false, Bool.not_not, Bool.false_eq_true, if_true, if_false, ↓reduceIte, decide_true, decide_false, decide_eq_true_eq, eq_self, true_and, and_true, and_self, ofString_inj, String.reduceEq,
  eqD_int, eqD_str, eqD_bl, eqD_tup, eqD_lst, eqD_nn, eqD_nt, eqD_tn, eqD_si, eqD_is, eqD_st, eqD_ts, eqD_ti, eqD_it, eqD_tl, eqD_lt, eqDs_nil, eqDs_cons, eqDs_nc, eqDs_cn, eqDs_strs, eqDs_ints, any_strs,
  atI_0, atI_1, atI_2, atI_3, atI_4, ix_tup, ix_lst, ix_dctS, getD_cons, putD_cons, putD_nil, keyFits_str, keyFits_int, isSome_keyAt, isSome_keyAt0, mergeD,
  cmp_eq, cmp_ne, cmp_in_tup, cmp_in_lst, cmp_nin_tup, cmp_nin_lst, cmp_in_dct, cmp_nin_dct, cmp_lt_int, cmp_gt_int, cmp_le_int, cmp_ge_int, cmp_is_non, cmp_isn_non, cmp_is_bl, cmp_isn_bl,
  add_int, sub_int, add_tup, add_lst, add_str, mul_int, mod_int, fdiv_int, pow_int, len_tup, len_lst, len_scr, abs_int, int_int, int_bl, max_int, min_int, list_tup, list_lst, tuple_tup, tuple_lst, all_bls, any_bls, lenset_strs, lenset_strsL, all_mapP, any_mapP, List.length_map, rec_view, rec_ok, rec_eq, ↓rec_tup, rec_ix0, rec_ix1, rec_ix2, rec_ix3, rule_view, rule_f0, rule_f1, rule_f2, rule_f3, max_rec, rec_fold, rule_frz, rule_isIns, rule_noField, rec_sl3, rec_sl1, way_view, way_o, way_k, way_s, way_r, cmp_gt_rec, cmp_gt_bl, rec_list, ixN_40, ixN_41, ixN_42, ixN_43])
local macro_rules | `(tactic| walk_at "hps") => `(tactic| simp (config := { dsimp := false, failIfUnchanged := false, implicitDefEqProofs := false }) only [↓xA_lit, ↓xA_bin, ↓xA_neg, ↓xA_cmp, ↓xA_chain, ↓xA_not_, ↓xA_and_, ↓xA_or_, ↓xA_ife, ↓xA_tup, ↓xA_lst, ↓xA_dct, ↓xA_ix, ↓xA_sl, ↓xA_rev, ↓xA_fld, ↓xA_prop, ↓xA_call, ↓xA_callp, ↓xA_meth, ↓xA_mk, ↓xA_alloc, ↓xA_bi, ↓xA_isi, ↓xA_rng, ↓xA_bm, ↓xA_mm, ↓xA_lc, ↓xA_dc, ↓xA_eqo, ↓xA_var, ↓xE_lit, ↓xE_var, ↓xE_bin, ↓xE_neg, ↓xE_cmp, ↓xT_cmp, ↓xE_chain, ↓xT_chain, ↓xE_not_, ↓xT_not_, ↓xE_and_, ↓xT_and_, ↓xE_or_, ↓xT_or_, ↓xE_ife, ↓xT_ife, ↓xE_tup, ↓xE_lst, ↓xE_dct, ↓xE_ix, ↓xE_sl, ↓xE_rev, ↓xE_fld, ↓xE_call, ↓xE_callp, ↓xE_meth, ↓xE_mk, ↓xE_prop, ↓xE_alloc, ↓xE_bi, ↓xE_isi, ↓xT_isi, ↓xE_eqo, ↓xT_eqo, ↓xE_rng, ↓xE_bm, ↓xE_mm, ↓xT_lit, ↓xT_bin, ↓xT_neg, ↓xT_tup, ↓xT_lst, ↓xT_dct, ↓xT_ix, ↓xT_sl, ↓xT_rev, ↓xT_fld, ↓xT_prop, ↓xT_call, ↓xT_callp, ↓xT_meth, ↓xT_mk, ↓xT_alloc, ↓xT_bi, ↓xT_rng, ↓xT_bm, ↓xT_mm, ↓xT_lc, ↓xT_dc, ↓xT_var, ↓xV_nil, ↓xO_nil, ↓xU_nil, ↓xV_cons, ↓xO_cons, ↓xU_cons, ↓xV_star, ↓xF_nil, ↓xF_one, ↓xP_nil, ↓xP_cons, ↓xN_nil, ↓xN_cons, ↓xI_seq, ↓xI_rng1, ↓xI_rng2, ↓xI_enum0, ↓xI_items, ↓xI_zip, ↓xB_nil, ↓xB_cons, ↓xS_asgN, ↓xS_asgT, ↓xS_par, ↓xS_setix, ↓xS_setfld, ↓xS_ex, ↓xS_retV, ↓xS_ret_lit, ↓xS_ret_bin, ↓xS_ret_neg, ↓xS_ret_cmp, ↓xS_ret_chain, ↓xS_ret_not_, ↓xS_ret_and_, ↓xS_ret_or_, ↓xS_ret_ife, ↓xS_ret_tup, ↓xS_ret_lst, ↓xS_ret_dct, ↓xS_ret_ix, ↓xS_ret_sl, ↓xS_ret_rev, ↓xS_ret_fld, ↓xS_ret_prop, ↓xS_ret_call, ↓xS_ret_callp, ↓xS_ret_meth, ↓xS_ret_mk, ↓xS_ret_alloc, ↓xS_ret_bi, ↓xS_ret_isi, ↓xS_ret_rng, ↓xS_ret_bm, ↓xS_ret_mm, ↓xS_ret_lc, ↓xS_ret_dc, ↓xS_ret_eqo, ↓xS_retn, ↓xS_ife, ↓xS_for, ↓xS_while, ↓xS_pass, ↓xS_brk, ↓xS_cont, ↓xS_raise, ↓xS_try, ↓xG_name, ↓xG_tup, ↓xGs_nil, ↓xGs_cons, ↓loopH_nil, ↓loopH_cons, ↓xE_lc1, ↓optH_s, ↓iteH_t, ↓iteH_f, ↓andH_t, goH_go, ↓onSlot_v, ↓onSlot_o, ↓onInt_i, ↓onBl_b, ↓onOwn_o, ↓onTup_t, ↓onTup_l, ↓onCons_c, ↓onDct_d, ↓onZip_l, ↓onZip_t, ↓callH_mk, pick, List.getD_cons_zero, List.getD_cons_succ, ↓callH_in, ↓upH_s, ↓upH_r,
  vres_v, vres_s, look_own, look_val, view_int, view_bl, view_str, view_non, view_tup, view_lst, view_scr, view_dct, view_ins, view_r0, view_r1, Option.getD_some, Option.map_some, Option.map_none, Option.bind_some, Option.bind_none, Option.getD_none,
  fld_ins, isi_non, cl_int_non, cl_bool_non, cl_str_non, cl_tuple_non, cl_list_non, cl_dict_non, cl_own_non, notNon_non, isi_bl, cl_int_bl, cl_bool_bl, cl_str_bl, cl_tuple_bl, cl_list_bl, cl_dict_bl, cl_own_bl, notNon_bl, isi_int, cl_int_int, cl_bool_int, cl_str_int, cl_tuple_int, cl_list_int, cl_dict_int, cl_own_int, notNon_int, isi_str, cl_int_str, cl_bool_str, cl_str_str, cl_tuple_str, cl_list_str, cl_dict_str, cl_own_str, notNon_str, isi_tup, cl_int_tup, cl_bool_tup, cl_str_tup, cl_tuple_tup, cl_list_tup, cl_dict_tup, cl_own_tup, notNon_tup, isi_lst, cl_int_lst, cl_bool_lst, cl_str_lst, cl_tuple_lst, cl_list_lst, cl_dict_lst, cl_own_lst, notNon_lst, isi_dct, cl_int_dct, cl_bool_dct, cl_str_dct, cl_tuple_dct, cl_list_dct, cl_dict_dct, cl_own_dct, notNon_dct, isi_ins, cl_own_ins, notNon_ins, truth_non, truth_bl, truth_int, truth_tup, truth_lst, walk_tup, walk_lst, walk_scr, walk_str, seq_tup, seq_lst, frz_lst, frz_dct, frz_ins, ofrz_v, ofrz_o, oslot_v, oslot_o, keep_v, keep_o, keep_u, setsS_nil, setsS_cons, isLst_l, isIns_i, noField_i, mm_app, mm_popF, set_lst, set_dct, sf_ins, sl_tup, sl_lst, ress_nil, ress_cons,
  Bm.ok, all, List.any_cons, List.any_nil, List.contains_cons, List.contains_nil, Option.isSome_some, lookF, putF, wipeS, backS,
  List.getElem?_cons_zero, List.getElem?_cons_succ, List.length_cons, List.length_nil, List.map_cons, List.map_nil, List.replicate_zero, List.replicate_succ, List.cons_append, List.nil_append, List.set_cons_zero, List.set_cons_succ, List.getElem?_nil, Nat.reduceAdd, Nat.reduceSub, Nat.reduceLeDiff, Nat.reduceLT, Nat.reduceEqDiff, big, Int.cast_ofNat_Int, Int.reduceLE, Int.reduceLT, Int.reduceNeg, Int.reduceAdd, Int.reduceSub, Int.reduceMul, Int.reducePow, Int.reduceAbs, Int.reduceToNat, Int.reduceEq, Int.reduceDiv, Int.reduceMod, upTo, ↓lcH_nil, ↓lcH_cons,
  ok_60, okAt_int, okAt_bl, okAt_str, okAt_non, okAt_tup, okAt_lst, okAts_nil, okAts_cons, okAts_mapI, okAts_mapS, okAts_mapB, Bool.and_true, Bool.true_and, Bool.and_false, Bool.false_and, Bool.or_true, Bool.true_or, Bool.or_false, Bool.false_or, Bool.not_true, Bool.not_false, Bool.not_not, Bool.false_eq_true, if_true, if_false, ↓reduceIte, decide_true, decide_false, decide_eq_true_eq, eq_self, true_and, and_true, and_self, ofString_inj, String.reduceEq,
  eqD_int, eqD_str, eqD_bl, eqD_tup, eqD_lst, eqD_nn, eqD_nt, eqD_tn, eqD_si, eqD_is, eqD_st, eqD_ts, eqD_ti, eqD_it, eqD_tl, eqD_lt, eqDs_nil, eqDs_cons, eqDs_nc, eqDs_cn, eqDs_strs, eqDs_ints, any_strs,
  atI_0, atI_1, atI_2, atI_3, atI_4, ix_tup, ix_lst, ix_dctS, getD_cons, putD_cons, putD_nil, keyFits_str, keyFits_int, isSome_keyAt, isSome_keyAt0, mergeD,
  cmp_eq, cmp_ne, cmp_in_tup, cmp_in_lst, cmp_nin_tup, cmp_nin_lst, cmp_in_dct, cmp_nin_dct, cmp_lt_int, cmp_gt_int, cmp_le_int, cmp_ge_int, cmp_is_non, cmp_isn_non, cmp_is_bl, cmp_isn_bl,
  add_int, sub_int, add_tup, add_lst, add_str, mul_int, mod_int, fdiv_int, pow_int, len_tup, len_lst, len_scr, abs_int, int_int, int_bl, max_int, min_int, list_tup, list_lst, tuple_tup, tuple_lst, all_bls, any_bls, lenset_strs, lenset_strsL, all_mapP, any_mapP, List.length_map, rec_view, rec_ok, rec_eq, ↓rec_tup, rec_ix0, rec_ix1, rec_ix2, rec_ix3, rule_view, rule_f0, rule_f1, rule_f2, rule_f3, max_rec, rec_fold, rule_frz, rule_isIns, rule_noField, rec_sl3, rec_sl1, way_view, way_o, way_k, way_s, way_r, cmp_gt_rec, cmp_gt_bl, rec_list, ixN_40, ixN_41, ixN_42, ixN_43, *])
local macro_rules | `(tactic| walk_at "lif") => `(tactic| (rw [if_pos]; rotate_left; (simp (config := { failIfUnchanged := false }) only [List.length_append, List.length_map, List.length_cons, List.length_nil, List.length_set, List.length_take, List.length_drop, List.length_range, big]; omega)))
local macro_rules | `(tactic| walk_at "len") => `(tactic| (rw [iteH_yes (p := _ ≤ _)]; rotate_left; (simp (config := { failIfUnchanged := false }) only [List.length_append, List.length_map, List.length_cons, List.length_nil, List.length_set, List.length_take, List.length_drop, List.length_range]; omega)))
local macro_rules | `(tactic| walk_at "hp") => `(tactic| simp (config := { dsimp := false, failIfUnchanged := false, implicitDefEqProofs := false }) only [↓xA_lit, ↓xA_bin, ↓xA_neg, ↓xA_cmp, ↓xA_chain, ↓xA_not_, ↓xA_and_, ↓xA_or_, ↓xA_ife, ↓xA_tup, ↓xA_lst, ↓xA_dct, ↓xA_ix, ↓xA_sl, ↓xA_rev, ↓xA_fld, ↓xA_prop, ↓xA_call, ↓xA_callp, ↓xA_meth, ↓xA_mk, ↓xA_alloc, ↓xA_bi, ↓xA_isi, ↓xA_rng, ↓xA_bm, ↓xA_mm, ↓xA_lc, ↓xA_dc, ↓xA_eqo, ↓xA_var, ↓xE_lit, ↓xE_var, ↓xE_bin, ↓xE_neg, ↓xE_cmp, ↓xT_cmp, ↓xE_chain, ↓xT_chain, ↓xE_not_, ↓xT_not_, ↓xE_and_, ↓xT_and_, ↓xE_or_, ↓xT_or_, ↓xE_ife, ↓xT_ife, ↓xE_tup, ↓xE_lst, ↓xE_dct, ↓xE_ix, ↓xE_sl, ↓xE_rev, ↓xE_fld, ↓xE_call, ↓xE_callp, ↓xE_meth, ↓xE_mk, ↓xE_prop, ↓xE_alloc, ↓xE_bi, ↓xE_isi, ↓xT_isi, ↓xE_eqo, ↓xT_eqo, ↓xE_rng, ↓xE_bm, ↓xE_mm, ↓xT_lit, ↓xT_bin, ↓xT_neg, ↓xT_tup, ↓xT_lst, ↓xT_dct, ↓xT_ix, ↓xT_sl, ↓xT_rev, ↓xT_fld, ↓xT_prop, ↓xT_call, ↓xT_callp, ↓xT_meth, ↓xT_mk, ↓xT_alloc, ↓xT_bi, ↓xT_rng, ↓xT_bm, ↓xT_mm, ↓xT_lc, ↓xT_dc, ↓xT_var, ↓xV_nil, ↓xO_nil, ↓xU_nil, ↓xV_cons, ↓xO_cons, ↓xU_cons, ↓xV_star, ↓xF_nil, ↓xF_one, ↓xP_nil, ↓xP_cons, ↓xN_nil, ↓xN_cons, ↓xI_seq, ↓xI_rng1, ↓xI_rng2, ↓xI_enum0, ↓xI_items, ↓xI_zip, ↓xB_nil, ↓xB_cons, ↓xS_asgN, ↓xS_asgT, ↓xS_par, ↓xS_setix, ↓xS_setfld, ↓xS_ex, ↓xS_retV, ↓xS_ret_lit, ↓xS_ret_bin, ↓xS_ret_neg, ↓xS_ret_cmp, ↓xS_ret_chain, ↓xS_ret_not_, ↓xS_ret_and_, ↓xS_ret_or_, ↓xS_ret_ife, ↓xS_ret_tup, ↓xS_ret_lst, ↓xS_ret_dct, ↓xS_ret_ix, ↓xS_ret_sl, ↓xS_ret_rev, ↓xS_ret_fld, ↓xS_ret_prop, ↓xS_ret_call, ↓xS_ret_callp, ↓xS_ret_meth, ↓xS_ret_mk, ↓xS_ret_alloc, ↓xS_ret_bi, ↓xS_ret_isi, ↓xS_ret_rng, ↓xS_ret_bm, ↓xS_ret_mm, ↓xS_ret_lc, ↓xS_ret_dc, ↓xS_ret_eqo, ↓xS_retn, ↓xS_ife, ↓xS_for, ↓xS_while, ↓xS_pass, ↓xS_brk, ↓xS_cont, ↓xS_raise, ↓xS_try, ↓xG_name, ↓xG_tup, ↓xGs_nil, ↓xGs_cons, ↓loopH_nil, ↓loopH_cons, ↓xE_lc1, ↓optH_s, ↓iteH_t, ↓iteH_f, ↓andH_t, goH_go, ↓onSlot_v, ↓onSlot_o, ↓onInt_i, ↓onBl_b, ↓onOwn_o, ↓onTup_t, ↓onTup_l, ↓onCons_c, ↓onDct_d, ↓onZip_l, ↓onZip_t, ↓callH_mk, pick, List.getD_cons_zero, List.getD_cons_succ, ↓callH_in, ↓upH_s, ↓upH_r,
  vres_v, vres_s, look_own, look_val, view_int, view_bl, view_str, view_non, view_tup, view_lst, view_scr, view_dct, view_ins, view_r0, view_r1, Option.getD_some, Option.map_some, Option.map_none, Option.bind_some, Option.bind_none, Option.getD_none,
  fld_ins, isi_non, cl_int_non, cl_bool_non, cl_str_non, cl_tuple_non, cl_list_non, cl_dict_non, cl_own_non, notNon_non, isi_bl, cl_int_bl, cl_bool_bl, cl_str_bl, cl_tuple_bl, cl_list_bl, cl_dict_bl, cl_own_bl, notNon_bl, isi_int, cl_int_int, cl_bool_int, cl_str_int, cl_tuple_int, cl_list_int, cl_dict_int, cl_own_int, notNon_int, isi_str, cl_int_str, cl_bool_str, cl_str_str, cl_tuple_str, cl_list_str, cl_dict_str, cl_own_str, notNon_str, isi_tup, cl_int_tup, cl_bool_tup, cl_str_tup, cl_tuple_tup, cl_list_tup, cl_dict_tup, cl_own_tup, notNon_tup, isi_lst, cl_int_lst, cl_bool_lst, cl_str_lst, cl_tuple_lst, cl_list_lst, cl_dict_lst, cl_own_lst, notNon_lst, isi_dct, cl_int_dct, cl_bool_dct, cl_str_dct, cl_tuple_dct, cl_list_dct, cl_dict_dct, cl_own_dct, notNon_dct, isi_ins, cl_own_ins, notNon_ins, truth_non, truth_bl, truth_int, truth_tup, truth_lst, walk_tup, walk_lst, walk_scr, walk_str, seq_tup, seq_lst, frz_lst, frz_dct, frz_ins, ofrz_v, ofrz_o, oslot_v, oslot_o, keep_v, keep_o, keep_u, setsS_nil, setsS_cons, isLst_l, isIns_i, noField_i, mm_app, mm_popF, set_lst, set_dct, sf_ins, sl_tup, sl_lst, ress_nil, ress_cons,
  Bm.ok, all, List.any_cons, List.any_nil, List.contains_cons, List.contains_nil, Option.isSome_some, lookF, putF, wipeS, backS,
  List.getElem?_cons_zero, List.getElem?_cons_succ, List.length_cons, List.length_nil, List.map_cons, List.map_nil, List.replicate_zero, List.replicate_succ, List.cons_append, List.nil_append, List.set_cons_zero, List.set_cons_succ, List.getElem?_nil, Nat.reduceAdd, Nat.reduceSub, Nat.reduceLeDiff, Nat.reduceLT, Nat.reduceEqDiff, big, Int.cast_ofNat_Int, Int.reduceLE, Int.reduceLT, Int.reduceNeg, Int.reduceAdd, Int.reduceSub, Int.reduceMul, Int.reducePow, Int.reduceAbs, Int.reduceToNat, Int.reduceEq, Int.reduceDiv, Int.reduceMod, upTo, ↓lcH_nil, ↓lcH_cons,
  ok_60, okAt_int, okAt_bl, okAt_str, okAt_non, okAt_tup, okAt_lst, okAts_nil, okAts_cons, okAts_mapI, okAts_mapS, okAts_mapB, Bool.and_true, Bool.true_and, Bool.and_false, Bool.false_and, Bool.or_true, Bool.true_or, Bool.or_false, Bool.false_or, Bool.not_true, Bool.not_false, Bool.not_not, Bool.false_eq_true, if_true, if_false, ↓reduceIte, decide_true, decide_false, decide_eq_true_eq, eq_self, true_and, and_true, and_self, ofString_inj, String.reduceEq,
  eqD_int, eqD_str, eqD_bl, eqD_tup, eqD_lst, eqD_nn, eqD_nt, eqD_tn, eqD_si, eqD_is, eqD_st, eqD_ts, eqD_ti, eqD_it, eqD_tl, eqD_lt, eqDs_nil, eqDs_cons, eqDs_nc, eqDs_cn, eqDs_strs, eqDs_ints, any_strs,
  atI_0, atI_1, atI_2, atI_3, atI_4, ix_tup, ix_lst, ix_dctS, getD_cons, putD_cons, putD_nil, keyFits_str, keyFits_int, isSome_keyAt, isSome_keyAt0, mergeD,
  cmp_eq, cmp_ne, cmp_in_tup, cmp_in_lst, cmp_nin_tup, cmp_nin_lst, cmp_in_dct, cmp_nin_dct, cmp_lt_int, cmp_gt_int, cmp_le_int, cmp_ge_int, cmp_is_non, cmp_isn_non, cmp_is_bl, cmp_isn_bl,
  add_int, sub_int, add_tup, add_lst, add_str, mul_int, mod_int, fdiv_int, pow_int, len_tup, len_lst, len_scr, abs_int, int_int, int_bl, max_int, min_int, list_tup, list_lst, tuple_tup, tuple_lst, all_bls, any_bls, lenset_strs, lenset_strsL, all_mapP, any_mapP, List.length_map, rec_view, rec_ok, rec_eq, ↓rec_tup, rec_ix0, rec_ix1, rec_ix2, rec_ix3, rule_view, rule_f0, rule_f1, rule_f2, rule_f3, max_rec, rec_fold, rule_frz, rule_isIns, rule_noField, rec_sl3, rec_sl1, way_view, way_o, way_k, way_s, way_r, cmp_gt_rec, cmp_gt_bl, rec_list])
local macro_rules | `(tactic| walk_at "hps") => `(tactic| simp (config := { dsimp := false, failIfUnchanged := false, implicitDefEqProofs := false }) only [↓xA_lit, ↓xA_bin, ↓xA_neg, ↓xA_cmp, ↓xA_chain, ↓xA_not_, ↓xA_and_, ↓xA_or_, ↓xA_ife, ↓xA_tup, ↓xA_lst, ↓xA_dct, ↓xA_ix, ↓xA_sl, ↓xA_rev, ↓xA_fld, ↓xA_prop, ↓xA_call, ↓xA_callp, ↓xA_meth, ↓xA_mk, ↓xA_alloc, ↓xA_bi, ↓xA_isi, ↓xA_rng, ↓xA_bm, ↓xA_mm, ↓xA_lc, ↓xA_dc, ↓xA_eqo, ↓xA_var, ↓xE_lit, ↓xE_var, ↓xE_bin, ↓xE_neg, ↓xE_cmp, ↓xT_cmp, ↓xE_chain, ↓xT_chain, ↓xE_not_, ↓xT_not_, ↓xE_and_, ↓xT_and_, ↓xE_or_, ↓xT_or_, ↓xE_ife, ↓xT_ife, ↓xE_tup, ↓xE_lst, ↓xE_dct, ↓xE_ix, ↓xE_sl, ↓xE_rev, ↓xE_fld, ↓xE_call, ↓xE_callp, ↓xE_meth, ↓xE_mk, ↓xE_prop, ↓xE_alloc, ↓xE_bi, ↓xE_isi, ↓xT_isi, ↓xE_eqo, ↓xT_eqo, ↓xE_rng, ↓xE_bm, ↓xE_mm, ↓xT_lit, ↓xT_bin, ↓xT_neg, ↓xT_tup, ↓xT_lst, ↓xT_dct, ↓xT_ix, ↓xT_sl, ↓xT_rev, ↓xT_fld, ↓xT_prop, ↓xT_call, ↓xT_callp, ↓xT_meth, ↓xT_mk, ↓xT_alloc, ↓xT_bi, ↓xT_rng, ↓xT_bm, ↓xT_mm, ↓xT_lc, ↓xT_dc, ↓xT_var, ↓xV_nil, ↓xO_nil, ↓xU_nil, ↓xV_cons, ↓xO_cons, ↓xU_cons, ↓xV_star, ↓xF_nil, ↓xF_one, ↓xP_nil, ↓xP_cons, ↓xN_nil, ↓xN_cons, ↓xI_seq, ↓xI_rng1, ↓xI_rng2, ↓xI_enum0, ↓xI_items, ↓xI_zip, ↓xB_nil, ↓xB_cons, ↓xS_asgN, ↓xS_asgT, ↓xS_par, ↓xS_setix, ↓xS_setfld, ↓xS_ex, ↓xS_retV, ↓xS_ret_lit, ↓xS_ret_bin, ↓xS_ret_neg, ↓xS_ret_cmp, ↓xS_ret_chain, ↓xS_ret_not_, ↓xS_ret_and_, ↓xS_ret_or_, ↓xS_ret_ife, ↓xS_ret_tup, ↓xS_ret_lst, ↓xS_ret_dct, ↓xS_ret_ix, ↓xS_ret_sl, ↓xS_ret_rev, ↓xS_ret_fld, ↓xS_ret_prop, ↓xS_ret_call, ↓xS_ret_callp, ↓xS_ret_meth, ↓xS_ret_mk, ↓xS_ret_alloc, ↓xS_ret_bi, ↓xS_ret_isi, ↓xS_ret_rng, ↓xS_ret_bm, ↓xS_ret_mm, ↓xS_ret_lc, ↓xS_ret_dc, ↓xS_ret_eqo, ↓xS_retn, ↓xS_ife, ↓xS_for, ↓xS_while, ↓xS_pass, ↓xS_brk, ↓xS_cont, ↓xS_raise, ↓xS_try, ↓xG_name, ↓xG_tup, ↓xGs_nil, ↓xGs_cons, ↓loopH_nil, ↓loopH_cons, ↓xE_lc1, ↓optH_s, ↓iteH_t, ↓iteH_f, ↓andH_t, goH_go, ↓onSlot_v, ↓onSlot_o, ↓onInt_i, ↓onBl_b, ↓onOwn_o, ↓onTup_t, ↓onTup_l, ↓onCons_c, ↓onDct_d, ↓onZip_l, ↓onZip_t, ↓callH_mk, pick, List.getD_cons_zero, List.getD_cons_succ, ↓callH_in, ↓upH_s, ↓upH_r,
  vres_v, vres_s, look_own, look_val, view_int, view_bl, view_str, view_non, view_tup, view_lst, view_scr, view_dct, view_ins, view_r0, view_r1, Option.getD_some, Option.map_some, Option.map_none, Option.bind_some, Option.bind_none, Option.getD_none,
  fld_ins, isi_non, cl_int_non, cl_bool_non, cl_str_non, cl_tuple_non, cl_list_non, cl_dict_non, cl_own_non, notNon_non, isi_bl, cl_int_bl, cl_bool_bl, cl_str_bl, cl_tuple_bl, cl_list_bl, cl_dict_bl, cl_own_bl, notNon_bl, isi_int, cl_int_int, cl_bool_int, cl_str_int, cl_tuple_int, cl_list_int, cl_dict_int, cl_own_int, notNon_int, isi_str, cl_int_str, cl_bool_str, cl_str_str, cl_tuple_str, cl_list_str, cl_dict_str, cl_own_str, notNon_str, isi_tup, cl_int_tup, cl_bool_tup, cl_str_tup, cl_tuple_tup, cl_list_tup, cl_dict_tup, cl_own_tup, notNon_tup, isi_lst, cl_int_lst, cl_bool_lst, cl_str_lst, cl_tuple_lst, cl_list_lst, cl_dict_lst, cl_own_lst, notNon_lst, isi_dct, cl_int_dct, cl_bool_dct, cl_str_dct, cl_tuple_dct, cl_list_dct, cl_dict_dct, cl_own_dct, notNon_dct, isi_ins, cl_own_ins, notNon_ins, truth_non, truth_bl, truth_int, truth_tup, truth_lst, walk_tup, walk_lst, walk_scr, walk_str, seq_tup, seq_lst, frz_lst, frz_dct, frz_ins, ofrz_v, ofrz_o, oslot_v, oslot_o, keep_v, keep_o, keep_u, setsS_nil, setsS_cons, isLst_l, isIns_i, noField_i, mm_app, mm_popF, set_lst, set_dct, sf_ins, sl_tup, sl_lst, ress_nil, ress_cons,
  Bm.ok, all, List.any_cons, List.any_nil, List.contains_cons, List.contains_nil, Option.isSome_some, lookF, putF, wipeS, backS,
  List.getElem?_cons_zero, List.getElem?_cons_succ, List.length_cons, List.length_nil, List.map_cons, List.map_nil, List.replicate_zero, List.replicate_succ, List.cons_append, List.nil_append, List.set_cons_zero, List.set_cons_succ, List.getElem?_nil, Nat.reduceAdd, Nat.reduceSub, Nat.reduceLeDiff, Nat.reduceLT, Nat.reduceEqDiff, big, Int.cast_ofNat_Int, Int.reduceLE, Int.reduceLT, Int.reduceNeg, Int.reduceAdd, Int.reduceSub, Int.reduceMul, Int.reducePow, Int.reduceAbs, Int.reduceToNat, Int.reduceEq, Int.reduceDiv, Int.reduceMod, upTo, ↓lcH_nil, ↓lcH_cons,
  ok_60, okAt_int, okAt_bl, okAt_str, okAt_non, okAt_tup, okAt_lst, okAts_nil, okAts_cons, okAts_mapI, okAts_mapS, okAts_mapB, Bool.and_true, Bool.true_and, Bool.and_false, Bool.false_and, Bool.or_true, Bool.true_or, Bool.or_false, Bool.false_or, Bool.not_true, Bool.not_false, Bool.not_not, Bool.false_eq_true, if_true, if_false, ↓reduceIte, decide_true, decide_false, decide_eq_true_eq, eq_self, true_and, and_true, and_self, ofString_inj, String.reduceEq,
  eqD_int, eqD_str, eqD_bl, eqD_tup, eqD_lst, eqD_nn, eqD_nt, eqD_tn, eqD_si, eqD_is, eqD_st, eqD_ts, eqD_ti, eqD_it, eqD_tl, eqD_lt, eqDs_nil, eqDs_cons, eqDs_nc, eqDs_cn, eqDs_strs, eqDs_ints, any_strs,
  atI_0, atI_1, atI_2, atI_3, atI_4, ix_tup, ix_lst, ix_dctS, getD_cons, putD_cons, putD_nil, keyFits_str, keyFits_int, isSome_keyAt, isSome_keyAt0, mergeD,
  cmp_eq, cmp_ne, cmp_in_tup, cmp_in_lst, cmp_nin_tup, cmp_nin_lst, cmp_in_dct, cmp_nin_dct, cmp_lt_int, cmp_gt_int, cmp_le_int, cmp_ge_int, cmp_is_non, cmp_isn_non, cmp_is_bl, cmp_isn_bl,
  add_int, sub_int, add_tup, add_lst, add_str, mul_int, mod_int, fdiv_int, pow_int, len_tup, len_lst, len_scr, abs_int, int_int, int_bl, max_int, min_int, list_tup, list_lst, tuple_tup, tuple_lst, all_bls, any_bls, lenset_strs, lenset_strsL, all_mapP, any_mapP, List.length_map, rec_view, rec_ok, rec_eq, ↓rec_tup, rec_ix0, rec_ix1, rec_ix2, rec_ix3, rule_view, rule_f0, rule_f1, rule_f2, rule_f3, max_rec, rec_fold, rule_frz, rule_isIns, rule_noField, rec_sl3, rec_sl1, way_view, way_o, way_k, way_s, way_r, cmp_gt_rec, cmp_gt_bl, rec_list, *])
local macro_rules | `(tactic| walk_at "lif") => `(tactic| (rw [if_pos]; rotate_left; (simp (config := { failIfUnchanged := false }) only [List.length_append, List.length_map, List.length_cons, List.length_nil, List.length_set, List.length_take, List.length_drop, List.length_range, big]; omega)))
local macro_rules | `(tactic| walk_at "len") => `(tactic| (rw [iteH_yes (p := _ ≤ _)]; rotate_left; (simp (config := { failIfUnchanged := false }) only [List.length_append, List.length_map, List.length_cons, List.length_nil, List.length_set, List.length_take, List.length_drop, List.length_range]; omega)))
end HP

set_option maxHeartbeats 600000
namespace HP
open PySem
/-! P8: drawn records. -/
variable {s m : Store} {Q : Out → Store → Prop} {X : Exc → Store → Prop} {h : Hd Q} {h2 : Hd X}
/-- a record of numbers up to b -/
structure Rec.In (b : Int) (r : Rec) : Prop where
  t0 : 0 ≤ r.t
  t1 : r.t ≤ b
  p0 : 0 ≤ r.p
  p1 : r.p ≤ b
  s0 : 0 ≤ r.s
  s1 : r.s ≤ b
theorem Rec.In.ok {b : Int} {r : Rec} (q : r.In b) : r.Ok := ⟨q.t0, q.p0, q.s0⟩
theorem Rec.In.mono {b c : Int} {r : Rec} (q : r.In b) (h : b ≤ c) : r.In c := ⟨q.t0, Int.le_trans q.t1 h, q.p0, Int.le_trans q.p1 h, q.s0, Int.le_trans q.s1 h⟩
theorem strongM_either (r : RuleM) (a b : Rec) : ∀ ks, strongM r a b ks = a ∨ strongM r a b ks = b
  | [] => by unfold strongM maxR; split <;> simp
  | k :: ks => by
    unfold strongM
    split
    · exact .inl rfl
    · split
      · exact .inr rfl
      · exact strongM_either r a b ks
theorem strong_either (r : RuleM) (a b : Rec) : strong r a b = a ∨ strong r a b = b := strongM_either r a b _
theorem strong_in {r : RuleM} {a b : Rec} {n : Int} (ha : a.In n) (hb : b.In n) : (strong r a b).In n := by
  rcases strong_either r a b with e | e <;> rw [e] <;> assumption
theorem join_in {r : RuleM} {a b : Rec} {n : Int} (ha : a.In n) (hb : b.In n) : (joinM r a b).In n := by
  have hx := strong_in (r := r) ha hb
  unfold joinM
  obtain ⟨a1, a2, a3, a4, a5, a6⟩ := ha
  obtain ⟨b1, b2, b3, b4, b5, b6⟩ := hb
  dsimp only
  split
  · refine ⟨hx.t0, hx.t1, ?_, ?_, ?_, ?_⟩
    all_goals dsimp only
    all_goals split
    all_goals first | exact hx.p0 | exact hx.p1 | exact hx.s0 | exact hx.s1 | (split <;> assumption)
  · exact hx
local macro_rules | `(tactic| walk_at "hp") => `(tactic| simp (config := { dsimp := false, failIfUnchanged := false, implicitDefEqProofs := false }) only [↓xA_lit, ↓xA_bin, ↓xA_neg, ↓xA_cmp, ↓xA_chain, ↓xA_not_, ↓xA_and_, ↓xA_or_, ↓xA_ife, ↓xA_tup, ↓xA_lst, ↓xA_dct, ↓xA_ix, ↓xA_sl, ↓xA_rev, ↓xA_fld, ↓xA_prop, ↓xA_call, ↓xA_callp, ↓xA_meth, ↓xA_mk, ↓xA_alloc, ↓xA_bi, ↓xA_isi, ↓xA_rng, ↓xA_bm, ↓xA_mm, ↓xA_lc, ↓xA_dc, ↓xA_eqo, ↓xA_var, ↓xE_lit, ↓xE_var, ↓xE_bin, ↓xE_neg, ↓xE_cmp, ↓xT_cmp, ↓xE_chain, ↓xT_chain, ↓xE_not_, ↓xT_not_, ↓xE_and_, ↓xT_and_, ↓xE_or_, ↓xT_or_, ↓xE_ife, ↓xT_ife, ↓xE_tup, ↓xE_lst, ↓xE_dct, ↓xE_ix, ↓xE_sl, ↓xE_rev, ↓xE_fld, ↓xE_call, ↓xE_callp, ↓xE_meth, ↓xE_mk, ↓xE_prop, ↓xE_alloc, ↓xE_bi, ↓xE_isi, ↓xT_isi, ↓xE_eqo, ↓xT_eqo, ↓xE_rng, ↓xE_bm, ↓xE_mm, ↓xT_lit, ↓xT_bin, ↓xT_neg, ↓xT_tup, ↓xT_lst, ↓xT_dct, ↓xT_ix, ↓xT_sl, ↓xT_rev, ↓xT_fld, ↓xT_prop, ↓xT_call, ↓xT_callp, ↓xT_meth, ↓xT_mk, ↓xT_alloc, ↓xT_bi, ↓xT_rng, ↓xT_bm, ↓xT_mm, ↓xT_lc, ↓xT_dc, ↓xT_var, ↓xV_nil, ↓xO_nil, ↓xU_nil, ↓xV_cons, ↓xO_cons, ↓xU_cons, ↓xV_star, ↓xF_nil, ↓xF_one, ↓xP_nil, ↓xP_cons, ↓xN_nil, ↓xN_cons, ↓xI_seq, ↓xI_rng1, ↓xI_rng2, ↓xI_enum0, ↓xI_items, ↓xI_zip, ↓xB_nil, ↓xB_cons, ↓xS_asgN, ↓xS_asgT, ↓xS_par, ↓xS_setix, ↓xS_setfld, ↓xS_ex, ↓xS_retV, ↓xS_ret_lit, ↓xS_ret_bin, ↓xS_ret_neg, ↓xS_ret_cmp, ↓xS_ret_chain, ↓xS_ret_not_, ↓xS_ret_and_, ↓xS_ret_or_, ↓xS_ret_ife, ↓xS_ret_tup, ↓xS_ret_lst, ↓xS_ret_dct, ↓xS_ret_ix, ↓xS_ret_sl, ↓xS_ret_rev, ↓xS_ret_fld, ↓xS_ret_prop, ↓xS_ret_call, ↓xS_ret_callp, ↓xS_ret_meth, ↓xS_ret_mk, ↓xS_ret_alloc, ↓xS_ret_bi, ↓xS_ret_isi, ↓xS_ret_rng, ↓xS_ret_bm, ↓xS_ret_mm, ↓xS_ret_lc, ↓xS_ret_dc, ↓xS_ret_eqo, ↓xS_retn, ↓xS_ife, ↓xS_for, ↓xS_while, ↓xS_pass, ↓xS_brk, ↓xS_cont, ↓xS_raise, ↓xS_try, ↓xG_name, ↓xG_tup, ↓xGs_nil, ↓xGs_cons, ↓loopH_nil, ↓loopH_cons, ↓xE_lc1, ↓optH_s, ↓iteH_t, ↓iteH_f, ↓andH_t, goH_go, ↓onSlot_v, ↓onSlot_o, ↓onInt_i, ↓onBl_b, ↓onOwn_o, ↓onTup_t, ↓onTup_l, ↓onCons_c, ↓onDct_d, ↓onZip_l, ↓onZip_t, ↓callH_mk, pick, List.getD_cons_zero, List.getD_cons_succ, ↓callH_in, ↓upH_s, ↓upH_r,
  vres_v, vres_s, look_own, look_val, view_int, view_bl, view_str, view_non, view_tup, view_lst, view_scr, view_dct, view_ins, view_r0, view_r1, Option.getD_some, Option.map_some, Option.map_none, Option.bind_some, Option.bind_none, Option.getD_none,
  fld_ins, isi_non, cl_int_non, cl_bool_non, cl_str_non, cl_tuple_non, cl_list_non, cl_dict_non, cl_own_non, notNon_non, isi_bl, cl_int_bl, cl_bool_bl, cl_str_bl, cl_tuple_bl, cl_list_bl, cl_dict_bl, cl_own_bl, notNon_bl, isi_int, cl_int_int, cl_bool_int, cl_str_int, cl_tuple_int, cl_list_int, cl_dict_int, cl_own_int, notNon_int, isi_str, cl_int_str, cl_bool_str, cl_str_str, cl_tuple_str, cl_list_str, cl_dict_str, cl_own_str, notNon_str, isi_tup, cl_int_tup, cl_bool_tup, cl_str_tup, cl_tuple_tup, cl_list_tup, cl_dict_tup, cl_own_tup, notNon_tup, isi_lst, cl_int_lst, cl_bool_lst, cl_str_lst, cl_tuple_lst, cl_list_lst, cl_dict_lst, cl_own_lst, notNon_lst, isi_dct, cl_int_dct, cl_bool_dct, cl_str_dct, cl_tuple_dct, cl_list_dct, cl_dict_dct, cl_own_dct, notNon_dct, isi_ins, cl_own_ins, notNon_ins, truth_non, truth_bl, truth_int, truth_tup, truth_lst, walk_tup, walk_lst, walk_scr, walk_str, seq_tup, seq_lst, frz_lst, frz_dct, frz_ins, ofrz_v, ofrz_o, oslot_v, oslot_o, keep_v, keep_o, keep_u, setsS_nil, setsS_cons, isLst_l, isIns_i, noField_i, mm_app, mm_popF, set_lst, set_dct, sf_ins, sl_tup, sl_lst, ress_nil, ress_cons,
  Bm.ok, all, List.any_cons, List.any_nil, List.contains_cons, List.contains_nil, Option.isSome_some, lookF, putF, wipeS, backS,
  List.getElem?_cons_zero, List.getElem?_cons_succ, List.length_cons, List.length_nil, List.map_cons, List.map_nil, List.replicate_zero, List.replicate_succ, List.cons_append, List.nil_append, List.set_cons_zero, List.set_cons_succ, List.getElem?_nil, Nat.reduceAdd, Nat.reduceSub, Nat.reduceLeDiff, Nat.reduceLT, Nat.reduceEqDiff, big, Int.cast_ofNat_Int, Int.reduceLE, Int.reduceLT, Int.reduceNeg, Int.reduceAdd, Int.reduceSub, Int.reduceMul, Int.reducePow, Int.reduceAbs, Int.reduceToNat, Int.reduceEq, Int.reduceDiv, Int.reduceMod, upTo, ↓lcH_nil, ↓lcH_cons,
  ok_60, okAt_int, okAt_bl, okAt_str, okAt_non, okAt_tup, okAt_lst, okAts_nil, okAts_cons, okAts_mapI, okAts_mapS, okAts_mapB, Bool.and_true, Bool.true_and, Bool.and_false, Bool.false_and, Bool.or_true, Bool.true_or, Bool.or_false, Bool.false_or, Bool.not_true, Bool.not_false, Bool.not_not, Bool.false_eq_true, if_true, if_false, ↓reduceIte, decide_true, decide_false, decide_eq_true_eq, eq_self, true_and, and_true, and_self, ofString_inj, String.reduceEq,
  eqD_int, eqD_str, eqD_bl, eqD_tup, eqD_lst, eqD_nn, eqD_nt, eqD_tn, eqD_si, eqD_is, eqD_st, eqD_ts, eqD_ti, eqD_it, eqD_tl, eqD_lt, eqDs_nil, eqDs_cons, eqDs_nc, eqDs_cn, eqDs_strs, eqDs_ints, any_strs,
  atI_0, atI_1, atI_2, atI_3, atI_4, ix_tup, ix_lst, ix_dctS, getD_cons, putD_cons, putD_nil, keyFits_str, keyFits_int, isSome_keyAt, isSome_keyAt0, mergeD,
  cmp_eq, cmp_ne, cmp_in_tup, cmp_in_lst, cmp_nin_tup, cmp_nin_lst, cmp_in_dct, cmp_nin_dct, cmp_lt_int, cmp_gt_int, cmp_le_int, cmp_ge_int, cmp_is_non, cmp_isn_non, cmp_is_bl, cmp_isn_bl,
  add_int, sub_int, add_tup, add_lst, add_str, mul_int, mod_int, fdiv_int, pow_int, len_tup, len_lst, len_scr, abs_int, int_int, int_bl, max_int, min_int, list_tup, list_lst, tuple_tup, tuple_lst, all_bls, any_bls, lenset_strs, lenset_strsL, all_mapP, any_mapP, List.length_map, rec_view, rec_ok, rec_eq, ↓rec_tup, rec_ix0, rec_ix1, rec_ix2, rec_ix3, rule_view, rule_f0, rule_f1, rule_f2, rule_f3, max_rec, rec_fold, rule_frz, rule_isIns, rule_noField, rec_sl3, rec_sl1])
local macro_rules | `(tactic| walk_at "hps") => `(tactic| simp (config := { dsimp := false, failIfUnchanged := false, implicitDefEqProofs := false }) only [↓xA_lit, ↓xA_bin, ↓xA_neg, ↓xA_cmp, ↓xA_chain, ↓xA_not_, ↓xA_and_, ↓xA_or_, ↓xA_ife, ↓xA_tup, ↓xA_lst, ↓xA_dct, ↓xA_ix, ↓xA_sl, ↓xA_rev, ↓xA_fld, ↓xA_prop, ↓xA_call, ↓xA_callp, ↓xA_meth, ↓xA_mk, ↓xA_alloc, ↓xA_bi, ↓xA_isi, ↓xA_rng, ↓xA_bm, ↓xA_mm, ↓xA_lc, ↓xA_dc, ↓xA_eqo, ↓xA_var, ↓xE_lit, ↓xE_var, ↓xE_bin, ↓xE_neg, ↓xE_cmp, ↓xT_cmp, ↓xE_chain, ↓xT_chain, ↓xE_not_, ↓xT_not_, ↓xE_and_, ↓xT_and_, ↓xE_or_, ↓xT_or_, ↓xE_ife, ↓xT_ife, ↓xE_tup, ↓xE_lst, ↓xE_dct, ↓xE_ix, ↓xE_sl, ↓xE_rev, ↓xE_fld, ↓xE_call, ↓xE_callp, ↓xE_meth, ↓xE_mk, ↓xE_prop, ↓xE_alloc, ↓xE_bi, ↓xE_isi, ↓xT_isi, ↓xE_eqo, ↓xT_eqo, ↓xE_rng, ↓xE_bm, ↓xE_mm, ↓xT_lit, ↓xT_bin, ↓xT_neg, ↓xT_tup, ↓xT_lst, ↓xT_dct, ↓xT_ix, ↓xT_sl, ↓xT_rev, ↓xT_fld, ↓xT_prop, ↓xT_call, ↓xT_callp, ↓xT_meth, ↓xT_mk, ↓xT_alloc, ↓xT_bi, ↓xT_rng, ↓xT_bm, ↓xT_mm, ↓xT_lc, ↓xT_dc, ↓xT_var, ↓xV_nil, ↓xO_nil, ↓xU_nil, ↓xV_cons, ↓xO_cons, ↓xU_cons, ↓xV_star, ↓xF_nil, ↓xF_one, ↓xP_nil, ↓xP_cons, ↓xN_nil, ↓xN_cons, ↓xI_seq, ↓xI_rng1, ↓xI_rng2, ↓xI_enum0, ↓xI_items, ↓xI_zip, ↓xB_nil, ↓xB_cons, ↓xS_asgN, ↓xS_asgT, ↓xS_par, ↓xS_setix, ↓xS_setfld, ↓xS_ex, ↓xS_retV, ↓xS_ret_lit, ↓xS_ret_bin, ↓xS_ret_neg, ↓xS_ret_cmp, ↓xS_ret_chain, ↓xS_ret_not_, ↓xS_ret_and_, ↓xS_ret_or_, ↓xS_ret_ife, ↓xS_ret_tup, ↓xS_ret_lst, ↓xS_ret_dct, ↓xS_ret_ix, ↓xS_ret_sl, ↓xS_ret_rev, ↓xS_ret_fld, ↓xS_ret_prop, ↓xS_ret_call, ↓xS_ret_callp, ↓xS_ret_meth, ↓xS_ret_mk, ↓xS_ret_alloc, ↓xS_ret_bi, ↓xS_ret_isi, ↓xS_ret_rng, ↓xS_ret_bm, ↓xS_ret_mm, ↓xS_ret_lc, ↓xS_ret_dc, ↓xS_ret_eqo, ↓xS_retn, ↓xS_ife, ↓xS_for, ↓xS_while, ↓xS_pass, ↓xS_brk, ↓xS_cont, ↓xS_raise, ↓xS_try, ↓xG_name, ↓xG_tup, ↓xGs_nil, ↓xGs_cons, ↓loopH_nil, ↓loopH_cons, ↓xE_lc1, ↓optH_s, ↓iteH_t, ↓iteH_f, ↓andH_t, goH_go, ↓onSlot_v, ↓onSlot_o, ↓onInt_i, ↓onBl_b, ↓onOwn_o, ↓onTup_t, ↓onTup_l, ↓onCons_c, ↓onDct_d, ↓onZip_l, ↓onZip_t, ↓callH_mk, pick, List.getD_cons_zero, List.getD_cons_succ, ↓callH_in, ↓upH_s, ↓upH_r,
  vres_v, vres_s, look_own, look_val, view_int, view_bl, view_str, view_non, view_tup, view_lst, view_scr, view_dct, view_ins, view_r0, view_r1, Option.getD_some, Option.map_some, Option.map_none, Option.bind_some, Option.bind_none, Option.getD_none,
  fld_ins, isi_non, cl_int_non, cl_bool_non, cl_str_non, cl_tuple_non, cl_list_non, cl_dict_non, cl_own_non, notNon_non, isi_bl, cl_int_bl, cl_bool_bl, cl_str_bl, cl_tuple_bl, cl_list_bl, cl_dict_bl, cl_own_bl, notNon_bl, isi_int, cl_int_int, cl_bool_int, cl_str_int, cl_tuple_int, cl_list_int, cl_dict_int, cl_own_int, notNon_int, isi_str, cl_int_str, cl_bool_str, cl_str_str, cl_tuple_str, cl_list_str, cl_dict_str, cl_own_str, notNon_str, isi_tup, cl_int_tup, cl_bool_tup, cl_str_tup, cl_tuple_tup, cl_list_tup, cl_dict_tup, cl_own_tup, notNon_tup, isi_lst, cl_int_lst, cl_bool_lst, cl_str_lst, cl_tuple_lst, cl_list_lst, cl_dict_lst, cl_own_lst, notNon_lst, isi_dct, cl_int_dct, cl_bool_dct, cl_str_dct, cl_tuple_dct, cl_list_dct, cl_dict_dct, cl_own_dct, notNon_dct, isi_ins, cl_own_ins, notNon_ins, truth_non, truth_bl, truth_int, truth_tup, truth_lst, walk_tup, walk_lst, walk_scr, walk_str, seq_tup, seq_lst, frz_lst, frz_dct, frz_ins, ofrz_v, ofrz_o, oslot_v, oslot_o, keep_v, keep_o, keep_u, setsS_nil, setsS_cons, isLst_l, isIns_i, noField_i, mm_app, mm_popF, set_lst, set_dct, sf_ins, sl_tup, sl_lst, ress_nil, ress_cons,
  Bm.ok, all, List.any_cons, List.any_nil, List.contains_cons, List.contains_nil, Option.isSome_some, lookF, putF, wipeS, backS,
  List.getElem?_cons_zero, List.getElem?_cons_succ, List.length_cons, List.length_nil, List.map_cons, List.map_nil, List.replicate_zero, List.replicate_succ, List.cons_append, List.nil_append, List.set_cons_zero, List.set_cons_succ, List.getElem?_nil, Nat.reduceAdd, Nat.reduceSub, Nat.reduceLeDiff, Nat.reduceLT, Nat.reduceEqDiff, big, Int.cast_ofNat_Int, Int.reduceLE, Int.reduceLT, Int.reduceNeg, Int.reduceAdd, Int.reduceSub, Int.reduceMul, Int.reducePow, Int.reduceAbs, Int.reduceToNat, Int.reduceEq, Int.reduceDiv, Int.reduceMod, upTo, ↓lcH_nil, ↓lcH_cons,
  ok_60, okAt_int, okAt_bl, okAt_str, okAt_non, okAt_tup, okAt_lst, okAts_nil, okAts_cons, okAts_mapI, okAts_mapS, okAts_mapB, Bool.and_true, Bool.true_and, Bool.and_false, Bool.false_and, Bool.or_true, Bool.true_or, Bool.or_false, Bool.false_or, Bool.not_true, Bool.not_false, Bool.not_not, Bool.false_eq_true, if_true, if_false, ↓reduceIte, decide_true, decide_false, decide_eq_true_eq, eq_self, true_and, and_true, and_self, ofString_inj, String.reduceEq,
  eqD_int, eqD_str, eqD_bl, eqD_tup, eqD_lst, eqD_nn, eqD_nt, eqD_tn, eqD_si, eqD_is, eqD_st, eqD_ts, eqD_ti, eqD_it, eqD_tl, eqD_lt, eqDs_nil, eqDs_cons, eqDs_nc, eqDs_cn, eqDs_strs, eqDs_ints, any_strs,
  atI_0, atI_1, atI_2, atI_3, atI_4, ix_tup, ix_lst, ix_dctS, getD_cons, putD_cons, putD_nil, keyFits_str, keyFits_int, isSome_keyAt, isSome_keyAt0, mergeD,
  cmp_eq, cmp_ne, cmp_in_tup, cmp_in_lst, cmp_nin_tup, cmp_nin_lst, cmp_in_dct, cmp_nin_dct, cmp_lt_int, cmp_gt_int, cmp_le_int, cmp_ge_int, cmp_is_non, cmp_isn_non, cmp_is_bl, cmp_isn_bl,
  add_int, sub_int, add_tup, add_lst, add_str, mul_int, mod_int, fdiv_int, pow_int, len_tup, len_lst, len_scr, abs_int, int_int, int_bl, max_int, min_int, list_tup, list_lst, tuple_tup, tuple_lst, all_bls, any_bls, lenset_strs, lenset_strsL, all_mapP, any_mapP, List.length_map, rec_view, rec_ok, rec_eq, ↓rec_tup, rec_ix0, rec_ix1, rec_ix2, rec_ix3, rule_view, rule_f0, rule_f1, rule_f2, rule_f3, max_rec, rec_fold, rule_frz, rule_isIns, rule_noField, rec_sl3, rec_sl1, *])
local macro_rules | `(tactic| walk_at "lif") => `(tactic| (rw [if_pos]; rotate_left; (simp (config := { failIfUnchanged := false }) only [List.length_append, List.length_map, List.length_cons, List.length_nil, List.length_set, List.length_take, List.length_drop, List.length_range, big]; omega)))
local macro_rules | `(tactic| walk_at "len") => `(tactic| (rw [iteH_yes (p := _ ≤ _)]; rotate_left; (simp (config := { failIfUnchanged := false }) only [List.length_append, List.length_map, List.length_cons, List.length_nil, List.length_set, List.length_take, List.length_drop, List.length_range]; omega)))
theorem pick_ints {l : List Int} (hs : Draws s m) (hl : 0 < l.length) (hb : l.length ≤ 1000) (hQ : ∀ x ∈ l, ∀ s, Draws s m → Q (.val (.int x)) s) : callH g__law_pick [.ref 1, .lst (l.map .int)] s Q X h h2 :=
  pick_spec hs (by simpa using hl) (by simpa using hb) fun x hx s hs => by
    obtain ⟨y, hy, rfl⟩ := List.mem_map.mp hx
    exact hQ y hy s hs
local macro_rules | `(tactic| walk_at "hp") => `(tactic| simp (config := { dsimp := false, failIfUnchanged := false, implicitDefEqProofs := false }) only [↓xA_lit, ↓xA_bin, ↓xA_neg, ↓xA_cmp, ↓xA_chain, ↓xA_not_, ↓xA_and_, ↓xA_or_, ↓xA_ife, ↓xA_tup, ↓xA_lst, ↓xA_dct, ↓xA_ix, ↓xA_sl, ↓xA_rev, ↓xA_fld, ↓xA_prop, ↓xA_call, ↓xA_callp, ↓xA_meth, ↓xA_mk, ↓xA_alloc, ↓xA_bi, ↓xA_isi, ↓xA_rng, ↓xA_bm, ↓xA_mm, ↓xA_lc, ↓xA_dc, ↓xA_eqo, ↓xA_var, ↓xE_lit, ↓xE_var, ↓xE_bin, ↓xE_neg, ↓xE_cmp, ↓xT_cmp, ↓xE_chain, ↓xT_chain, ↓xE_not_, ↓xT_not_, ↓xE_and_, ↓xT_and_, ↓xE_or_, ↓xT_or_, ↓xE_ife, ↓xT_ife, ↓xE_tup, ↓xE_lst, ↓xE_dct, ↓xE_ix, ↓xE_sl, ↓xE_rev, ↓xE_fld, ↓xE_call, ↓xE_callp, ↓xE_meth, ↓xE_mk, ↓xE_prop, ↓xE_alloc, ↓xE_bi, ↓xE_isi, ↓xT_isi, ↓xE_eqo, ↓xT_eqo, ↓xE_rng, ↓xE_bm, ↓xE_mm, ↓xT_lit, ↓xT_bin, ↓xT_neg, ↓xT_tup, ↓xT_lst, ↓xT_dct, ↓xT_ix, ↓xT_sl, ↓xT_rev, ↓xT_fld, ↓xT_prop, ↓xT_call, ↓xT_callp, ↓xT_meth, ↓xT_mk, ↓xT_alloc, ↓xT_bi, ↓xT_rng, ↓xT_bm, ↓xT_mm, ↓xT_lc, ↓xT_dc, ↓xT_var, ↓xV_nil, ↓xO_nil, ↓xU_nil, ↓xV_cons, ↓xO_cons, ↓xU_cons, ↓xV_star, ↓xF_nil, ↓xF_one, ↓xP_nil, ↓xP_cons, ↓xN_nil, ↓xN_cons, ↓xI_seq, ↓xI_rng1, ↓xI_rng2, ↓xI_enum0, ↓xI_items, ↓xI_zip, ↓xB_nil, ↓xB_cons, ↓xS_asgN, ↓xS_asgT, ↓xS_par, ↓xS_setix, ↓xS_setfld, ↓xS_ex, ↓xS_retV, ↓xS_ret_lit, ↓xS_ret_bin, ↓xS_ret_neg, ↓xS_ret_cmp, ↓xS_ret_chain, ↓xS_ret_not_, ↓xS_ret_and_, ↓xS_ret_or_, ↓xS_ret_ife, ↓xS_ret_tup, ↓xS_ret_lst, ↓xS_ret_dct, ↓xS_ret_ix, ↓xS_ret_sl, ↓xS_ret_rev, ↓xS_ret_fld, ↓xS_ret_prop, ↓xS_ret_call, ↓xS_ret_callp, ↓xS_ret_meth, ↓xS_ret_mk, ↓xS_ret_alloc, ↓xS_ret_bi, ↓xS_ret_isi, ↓xS_ret_rng, ↓xS_ret_bm, ↓xS_ret_mm, ↓xS_ret_lc, ↓xS_ret_dc, ↓xS_ret_eqo, ↓xS_retn, ↓xS_ife, ↓xS_for, ↓xS_while, ↓xS_pass, ↓xS_brk, ↓xS_cont, ↓xS_raise, ↓xS_try, ↓xG_name, ↓xG_tup, ↓xGs_nil, ↓xGs_cons, ↓loopH_nil, ↓loopH_cons, ↓xE_lc1, ↓optH_s, ↓iteH_t, ↓iteH_f, ↓andH_t, goH_go, ↓onSlot_v, ↓onSlot_o, ↓onInt_i, ↓onBl_b, ↓onOwn_o, ↓onTup_t, ↓onTup_l, ↓onCons_c, ↓onDct_d, ↓onZip_l, ↓onZip_t, ↓callH_mk, pick, List.getD_cons_zero, List.getD_cons_succ, ↓callH_in, ↓upH_s, ↓upH_r,
  vres_v, vres_s, look_own, look_val, view_int, view_bl, view_str, view_non, view_tup, view_lst, view_scr, view_dct, view_ins, view_r0, view_r1, Option.getD_some, Option.map_some, Option.map_none, Option.bind_some, Option.bind_none, Option.getD_none,
  fld_ins, isi_non, cl_int_non, cl_bool_non, cl_str_non, cl_tuple_non, cl_list_non, cl_dict_non, cl_own_non, notNon_non, isi_bl, cl_int_bl, cl_bool_bl, cl_str_bl, cl_tuple_bl, cl_list_bl, cl_dict_bl, cl_own_bl, notNon_bl, isi_int, cl_int_int, cl_bool_int, cl_str_int, cl_tuple_int, cl_list_int, cl_dict_int, cl_own_int, notNon_int, isi_str, cl_int_str, cl_bool_str, cl_str_str, cl_tuple_str, cl_list_str, cl_dict_str, cl_own_str, notNon_str, isi_tup, cl_int_tup, cl_bool_tup, cl_str_tup, cl_tuple_tup, cl_list_tup, cl_dict_tup, cl_own_tup, notNon_tup, isi_lst, cl_int_lst, cl_bool_lst, cl_str_lst, cl_tuple_lst, cl_list_lst, cl_dict_lst, cl_own_lst, notNon_lst, isi_dct, cl_int_dct, cl_bool_dct, cl_str_dct, cl_tuple_dct, cl_list_dct, cl_dict_dct, cl_own_dct, notNon_dct, isi_ins, cl_own_ins, notNon_ins, truth_non, truth_bl, truth_int, truth_tup, truth_lst, walk_tup, walk_lst, walk_scr, walk_str, seq_tup, seq_lst, frz_lst, frz_dct, frz_ins, ofrz_v, ofrz_o, oslot_v, oslot_o, keep_v, keep_o, keep_u, setsS_nil, setsS_cons, isLst_l, isIns_i, noField_i, mm_app, mm_popF, set_lst, set_dct, sf_ins, sl_tup, sl_lst, ress_nil, ress_cons,
  Bm.ok, all, List.any_cons, List.any_nil, List.contains_cons, List.contains_nil, Option.isSome_some, lookF, putF, wipeS, backS,
  List.getElem?_cons_zero, List.getElem?_cons_succ, List.length_cons, List.length_nil, List.map_cons, List.map_nil, List.replicate_zero, List.replicate_succ, List.cons_append, List.nil_append, List.set_cons_zero, List.set_cons_succ, List.getElem?_nil, Nat.reduceAdd, Nat.reduceSub, Nat.reduceLeDiff, Nat.reduceLT, Nat.reduceEqDiff, big, Int.cast_ofNat_Int, Int.reduceLE, Int.reduceLT, Int.reduceNeg, Int.reduceAdd, Int.reduceSub, Int.reduceMul, Int.reducePow, Int.reduceAbs, Int.reduceToNat, Int.reduceEq, Int.reduceDiv, Int.reduceMod, upTo, ↓lcH_nil, ↓lcH_cons,
  ok_60, okAt_int, okAt_bl, okAt_str, okAt_non, okAt_tup, okAt_lst, okAts_nil, okAts_cons, okAts_mapI, okAts_mapS, okAts_mapB, Bool.and_true, Bool.true_and, Bool.and_false, Bool.false_and, Bool.or_true, Bool.true_or, Bool.or_false, Bool.false_or, Bool.not_true, Bool.not_false, Bool.not_not, Bool.false_eq_true, if_true, if_false, ↓reduceIte, decide_true, decide_false, decide_eq_true_eq, eq_self, true_and, and_true, and_self, ofString_inj, String.reduceEq,
  eqD_int, eqD_str, eqD_bl, eqD_tup, eqD_lst, eqD_nn, eqD_nt, eqD_tn, eqD_si, eqD_is, eqD_st, eqD_ts, eqD_ti, eqD_it, eqD_tl, eqD_lt, eqDs_nil, eqDs_cons, eqDs_nc, eqDs_cn, eqDs_strs, eqDs_ints, any_strs,
  atI_0, atI_1, atI_2, atI_3, atI_4, ix_tup, ix_lst, ix_dctS, getD_cons, putD_cons, putD_nil, keyFits_str, keyFits_int, isSome_keyAt, isSome_keyAt0, mergeD,
  cmp_eq, cmp_ne, cmp_in_tup, cmp_in_lst, cmp_nin_tup, cmp_nin_lst, cmp_in_dct, cmp_nin_dct, cmp_lt_int, cmp_gt_int, cmp_le_int, cmp_ge_int, cmp_is_non, cmp_isn_non, cmp_is_bl, cmp_isn_bl,
  add_int, sub_int, add_tup, add_lst, add_str, mul_int, mod_int, fdiv_int, pow_int, len_tup, len_lst, len_scr, abs_int, int_int, int_bl, max_int, min_int, list_tup, list_lst, tuple_tup, tuple_lst, all_bls, any_bls, lenset_strs, lenset_strsL, all_mapP, any_mapP, List.length_map, rec_view, rec_ok, rec_eq, ↓rec_tup, rec_ix0, rec_ix1, rec_ix2, rec_ix3, rule_view, rule_f0, rule_f1, rule_f2, rule_f3, max_rec, rec_fold, rule_frz, rule_isIns, rule_noField, rec_sl3, rec_sl1, ixN_40, ixN_41, ixN_42, ixN_43])
local macro_rules | `(tactic| walk_at "hps") => `(tactic| simp (config := { dsimp := false, failIfUnchanged := false, implicitDefEqProofs := false }) only [↓xA_lit, ↓xA_bin, ↓xA_neg, ↓xA_cmp, ↓xA_chain, ↓xA_not_, ↓xA_and_, ↓xA_or_, ↓xA_ife, ↓xA_tup, ↓xA_lst, ↓xA_dct, ↓xA_ix, ↓xA_sl, ↓xA_rev, ↓xA_fld, ↓xA_prop, ↓xA_call, ↓xA_callp, ↓xA_meth, ↓xA_mk, ↓xA_alloc, ↓xA_bi, ↓xA_isi, ↓xA_rng, ↓xA_bm, ↓xA_mm, ↓xA_lc, ↓xA_dc, ↓xA_eqo, ↓xA_var, ↓xE_lit, ↓xE_var, ↓xE_bin, ↓xE_neg, ↓xE_cmp, ↓xT_cmp, ↓xE_chain, ↓xT_chain, ↓xE_not_, ↓xT_not_, ↓xE_and_, ↓xT_and_, ↓xE_or_, ↓xT_or_, ↓xE_ife, ↓xT_ife, ↓xE_tup, ↓xE_lst, ↓xE_dct, ↓xE_ix, ↓xE_sl, ↓xE_rev, ↓xE_fld, ↓xE_call, ↓xE_callp, ↓xE_meth, ↓xE_mk, ↓xE_prop, ↓xE_alloc, ↓xE_bi, ↓xE_isi, ↓xT_isi, ↓xE_eqo, ↓xT_eqo, ↓xE_rng, ↓xE_bm, ↓xE_mm, ↓xT_lit, ↓xT_bin, ↓xT_neg, ↓xT_tup, ↓xT_lst, ↓xT_dct, ↓xT_ix, ↓xT_sl, ↓xT_rev, ↓xT_fld, ↓xT_prop, ↓xT_call, ↓xT_callp, ↓xT_meth, ↓xT_mk, ↓xT_alloc, ↓xT_bi, ↓xT_rng, ↓xT_bm, ↓xT_mm, ↓xT_lc, ↓xT_dc, ↓xT_var, ↓xV_nil, ↓xO_nil, ↓xU_nil, ↓xV_cons, ↓xO_cons, ↓xU_cons, ↓xV_star, ↓xF_nil, ↓xF_one, ↓xP_nil, ↓xP_cons, ↓xN_nil, ↓xN_cons, ↓xI_seq, ↓xI_rng1, ↓xI_rng2, ↓xI_enum0, ↓xI_items, ↓xI_zip, ↓xB_nil, ↓xB_cons, ↓xS_asgN, ↓xS_asgT, ↓xS_par, ↓xS_setix, ↓xS_setfld, ↓xS_ex, ↓xS_retV, ↓xS_ret_lit, ↓xS_ret_bin, ↓xS_ret_neg, ↓xS_ret_cmp, ↓xS_ret_chain, ↓xS_ret_not_, ↓xS_ret_and_, ↓xS_ret_or_, ↓xS_ret_ife, ↓xS_ret_tup, ↓xS_ret_lst, ↓xS_ret_dct, ↓xS_ret_ix, ↓xS_ret_sl, ↓xS_ret_rev, ↓xS_ret_fld, ↓xS_ret_prop, ↓xS_ret_call, ↓xS_ret_callp, ↓xS_ret_meth, ↓xS_ret_mk, ↓xS_ret_alloc, ↓xS_ret_bi, ↓xS_ret_isi, ↓xS_ret_rng, ↓xS_ret_bm, ↓xS_ret_mm, ↓xS_ret_lc, ↓xS_ret_dc, ↓xS_ret_eqo, ↓xS_retn, ↓xS_ife, ↓xS_for, ↓xS_while, ↓xS_pass, ↓xS_brk, ↓xS_cont, ↓xS_raise, ↓xS_try, ↓xG_name, ↓xG_tup, ↓xGs_nil, ↓xGs_cons, ↓loopH_nil, ↓loopH_cons, ↓xE_lc1, ↓optH_s, ↓iteH_t, ↓iteH_f, ↓andH_t, goH_go, ↓onSlot_v, ↓onSlot_o, ↓onInt_i, ↓onBl_b, ↓onOwn_o, ↓onTup_t, ↓onTup_l, ↓onCons_c, ↓onDct_d, ↓onZip_l, ↓onZip_t, ↓callH_mk, pick, List.getD_cons_zero, List.getD_cons_succ, ↓callH_in, ↓upH_s, ↓upH_r,
  vres_v, vres_s, look_own, look_val, view_int, view_bl, view_str, view_non, view_tup, view_lst, view_scr, view_dct, view_ins, view_r0, view_r1, Option.getD_some, Option.map_some, Option.map_none, Option.bind_some, Option.bind_none, Option.getD_none,
  fld_ins, isi_non, cl_int_non, cl_bool_non, cl_str_non, cl_tuple_non, cl_list_non, cl_dict_non, cl_own_non, notNon_non, isi_bl, cl_int_bl, cl_bool_bl, cl_str_bl, cl_tuple_bl, cl_list_bl, cl_dict_bl, cl_own_bl, notNon_bl, isi_int, cl_int_int, cl_bool_int, cl_str_int, cl_tuple_int, cl_list_int, cl_dict_int, cl_own_int, notNon_int, isi_str, cl_int_str, cl_bool_str, cl_str_str, cl_tuple_str, cl_list_str, cl_dict_str, cl_own_str, notNon_str, isi_tup, cl_int_tup, cl_bool_tup, cl_str_tup, cl_tuple_tup, cl_list_tup, cl_dict_tup, cl_own_tup, notNon_tup, isi_lst, cl_int_lst, cl_bool_lst, cl_str_lst, cl_tuple_lst, cl_list_lst, cl_dict_lst, cl_own_lst, notNon_lst, isi_dct, cl_int_dct, cl_bool_dct, cl_str_dct, cl_tuple_dct, cl_list_dct, cl_dict_dct, cl_own_dct, notNon_dct, isi_ins, cl_own_ins, notNon_ins, truth_non, truth_bl, truth_int, truth_tup, truth_lst, walk_tup, walk_lst, walk_scr, walk_str, seq_tup, seq_lst, frz_lst, frz_dct, frz_ins, ofrz_v, ofrz_o, oslot_v, oslot_o, keep_v, keep_o, keep_u, setsS_nil, setsS_cons, isLst_l, isIns_i, noField_i, mm_app, mm_popF, set_lst, set_dct, sf_ins, sl_tup, sl_lst, ress_nil, ress_cons,
  Bm.ok, all, List.any_cons, List.any_nil, List.contains_cons, List.contains_nil, Option.isSome_some, lookF, putF, wipeS, backS,
  List.getElem?_cons_zero, List.getElem?_cons_succ, List.length_cons, List.length_nil, List.map_cons, List.map_nil, List.replicate_zero, List.replicate_succ, List.cons_append, List.nil_append, List.set_cons_zero, List.set_cons_succ, List.getElem?_nil, Nat.reduceAdd, Nat.reduceSub, Nat.reduceLeDiff, Nat.reduceLT, Nat.reduceEqDiff, big, Int.cast_ofNat_Int, Int.reduceLE, Int.reduceLT, Int.reduceNeg, Int.reduceAdd, Int.reduceSub, Int.reduceMul, Int.reducePow, Int.reduceAbs, Int.reduceToNat, Int.reduceEq, Int.reduceDiv, Int.reduceMod, upTo, ↓lcH_nil, ↓lcH_cons,
  ok_60, okAt_int, okAt_bl, okAt_str, okAt_non, okAt_tup, okAt_lst, okAts_nil, okAts_cons, okAts_mapI, okAts_mapS, okAts_mapB, Bool.and_true, Bool.true_and, Bool.and_false, Bool.false_and, Bool.or_true, Bool.true_or, Bool.or_false, Bool.false_or, Bool.not_true, Bool.not_false, Bool.not_not, Bool.false_eq_true, if_true, if_false, ↓reduceIte, decide_true, decide_false, decide_eq_true_eq, eq_self, true_and, and_true, and_self, ofString_inj, String.reduceEq,
  eqD_int, eqD_str, eqD_bl, eqD_tup, eqD_lst, eqD_nn, eqD_nt, eqD_tn, eqD_si, eqD_is, eqD_st, eqD_ts, eqD_ti, eqD_it, eqD_tl, eqD_lt, eqDs_nil, eqDs_cons, eqDs_nc, eqDs_cn, eqDs_strs, eqDs_ints, any_strs,
  atI_0, atI_1, atI_2, atI_3, atI_4, ix_tup, ix_lst, ix_dctS, getD_cons, putD_cons, putD_nil, keyFits_str, keyFits_int, isSome_keyAt, isSome_keyAt0, mergeD,
  cmp_eq, cmp_ne, cmp_in_tup, cmp_in_lst, cmp_nin_tup, cmp_nin_lst, cmp_in_dct, cmp_nin_dct, cmp_lt_int, cmp_gt_int, cmp_le_int, cmp_ge_int, cmp_is_non, cmp_isn_non, cmp_is_bl, cmp_isn_bl,
  add_int, sub_int, add_tup, add_lst, add_str, mul_int, mod_int, fdiv_int, pow_int, len_tup, len_lst, len_scr, abs_int, int_int, int_bl, max_int, min_int, list_tup, list_lst, tuple_tup, tuple_lst, all_bls, any_bls, lenset_strs, lenset_strsL, all_mapP, any_mapP, List.length_map, rec_view, rec_ok, rec_eq, ↓rec_tup, rec_ix0, rec_ix1, rec_ix2, rec_ix3, rule_view, rule_f0, rule_f1, rule_f2, rule_f3, max_rec, rec_fold, rule_frz, rule_isIns, rule_noField, rec_sl3, rec_sl1, ixN_40, ixN_41, ixN_42, ixN_43, *])
local macro_rules | `(tactic| walk_at "lif") => `(tactic| (rw [if_pos]; rotate_left; (simp (config := { failIfUnchanged := false }) only [List.length_append, List.length_map, List.length_cons, List.length_nil, List.length_set, List.length_take, List.length_drop, List.length_range, big]; omega)))
local macro_rules | `(tactic| walk_at "len") => `(tactic| (rw [iteH_yes (p := _ ≤ _)]; rotate_left; (simp (config := { failIfUnchanged := false }) only [List.length_append, List.length_map, List.length_cons, List.length_nil, List.length_set, List.length_take, List.length_drop, List.length_range]; omega)))
theorem clamp_in (a : Int) : 0 ≤ (if (if a > 0 then a else 0) < 999 then (if a > 0 then a else 0) else 999) ∧ (if (if a > 0 then a else 0) < 999 then (if a > 0 then a else 0) else 999) ≤ (999 : Int) := by
  by_cases h : a > 0
  · rw [if_pos h]; split <;> omega
  · rw [if_neg h, if_pos (by decide)]; omega
theorem near_ints : [D.int 0, D.int 1, D.int 1, D.int 2] = ([0, 1, 1, 2] : List Int).map D.int := rfl
local macro_rules | `(tactic| walk_at "hp") => `(tactic| simp (config := { dsimp := false, failIfUnchanged := false, implicitDefEqProofs := false }) only [↓xA_lit, ↓xA_bin, ↓xA_neg, ↓xA_cmp, ↓xA_chain, ↓xA_not_, ↓xA_and_, ↓xA_or_, ↓xA_ife, ↓xA_tup, ↓xA_lst, ↓xA_dct, ↓xA_ix, ↓xA_sl, ↓xA_rev, ↓xA_fld, ↓xA_prop, ↓xA_call, ↓xA_callp, ↓xA_meth, ↓xA_mk, ↓xA_alloc, ↓xA_bi, ↓xA_isi, ↓xA_rng, ↓xA_bm, ↓xA_mm, ↓xA_lc, ↓xA_dc, ↓xA_eqo, ↓xA_var, ↓xE_lit, ↓xE_var, ↓xE_bin, ↓xE_neg, ↓xE_cmp, ↓xT_cmp, ↓xE_chain, ↓xT_chain, ↓xE_not_, ↓xT_not_, ↓xE_and_, ↓xT_and_, ↓xE_or_, ↓xT_or_, ↓xE_ife, ↓xT_ife, ↓xE_tup, ↓xE_lst, ↓xE_dct, ↓xE_ix, ↓xE_sl, ↓xE_rev, ↓xE_fld, ↓xE_call, ↓xE_callp, ↓xE_meth, ↓xE_mk, ↓xE_prop, ↓xE_alloc, ↓xE_bi, ↓xE_isi, ↓xT_isi, ↓xE_eqo, ↓xT_eqo, ↓xE_rng, ↓xE_bm, ↓xE_mm, ↓xT_lit, ↓xT_bin, ↓xT_neg, ↓xT_tup, ↓xT_lst, ↓xT_dct, ↓xT_ix, ↓xT_sl, ↓xT_rev, ↓xT_fld, ↓xT_prop, ↓xT_call, ↓xT_callp, ↓xT_meth, ↓xT_mk, ↓xT_alloc, ↓xT_bi, ↓xT_rng, ↓xT_bm, ↓xT_mm, ↓xT_lc, ↓xT_dc, ↓xT_var, ↓xV_nil, ↓xO_nil, ↓xU_nil, ↓xV_cons, ↓xO_cons, ↓xU_cons, ↓xV_star, ↓xF_nil, ↓xF_one, ↓xP_nil, ↓xP_cons, ↓xN_nil, ↓xN_cons, ↓xI_seq, ↓xI_rng1, ↓xI_rng2, ↓xI_enum0, ↓xI_items, ↓xI_zip, ↓xB_nil, ↓xB_cons, ↓xS_asgN, ↓xS_asgT, ↓xS_par, ↓xS_setix, ↓xS_setfld, ↓xS_ex, ↓xS_retV, ↓xS_ret_lit, ↓xS_ret_bin, ↓xS_ret_neg, ↓xS_ret_cmp, ↓xS_ret_chain, ↓xS_ret_not_, ↓xS_ret_and_, ↓xS_ret_or_, ↓xS_ret_ife, ↓xS_ret_tup, ↓xS_ret_lst, ↓xS_ret_dct, ↓xS_ret_ix, ↓xS_ret_sl, ↓xS_ret_rev, ↓xS_ret_fld, ↓xS_ret_prop, ↓xS_ret_call, ↓xS_ret_callp, ↓xS_ret_meth, ↓xS_ret_mk, ↓xS_ret_alloc, ↓xS_ret_bi, ↓xS_ret_isi, ↓xS_ret_rng, ↓xS_ret_bm, ↓xS_ret_mm, ↓xS_ret_lc, ↓xS_ret_dc, ↓xS_ret_eqo, ↓xS_retn, ↓xS_ife, ↓xS_for, ↓xS_while, ↓xS_pass, ↓xS_brk, ↓xS_cont, ↓xS_raise, ↓xS_try, ↓xG_name, ↓xG_tup, ↓xGs_nil, ↓xGs_cons, ↓loopH_nil, ↓loopH_cons, ↓xE_lc1, ↓optH_s, ↓iteH_t, ↓iteH_f, ↓andH_t, goH_go, ↓onSlot_v, ↓onSlot_o, ↓onInt_i, ↓onBl_b, ↓onOwn_o, ↓onTup_t, ↓onTup_l, ↓onCons_c, ↓onDct_d, ↓onZip_l, ↓onZip_t, ↓callH_mk, pick, List.getD_cons_zero, List.getD_cons_succ, ↓callH_in, ↓upH_s, ↓upH_r,
  vres_v, vres_s, look_own, look_val, view_int, view_bl, view_str, view_non, view_tup, view_lst, view_scr, view_dct, view_ins, view_r0, view_r1, Option.getD_some, Option.map_some, Option.map_none, Option.bind_some, Option.bind_none, Option.getD_none,
  fld_ins, isi_non, cl_int_non, cl_bool_non, cl_str_non, cl_tuple_non, cl_list_non, cl_dict_non, cl_own_non, notNon_non, isi_bl, cl_int_bl, cl_bool_bl, cl_str_bl, cl_tuple_bl, cl_list_bl, cl_dict_bl, cl_own_bl, notNon_bl, isi_int, cl_int_int, cl_bool_int, cl_str_int, cl_tuple_int, cl_list_int, cl_dict_int, cl_own_int, notNon_int, isi_str, cl_int_str, cl_bool_str, cl_str_str, cl_tuple_str, cl_list_str, cl_dict_str, cl_own_str, notNon_str, isi_tup, cl_int_tup, cl_bool_tup, cl_str_tup, cl_tuple_tup, cl_list_tup, cl_dict_tup, cl_own_tup, notNon_tup, isi_lst, cl_int_lst, cl_bool_lst, cl_str_lst, cl_tuple_lst, cl_list_lst, cl_dict_lst, cl_own_lst, notNon_lst, isi_dct, cl_int_dct, cl_bool_dct, cl_str_dct, cl_tuple_dct, cl_list_dct, cl_dict_dct, cl_own_dct, notNon_dct, isi_ins, cl_own_ins, notNon_ins, truth_non, truth_bl, truth_int, truth_tup, truth_lst, walk_tup, walk_lst, walk_scr, walk_str, seq_tup, seq_lst, frz_lst, frz_dct, frz_ins, ofrz_v, ofrz_o, oslot_v, oslot_o, keep_v, keep_o, keep_u, setsS_nil, setsS_cons, isLst_l, isIns_i, noField_i, mm_app, mm_popF, set_lst, set_dct, sf_ins, sl_tup, sl_lst, ress_nil, ress_cons,
  Bm.ok, all, List.any_cons, List.any_nil, List.contains_cons, List.contains_nil, Option.isSome_some, lookF, putF, wipeS, backS,
  List.getElem?_cons_zero, List.getElem?_cons_succ, List.length_cons, List.length_nil, List.map_cons, List.map_nil, List.replicate_zero, List.replicate_succ, List.cons_append, List.nil_append, List.set_cons_zero, List.set_cons_succ, List.getElem?_nil, Nat.reduceAdd, Nat.reduceSub, Nat.reduceLeDiff, Nat.reduceLT, Nat.reduceEqDiff, big, Int.cast_ofNat_Int, Int.reduceLE, Int.reduceLT, Int.reduceNeg, Int.reduceAdd, Int.reduceSub, Int.reduceMul, Int.reducePow, Int.reduceAbs, Int.reduceToNat, Int.reduceEq, Int.reduceDiv, Int.reduceMod, upTo, ↓lcH_nil, ↓lcH_cons,
  ok_60, okAt_int, okAt_bl, okAt_str, okAt_non, okAt_tup, okAt_lst, okAts_nil, okAts_cons, okAts_mapI, okAts_mapS, okAts_mapB, Bool.and_true, Bool.true_and, Bool.and_false, Bool.false_and, Bool.or_true, Bool.true_or, Bool.or_false, Bool.false_or, Bool.not_true, Bool.not_false, Bool.not_not, Bool.false_eq_true, if_true, if_false, ↓reduceIte, decide_true, decide_false, decide_eq_true_eq, eq_self, true_and, and_true, and_self, ofString_inj, String.reduceEq,
  eqD_int, eqD_str, eqD_bl, eqD_tup, eqD_lst, eqD_nn, eqD_nt, eqD_tn, eqD_si, eqD_is, eqD_st, eqD_ts, eqD_ti, eqD_it, eqD_tl, eqD_lt, eqDs_nil, eqDs_cons, eqDs_nc, eqDs_cn, eqDs_strs, eqDs_ints, any_strs,
  atI_0, atI_1, atI_2, atI_3, atI_4, ix_tup, ix_lst, ix_dctS, getD_cons, putD_cons, putD_nil, keyFits_str, keyFits_int, isSome_keyAt, isSome_keyAt0, mergeD,
  cmp_eq, cmp_ne, cmp_in_tup, cmp_in_lst, cmp_nin_tup, cmp_nin_lst, cmp_in_dct, cmp_nin_dct, cmp_lt_int, cmp_gt_int, cmp_le_int, cmp_ge_int, cmp_is_non, cmp_isn_non, cmp_is_bl, cmp_isn_bl,
  add_int, sub_int, add_tup, add_lst, add_str, mul_int, mod_int, fdiv_int, pow_int, len_tup, len_lst, len_scr, abs_int, int_int, int_bl, max_int, min_int, list_tup, list_lst, tuple_tup, tuple_lst, all_bls, any_bls, lenset_strs, lenset_strsL, all_mapP, any_mapP, List.length_map, rec_view, rec_ok, rec_eq, ↓rec_tup, rec_ix0, rec_ix1, rec_ix2, rec_ix3, rule_view, rule_f0, rule_f1, rule_f2, rule_f3, max_rec, rec_fold, rule_frz, rule_isIns, rule_noField, rec_sl3, rec_sl1, rec_list])
local macro_rules | `(tactic| walk_at "hps") => `(tactic| simp (config := { dsimp := false, failIfUnchanged := false, implicitDefEqProofs := false }) only [↓xA_lit, ↓xA_bin, ↓xA_neg, ↓xA_cmp, ↓xA_chain, ↓xA_not_, ↓xA_and_, ↓xA_or_, ↓xA_ife, ↓xA_tup, ↓xA_lst, ↓xA_dct, ↓xA_ix, ↓xA_sl, ↓xA_rev, ↓xA_fld, ↓xA_prop, ↓xA_call, ↓xA_callp, ↓xA_meth, ↓xA_mk, ↓xA_alloc, ↓xA_bi, ↓xA_isi, ↓xA_rng, ↓xA_bm, ↓xA_mm, ↓xA_lc, ↓xA_dc, ↓xA_eqo, ↓xA_var, ↓xE_lit, ↓xE_var, ↓xE_bin, ↓xE_neg, ↓xE_cmp, ↓xT_cmp, ↓xE_chain, ↓xT_chain, ↓xE_not_, ↓xT_not_, ↓xE_and_, ↓xT_and_, ↓xE_or_, ↓xT_or_, ↓xE_ife, ↓xT_ife, ↓xE_tup, ↓xE_lst, ↓xE_dct, ↓xE_ix, ↓xE_sl, ↓xE_rev, ↓xE_fld, ↓xE_call, ↓xE_callp, ↓xE_meth, ↓xE_mk, ↓xE_prop, ↓xE_alloc, ↓xE_bi, ↓xE_isi, ↓xT_isi, ↓xE_eqo, ↓xT_eqo, ↓xE_rng, ↓xE_bm, ↓xE_mm, ↓xT_lit, ↓xT_bin, ↓xT_neg, ↓xT_tup, ↓xT_lst, ↓xT_dct, ↓xT_ix, ↓xT_sl, ↓xT_rev, ↓xT_fld, ↓xT_prop, ↓xT_call, ↓xT_callp, ↓xT_meth, ↓xT_mk, ↓xT_alloc, ↓xT_bi, ↓xT_rng, ↓xT_bm, ↓xT_mm, ↓xT_lc, ↓xT_dc, ↓xT_var, ↓xV_nil, ↓xO_nil, ↓xU_nil, ↓xV_cons, ↓xO_cons, ↓xU_cons, ↓xV_star, ↓xF_nil, ↓xF_one, ↓xP_nil, ↓xP_cons, ↓xN_nil, ↓xN_cons, ↓xI_seq, ↓xI_rng1, ↓xI_rng2, ↓xI_enum0, ↓xI_items, ↓xI_zip, ↓xB_nil, ↓xB_cons, ↓xS_asgN, ↓xS_asgT, ↓xS_par, ↓xS_setix, ↓xS_setfld, ↓xS_ex, ↓xS_retV, ↓xS_ret_lit, ↓xS_ret_bin, ↓xS_ret_neg, ↓xS_ret_cmp, ↓xS_ret_chain, ↓xS_ret_not_, ↓xS_ret_and_, ↓xS_ret_or_, ↓xS_ret_ife, ↓xS_ret_tup, ↓xS_ret_lst, ↓xS_ret_dct, ↓xS_ret_ix, ↓xS_ret_sl, ↓xS_ret_rev, ↓xS_ret_fld, ↓xS_ret_prop, ↓xS_ret_call, ↓xS_ret_callp, ↓xS_ret_meth, ↓xS_ret_mk, ↓xS_ret_alloc, ↓xS_ret_bi, ↓xS_ret_isi, ↓xS_ret_rng, ↓xS_ret_bm, ↓xS_ret_mm, ↓xS_ret_lc, ↓xS_ret_dc, ↓xS_ret_eqo, ↓xS_retn, ↓xS_ife, ↓xS_for, ↓xS_while, ↓xS_pass, ↓xS_brk, ↓xS_cont, ↓xS_raise, ↓xS_try, ↓xG_name, ↓xG_tup, ↓xGs_nil, ↓xGs_cons, ↓loopH_nil, ↓loopH_cons, ↓xE_lc1, ↓optH_s, ↓iteH_t, ↓iteH_f, ↓andH_t, goH_go, ↓onSlot_v, ↓onSlot_o, ↓onInt_i, ↓onBl_b, ↓onOwn_o, ↓onTup_t, ↓onTup_l, ↓onCons_c, ↓onDct_d, ↓onZip_l, ↓onZip_t, ↓callH_mk, pick, List.getD_cons_zero, List.getD_cons_succ, ↓callH_in, ↓upH_s, ↓upH_r,
  vres_v, vres_s, look_own, look_val, view_int, view_bl, view_str, view_non, view_tup, view_lst, view_scr, view_dct, view_ins, view_r0, view_r1, Option.getD_some, Option.map_some, Option.map_none, Option.bind_some, Option.bind_none, Option.getD_none,
  fld_ins, isi_non, cl_int_non, cl_bool_non, cl_str_non, cl_tuple_non, cl_list_non, cl_dict_non, cl_own_non, notNon_non, isi_bl, cl_int_bl, cl_bool_bl, cl_str_bl, cl_tuple_bl, cl_list_bl, cl_dict_bl, cl_own_bl, notNon_bl, isi_int, cl_int_int, cl_bool_int, cl_str_int, cl_tuple_int, cl_list_int, cl_dict_int, cl_own_int, notNon_int, isi_str, cl_int_str, cl_bool_str, cl_str_str, cl_tuple_str, cl_list_str, cl_dict_str, cl_own_str, notNon_str, isi_tup, cl_int_tup, cl_bool_tup, cl_str_tup, cl_tuple_tup, cl_list_tup, cl_dict_tup, cl_own_tup, notNon_tup, isi_lst, cl_int_lst, cl_bool_lst, cl_str_lst, cl_tuple_lst, cl_list_lst, cl_dict_lst, cl_own_lst, notNon_lst, isi_dct, cl_int_dct, cl_bool_dct, cl_str_dct, cl_tuple_dct, cl_list_dct, cl_dict_dct, cl_own_dct, notNon_dct, isi_ins, cl_own_ins, notNon_ins, truth_non, truth_bl, truth_int, truth_tup, truth_lst, walk_tup, walk_lst, walk_scr, walk_str, seq_tup, seq_lst, frz_lst, frz_dct, frz_ins, ofrz_v, ofrz_o, oslot_v, oslot_o, keep_v, keep_o, keep_u, setsS_nil, setsS_cons, isLst_l, isIns_i, noField_i, mm_app, mm_popF, set_lst, set_dct, sf_ins, sl_tup, sl_lst, ress_nil, ress_cons,
  Bm.ok, all, List.any_cons, List.any_nil, List.contains_cons, List.contains_nil, Option.isSome_some, lookF, putF, wipeS, backS,
  List.getElem?_cons_zero, List.getElem?_cons_succ, List.length_cons, List.length_nil, List.map_cons, List.map_nil, List.replicate_zero, List.replicate_succ, List.cons_append, List.nil_append, List.set_cons_zero, List.set_cons_succ, List.getElem?_nil, Nat.reduceAdd, Nat.reduceSub, Nat.reduceLeDiff, Nat.reduceLT, Nat.reduceEqDiff, big, Int.cast_ofNat_Int, Int.reduceLE, Int.reduceLT, Int.reduceNeg, Int.reduceAdd, Int.reduceSub, Int.reduceMul, Int.reducePow, Int.reduceAbs, Int.reduceToNat, Int.reduceEq, Int.reduceDiv, Int.reduceMod, upTo, ↓lcH_nil, ↓lcH_cons,
  ok_60, okAt_int, okAt_bl, okAt_str, okAt_non, okAt_tup, okAt_lst, okAts_nil, okAts_cons, okAts_mapI, okAts_mapS, okAts_mapB, Bool.and_true, Bool.true_and, Bool.and_false, Bool.false_and, Bool.or_true, Bool.true_or, Bool.or_false, Bool.false_or, Bool.not_true, Bool.not_false, Bool.not_not, Bool.false_eq_true, if_true, if_false, ↓reduceIte, decide_true, decide_false, decide_eq_true_eq, eq_self, true_and, and_true, and_self, ofString_inj, String.reduceEq,
  eqD_int, eqD_str, eqD_bl, eqD_tup, eqD_lst, eqD_nn, eqD_nt, eqD_tn, eqD_si, eqD_is, eqD_st, eqD_ts, eqD_ti, eqD_it, eqD_tl, eqD_lt, eqDs_nil, eqDs_cons, eqDs_nc, eqDs_cn, eqDs_strs, eqDs_ints, any_strs,
  atI_0, atI_1, atI_2, atI_3, atI_4, ix_tup, ix_lst, ix_dctS, getD_cons, putD_cons, putD_nil, keyFits_str, keyFits_int, isSome_keyAt, isSome_keyAt0, mergeD,
  cmp_eq, cmp_ne, cmp_in_tup, cmp_in_lst, cmp_nin_tup, cmp_nin_lst, cmp_in_dct, cmp_nin_dct, cmp_lt_int, cmp_gt_int, cmp_le_int, cmp_ge_int, cmp_is_non, cmp_isn_non, cmp_is_bl, cmp_isn_bl,
  add_int, sub_int, add_tup, add_lst, add_str, mul_int, mod_int, fdiv_int, pow_int, len_tup, len_lst, len_scr, abs_int, int_int, int_bl, max_int, min_int, list_tup, list_lst, tuple_tup, tuple_lst, all_bls, any_bls, lenset_strs, lenset_strsL, all_mapP, any_mapP, List.length_map, rec_view, rec_ok, rec_eq, ↓rec_tup, rec_ix0, rec_ix1, rec_ix2, rec_ix3, rule_view, rule_f0, rule_f1, rule_f2, rule_f3, max_rec, rec_fold, rule_frz, rule_isIns, rule_noField, rec_sl3, rec_sl1, rec_list, *])
local macro_rules | `(tactic| walk_at "lif") => `(tactic| (rw [if_pos]; rotate_left; (simp (config := { failIfUnchanged := false }) only [List.length_append, List.length_map, List.length_cons, List.length_nil, List.length_set, List.length_take, List.length_drop, List.length_range, big]; omega)))
local macro_rules | `(tactic| walk_at "len") => `(tactic| (rw [iteH_yes (p := _ ≤ _)]; rotate_left; (simp (config := { failIfUnchanged := false }) only [List.length_append, List.length_map, List.length_cons, List.length_nil, List.length_set, List.length_take, List.length_drop, List.length_range]; omega)))
end HP

set_option maxHeartbeats 600000
namespace HP
open PySem
/-! P9: laws of joins; what is shown of records. -/
variable {s m : Store} {Q : Out → Store → Prop} {X : Exc → Store → Prop} {h : Hd Q} {h2 : Hd X}
def inAll (lo hi : Int) (l : List D) : Bool := l.all fun d => match d with
  | .int i => decide (lo ≤ i) && decide (i ≤ hi)
  | _ => false
theorem pick_in {l : List D} (lo hi : Int) (hs : Draws s m) (hb : inAll lo hi l = true) (hl : 0 < l.length) (hl2 : l.length ≤ 1000) (hQ : ∀ n s, lo ≤ n → n ≤ hi → Draws s m → Q (.val (.int n)) s) : callH g__law_pick [.ref 1, .lst l] s Q X h h2 :=
  pick_spec hs hl hl2 fun x hx s hs => by
    have q := List.all_eq_true.mp hb x hx
    cases x with
    | int n =>
      simp only [Bool.and_eq_true, decide_eq_true_eq] at q
      exact hQ n s q.1 q.2 hs
    | _ => cases q
/-! ### joins -/
theorem beats_asym {r : RuleM} (hr : 0 ≤ r.slack) {k : Str} {a b : Rec} (h : beatsM r k a b = true) : beatsM r k b a = false := by
  unfold beatsM at *
  split at h
  · rename_i q; rw [if_pos q]; simp only [decide_eq_true_eq] at h; exact decide_eq_false (by omega)
  · rename_i q; rw [if_neg q]
    split at h
    · rename_i q; rw [if_pos q]; cases ha : a.d <;> cases hb : b.d <;> simp_all
    · rename_i q; rw [if_neg q]
      split at h
      · rename_i q; rw [if_pos q]; simp only [decide_eq_true_eq] at h; exact decide_eq_false (by omega)
      · rename_i q; rw [if_neg q]; simp only [decide_eq_true_eq] at h; exact decide_eq_false (by omega)
theorem maxR_comm (a b : Rec) : maxR b a = maxR a b := by
  rw [← max_gt a b]; rfl
theorem maxR_self (a : Rec) : maxR a a = a := by unfold maxR; split <;> rfl
theorem strongM_comm {r : RuleM} (hr : 0 ≤ r.slack) (a b : Rec) : ∀ ks, strongM r b a ks = strongM r a b ks
  | [] => maxR_comm a b
  | k :: ks => by
    unfold strongM
    cases h1 : beatsM r k a b with
    | true => rw [beats_asym hr h1]; rfl
    | false =>
      cases h3 : beatsM r k b a with
      | true => rfl
      | false =>
        simp only [Bool.false_eq_true, if_false]
        exact strongM_comm hr a b ks
theorem strong_comm {r : RuleM} (hr : 0 ≤ r.slack) (a b : Rec) : strong r b a = strong r a b := strongM_comm hr a b _
theorem strong_self (r : RuleM) (a : Rec) : strong r a a = a := by rcases strong_either r a a with e | e <;> exact e
theorem join_comm {r : RuleM} (hr : 0 ≤ r.slack) (a b : Rec) : joinM r b a = joinM r a b := by
  unfold joinM
  rw [strong_comm hr a b]
  dsimp only
  by_cases h1 : a.t = b.t
  · rw [if_pos h1, if_pos h1.symm, Bool.or_comm]
    have e1 : (if a.p > b.p then a.p else b.p) = if b.p > a.p then b.p else a.p := by split <;> split <;> omega
    have e2 : (if a.s > b.s then a.s else b.s) = if b.s > a.s then b.s else a.s := by split <;> split <;> omega
    rw [e1, e2]
  · rw [if_neg h1, if_neg fun q => h1 q.symm]
theorem join_self (r : RuleM) (a : Rec) : joinM r a a = a := by
  unfold joinM
  rw [strong_self]
  dsimp only
  rw [if_pos rfl, Bool.or_self, if_neg (Int.lt_irrefl _), if_neg (Int.lt_irrefl _)]
  simp only [ite_self]
local macro_rules | `(tactic| walk_at "hp") => `(tactic| simp (config := { dsimp := false, failIfUnchanged := false, implicitDefEqProofs := false }) only [↓xA_lit, ↓xA_bin, ↓xA_neg, ↓xA_cmp, ↓xA_chain, ↓xA_not_, ↓xA_and_, ↓xA_or_, ↓xA_ife, ↓xA_tup, ↓xA_lst, ↓xA_dct, ↓xA_ix, ↓xA_sl, ↓xA_rev, ↓xA_fld, ↓xA_prop, ↓xA_call, ↓xA_callp, ↓xA_meth, ↓xA_mk, ↓xA_alloc, ↓xA_bi, ↓xA_isi, ↓xA_rng, ↓xA_bm, ↓xA_mm, ↓xA_lc, ↓xA_dc, ↓xA_eqo, ↓xA_var, ↓xE_lit, ↓xE_var, ↓xE_bin, ↓xE_neg, ↓xE_cmp, ↓xT_cmp, ↓xE_chain, ↓xT_chain, ↓xE_not_, ↓xT_not_, ↓xE_and_, ↓xT_and_, ↓xE_or_, ↓xT_or_, ↓xE_ife, ↓xT_ife, ↓xE_tup, ↓xE_lst, ↓xE_dct, ↓xE_ix, ↓xE_sl, ↓xE_rev, ↓xE_fld, ↓xE_call, ↓xE_callp, ↓xE_meth, ↓xE_mk, ↓xE_prop, ↓xE_alloc, ↓xE_bi, ↓xE_isi, ↓xT_isi, ↓xE_eqo, ↓xT_eqo, ↓xE_rng, ↓xE_bm, ↓xE_mm, ↓xT_lit, ↓xT_bin, ↓xT_neg, ↓xT_tup, ↓xT_lst, ↓xT_dct, ↓xT_ix, ↓xT_sl, ↓xT_rev, ↓xT_fld, ↓xT_prop, ↓xT_call, ↓xT_callp, ↓xT_meth, ↓xT_mk, ↓xT_alloc, ↓xT_bi, ↓xT_rng, ↓xT_bm, ↓xT_mm, ↓xT_lc, ↓xT_dc, ↓xT_var, ↓xV_nil, ↓xO_nil, ↓xU_nil, ↓xV_cons, ↓xO_cons, ↓xU_cons, ↓xV_star, ↓xF_nil, ↓xF_one, ↓xP_nil, ↓xP_cons, ↓xN_nil, ↓xN_cons, ↓xI_seq, ↓xI_rng1, ↓xI_rng2, ↓xI_enum0, ↓xI_items, ↓xI_zip, ↓xB_nil, ↓xB_cons, ↓xS_asgN, ↓xS_asgT, ↓xS_par, ↓xS_setix, ↓xS_setfld, ↓xS_ex, ↓xS_retV, ↓xS_ret_lit, ↓xS_ret_bin, ↓xS_ret_neg, ↓xS_ret_cmp, ↓xS_ret_chain, ↓xS_ret_not_, ↓xS_ret_and_, ↓xS_ret_or_, ↓xS_ret_ife, ↓xS_ret_tup, ↓xS_ret_lst, ↓xS_ret_dct, ↓xS_ret_ix, ↓xS_ret_sl, ↓xS_ret_rev, ↓xS_ret_fld, ↓xS_ret_prop, ↓xS_ret_call, ↓xS_ret_callp, ↓xS_ret_meth, ↓xS_ret_mk, ↓xS_ret_alloc, ↓xS_ret_bi, ↓xS_ret_isi, ↓xS_ret_rng, ↓xS_ret_bm, ↓xS_ret_mm, ↓xS_ret_lc, ↓xS_ret_dc, ↓xS_ret_eqo, ↓xS_retn, ↓xS_ife, ↓xS_for, ↓xS_while, ↓xS_pass, ↓xS_brk, ↓xS_cont, ↓xS_raise, ↓xS_try, ↓xG_name, ↓xG_tup, ↓xGs_nil, ↓xGs_cons, ↓loopH_nil, ↓loopH_cons, ↓xE_lc1, ↓optH_s, ↓iteH_t, ↓iteH_f, ↓andH_t, goH_go, ↓onSlot_v, ↓onSlot_o, ↓onInt_i, ↓onBl_b, ↓onOwn_o, ↓onTup_t, ↓onTup_l, ↓onCons_c, ↓onDct_d, ↓onZip_l, ↓onZip_t, ↓callH_mk, pick, List.getD_cons_zero, List.getD_cons_succ, ↓callH_in, ↓upH_s, ↓upH_r,
  vres_v, vres_s, look_own, look_val, view_int, view_bl, view_str, view_non, view_tup, view_lst, view_scr, view_dct, view_ins, view_r0, view_r1, Option.getD_some, Option.map_some, Option.map_none, Option.bind_some, Option.bind_none, Option.getD_none,
  fld_ins, isi_non, cl_int_non, cl_bool_non, cl_str_non, cl_tuple_non, cl_list_non, cl_dict_non, cl_own_non, notNon_non, isi_bl, cl_int_bl, cl_bool_bl, cl_str_bl, cl_tuple_bl, cl_list_bl, cl_dict_bl, cl_own_bl, notNon_bl, isi_int, cl_int_int, cl_bool_int, cl_str_int, cl_tuple_int, cl_list_int, cl_dict_int, cl_own_int, notNon_int, isi_str, cl_int_str, cl_bool_str, cl_str_str, cl_tuple_str, cl_list_str, cl_dict_str, cl_own_str, notNon_str, isi_tup, cl_int_tup, cl_bool_tup, cl_str_tup, cl_tuple_tup, cl_list_tup, cl_dict_tup, cl_own_tup, notNon_tup, isi_lst, cl_int_lst, cl_bool_lst, cl_str_lst, cl_tuple_lst, cl_list_lst, cl_dict_lst, cl_own_lst, notNon_lst, isi_dct, cl_int_dct, cl_bool_dct, cl_str_dct, cl_tuple_dct, cl_list_dct, cl_dict_dct, cl_own_dct, notNon_dct, isi_ins, cl_own_ins, notNon_ins, truth_non, truth_bl, truth_int, truth_tup, truth_lst, walk_tup, walk_lst, walk_scr, walk_str, seq_tup, seq_lst, frz_lst, frz_dct, frz_ins, ofrz_v, ofrz_o, oslot_v, oslot_o, keep_v, keep_o, keep_u, setsS_nil, setsS_cons, isLst_l, isIns_i, noField_i, mm_app, mm_popF, set_lst, set_dct, sf_ins, sl_tup, sl_lst, ress_nil, ress_cons,
  Bm.ok, all, List.any_cons, List.any_nil, List.contains_cons, List.contains_nil, Option.isSome_some, lookF, putF, wipeS, backS,
  List.getElem?_cons_zero, List.getElem?_cons_succ, List.length_cons, List.length_nil, List.map_cons, List.map_nil, List.replicate_zero, List.replicate_succ, List.cons_append, List.nil_append, List.set_cons_zero, List.set_cons_succ, List.getElem?_nil, Nat.reduceAdd, Nat.reduceSub, Nat.reduceLeDiff, Nat.reduceLT, Nat.reduceEqDiff, big, Int.cast_ofNat_Int, Int.reduceLE, Int.reduceLT, Int.reduceNeg, Int.reduceAdd, Int.reduceSub, Int.reduceMul, Int.reducePow, Int.reduceAbs, Int.reduceToNat, Int.reduceEq, Int.reduceDiv, Int.reduceMod, upTo, ↓lcH_nil, ↓lcH_cons,
  ok_60, okAt_int, okAt_bl, okAt_str, okAt_non, okAt_tup, okAt_lst, okAts_nil, okAts_cons, okAts_mapI, okAts_mapS, okAts_mapB, Bool.and_true, Bool.true_and, Bool.and_false, Bool.false_and, Bool.or_true, Bool.true_or, Bool.or_false, Bool.false_or, Bool.not_true, Bool.not_false, Bool.not_not, Bool.false_eq_true, if_true, if_false, ↓reduceIte, decide_true, decide_false, decide_eq_true_eq, eq_self, true_and, and_true, and_self, ofString_inj, String.reduceEq,
  eqD_int, eqD_str, eqD_bl, eqD_tup, eqD_lst, eqD_nn, eqD_nt, eqD_tn, eqD_si, eqD_is, eqD_st, eqD_ts, eqD_ti, eqD_it, eqD_tl, eqD_lt, eqDs_nil, eqDs_cons, eqDs_nc, eqDs_cn, eqDs_strs, eqDs_ints, any_strs,
  atI_0, atI_1, atI_2, atI_3, atI_4, ix_tup, ix_lst, ix_dctS, getD_cons, putD_cons, putD_nil, keyFits_str, keyFits_int, isSome_keyAt, isSome_keyAt0, mergeD,
  cmp_eq, cmp_ne, cmp_in_tup, cmp_in_lst, cmp_nin_tup, cmp_nin_lst, cmp_in_dct, cmp_nin_dct, cmp_lt_int, cmp_gt_int, cmp_le_int, cmp_ge_int, cmp_is_non, cmp_isn_non, cmp_is_bl, cmp_isn_bl,
  add_int, sub_int, add_tup, add_lst, add_str, mul_int, mod_int, fdiv_int, pow_int, len_tup, len_lst, len_scr, abs_int, int_int, int_bl, max_int, min_int, list_tup, list_lst, tuple_tup, tuple_lst, all_bls, any_bls, lenset_strs, lenset_strsL, all_mapP, any_mapP, List.length_map, rec_view, rec_ok, rec_eq, ↓rec_tup, rec_ix0, rec_ix1, rec_ix2, rec_ix3, rule_view, rule_f0, rule_f1, rule_f2, rule_f3, max_rec, rec_fold, rule_frz, rule_isIns, rule_noField, rec_sl3, rec_sl1, way_view, way_o, way_k, way_s, way_r])
local macro_rules | `(tactic| walk_at "hps") => `(tactic| simp (config := { dsimp := false, failIfUnchanged := false, implicitDefEqProofs := false }) only [↓xA_lit, ↓xA_bin, ↓xA_neg, ↓xA_cmp, ↓xA_chain, ↓xA_not_, ↓xA_and_, ↓xA_or_, ↓xA_ife, ↓xA_tup, ↓xA_lst, ↓xA_dct, ↓xA_ix, ↓xA_sl, ↓xA_rev, ↓xA_fld, ↓xA_prop, ↓xA_call, ↓xA_callp, ↓xA_meth, ↓xA_mk, ↓xA_alloc, ↓xA_bi, ↓xA_isi, ↓xA_rng, ↓xA_bm, ↓xA_mm, ↓xA_lc, ↓xA_dc, ↓xA_eqo, ↓xA_var, ↓xE_lit, ↓xE_var, ↓xE_bin, ↓xE_neg, ↓xE_cmp, ↓xT_cmp, ↓xE_chain, ↓xT_chain, ↓xE_not_, ↓xT_not_, ↓xE_and_, ↓xT_and_, ↓xE_or_, ↓xT_or_, ↓xE_ife, ↓xT_ife, ↓xE_tup, ↓xE_lst, ↓xE_dct, ↓xE_ix, ↓xE_sl, ↓xE_rev, ↓xE_fld, ↓xE_call, ↓xE_callp, ↓xE_meth, ↓xE_mk, ↓xE_prop, ↓xE_alloc, ↓xE_bi, ↓xE_isi, ↓xT_isi, ↓xE_eqo, ↓xT_eqo, ↓xE_rng, ↓xE_bm, ↓xE_mm, ↓xT_lit, ↓xT_bin, ↓xT_neg, ↓xT_tup, ↓xT_lst, ↓xT_dct, ↓xT_ix, ↓xT_sl, ↓xT_rev, ↓xT_fld, ↓xT_prop, ↓xT_call, ↓xT_callp, ↓xT_meth, ↓xT_mk, ↓xT_alloc, ↓xT_bi, ↓xT_rng, ↓xT_bm, ↓xT_mm, ↓xT_lc, ↓xT_dc, ↓xT_var, ↓xV_nil, ↓xO_nil, ↓xU_nil, ↓xV_cons, ↓xO_cons, ↓xU_cons, ↓xV_star, ↓xF_nil, ↓xF_one, ↓xP_nil, ↓xP_cons, ↓xN_nil, ↓xN_cons, ↓xI_seq, ↓xI_rng1, ↓xI_rng2, ↓xI_enum0, ↓xI_items, ↓xI_zip, ↓xB_nil, ↓xB_cons, ↓xS_asgN, ↓xS_asgT, ↓xS_par, ↓xS_setix, ↓xS_setfld, ↓xS_ex, ↓xS_retV, ↓xS_ret_lit, ↓xS_ret_bin, ↓xS_ret_neg, ↓xS_ret_cmp, ↓xS_ret_chain, ↓xS_ret_not_, ↓xS_ret_and_, ↓xS_ret_or_, ↓xS_ret_ife, ↓xS_ret_tup, ↓xS_ret_lst, ↓xS_ret_dct, ↓xS_ret_ix, ↓xS_ret_sl, ↓xS_ret_rev, ↓xS_ret_fld, ↓xS_ret_prop, ↓xS_ret_call, ↓xS_ret_callp, ↓xS_ret_meth, ↓xS_ret_mk, ↓xS_ret_alloc, ↓xS_ret_bi, ↓xS_ret_isi, ↓xS_ret_rng, ↓xS_ret_bm, ↓xS_ret_mm, ↓xS_ret_lc, ↓xS_ret_dc, ↓xS_ret_eqo, ↓xS_retn, ↓xS_ife, ↓xS_for, ↓xS_while, ↓xS_pass, ↓xS_brk, ↓xS_cont, ↓xS_raise, ↓xS_try, ↓xG_name, ↓xG_tup, ↓xGs_nil, ↓xGs_cons, ↓loopH_nil, ↓loopH_cons, ↓xE_lc1, ↓optH_s, ↓iteH_t, ↓iteH_f, ↓andH_t, goH_go, ↓onSlot_v, ↓onSlot_o, ↓onInt_i, ↓onBl_b, ↓onOwn_o, ↓onTup_t, ↓onTup_l, ↓onCons_c, ↓onDct_d, ↓onZip_l, ↓onZip_t, ↓callH_mk, pick, List.getD_cons_zero, List.getD_cons_succ, ↓callH_in, ↓upH_s, ↓upH_r,
  vres_v, vres_s, look_own, look_val, view_int, view_bl, view_str, view_non, view_tup, view_lst, view_scr, view_dct, view_ins, view_r0, view_r1, Option.getD_some, Option.map_some, Option.map_none, Option.bind_some, Option.bind_none, Option.getD_none,
  fld_ins, isi_non, cl_int_non, cl_bool_non, cl_str_non, cl_tuple_non, cl_list_non, cl_dict_non, cl_own_non, notNon_non, isi_bl, cl_int_bl, cl_bool_bl, cl_str_bl, cl_tuple_bl, cl_list_bl, cl_dict_bl, cl_own_bl, notNon_bl, isi_int, cl_int_int, cl_bool_int, cl_str_int, cl_tuple_int, cl_list_int, cl_dict_int, cl_own_int, notNon_int, isi_str, cl_int_str, cl_bool_str, cl_str_str, cl_tuple_str, cl_list_str, cl_dict_str, cl_own_str, notNon_str, isi_tup, cl_int_tup, cl_bool_tup, cl_str_tup, cl_tuple_tup, cl_list_tup, cl_dict_tup, cl_own_tup, notNon_tup, isi_lst, cl_int_lst, cl_bool_lst, cl_str_lst, cl_tuple_lst, cl_list_lst, cl_dict_lst, cl_own_lst, notNon_lst, isi_dct, cl_int_dct, cl_bool_dct, cl_str_dct, cl_tuple_dct, cl_list_dct, cl_dict_dct, cl_own_dct, notNon_dct, isi_ins, cl_own_ins, notNon_ins, truth_non, truth_bl, truth_int, truth_tup, truth_lst, walk_tup, walk_lst, walk_scr, walk_str, seq_tup, seq_lst, frz_lst, frz_dct, frz_ins, ofrz_v, ofrz_o, oslot_v, oslot_o, keep_v, keep_o, keep_u, setsS_nil, setsS_cons, isLst_l, isIns_i, noField_i, mm_app, mm_popF, set_lst, set_dct, sf_ins, sl_tup, sl_lst, ress_nil, ress_cons,
  Bm.ok, all, List.any_cons, List.any_nil, List.contains_cons, List.contains_nil, Option.isSome_some, lookF, putF, wipeS, backS,
  List.getElem?_cons_zero, List.getElem?_cons_succ, List.length_cons, List.length_nil, List.map_cons, List.map_nil, List.replicate_zero, List.replicate_succ, List.cons_append, List.nil_append, List.set_cons_zero, List.set_cons_succ, List.getElem?_nil, Nat.reduceAdd, Nat.reduceSub, Nat.reduceLeDiff, Nat.reduceLT, Nat.reduceEqDiff, big, Int.cast_ofNat_Int, Int.reduceLE, Int.reduceLT, Int.reduceNeg, Int.reduceAdd, Int.reduceSub, Int.reduceMul, Int.reducePow, Int.reduceAbs, Int.reduceToNat, Int.reduceEq, Int.reduceDiv, Int.reduceMod, upTo, ↓lcH_nil, ↓lcH_cons,
  ok_60, okAt_int, okAt_bl, okAt_str, okAt_non, okAt_tup, okAt_lst, okAts_nil, okAts_cons, okAts_mapI, okAts_mapS, okAts_mapB, Bool.and_true, Bool.true_and, Bool.and_false, Bool.false_and, Bool.or_true, Bool.true_or, Bool.or_false, Bool.false_or, Bool.not_true, Bool.not_false, Bool.not_not, Bool.false_eq_true, if_true, if_false, ↓reduceIte, decide_true, decide_false, decide_eq_true_eq, eq_self, true_and, and_true, and_self, ofString_inj, String.reduceEq,
  eqD_int, eqD_str, eqD_bl, eqD_tup, eqD_lst, eqD_nn, eqD_nt, eqD_tn, eqD_si, eqD_is, eqD_st, eqD_ts, eqD_ti, eqD_it, eqD_tl, eqD_lt, eqDs_nil, eqDs_cons, eqDs_nc, eqDs_cn, eqDs_strs, eqDs_ints, any_strs,
  atI_0, atI_1, atI_2, atI_3, atI_4, ix_tup, ix_lst, ix_dctS, getD_cons, putD_cons, putD_nil, keyFits_str, keyFits_int, isSome_keyAt, isSome_keyAt0, mergeD,
  cmp_eq, cmp_ne, cmp_in_tup, cmp_in_lst, cmp_nin_tup, cmp_nin_lst, cmp_in_dct, cmp_nin_dct, cmp_lt_int, cmp_gt_int, cmp_le_int, cmp_ge_int, cmp_is_non, cmp_isn_non, cmp_is_bl, cmp_isn_bl,
  add_int, sub_int, add_tup, add_lst, add_str, mul_int, mod_int, fdiv_int, pow_int, len_tup, len_lst, len_scr, abs_int, int_int, int_bl, max_int, min_int, list_tup, list_lst, tuple_tup, tuple_lst, all_bls, any_bls, lenset_strs, lenset_strsL, all_mapP, any_mapP, List.length_map, rec_view, rec_ok, rec_eq, ↓rec_tup, rec_ix0, rec_ix1, rec_ix2, rec_ix3, rule_view, rule_f0, rule_f1, rule_f2, rule_f3, max_rec, rec_fold, rule_frz, rule_isIns, rule_noField, rec_sl3, rec_sl1, way_view, way_o, way_k, way_s, way_r, *])
local macro_rules | `(tactic| walk_at "lif") => `(tactic| (rw [if_pos]; rotate_left; (simp (config := { failIfUnchanged := false }) only [List.length_append, List.length_map, List.length_cons, List.length_nil, List.length_set, List.length_take, List.length_drop, List.length_range, big]; omega)))
local macro_rules | `(tactic| walk_at "len") => `(tactic| (rw [iteH_yes (p := _ ≤ _)]; rotate_left; (simp (config := { failIfUnchanged := false }) only [List.length_append, List.length_map, List.length_cons, List.length_nil, List.length_set, List.length_take, List.length_drop, List.length_range]; omega)))
theorem law_rule_eq {r : RuleM} (hr : r.Ok) : callH g__law_rule [r.WD] s Q X h h2 = Q (.own r.C) s := by
  unfold g__law_rule b__law_rule
  walk_at "hp"
  rw [rule_init_r _ _ _ _ _ hr]
/-! ### repr -/
theorem rec_rsz {r : Rec} (q : r.In 99999) : rsz r.D = some 4 := by
  obtain ⟨r1, r2, r3, r4, r5, r6⟩ := q
  simp only [Rec.D, rsz, rszs]
  rw [if_pos (by omega), if_pos (by omega), if_pos (by omega)]
theorem rec_repr {r : Rec} (q : r.In 99999) : ∃ t, biSem .repr [r.D] = some (.val (.str t)) := repr_small (rec_ok 59 r) (rec_rsz q) (by decide)
theorem rec2_repr {r u : Rec} (q : r.In 99999) (q2 : u.In 99999) : ∃ t, biSem .repr [.lst [r.D, u.D]] = some (.val (.str t)) := repr_small (by rw [okAt_lst, okAts_cons, okAts_cons, okAts_nil, rec_ok 58, rec_ok 58]; rfl) (show rsz (.lst [r.D, u.D]) = some 10 by simp only [rsz, rszs, rec_rsz q, rec_rsz q2]) (by decide)
end HP

set_option maxHeartbeats 600000
namespace HP
open PySem
/-! W3: a way with one part put. -/
theorem way_dict (r : RuleM) : biSem .dict [r.WD] = some (.own r.W) := rfl
theorem way_put_o (r : RuleM) (o : List Str) : setSem r.W (.str "order") (.tup (o.map .str)) = some ({ r with order := o } : RuleM).W := by
  simp [RuleM.W, set_dct, keyFits_str, putD_cons, eqD_str, ofString_inj]
theorem way_put_k (r : RuleM) (o : List Str) : setSem r.W (.str "kept") (.tup (o.map .str)) = some ({ r with kept := o } : RuleM).W := by
  simp [RuleM.W, set_dct, keyFits_str, putD_cons, eqD_str, ofString_inj]
theorem way_put_s (r : RuleM) (n : Int) : setSem r.W (.str "slack") (.int n) = some ({ r with slack := n } : RuleM).W := by
  simp [RuleM.W, set_dct, keyFits_str, putD_cons, eqD_str, ofString_inj]
theorem way_put_r (r : RuleM) (o : List Str) : setSem r.W (.str "raises") (.tup (o.map .str)) = some ({ r with raises := o } : RuleM).W := by
  simp [RuleM.W, set_dct, keyFits_str, putD_cons, eqD_str, ofString_inj]
end HP

set_option maxHeartbeats 600000
namespace HP
open PySem
/-! K04L: the law. -/
variable {s m : Store} {Q : Out → Store → Prop} {X : Exc → Store → Prop} {h : Hd Q} {h2 : Hd X}
inductive Part where
  | o (l : List Str)
  | k (l : List Str)
  | s (n : Int)
  | r (l : List Str)
def Part.key : Part → Str
  | .o _ => "order"
  | .k _ => "kept"
  | .s _ => "slack"
  | .r _ => "raises"
def Part.v : Part → D
  | .o l => .tup (l.map .str)
  | .k l => .tup (l.map .str)
  | .s n => .int n
  | .r l => .tup (l.map .str)
def Part.put (q : RuleM) : Part → RuleM
  | .o l => { q with order := l }
  | .k l => { q with kept := l }
  | .s n => { q with slack := n }
  | .r l => { q with raises := l }
def Part.get (q : RuleM) : Part → Part
  | .o _ => .o q.order
  | .k _ => .k q.kept
  | .s _ => .s q.slack
  | .r _ => .r q.raises
def Part.D (p : Part) : D := .tup [.str p.key, p.v]
def ruleB (r u : RuleM) : Bool := decide (r.order = u.order) && decide (r.kept = u.kept) && decide (r.slack = u.slack) && decide (r.raises = u.raises)
theorem ruleB_self (r : RuleM) : ruleB r r = true := by simp [ruleB]
theorem ruleB_comm (r u : RuleM) : ruleB r u = ruleB u r := by simp only [ruleB, eq_comm]
theorem ruleB_put {r : RuleM} {p : Part} (hp : p ≠ p.get r) : ruleB r (p.put r) = false := by
  cases p <;> simp only [ne_eq, Part.get, Part.o.injEq, Part.k.injEq, Part.s.injEq, Part.r.injEq] at hp <;> simp only [ruleB, Part.put, decide_true, Bool.true_and, Bool.and_true] <;> exact decide_eq_false fun e => hp e.symm
theorem get_put (r : RuleM) (p : Part) : p.get (p.put r) = p := by cases p <;> rfl
theorem put_get (r : RuleM) (p : Part) : (p.get r).put (p.put r) = r := by cases p <;> rfl
theorem key_get (r : RuleM) (p : Part) : (p.get r).key = p.key := by cases p <;> rfl
theorem put_W (r : RuleM) (p : Part) : setSem r.W (.str p.key) p.v = some (p.put r).W := by
  cases p
  · exact way_put_o _ _
  · exact way_put_k _ _
  · exact way_put_s _ _
  · exact way_put_r _ _
theorem get_ix (r : RuleM) (p : Part) : ixSem r.WD (.str p.key) = some (p.get r).v := by
  cases p
  · exact way_o r
  · exact way_k r
  · exact way_s r
  · exact way_r r
theorem put_ix (r : RuleM) (p : Part) : ixSem (p.put r).WD (.str p.key) = some p.v := by rw [get_ix, get_put]
theorem with_part_eq {r : RuleM} {p : Part} (hr : (p.put r).Ok) : callH g_Rule_with_part [r.D, .str p.key, p.v] s Q X h h2 = Q (.own (p.put r).C) s := by
  cases p
  · exact with_order_r _ _ _ _ _ hr
  · exact with_kept_r _ _ _ _ _ hr
  · exact with_slack_r _ _ _ _ _ hr
  · exact with_raises_r _ _ _ _ _ hr
theorem back_part_eq {r : RuleM} {p : Part} (hr : r.Ok) : callH g_Rule_with_part [(p.put r).D, .str p.key, (p.get r).v] s Q X h h2 = Q (.own r.C) s := by
  have := with_part_eq (r := p.put r) (p := p.get r) (s := s) (Q := Q) (X := X) (h := h) (h2 := h2) (by rw [put_get]; exact hr)
  rw [put_get, key_get] at this
  exact this
theorem view_v (s : Store) (p : Part) : view s p.v = p.v := by cases p <;> rfl
/-! ### what differs in one part -/
def toggM (l k : List Str) (x : Str) : List Str := l.filter fun y => !(k.contains y == decide (y = x))
theorem togg_ne {l k : List Str} {x : Str} (hx : x ∈ l) : toggM l k x ≠ k := by
  intro e
  have h1 : x ∈ toggM l k x ↔ ¬ x ∈ k := by
    simp only [toggM, List.mem_filter, hx, true_and, decide_true]
    cases q : k.contains x
    · simpa using q
    · simpa using q
  rw [e] at h1
  by_cases q : x ∈ k
  · exact h1.mp q q
  · exact q (h1.mpr q)
def swapM : List Str → List Part
  | a :: b :: l => [.o (b :: a :: l)]
  | _ => []
def tailM : List Str → List Str
  | [] => ["turn"]
  | _ :: l => l
def unlikeM (r : RuleM) : List Part := .s ((r.slack + 1) % 5) :: .o (tailM r.order) :: (swapM r.order ++ ((["done", "place", "stamp"] : List Str).map fun x => Part.k (toggM ["done", "place", "stamp"] r.kept x)) ++ ((["again", "back"] : List Str).map fun x => Part.r (toggM ["again", "back"] r.raises x)))
theorem unlike_ok {r : RuleM} (hr : r.Ok) : ∀ p ∈ unlikeM r, (p.put r).Ok ∧ p ≠ p.get r := by
  intro p hp
  have s0 := hr.s0
  have s4 := hr.s4
  simp only [unlikeM, List.mem_cons, List.mem_append] at hp
  rcases hp with rfl | rfl | (hp | hp) | hp
  · refine ⟨⟨hr.o, hr.n, hr.k, ?_, ?_, hr.r⟩, fun e => ?_⟩
    · show 0 ≤ (r.slack + 1) % 5
      omega
    · show (r.slack + 1) % 5 ≤ 4
      omega
    · have e : (r.slack + 1) % 5 = r.slack := Part.s.inj e
      omega
  · have h1 : (∀ x ∈ tailM r.order, x ∈ (["turn", "done", "newest", "furthest"] : List Str)) ∧ (tailM r.order).Nodup ∧ tailM r.order ≠ r.order := by
      have ho := hr.o
      have hn := hr.n
      generalize r.order = ol at ho hn
      rcases ol with _ | ⟨a, l⟩
      · exact ⟨by decide, by decide, by decide⟩
      · refine ⟨fun x hx => ho x (List.mem_cons_of_mem _ hx), (List.nodup_cons.mp hn).2, fun e => ?_⟩
        have := congrArg List.length e
        simp [tailM] at this
    exact ⟨⟨h1.1, h1.2.1, hr.k, s0, s4, hr.r⟩, fun e => h1.2.2 (Part.o.inj e)⟩
  · have ho := hr.o
    have hn := hr.n
    rcases e : r.order with _ | ⟨a, _ | ⟨b, l⟩⟩
    · rw [e] at hp; cases hp
    · rw [e] at hp; cases hp
    · rw [e] at hp ho hn
      cases List.mem_singleton.mp hp
      have hpm : (b :: a :: l).Perm (a :: b :: l) := List.Perm.swap ..
      refine ⟨⟨fun x hx => ho x (hpm.subset hx), hpm.nodup_iff.mpr hn, hr.k, s0, s4, hr.r⟩, fun q => ?_⟩
      have q : b :: a :: l = r.order := Part.o.inj q
      rw [e] at q
      have : b = a := (List.cons.inj q).1
      subst this
      simp at hn
  · obtain ⟨x, hx, rfl⟩ := List.mem_map.mp hp
    exact ⟨⟨hr.o, hr.n, List.filter_sublist, s0, s4, hr.r⟩, fun e => togg_ne hx (Part.k.inj e)⟩
  · obtain ⟨x, hx, rfl⟩ := List.mem_map.mp hp
    exact ⟨⟨hr.o, hr.n, hr.k, s0, s4, List.filter_sublist⟩, fun e => togg_ne hx (Part.r.inj e)⟩
def alterD (r : RuleM) (p : Part) : D := .tup [(p.put r).WD, .str p.key]
def Ss.drop3' : Ss → Ss
  | .cons _ (.cons _ (.cons _ r)) => r
  | _ => .nil
local macro_rules | `(tactic| walk_at "hp") => `(tactic| simp (config := { dsimp := false, failIfUnchanged := false, implicitDefEqProofs := false }) only [↓xA_lit, ↓xA_bin, ↓xA_neg, ↓xA_cmp, ↓xA_chain, ↓xA_not_, ↓xA_and_, ↓xA_or_, ↓xA_ife, ↓xA_tup, ↓xA_lst, ↓xA_dct, ↓xA_ix, ↓xA_sl, ↓xA_rev, ↓xA_fld, ↓xA_prop, ↓xA_call, ↓xA_callp, ↓xA_meth, ↓xA_mk, ↓xA_alloc, ↓xA_bi, ↓xA_isi, ↓xA_rng, ↓xA_bm, ↓xA_mm, ↓xA_lc, ↓xA_dc, ↓xA_eqo, ↓xA_var, ↓xE_lit, ↓xE_var, ↓xE_bin, ↓xE_neg, ↓xE_cmp, ↓xT_cmp, ↓xE_chain, ↓xT_chain, ↓xE_not_, ↓xT_not_, ↓xE_and_, ↓xT_and_, ↓xE_or_, ↓xT_or_, ↓xE_ife, ↓xT_ife, ↓xE_tup, ↓xE_lst, ↓xE_dct, ↓xE_ix, ↓xE_sl, ↓xE_rev, ↓xE_fld, ↓xE_call, ↓xE_callp, ↓xE_meth, ↓xE_mk, ↓xE_prop, ↓xE_alloc, ↓xE_bi, ↓xE_isi, ↓xT_isi, ↓xE_eqo, ↓xT_eqo, ↓xE_rng, ↓xE_bm, ↓xE_mm, ↓xT_lit, ↓xT_bin, ↓xT_neg, ↓xT_tup, ↓xT_lst, ↓xT_dct, ↓xT_ix, ↓xT_sl, ↓xT_rev, ↓xT_fld, ↓xT_prop, ↓xT_call, ↓xT_callp, ↓xT_meth, ↓xT_mk, ↓xT_alloc, ↓xT_bi, ↓xT_rng, ↓xT_bm, ↓xT_mm, ↓xT_lc, ↓xT_dc, ↓xT_var, ↓xV_nil, ↓xO_nil, ↓xU_nil, ↓xV_cons, ↓xO_cons, ↓xU_cons, ↓xV_star, ↓xF_nil, ↓xF_one, ↓xP_nil, ↓xP_cons, ↓xN_nil, ↓xN_cons, ↓xI_seq, ↓xI_rng1, ↓xI_rng2, ↓xI_enum0, ↓xI_items, ↓xI_zip, ↓xB_nil, ↓xB_cons, ↓xS_asgN, ↓xS_asgT, ↓xS_par, ↓xS_setix, ↓xS_setfld, ↓xS_ex, ↓xS_retV, ↓xS_ret_lit, ↓xS_ret_bin, ↓xS_ret_neg, ↓xS_ret_cmp, ↓xS_ret_chain, ↓xS_ret_not_, ↓xS_ret_and_, ↓xS_ret_or_, ↓xS_ret_ife, ↓xS_ret_tup, ↓xS_ret_lst, ↓xS_ret_dct, ↓xS_ret_ix, ↓xS_ret_sl, ↓xS_ret_rev, ↓xS_ret_fld, ↓xS_ret_prop, ↓xS_ret_call, ↓xS_ret_callp, ↓xS_ret_meth, ↓xS_ret_mk, ↓xS_ret_alloc, ↓xS_ret_bi, ↓xS_ret_isi, ↓xS_ret_rng, ↓xS_ret_bm, ↓xS_ret_mm, ↓xS_ret_lc, ↓xS_ret_dc, ↓xS_ret_eqo, ↓xS_retn, ↓xS_ife, ↓xS_for, ↓xS_while, ↓xS_pass, ↓xS_brk, ↓xS_cont, ↓xS_raise, ↓xS_try, ↓xG_name, ↓xG_tup, ↓xGs_nil, ↓xGs_cons, ↓loopH_nil, ↓loopH_cons, ↓xE_lc1, ↓optH_s, ↓iteH_t, ↓iteH_f, ↓andH_t, goH_go, ↓onSlot_v, ↓onSlot_o, ↓onInt_i, ↓onBl_b, ↓onOwn_o, ↓onTup_t, ↓onTup_l, ↓onCons_c, ↓onDct_d, ↓onZip_l, ↓onZip_t, ↓callH_mk, pick, List.getD_cons_zero, List.getD_cons_succ, ↓callH_in, ↓upH_s, ↓upH_r,
  vres_v, vres_s, look_own, look_val, view_int, view_bl, view_str, view_non, view_tup, view_lst, view_scr, view_dct, view_ins, view_r0, view_r1, Option.getD_some, Option.map_some, Option.map_none, Option.bind_some, Option.bind_none, Option.getD_none,
  fld_ins, isi_non, cl_int_non, cl_bool_non, cl_str_non, cl_tuple_non, cl_list_non, cl_dict_non, cl_own_non, notNon_non, isi_bl, cl_int_bl, cl_bool_bl, cl_str_bl, cl_tuple_bl, cl_list_bl, cl_dict_bl, cl_own_bl, notNon_bl, isi_int, cl_int_int, cl_bool_int, cl_str_int, cl_tuple_int, cl_list_int, cl_dict_int, cl_own_int, notNon_int, isi_str, cl_int_str, cl_bool_str, cl_str_str, cl_tuple_str, cl_list_str, cl_dict_str, cl_own_str, notNon_str, isi_tup, cl_int_tup, cl_bool_tup, cl_str_tup, cl_tuple_tup, cl_list_tup, cl_dict_tup, cl_own_tup, notNon_tup, isi_lst, cl_int_lst, cl_bool_lst, cl_str_lst, cl_tuple_lst, cl_list_lst, cl_dict_lst, cl_own_lst, notNon_lst, isi_dct, cl_int_dct, cl_bool_dct, cl_str_dct, cl_tuple_dct, cl_list_dct, cl_dict_dct, cl_own_dct, notNon_dct, isi_ins, cl_own_ins, notNon_ins, truth_non, truth_bl, truth_int, truth_tup, truth_lst, walk_tup, walk_lst, walk_scr, walk_str, seq_tup, seq_lst, frz_lst, frz_dct, frz_ins, ofrz_v, ofrz_o, oslot_v, oslot_o, keep_v, keep_o, keep_u, setsS_nil, setsS_cons, isLst_l, isIns_i, noField_i, mm_app, mm_popF, set_lst, set_dct, sf_ins, sl_tup, sl_lst, ress_nil, ress_cons,
  Bm.ok, all, List.any_cons, List.any_nil, List.contains_cons, List.contains_nil, Option.isSome_some, lookF, putF, wipeS, backS,
  List.getElem?_cons_zero, List.getElem?_cons_succ, List.length_cons, List.length_nil, List.map_cons, List.map_nil, List.replicate_zero, List.replicate_succ, List.cons_append, List.nil_append, List.set_cons_zero, List.set_cons_succ, List.getElem?_nil, Nat.reduceAdd, Nat.reduceSub, Nat.reduceLeDiff, Nat.reduceLT, Nat.reduceEqDiff, big, Int.cast_ofNat_Int, Int.reduceLE, Int.reduceLT, Int.reduceNeg, Int.reduceAdd, Int.reduceSub, Int.reduceMul, Int.reducePow, Int.reduceAbs, Int.reduceToNat, Int.reduceEq, Int.reduceDiv, Int.reduceMod, upTo, ↓lcH_nil, ↓lcH_cons,
  ok_60, okAt_int, okAt_bl, okAt_str, okAt_non, okAt_tup, okAt_lst, okAts_nil, okAts_cons, okAts_mapI, okAts_mapS, okAts_mapB, Bool.and_true, Bool.true_and, Bool.and_false, Bool.false_and, Bool.or_true, Bool.true_or, Bool.or_false, Bool.false_or, Bool.not_true, Bool.not_false, Bool.not_not, Bool.false_eq_true, if_true, if_false, ↓reduceIte, decide_true, decide_false, decide_eq_true_eq, eq_self, true_and, and_true, and_self, ofString_inj, String.reduceEq,
  eqD_int, eqD_str, eqD_bl, eqD_tup, eqD_lst, eqD_nn, eqD_nt, eqD_tn, eqD_si, eqD_is, eqD_st, eqD_ts, eqD_ti, eqD_it, eqD_tl, eqD_lt, eqDs_nil, eqDs_cons, eqDs_nc, eqDs_cn, eqDs_strs, eqDs_ints, any_strs,
  atI_0, atI_1, atI_2, atI_3, atI_4, ix_tup, ix_lst, ix_dctS, getD_cons, putD_cons, putD_nil, keyFits_str, keyFits_int, isSome_keyAt, isSome_keyAt0, mergeD,
  cmp_eq, cmp_ne, cmp_in_tup, cmp_in_lst, cmp_nin_tup, cmp_nin_lst, cmp_in_dct, cmp_nin_dct, cmp_lt_int, cmp_gt_int, cmp_le_int, cmp_ge_int, cmp_is_non, cmp_isn_non, cmp_is_bl, cmp_isn_bl,
  add_int, sub_int, add_tup, add_lst, add_str, mul_int, mod_int, fdiv_int, pow_int, len_tup, len_lst, len_scr, abs_int, int_int, int_bl, max_int, min_int, list_tup, list_lst, tuple_tup, tuple_lst, all_bls, any_bls, lenset_strs, lenset_strsL, all_mapP, any_mapP, List.length_map, rec_view, rec_ok, rec_eq, ↓rec_tup, rec_ix0, rec_ix1, rec_ix2, rec_ix3, rule_view, rule_f0, rule_f1, rule_f2, rule_f3, max_rec, rec_fold, rule_frz, rule_isIns, rule_noField, rec_sl3, rec_sl1, way_view, way_frz, way_o, way_k, way_s, way_r, way_dict, put_W, get_ix, view_v])
local macro_rules | `(tactic| walk_at "hps") => `(tactic| simp (config := { dsimp := false, failIfUnchanged := false, implicitDefEqProofs := false }) only [↓xA_lit, ↓xA_bin, ↓xA_neg, ↓xA_cmp, ↓xA_chain, ↓xA_not_, ↓xA_and_, ↓xA_or_, ↓xA_ife, ↓xA_tup, ↓xA_lst, ↓xA_dct, ↓xA_ix, ↓xA_sl, ↓xA_rev, ↓xA_fld, ↓xA_prop, ↓xA_call, ↓xA_callp, ↓xA_meth, ↓xA_mk, ↓xA_alloc, ↓xA_bi, ↓xA_isi, ↓xA_rng, ↓xA_bm, ↓xA_mm, ↓xA_lc, ↓xA_dc, ↓xA_eqo, ↓xA_var, ↓xE_lit, ↓xE_var, ↓xE_bin, ↓xE_neg, ↓xE_cmp, ↓xT_cmp, ↓xE_chain, ↓xT_chain, ↓xE_not_, ↓xT_not_, ↓xE_and_, ↓xT_and_, ↓xE_or_, ↓xT_or_, ↓xE_ife, ↓xT_ife, ↓xE_tup, ↓xE_lst, ↓xE_dct, ↓xE_ix, ↓xE_sl, ↓xE_rev, ↓xE_fld, ↓xE_call, ↓xE_callp, ↓xE_meth, ↓xE_mk, ↓xE_prop, ↓xE_alloc, ↓xE_bi, ↓xE_isi, ↓xT_isi, ↓xE_eqo, ↓xT_eqo, ↓xE_rng, ↓xE_bm, ↓xE_mm, ↓xT_lit, ↓xT_bin, ↓xT_neg, ↓xT_tup, ↓xT_lst, ↓xT_dct, ↓xT_ix, ↓xT_sl, ↓xT_rev, ↓xT_fld, ↓xT_prop, ↓xT_call, ↓xT_callp, ↓xT_meth, ↓xT_mk, ↓xT_alloc, ↓xT_bi, ↓xT_rng, ↓xT_bm, ↓xT_mm, ↓xT_lc, ↓xT_dc, ↓xT_var, ↓xV_nil, ↓xO_nil, ↓xU_nil, ↓xV_cons, ↓xO_cons, ↓xU_cons, ↓xV_star, ↓xF_nil, ↓xF_one, ↓xP_nil, ↓xP_cons, ↓xN_nil, ↓xN_cons, ↓xI_seq, ↓xI_rng1, ↓xI_rng2, ↓xI_enum0, ↓xI_items, ↓xI_zip, ↓xB_nil, ↓xB_cons, ↓xS_asgN, ↓xS_asgT, ↓xS_par, ↓xS_setix, ↓xS_setfld, ↓xS_ex, ↓xS_retV, ↓xS_ret_lit, ↓xS_ret_bin, ↓xS_ret_neg, ↓xS_ret_cmp, ↓xS_ret_chain, ↓xS_ret_not_, ↓xS_ret_and_, ↓xS_ret_or_, ↓xS_ret_ife, ↓xS_ret_tup, ↓xS_ret_lst, ↓xS_ret_dct, ↓xS_ret_ix, ↓xS_ret_sl, ↓xS_ret_rev, ↓xS_ret_fld, ↓xS_ret_prop, ↓xS_ret_call, ↓xS_ret_callp, ↓xS_ret_meth, ↓xS_ret_mk, ↓xS_ret_alloc, ↓xS_ret_bi, ↓xS_ret_isi, ↓xS_ret_rng, ↓xS_ret_bm, ↓xS_ret_mm, ↓xS_ret_lc, ↓xS_ret_dc, ↓xS_ret_eqo, ↓xS_retn, ↓xS_ife, ↓xS_for, ↓xS_while, ↓xS_pass, ↓xS_brk, ↓xS_cont, ↓xS_raise, ↓xS_try, ↓xG_name, ↓xG_tup, ↓xGs_nil, ↓xGs_cons, ↓loopH_nil, ↓loopH_cons, ↓xE_lc1, ↓optH_s, ↓iteH_t, ↓iteH_f, ↓andH_t, goH_go, ↓onSlot_v, ↓onSlot_o, ↓onInt_i, ↓onBl_b, ↓onOwn_o, ↓onTup_t, ↓onTup_l, ↓onCons_c, ↓onDct_d, ↓onZip_l, ↓onZip_t, ↓callH_mk, pick, List.getD_cons_zero, List.getD_cons_succ, ↓callH_in, ↓upH_s, ↓upH_r,
  vres_v, vres_s, look_own, look_val, view_int, view_bl, view_str, view_non, view_tup, view_lst, view_scr, view_dct, view_ins, view_r0, view_r1, Option.getD_some, Option.map_some, Option.map_none, Option.bind_some, Option.bind_none, Option.getD_none,
  fld_ins, isi_non, cl_int_non, cl_bool_non, cl_str_non, cl_tuple_non, cl_list_non, cl_dict_non, cl_own_non, notNon_non, isi_bl, cl_int_bl, cl_bool_bl, cl_str_bl, cl_tuple_bl, cl_list_bl, cl_dict_bl, cl_own_bl, notNon_bl, isi_int, cl_int_int, cl_bool_int, cl_str_int, cl_tuple_int, cl_list_int, cl_dict_int, cl_own_int, notNon_int, isi_str, cl_int_str, cl_bool_str, cl_str_str, cl_tuple_str, cl_list_str, cl_dict_str, cl_own_str, notNon_str, isi_tup, cl_int_tup, cl_bool_tup, cl_str_tup, cl_tuple_tup, cl_list_tup, cl_dict_tup, cl_own_tup, notNon_tup, isi_lst, cl_int_lst, cl_bool_lst, cl_str_lst, cl_tuple_lst, cl_list_lst, cl_dict_lst, cl_own_lst, notNon_lst, isi_dct, cl_int_dct, cl_bool_dct, cl_str_dct, cl_tuple_dct, cl_list_dct, cl_dict_dct, cl_own_dct, notNon_dct, isi_ins, cl_own_ins, notNon_ins, truth_non, truth_bl, truth_int, truth_tup, truth_lst, walk_tup, walk_lst, walk_scr, walk_str, seq_tup, seq_lst, frz_lst, frz_dct, frz_ins, ofrz_v, ofrz_o, oslot_v, oslot_o, keep_v, keep_o, keep_u, setsS_nil, setsS_cons, isLst_l, isIns_i, noField_i, mm_app, mm_popF, set_lst, set_dct, sf_ins, sl_tup, sl_lst, ress_nil, ress_cons,
  Bm.ok, all, List.any_cons, List.any_nil, List.contains_cons, List.contains_nil, Option.isSome_some, lookF, putF, wipeS, backS,
  List.getElem?_cons_zero, List.getElem?_cons_succ, List.length_cons, List.length_nil, List.map_cons, List.map_nil, List.replicate_zero, List.replicate_succ, List.cons_append, List.nil_append, List.set_cons_zero, List.set_cons_succ, List.getElem?_nil, Nat.reduceAdd, Nat.reduceSub, Nat.reduceLeDiff, Nat.reduceLT, Nat.reduceEqDiff, big, Int.cast_ofNat_Int, Int.reduceLE, Int.reduceLT, Int.reduceNeg, Int.reduceAdd, Int.reduceSub, Int.reduceMul, Int.reducePow, Int.reduceAbs, Int.reduceToNat, Int.reduceEq, Int.reduceDiv, Int.reduceMod, upTo, ↓lcH_nil, ↓lcH_cons,
  ok_60, okAt_int, okAt_bl, okAt_str, okAt_non, okAt_tup, okAt_lst, okAts_nil, okAts_cons, okAts_mapI, okAts_mapS, okAts_mapB, Bool.and_true, Bool.true_and, Bool.and_false, Bool.false_and, Bool.or_true, Bool.true_or, Bool.or_false, Bool.false_or, Bool.not_true, Bool.not_false, Bool.not_not, Bool.false_eq_true, if_true, if_false, ↓reduceIte, decide_true, decide_false, decide_eq_true_eq, eq_self, true_and, and_true, and_self, ofString_inj, String.reduceEq,
  eqD_int, eqD_str, eqD_bl, eqD_tup, eqD_lst, eqD_nn, eqD_nt, eqD_tn, eqD_si, eqD_is, eqD_st, eqD_ts, eqD_ti, eqD_it, eqD_tl, eqD_lt, eqDs_nil, eqDs_cons, eqDs_nc, eqDs_cn, eqDs_strs, eqDs_ints, any_strs,
  atI_0, atI_1, atI_2, atI_3, atI_4, ix_tup, ix_lst, ix_dctS, getD_cons, putD_cons, putD_nil, keyFits_str, keyFits_int, isSome_keyAt, isSome_keyAt0, mergeD,
  cmp_eq, cmp_ne, cmp_in_tup, cmp_in_lst, cmp_nin_tup, cmp_nin_lst, cmp_in_dct, cmp_nin_dct, cmp_lt_int, cmp_gt_int, cmp_le_int, cmp_ge_int, cmp_is_non, cmp_isn_non, cmp_is_bl, cmp_isn_bl,
  add_int, sub_int, add_tup, add_lst, add_str, mul_int, mod_int, fdiv_int, pow_int, len_tup, len_lst, len_scr, abs_int, int_int, int_bl, max_int, min_int, list_tup, list_lst, tuple_tup, tuple_lst, all_bls, any_bls, lenset_strs, lenset_strsL, all_mapP, any_mapP, List.length_map, rec_view, rec_ok, rec_eq, ↓rec_tup, rec_ix0, rec_ix1, rec_ix2, rec_ix3, rule_view, rule_f0, rule_f1, rule_f2, rule_f3, max_rec, rec_fold, rule_frz, rule_isIns, rule_noField, rec_sl3, rec_sl1, way_view, way_frz, way_o, way_k, way_s, way_r, way_dict, put_W, get_ix, view_v, *])
local macro_rules | `(tactic| walk_at "lif") => `(tactic| (rw [if_pos]; rotate_left; (simp (config := { failIfUnchanged := false }) only [List.length_append, List.length_map, List.length_cons, List.length_nil, List.length_set, List.length_take, List.length_drop, List.length_range, big]; omega)))
local macro_rules | `(tactic| walk_at "len") => `(tactic| (rw [iteH_yes (p := _ ≤ _)]; rotate_left; (simp (config := { failIfUnchanged := false }) only [List.length_append, List.length_map, List.length_cons, List.length_nil, List.length_set, List.length_take, List.length_drop, List.length_range]; omega)))
theorem alter_loop {r : RuleM} {N : QN} {P : Rst} {h3 : Hd N} {h4 : Hd P} {s2 s3 s5 s6 s7 : Slot} (ps0 : List Part) (h0 : ps0.length ≤ 100) (hN : ∀ s4 s8 s9, N [.val r.WD, .own (.lst (ps0.map (alterD r))), s2, s3, s4, s5, s6, s7, s8, s9] s) : ∀ (ps : List Part) (acc : List D) (s4 s8 s9 : Slot), acc ++ ps.map (alterD r) = ps0.map (alterD r) →
    loopH (.tup [.name 4, .name 8]) l__law_unlike_3 (ps.map Part.D) [.val r.WD, .own (.lst acc), s2, s3, s4, s5, s6, s7, s8, s9] s N P h3 h4
  | [], acc, s4, s8, s9, e => by
    rw [List.map_nil, List.append_nil] at e
    subst e
    exact hN _ _ _
  | p :: ps, acc, s4, s8, s9, e0 => by
    have e := e0
    have hl : acc.length < 16777216 := by
      have := congrArg List.length e
      simp only [List.length_append, List.length_map, List.length_cons] at this
      omega
    clear e
    have hg : ∀ s4 s8 s9, loopH (.tup [.name 4, .name 8]) l__law_unlike_3 (ps.map Part.D) [.val r.WD, .own (.lst (acc ++ [alterD r p])), s2, s3, s4, s5, s6, s7, s8, s9] s N P h3 h4 := fun s4 s8 s9 => alter_loop ps0 h0 hN ps (acc ++ [alterD r p]) _ _ _ (by rw [← e0, List.map_cons, List.append_assoc]; rfl)
    rw [List.map_cons, loopH_cons, Part.D]
    unfold l__law_unlike_3
    walk_at "hp"
    clear e0
    walk_at "hps"
    rw [← l__law_unlike_3]
    exact hg _ _ _
def keptL : List D := [.str "done", .str "place", .str "stamp"]
def raisesL : List D := [.str "again", .str "back"]
theorem kept_m : [D.str "done", .str "place", .str "stamp"] = (["done", "place", "stamp"] : List Str).map D.str := rfl
theorem raises_m : [D.str "again", .str "back"] = (["again", "back"] : List Str).map D.str := rfl
local macro_rules | `(tactic| walk_at "hp") => `(tactic| simp (config := { dsimp := false, failIfUnchanged := false, implicitDefEqProofs := false }) only [↓xA_lit, ↓xA_bin, ↓xA_neg, ↓xA_cmp, ↓xA_chain, ↓xA_not_, ↓xA_and_, ↓xA_or_, ↓xA_ife, ↓xA_tup, ↓xA_lst, ↓xA_dct, ↓xA_ix, ↓xA_sl, ↓xA_rev, ↓xA_fld, ↓xA_prop, ↓xA_call, ↓xA_callp, ↓xA_meth, ↓xA_mk, ↓xA_alloc, ↓xA_bi, ↓xA_isi, ↓xA_rng, ↓xA_bm, ↓xA_mm, ↓xA_lc, ↓xA_dc, ↓xA_eqo, ↓xA_var, ↓xE_lit, ↓xE_var, ↓xE_bin, ↓xE_neg, ↓xE_cmp, ↓xT_cmp, ↓xE_chain, ↓xT_chain, ↓xE_not_, ↓xT_not_, ↓xE_and_, ↓xT_and_, ↓xE_or_, ↓xT_or_, ↓xE_ife, ↓xT_ife, ↓xE_tup, ↓xE_lst, ↓xE_dct, ↓xE_ix, ↓xE_sl, ↓xE_rev, ↓xE_fld, ↓xE_call, ↓xE_callp, ↓xE_meth, ↓xE_mk, ↓xE_prop, ↓xE_alloc, ↓xE_bi, ↓xE_isi, ↓xT_isi, ↓xE_eqo, ↓xT_eqo, ↓xE_rng, ↓xE_bm, ↓xE_mm, ↓xT_lit, ↓xT_bin, ↓xT_neg, ↓xT_tup, ↓xT_lst, ↓xT_dct, ↓xT_ix, ↓xT_sl, ↓xT_rev, ↓xT_fld, ↓xT_prop, ↓xT_call, ↓xT_callp, ↓xT_meth, ↓xT_mk, ↓xT_alloc, ↓xT_bi, ↓xT_rng, ↓xT_bm, ↓xT_mm, ↓xT_lc, ↓xT_dc, ↓xT_var, ↓xV_nil, ↓xO_nil, ↓xU_nil, ↓xV_cons, ↓xO_cons, ↓xU_cons, ↓xV_star, ↓xF_nil, ↓xF_one, ↓xP_nil, ↓xP_cons, ↓xN_nil, ↓xN_cons, ↓xI_seq, ↓xI_rng1, ↓xI_rng2, ↓xI_enum0, ↓xI_items, ↓xI_zip, ↓xB_nil, ↓xB_cons, ↓xS_asgN, ↓xS_asgT, ↓xS_par, ↓xS_setix, ↓xS_setfld, ↓xS_ex, ↓xS_retV, ↓xS_ret_lit, ↓xS_ret_bin, ↓xS_ret_neg, ↓xS_ret_cmp, ↓xS_ret_chain, ↓xS_ret_not_, ↓xS_ret_and_, ↓xS_ret_or_, ↓xS_ret_ife, ↓xS_ret_tup, ↓xS_ret_lst, ↓xS_ret_dct, ↓xS_ret_ix, ↓xS_ret_sl, ↓xS_ret_rev, ↓xS_ret_fld, ↓xS_ret_prop, ↓xS_ret_call, ↓xS_ret_callp, ↓xS_ret_meth, ↓xS_ret_mk, ↓xS_ret_alloc, ↓xS_ret_bi, ↓xS_ret_isi, ↓xS_ret_rng, ↓xS_ret_bm, ↓xS_ret_mm, ↓xS_ret_lc, ↓xS_ret_dc, ↓xS_ret_eqo, ↓xS_retn, ↓xS_ife, ↓xS_for, ↓xS_while, ↓xS_pass, ↓xS_brk, ↓xS_cont, ↓xS_raise, ↓xS_try, ↓xG_name, ↓xG_tup, ↓xGs_nil, ↓xGs_cons, ↓loopH_nil, ↓loopH_cons, ↓xE_lc1, ↓optH_s, ↓iteH_t, ↓iteH_f, ↓andH_t, goH_go, ↓onSlot_v, ↓onSlot_o, ↓onInt_i, ↓onBl_b, ↓onOwn_o, ↓onTup_t, ↓onTup_l, ↓onCons_c, ↓onDct_d, ↓onZip_l, ↓onZip_t, ↓callH_mk, pick, List.getD_cons_zero, List.getD_cons_succ, ↓callH_in, ↓upH_s, ↓upH_r,
  vres_v, vres_s, look_own, look_val, view_int, view_bl, view_str, view_non, view_tup, view_lst, view_scr, view_dct, view_ins, view_r0, view_r1, Option.getD_some, Option.map_some, Option.map_none, Option.bind_some, Option.bind_none, Option.getD_none,
  fld_ins, isi_non, cl_int_non, cl_bool_non, cl_str_non, cl_tuple_non, cl_list_non, cl_dict_non, cl_own_non, notNon_non, isi_bl, cl_int_bl, cl_bool_bl, cl_str_bl, cl_tuple_bl, cl_list_bl, cl_dict_bl, cl_own_bl, notNon_bl, isi_int, cl_int_int, cl_bool_int, cl_str_int, cl_tuple_int, cl_list_int, cl_dict_int, cl_own_int, notNon_int, isi_str, cl_int_str, cl_bool_str, cl_str_str, cl_tuple_str, cl_list_str, cl_dict_str, cl_own_str, notNon_str, isi_tup, cl_int_tup, cl_bool_tup, cl_str_tup, cl_tuple_tup, cl_list_tup, cl_dict_tup, cl_own_tup, notNon_tup, isi_lst, cl_int_lst, cl_bool_lst, cl_str_lst, cl_tuple_lst, cl_list_lst, cl_dict_lst, cl_own_lst, notNon_lst, isi_dct, cl_int_dct, cl_bool_dct, cl_str_dct, cl_tuple_dct, cl_list_dct, cl_dict_dct, cl_own_dct, notNon_dct, isi_ins, cl_own_ins, notNon_ins, truth_non, truth_bl, truth_int, truth_tup, truth_lst, walk_tup, walk_lst, walk_scr, walk_str, seq_tup, seq_lst, frz_lst, frz_dct, frz_ins, ofrz_v, ofrz_o, oslot_v, oslot_o, keep_v, keep_o, keep_u, setsS_nil, setsS_cons, isLst_l, isIns_i, noField_i, mm_app, mm_popF, set_lst, set_dct, sf_ins, sl_tup, sl_lst, ress_nil, ress_cons,
  Bm.ok, all, List.any_cons, List.any_nil, List.contains_cons, List.contains_nil, Option.isSome_some, lookF, putF, wipeS, backS,
  List.getElem?_cons_zero, List.getElem?_cons_succ, List.length_cons, List.length_nil, List.map_cons, List.map_nil, List.replicate_zero, List.replicate_succ, List.cons_append, List.nil_append, List.set_cons_zero, List.set_cons_succ, List.getElem?_nil, Nat.reduceAdd, Nat.reduceSub, Nat.reduceLeDiff, Nat.reduceLT, Nat.reduceEqDiff, big, Int.cast_ofNat_Int, Int.reduceLE, Int.reduceLT, Int.reduceNeg, Int.reduceAdd, Int.reduceSub, Int.reduceMul, Int.reducePow, Int.reduceAbs, Int.reduceToNat, Int.reduceEq, Int.reduceDiv, Int.reduceMod, upTo,  
  ok_60, okAt_int, okAt_bl, okAt_str, okAt_non, okAt_tup, okAt_lst, okAts_nil, okAts_cons, okAts_mapI, okAts_mapS, okAts_mapB, Bool.and_true, Bool.true_and, Bool.and_false, Bool.false_and, Bool.or_true, Bool.true_or, Bool.or_false, Bool.false_or, Bool.not_true, Bool.not_false, Bool.not_not, Bool.false_eq_true, if_true, if_false, ↓reduceIte, decide_true, decide_false, decide_eq_true_eq, eq_self, true_and, and_true, and_self, ofString_inj, String.reduceEq,
  eqD_int, eqD_str, eqD_bl, eqD_tup, eqD_lst, eqD_nn, eqD_nt, eqD_tn, eqD_si, eqD_is, eqD_st, eqD_ts, eqD_ti, eqD_it, eqD_tl, eqD_lt, eqDs_nil, eqDs_cons, eqDs_nc, eqDs_cn, eqDs_strs, eqDs_ints, any_strs,
  atI_0, atI_1, atI_2, atI_3, atI_4, ix_tup, ix_lst, ix_dctS, getD_cons, putD_cons, putD_nil, keyFits_str, keyFits_int, isSome_keyAt, isSome_keyAt0, mergeD,
  cmp_eq, cmp_ne, cmp_in_tup, cmp_in_lst, cmp_nin_tup, cmp_nin_lst, cmp_in_dct, cmp_nin_dct, cmp_lt_int, cmp_gt_int, cmp_le_int, cmp_ge_int, cmp_is_non, cmp_isn_non, cmp_is_bl, cmp_isn_bl,
  add_int, sub_int, add_tup, add_lst, add_str, mul_int, mod_int, fdiv_int, pow_int, len_tup, len_lst, len_scr, abs_int, int_int, int_bl, max_int, min_int, list_tup, list_lst, tuple_tup, tuple_lst, all_bls, any_bls, lenset_strs, lenset_strsL, all_mapP, any_mapP, List.length_map, rec_view, rec_ok, rec_eq, ↓rec_tup, rec_ix0, rec_ix1, rec_ix2, rec_ix3, rule_view, rule_f0, rule_f1, rule_f2, rule_f3, max_rec, rec_fold, rule_frz, rule_isIns, rule_noField, rec_sl3, rec_sl1, way_view, way_frz, way_o, way_k, way_s, way_r])
local macro_rules | `(tactic| walk_at "hps") => `(tactic| simp (config := { dsimp := false, failIfUnchanged := false, implicitDefEqProofs := false }) only [↓xA_lit, ↓xA_bin, ↓xA_neg, ↓xA_cmp, ↓xA_chain, ↓xA_not_, ↓xA_and_, ↓xA_or_, ↓xA_ife, ↓xA_tup, ↓xA_lst, ↓xA_dct, ↓xA_ix, ↓xA_sl, ↓xA_rev, ↓xA_fld, ↓xA_prop, ↓xA_call, ↓xA_callp, ↓xA_meth, ↓xA_mk, ↓xA_alloc, ↓xA_bi, ↓xA_isi, ↓xA_rng, ↓xA_bm, ↓xA_mm, ↓xA_lc, ↓xA_dc, ↓xA_eqo, ↓xA_var, ↓xE_lit, ↓xE_var, ↓xE_bin, ↓xE_neg, ↓xE_cmp, ↓xT_cmp, ↓xE_chain, ↓xT_chain, ↓xE_not_, ↓xT_not_, ↓xE_and_, ↓xT_and_, ↓xE_or_, ↓xT_or_, ↓xE_ife, ↓xT_ife, ↓xE_tup, ↓xE_lst, ↓xE_dct, ↓xE_ix, ↓xE_sl, ↓xE_rev, ↓xE_fld, ↓xE_call, ↓xE_callp, ↓xE_meth, ↓xE_mk, ↓xE_prop, ↓xE_alloc, ↓xE_bi, ↓xE_isi, ↓xT_isi, ↓xE_eqo, ↓xT_eqo, ↓xE_rng, ↓xE_bm, ↓xE_mm, ↓xT_lit, ↓xT_bin, ↓xT_neg, ↓xT_tup, ↓xT_lst, ↓xT_dct, ↓xT_ix, ↓xT_sl, ↓xT_rev, ↓xT_fld, ↓xT_prop, ↓xT_call, ↓xT_callp, ↓xT_meth, ↓xT_mk, ↓xT_alloc, ↓xT_bi, ↓xT_rng, ↓xT_bm, ↓xT_mm, ↓xT_lc, ↓xT_dc, ↓xT_var, ↓xV_nil, ↓xO_nil, ↓xU_nil, ↓xV_cons, ↓xO_cons, ↓xU_cons, ↓xV_star, ↓xF_nil, ↓xF_one, ↓xP_nil, ↓xP_cons, ↓xN_nil, ↓xN_cons, ↓xI_seq, ↓xI_rng1, ↓xI_rng2, ↓xI_enum0, ↓xI_items, ↓xI_zip, ↓xB_nil, ↓xB_cons, ↓xS_asgN, ↓xS_asgT, ↓xS_par, ↓xS_setix, ↓xS_setfld, ↓xS_ex, ↓xS_retV, ↓xS_ret_lit, ↓xS_ret_bin, ↓xS_ret_neg, ↓xS_ret_cmp, ↓xS_ret_chain, ↓xS_ret_not_, ↓xS_ret_and_, ↓xS_ret_or_, ↓xS_ret_ife, ↓xS_ret_tup, ↓xS_ret_lst, ↓xS_ret_dct, ↓xS_ret_ix, ↓xS_ret_sl, ↓xS_ret_rev, ↓xS_ret_fld, ↓xS_ret_prop, ↓xS_ret_call, ↓xS_ret_callp, ↓xS_ret_meth, ↓xS_ret_mk, ↓xS_ret_alloc, ↓xS_ret_bi, ↓xS_ret_isi, ↓xS_ret_rng, ↓xS_ret_bm, ↓xS_ret_mm, ↓xS_ret_lc, ↓xS_ret_dc, ↓xS_ret_eqo, ↓xS_retn, ↓xS_ife, ↓xS_for, ↓xS_while, ↓xS_pass, ↓xS_brk, ↓xS_cont, ↓xS_raise, ↓xS_try, ↓xG_name, ↓xG_tup, ↓xGs_nil, ↓xGs_cons, ↓loopH_nil, ↓loopH_cons, ↓xE_lc1, ↓optH_s, ↓iteH_t, ↓iteH_f, ↓andH_t, goH_go, ↓onSlot_v, ↓onSlot_o, ↓onInt_i, ↓onBl_b, ↓onOwn_o, ↓onTup_t, ↓onTup_l, ↓onCons_c, ↓onDct_d, ↓onZip_l, ↓onZip_t, ↓callH_mk, pick, List.getD_cons_zero, List.getD_cons_succ, ↓callH_in, ↓upH_s, ↓upH_r,
  vres_v, vres_s, look_own, look_val, view_int, view_bl, view_str, view_non, view_tup, view_lst, view_scr, view_dct, view_ins, view_r0, view_r1, Option.getD_some, Option.map_some, Option.map_none, Option.bind_some, Option.bind_none, Option.getD_none,
  fld_ins, isi_non, cl_int_non, cl_bool_non, cl_str_non, cl_tuple_non, cl_list_non, cl_dict_non, cl_own_non, notNon_non, isi_bl, cl_int_bl, cl_bool_bl, cl_str_bl, cl_tuple_bl, cl_list_bl, cl_dict_bl, cl_own_bl, notNon_bl, isi_int, cl_int_int, cl_bool_int, cl_str_int, cl_tuple_int, cl_list_int, cl_dict_int, cl_own_int, notNon_int, isi_str, cl_int_str, cl_bool_str, cl_str_str, cl_tuple_str, cl_list_str, cl_dict_str, cl_own_str, notNon_str, isi_tup, cl_int_tup, cl_bool_tup, cl_str_tup, cl_tuple_tup, cl_list_tup, cl_dict_tup, cl_own_tup, notNon_tup, isi_lst, cl_int_lst, cl_bool_lst, cl_str_lst, cl_tuple_lst, cl_list_lst, cl_dict_lst, cl_own_lst, notNon_lst, isi_dct, cl_int_dct, cl_bool_dct, cl_str_dct, cl_tuple_dct, cl_list_dct, cl_dict_dct, cl_own_dct, notNon_dct, isi_ins, cl_own_ins, notNon_ins, truth_non, truth_bl, truth_int, truth_tup, truth_lst, walk_tup, walk_lst, walk_scr, walk_str, seq_tup, seq_lst, frz_lst, frz_dct, frz_ins, ofrz_v, ofrz_o, oslot_v, oslot_o, keep_v, keep_o, keep_u, setsS_nil, setsS_cons, isLst_l, isIns_i, noField_i, mm_app, mm_popF, set_lst, set_dct, sf_ins, sl_tup, sl_lst, ress_nil, ress_cons,
  Bm.ok, all, List.any_cons, List.any_nil, List.contains_cons, List.contains_nil, Option.isSome_some, lookF, putF, wipeS, backS,
  List.getElem?_cons_zero, List.getElem?_cons_succ, List.length_cons, List.length_nil, List.map_cons, List.map_nil, List.replicate_zero, List.replicate_succ, List.cons_append, List.nil_append, List.set_cons_zero, List.set_cons_succ, List.getElem?_nil, Nat.reduceAdd, Nat.reduceSub, Nat.reduceLeDiff, Nat.reduceLT, Nat.reduceEqDiff, big, Int.cast_ofNat_Int, Int.reduceLE, Int.reduceLT, Int.reduceNeg, Int.reduceAdd, Int.reduceSub, Int.reduceMul, Int.reducePow, Int.reduceAbs, Int.reduceToNat, Int.reduceEq, Int.reduceDiv, Int.reduceMod, upTo,  
  ok_60, okAt_int, okAt_bl, okAt_str, okAt_non, okAt_tup, okAt_lst, okAts_nil, okAts_cons, okAts_mapI, okAts_mapS, okAts_mapB, Bool.and_true, Bool.true_and, Bool.and_false, Bool.false_and, Bool.or_true, Bool.true_or, Bool.or_false, Bool.false_or, Bool.not_true, Bool.not_false, Bool.not_not, Bool.false_eq_true, if_true, if_false, ↓reduceIte, decide_true, decide_false, decide_eq_true_eq, eq_self, true_and, and_true, and_self, ofString_inj, String.reduceEq,
  eqD_int, eqD_str, eqD_bl, eqD_tup, eqD_lst, eqD_nn, eqD_nt, eqD_tn, eqD_si, eqD_is, eqD_st, eqD_ts, eqD_ti, eqD_it, eqD_tl, eqD_lt, eqDs_nil, eqDs_cons, eqDs_nc, eqDs_cn, eqDs_strs, eqDs_ints, any_strs,
  atI_0, atI_1, atI_2, atI_3, atI_4, ix_tup, ix_lst, ix_dctS, getD_cons, putD_cons, putD_nil, keyFits_str, keyFits_int, isSome_keyAt, isSome_keyAt0, mergeD,
  cmp_eq, cmp_ne, cmp_in_tup, cmp_in_lst, cmp_nin_tup, cmp_nin_lst, cmp_in_dct, cmp_nin_dct, cmp_lt_int, cmp_gt_int, cmp_le_int, cmp_ge_int, cmp_is_non, cmp_isn_non, cmp_is_bl, cmp_isn_bl,
  add_int, sub_int, add_tup, add_lst, add_str, mul_int, mod_int, fdiv_int, pow_int, len_tup, len_lst, len_scr, abs_int, int_int, int_bl, max_int, min_int, list_tup, list_lst, tuple_tup, tuple_lst, all_bls, any_bls, lenset_strs, lenset_strsL, all_mapP, any_mapP, List.length_map, rec_view, rec_ok, rec_eq, ↓rec_tup, rec_ix0, rec_ix1, rec_ix2, rec_ix3, rule_view, rule_f0, rule_f1, rule_f2, rule_f3, max_rec, rec_fold, rule_frz, rule_isIns, rule_noField, rec_sl3, rec_sl1, way_view, way_frz, way_o, way_k, way_s, way_r, *])
local macro_rules | `(tactic| walk_at "lif") => `(tactic| (rw [if_pos]; rotate_left; (simp (config := { failIfUnchanged := false }) only [List.length_append, List.length_map, List.length_cons, List.length_nil, List.length_set, List.length_take, List.length_drop, List.length_range, big]; omega)))
local macro_rules | `(tactic| walk_at "len") => `(tactic| (rw [iteH_yes (p := _ ≤ _)]; rotate_left; (simp (config := { failIfUnchanged := false }) only [List.length_append, List.length_map, List.length_cons, List.length_nil, List.length_set, List.length_take, List.length_drop, List.length_range]; omega)))
theorem kept_key {r : RuleM} {s1 s2 s7 s8 s9 : Slot} (x : Str) (ps : List Part) (hl : ps.length ≤ 20) (N : QN) (P : Rst) (h3 : Hd N) (h4 : Hd P) : xB l__law_unlike_1 [.val r.WD, s1, s2, .own (.lst (ps.map Part.D)), .val (.str "kept"), .val (.lst [.str "done", .str "place", .str "stamp"]), .val (.str x), s7, s8, s9] s N P h3 h4 = N [.val r.WD, s1, s2, .own (.lst ((ps ++ [Part.k (toggM ["done", "place", "stamp"] r.kept x)]).map Part.D)), .val (.str "kept"), .val (.lst [.str "done", .str "place", .str "stamp"]), .val (.str x), Slot.keep s7, s8, s9] s := by
  unfold l__law_unlike_1
  walk_at "hp"
  rw [kept_m, lc_fm (fun y : Str => !(r.kept.contains y == decide (y = x))) D.str (fun y K => by walk_at "hp") (fun y K _ => by walk_at "hp") (by unfold big; decide)]
  walk_at "hp"
  rw [if_pos (show ps.length < 16777216 by omega)]
  walk_at "hp"
  rw [List.map_append]
  rfl
theorem raises_key {r : RuleM} {s1 s2 s7 s8 s9 : Slot} (x : Str) (ps : List Part) (hl : ps.length ≤ 20) (N : QN) (P : Rst) (h3 : Hd N) (h4 : Hd P) : xB l__law_unlike_1 [.val r.WD, s1, s2, .own (.lst (ps.map Part.D)), .val (.str "raises"), .val (.lst [.str "again", .str "back"]), .val (.str x), s7, s8, s9] s N P h3 h4 = N [.val r.WD, s1, s2, .own (.lst ((ps ++ [Part.r (toggM ["again", "back"] r.raises x)]).map Part.D)), .val (.str "raises"), .val (.lst [.str "again", .str "back"]), .val (.str x), Slot.keep s7, s8, s9] s := by
  unfold l__law_unlike_1
  walk_at "hp"
  rw [raises_m, lc_fm (fun y : Str => !(r.raises.contains y == decide (y = x))) D.str (fun y K => by walk_at "hp") (fun y K _ => by walk_at "hp") (by unfold big; decide)]
  walk_at "hp"
  rw [if_pos (show ps.length < 16777216 by omega)]
  walk_at "hp"
  rw [List.map_append]
  rfl
local macro_rules | `(tactic| walk_at "hp") => `(tactic| simp (config := { dsimp := false, failIfUnchanged := false, implicitDefEqProofs := false }) only [↓xA_lit, ↓xA_bin, ↓xA_neg, ↓xA_cmp, ↓xA_chain, ↓xA_not_, ↓xA_and_, ↓xA_or_, ↓xA_ife, ↓xA_tup, ↓xA_lst, ↓xA_dct, ↓xA_ix, ↓xA_sl, ↓xA_rev, ↓xA_fld, ↓xA_prop, ↓xA_call, ↓xA_callp, ↓xA_meth, ↓xA_mk, ↓xA_alloc, ↓xA_bi, ↓xA_isi, ↓xA_rng, ↓xA_bm, ↓xA_mm, ↓xA_lc, ↓xA_dc, ↓xA_eqo, ↓xA_var, ↓xE_lit, ↓xE_var, ↓xE_bin, ↓xE_neg, ↓xE_cmp, ↓xT_cmp, ↓xE_chain, ↓xT_chain, ↓xE_not_, ↓xT_not_, ↓xE_and_, ↓xT_and_, ↓xE_or_, ↓xT_or_, ↓xE_ife, ↓xT_ife, ↓xE_tup, ↓xE_lst, ↓xE_dct, ↓xE_ix, ↓xE_sl, ↓xE_rev, ↓xE_fld, ↓xE_call, ↓xE_callp, ↓xE_meth, ↓xE_mk, ↓xE_prop, ↓xE_alloc, ↓xE_bi, ↓xE_isi, ↓xT_isi, ↓xE_eqo, ↓xT_eqo, ↓xE_rng, ↓xE_bm, ↓xE_mm, ↓xT_lit, ↓xT_bin, ↓xT_neg, ↓xT_tup, ↓xT_lst, ↓xT_dct, ↓xT_ix, ↓xT_sl, ↓xT_rev, ↓xT_fld, ↓xT_prop, ↓xT_call, ↓xT_callp, ↓xT_meth, ↓xT_mk, ↓xT_alloc, ↓xT_bi, ↓xT_rng, ↓xT_bm, ↓xT_mm, ↓xT_lc, ↓xT_dc, ↓xT_var, ↓xV_nil, ↓xO_nil, ↓xU_nil, ↓xV_cons, ↓xO_cons, ↓xU_cons, ↓xV_star, ↓xF_nil, ↓xF_one, ↓xP_nil, ↓xP_cons, ↓xN_nil, ↓xN_cons, ↓xI_seq, ↓xI_rng1, ↓xI_rng2, ↓xI_enum0, ↓xI_items, ↓xI_zip, ↓xB_nil, ↓xB_cons, ↓xS_asgN, ↓xS_asgT, ↓xS_par, ↓xS_setix, ↓xS_setfld, ↓xS_ex, ↓xS_retV, ↓xS_ret_lit, ↓xS_ret_bin, ↓xS_ret_neg, ↓xS_ret_cmp, ↓xS_ret_chain, ↓xS_ret_not_, ↓xS_ret_and_, ↓xS_ret_or_, ↓xS_ret_ife, ↓xS_ret_tup, ↓xS_ret_lst, ↓xS_ret_dct, ↓xS_ret_ix, ↓xS_ret_sl, ↓xS_ret_rev, ↓xS_ret_fld, ↓xS_ret_prop, ↓xS_ret_call, ↓xS_ret_callp, ↓xS_ret_meth, ↓xS_ret_mk, ↓xS_ret_alloc, ↓xS_ret_bi, ↓xS_ret_isi, ↓xS_ret_rng, ↓xS_ret_bm, ↓xS_ret_mm, ↓xS_ret_lc, ↓xS_ret_dc, ↓xS_ret_eqo, ↓xS_retn, ↓xS_ife, ↓xS_for, ↓xS_while, ↓xS_pass, ↓xS_brk, ↓xS_cont, ↓xS_raise, ↓xS_try, ↓xG_name, ↓xG_tup, ↓xGs_nil, ↓xGs_cons, ↓loopH_nil, ↓loopH_cons, ↓xE_lc1, ↓optH_s, ↓iteH_t, ↓iteH_f, ↓andH_t, goH_go, ↓onSlot_v, ↓onSlot_o, ↓onInt_i, ↓onBl_b, ↓onOwn_o, ↓onTup_t, ↓onTup_l, ↓onCons_c, ↓onDct_d, ↓onZip_l, ↓onZip_t, ↓callH_mk, pick, List.getD_cons_zero, List.getD_cons_succ, ↓callH_in, ↓upH_s, ↓upH_r,
  vres_v, vres_s, look_own, look_val, view_int, view_bl, view_str, view_non, view_tup, view_lst, view_scr, view_dct, view_ins, view_r0, view_r1, Option.getD_some, Option.map_some, Option.map_none, Option.bind_some, Option.bind_none, Option.getD_none,
  fld_ins, isi_non, cl_int_non, cl_bool_non, cl_str_non, cl_tuple_non, cl_list_non, cl_dict_non, cl_own_non, notNon_non, isi_bl, cl_int_bl, cl_bool_bl, cl_str_bl, cl_tuple_bl, cl_list_bl, cl_dict_bl, cl_own_bl, notNon_bl, isi_int, cl_int_int, cl_bool_int, cl_str_int, cl_tuple_int, cl_list_int, cl_dict_int, cl_own_int, notNon_int, isi_str, cl_int_str, cl_bool_str, cl_str_str, cl_tuple_str, cl_list_str, cl_dict_str, cl_own_str, notNon_str, isi_tup, cl_int_tup, cl_bool_tup, cl_str_tup, cl_tuple_tup, cl_list_tup, cl_dict_tup, cl_own_tup, notNon_tup, isi_lst, cl_int_lst, cl_bool_lst, cl_str_lst, cl_tuple_lst, cl_list_lst, cl_dict_lst, cl_own_lst, notNon_lst, isi_dct, cl_int_dct, cl_bool_dct, cl_str_dct, cl_tuple_dct, cl_list_dct, cl_dict_dct, cl_own_dct, notNon_dct, isi_ins, cl_own_ins, notNon_ins, truth_non, truth_bl, truth_int, truth_tup, truth_lst, walk_tup, walk_lst, walk_scr, walk_str, seq_tup, seq_lst, frz_lst, frz_dct, frz_ins, ofrz_v, ofrz_o, oslot_v, oslot_o, keep_v, keep_o, keep_u, setsS_nil, setsS_cons, isLst_l, isIns_i, noField_i, mm_app, mm_popF, set_lst, set_dct, sf_ins, sl_tup, sl_lst, ress_nil, ress_cons,
  Bm.ok, all, List.any_cons, List.any_nil, List.contains_cons, List.contains_nil, Option.isSome_some, lookF, putF, wipeS, backS,
  List.getElem?_cons_zero, List.getElem?_cons_succ, List.length_cons, List.length_nil, List.map_cons, List.map_nil, List.replicate_zero, List.replicate_succ, List.cons_append, List.nil_append, List.set_cons_zero, List.set_cons_succ, List.getElem?_nil, Nat.reduceAdd, Nat.reduceSub, Nat.reduceLeDiff, Nat.reduceLT, Nat.reduceEqDiff, big, Int.cast_ofNat_Int, Int.reduceLE, Int.reduceLT, Int.reduceNeg, Int.reduceAdd, Int.reduceSub, Int.reduceMul, Int.reducePow, Int.reduceAbs, Int.reduceToNat, Int.reduceEq, Int.reduceDiv, Int.reduceMod, upTo, ↓lcH_nil, ↓lcH_cons,
  ok_60, okAt_int, okAt_bl, okAt_str, okAt_non, okAt_tup, okAt_lst, okAts_nil, okAts_cons, okAts_mapI, okAts_mapS, okAts_mapB, Bool.and_true, Bool.true_and, Bool.and_false, Bool.false_and, Bool.or_true, Bool.true_or, Bool.or_false, Bool.false_or, Bool.not_true, Bool.not_false, Bool.not_not, Bool.false_eq_true, if_true, if_false, ↓reduceIte, decide_true, decide_false, decide_eq_true_eq, eq_self, true_and, and_true, and_self, ofString_inj, String.reduceEq,
  eqD_int, eqD_str, eqD_bl, eqD_tup, eqD_lst, eqD_nn, eqD_nt, eqD_tn, eqD_si, eqD_is, eqD_st, eqD_ts, eqD_ti, eqD_it, eqD_tl, eqD_lt, eqDs_nil, eqDs_cons, eqDs_nc, eqDs_cn, eqDs_strs, eqDs_ints, any_strs,
  atI_0, atI_1, atI_2, atI_3, atI_4, ix_tup, ix_lst, ix_dctS, getD_cons, putD_cons, putD_nil, keyFits_str, keyFits_int, isSome_keyAt, isSome_keyAt0, mergeD,
  cmp_eq, cmp_ne, cmp_in_tup, cmp_in_lst, cmp_nin_tup, cmp_nin_lst, cmp_in_dct, cmp_nin_dct, cmp_lt_int, cmp_gt_int, cmp_le_int, cmp_ge_int, cmp_is_non, cmp_isn_non, cmp_is_bl, cmp_isn_bl,
  add_int, sub_int, add_tup, add_lst, add_str, mul_int, mod_int, fdiv_int, pow_int, len_tup, len_lst, len_scr, abs_int, int_int, int_bl, max_int, min_int, list_tup, list_lst, tuple_tup, tuple_lst, all_bls, any_bls, lenset_strs, lenset_strsL, all_mapP, any_mapP, List.length_map, rec_view, rec_ok, rec_eq, ↓rec_tup, rec_ix0, rec_ix1, rec_ix2, rec_ix3, rule_view, rule_f0, rule_f1, rule_f2, rule_f3, max_rec, rec_fold, rule_frz, rule_isIns, rule_noField, rec_sl3, rec_sl1, way_view, way_frz, way_o, way_k, way_s, way_r])
local macro_rules | `(tactic| walk_at "hps") => `(tactic| simp (config := { dsimp := false, failIfUnchanged := false, implicitDefEqProofs := false }) only [↓xA_lit, ↓xA_bin, ↓xA_neg, ↓xA_cmp, ↓xA_chain, ↓xA_not_, ↓xA_and_, ↓xA_or_, ↓xA_ife, ↓xA_tup, ↓xA_lst, ↓xA_dct, ↓xA_ix, ↓xA_sl, ↓xA_rev, ↓xA_fld, ↓xA_prop, ↓xA_call, ↓xA_callp, ↓xA_meth, ↓xA_mk, ↓xA_alloc, ↓xA_bi, ↓xA_isi, ↓xA_rng, ↓xA_bm, ↓xA_mm, ↓xA_lc, ↓xA_dc, ↓xA_eqo, ↓xA_var, ↓xE_lit, ↓xE_var, ↓xE_bin, ↓xE_neg, ↓xE_cmp, ↓xT_cmp, ↓xE_chain, ↓xT_chain, ↓xE_not_, ↓xT_not_, ↓xE_and_, ↓xT_and_, ↓xE_or_, ↓xT_or_, ↓xE_ife, ↓xT_ife, ↓xE_tup, ↓xE_lst, ↓xE_dct, ↓xE_ix, ↓xE_sl, ↓xE_rev, ↓xE_fld, ↓xE_call, ↓xE_callp, ↓xE_meth, ↓xE_mk, ↓xE_prop, ↓xE_alloc, ↓xE_bi, ↓xE_isi, ↓xT_isi, ↓xE_eqo, ↓xT_eqo, ↓xE_rng, ↓xE_bm, ↓xE_mm, ↓xT_lit, ↓xT_bin, ↓xT_neg, ↓xT_tup, ↓xT_lst, ↓xT_dct, ↓xT_ix, ↓xT_sl, ↓xT_rev, ↓xT_fld, ↓xT_prop, ↓xT_call, ↓xT_callp, ↓xT_meth, ↓xT_mk, ↓xT_alloc, ↓xT_bi, ↓xT_rng, ↓xT_bm, ↓xT_mm, ↓xT_lc, ↓xT_dc, ↓xT_var, ↓xV_nil, ↓xO_nil, ↓xU_nil, ↓xV_cons, ↓xO_cons, ↓xU_cons, ↓xV_star, ↓xF_nil, ↓xF_one, ↓xP_nil, ↓xP_cons, ↓xN_nil, ↓xN_cons, ↓xI_seq, ↓xI_rng1, ↓xI_rng2, ↓xI_enum0, ↓xI_items, ↓xI_zip, ↓xB_nil, ↓xB_cons, ↓xS_asgN, ↓xS_asgT, ↓xS_par, ↓xS_setix, ↓xS_setfld, ↓xS_ex, ↓xS_retV, ↓xS_ret_lit, ↓xS_ret_bin, ↓xS_ret_neg, ↓xS_ret_cmp, ↓xS_ret_chain, ↓xS_ret_not_, ↓xS_ret_and_, ↓xS_ret_or_, ↓xS_ret_ife, ↓xS_ret_tup, ↓xS_ret_lst, ↓xS_ret_dct, ↓xS_ret_ix, ↓xS_ret_sl, ↓xS_ret_rev, ↓xS_ret_fld, ↓xS_ret_prop, ↓xS_ret_call, ↓xS_ret_callp, ↓xS_ret_meth, ↓xS_ret_mk, ↓xS_ret_alloc, ↓xS_ret_bi, ↓xS_ret_isi, ↓xS_ret_rng, ↓xS_ret_bm, ↓xS_ret_mm, ↓xS_ret_lc, ↓xS_ret_dc, ↓xS_ret_eqo, ↓xS_retn, ↓xS_ife, ↓xS_for, ↓xS_while, ↓xS_pass, ↓xS_brk, ↓xS_cont, ↓xS_raise, ↓xS_try, ↓xG_name, ↓xG_tup, ↓xGs_nil, ↓xGs_cons, ↓loopH_nil, ↓loopH_cons, ↓xE_lc1, ↓optH_s, ↓iteH_t, ↓iteH_f, ↓andH_t, goH_go, ↓onSlot_v, ↓onSlot_o, ↓onInt_i, ↓onBl_b, ↓onOwn_o, ↓onTup_t, ↓onTup_l, ↓onCons_c, ↓onDct_d, ↓onZip_l, ↓onZip_t, ↓callH_mk, pick, List.getD_cons_zero, List.getD_cons_succ, ↓callH_in, ↓upH_s, ↓upH_r,
  vres_v, vres_s, look_own, look_val, view_int, view_bl, view_str, view_non, view_tup, view_lst, view_scr, view_dct, view_ins, view_r0, view_r1, Option.getD_some, Option.map_some, Option.map_none, Option.bind_some, Option.bind_none, Option.getD_none,
  fld_ins, isi_non, cl_int_non, cl_bool_non, cl_str_non, cl_tuple_non, cl_list_non, cl_dict_non, cl_own_non, notNon_non, isi_bl, cl_int_bl, cl_bool_bl, cl_str_bl, cl_tuple_bl, cl_list_bl, cl_dict_bl, cl_own_bl, notNon_bl, isi_int, cl_int_int, cl_bool_int, cl_str_int, cl_tuple_int, cl_list_int, cl_dict_int, cl_own_int, notNon_int, isi_str, cl_int_str, cl_bool_str, cl_str_str, cl_tuple_str, cl_list_str, cl_dict_str, cl_own_str, notNon_str, isi_tup, cl_int_tup, cl_bool_tup, cl_str_tup, cl_tuple_tup, cl_list_tup, cl_dict_tup, cl_own_tup, notNon_tup, isi_lst, cl_int_lst, cl_bool_lst, cl_str_lst, cl_tuple_lst, cl_list_lst, cl_dict_lst, cl_own_lst, notNon_lst, isi_dct, cl_int_dct, cl_bool_dct, cl_str_dct, cl_tuple_dct, cl_list_dct, cl_dict_dct, cl_own_dct, notNon_dct, isi_ins, cl_own_ins, notNon_ins, truth_non, truth_bl, truth_int, truth_tup, truth_lst, walk_tup, walk_lst, walk_scr, walk_str, seq_tup, seq_lst, frz_lst, frz_dct, frz_ins, ofrz_v, ofrz_o, oslot_v, oslot_o, keep_v, keep_o, keep_u, setsS_nil, setsS_cons, isLst_l, isIns_i, noField_i, mm_app, mm_popF, set_lst, set_dct, sf_ins, sl_tup, sl_lst, ress_nil, ress_cons,
  Bm.ok, all, List.any_cons, List.any_nil, List.contains_cons, List.contains_nil, Option.isSome_some, lookF, putF, wipeS, backS,
  List.getElem?_cons_zero, List.getElem?_cons_succ, List.length_cons, List.length_nil, List.map_cons, List.map_nil, List.replicate_zero, List.replicate_succ, List.cons_append, List.nil_append, List.set_cons_zero, List.set_cons_succ, List.getElem?_nil, Nat.reduceAdd, Nat.reduceSub, Nat.reduceLeDiff, Nat.reduceLT, Nat.reduceEqDiff, big, Int.cast_ofNat_Int, Int.reduceLE, Int.reduceLT, Int.reduceNeg, Int.reduceAdd, Int.reduceSub, Int.reduceMul, Int.reducePow, Int.reduceAbs, Int.reduceToNat, Int.reduceEq, Int.reduceDiv, Int.reduceMod, upTo, ↓lcH_nil, ↓lcH_cons,
  ok_60, okAt_int, okAt_bl, okAt_str, okAt_non, okAt_tup, okAt_lst, okAts_nil, okAts_cons, okAts_mapI, okAts_mapS, okAts_mapB, Bool.and_true, Bool.true_and, Bool.and_false, Bool.false_and, Bool.or_true, Bool.true_or, Bool.or_false, Bool.false_or, Bool.not_true, Bool.not_false, Bool.not_not, Bool.false_eq_true, if_true, if_false, ↓reduceIte, decide_true, decide_false, decide_eq_true_eq, eq_self, true_and, and_true, and_self, ofString_inj, String.reduceEq,
  eqD_int, eqD_str, eqD_bl, eqD_tup, eqD_lst, eqD_nn, eqD_nt, eqD_tn, eqD_si, eqD_is, eqD_st, eqD_ts, eqD_ti, eqD_it, eqD_tl, eqD_lt, eqDs_nil, eqDs_cons, eqDs_nc, eqDs_cn, eqDs_strs, eqDs_ints, any_strs,
  atI_0, atI_1, atI_2, atI_3, atI_4, ix_tup, ix_lst, ix_dctS, getD_cons, putD_cons, putD_nil, keyFits_str, keyFits_int, isSome_keyAt, isSome_keyAt0, mergeD,
  cmp_eq, cmp_ne, cmp_in_tup, cmp_in_lst, cmp_nin_tup, cmp_nin_lst, cmp_in_dct, cmp_nin_dct, cmp_lt_int, cmp_gt_int, cmp_le_int, cmp_ge_int, cmp_is_non, cmp_isn_non, cmp_is_bl, cmp_isn_bl,
  add_int, sub_int, add_tup, add_lst, add_str, mul_int, mod_int, fdiv_int, pow_int, len_tup, len_lst, len_scr, abs_int, int_int, int_bl, max_int, min_int, list_tup, list_lst, tuple_tup, tuple_lst, all_bls, any_bls, lenset_strs, lenset_strsL, all_mapP, any_mapP, List.length_map, rec_view, rec_ok, rec_eq, ↓rec_tup, rec_ix0, rec_ix1, rec_ix2, rec_ix3, rule_view, rule_f0, rule_f1, rule_f2, rule_f3, max_rec, rec_fold, rule_frz, rule_isIns, rule_noField, rec_sl3, rec_sl1, way_view, way_frz, way_o, way_k, way_s, way_r, *])
local macro_rules | `(tactic| walk_at "lif") => `(tactic| (rw [if_pos]; rotate_left; (simp (config := { failIfUnchanged := false }) only [List.length_append, List.length_map, List.length_cons, List.length_nil, List.length_set, List.length_take, List.length_drop, List.length_range, big]; omega)))
local macro_rules | `(tactic| walk_at "len") => `(tactic| (rw [iteH_yes (p := _ ≤ _)]; rotate_left; (simp (config := { failIfUnchanged := false }) only [List.length_append, List.length_map, List.length_cons, List.length_nil, List.length_set, List.length_take, List.length_drop, List.length_range]; omega)))
theorem unlike_rest {r : RuleM} {N : QN} {P : Rst} {h3 : Hd N} {h4 : Hd P} {s2 s4 s5 s6 s7 s8 s9 : Slot} (ps : List Part) (hps : ps.length ≤ 4) (hP : ∀ o, o = Out.own (.lst ((ps ++ ((["done", "place", "stamp"] : List Str).map fun x => Part.k (toggM ["done", "place", "stamp"] r.kept x)) ++ ((["again", "back"] : List Str).map fun x => Part.r (toggM ["again", "back"] r.raises x))).map (alterD r))) → P.rt o s) :
    ∀ T, T = Ss.drop3' b__law_unlike → xB T [.val r.WD, .own (.lst []), s2, .own (.lst (ps.map Part.D)), s4, s5, s6, s7, s8, s9] s N P h3 h4 := by
  intro T hT
  simp only [b__law_unlike, Ss.drop3'] at hT
  subst hT
  walk_at "hp"
  unfold l__law_unlike_2
  walk_at "hp"
  rw [kept_key "done" _ (by omega)]
  walk_at "hp"
  rw [kept_key "place" _ (by simp only [List.length_append, List.length_singleton]; omega)]
  walk_at "hp"
  rw [kept_key "stamp" _ (by simp only [List.length_append, List.length_singleton]; omega)]
  walk_at "hp"
  rw [raises_key "again" _ (by simp only [List.length_append, List.length_singleton]; omega)]
  walk_at "hp"
  rw [raises_key "back" _ (by simp only [List.length_append, List.length_singleton]; omega)]
  walk_at "hp"
  refine alter_loop _ (by simp only [List.length_append, List.length_singleton]; omega) (fun s4 s8 s9 => ?_) _ [] _ _ _ rfl
  walk_at "hp"
  refine hP _ ?_
  simp only [List.map_cons, List.map_nil, List.append_assoc, List.cons_append, List.nil_append]
theorem cut1 (x y : D) (l : List D) : cutD (x :: y :: l) (some 1) none = y :: l := cut_drop1 (x :: y :: l) 0
theorem cut2 (x y : D) (l : List D) : cutD (x :: y :: l) (some 2) none = l := cut_drop1 (x :: y :: l) 1
local macro_rules | `(tactic| walk_at "hp") => `(tactic| simp (config := { dsimp := false, failIfUnchanged := false, implicitDefEqProofs := false }) only [↓xA_lit, ↓xA_bin, ↓xA_neg, ↓xA_cmp, ↓xA_chain, ↓xA_not_, ↓xA_and_, ↓xA_or_, ↓xA_ife, ↓xA_tup, ↓xA_lst, ↓xA_dct, ↓xA_ix, ↓xA_sl, ↓xA_rev, ↓xA_fld, ↓xA_prop, ↓xA_call, ↓xA_callp, ↓xA_meth, ↓xA_mk, ↓xA_alloc, ↓xA_bi, ↓xA_isi, ↓xA_rng, ↓xA_bm, ↓xA_mm, ↓xA_lc, ↓xA_dc, ↓xA_eqo, ↓xA_var, ↓xE_lit, ↓xE_var, ↓xE_bin, ↓xE_neg, ↓xE_cmp, ↓xT_cmp, ↓xE_chain, ↓xT_chain, ↓xE_not_, ↓xT_not_, ↓xE_and_, ↓xT_and_, ↓xE_or_, ↓xT_or_, ↓xE_ife, ↓xT_ife, ↓xE_tup, ↓xE_lst, ↓xE_dct, ↓xE_ix, ↓xE_sl, ↓xE_rev, ↓xE_fld, ↓xE_call, ↓xE_callp, ↓xE_meth, ↓xE_mk, ↓xE_prop, ↓xE_alloc, ↓xE_bi, ↓xE_isi, ↓xT_isi, ↓xE_eqo, ↓xT_eqo, ↓xE_rng, ↓xE_bm, ↓xE_mm, ↓xT_lit, ↓xT_bin, ↓xT_neg, ↓xT_tup, ↓xT_lst, ↓xT_dct, ↓xT_ix, ↓xT_sl, ↓xT_rev, ↓xT_fld, ↓xT_prop, ↓xT_call, ↓xT_callp, ↓xT_meth, ↓xT_mk, ↓xT_alloc, ↓xT_bi, ↓xT_rng, ↓xT_bm, ↓xT_mm, ↓xT_lc, ↓xT_dc, ↓xT_var, ↓xV_nil, ↓xO_nil, ↓xU_nil, ↓xV_cons, ↓xO_cons, ↓xU_cons, ↓xV_star, ↓xF_nil, ↓xF_one, ↓xP_nil, ↓xP_cons, ↓xN_nil, ↓xN_cons, ↓xI_seq, ↓xI_rng1, ↓xI_rng2, ↓xI_enum0, ↓xI_items, ↓xI_zip, ↓xB_nil, ↓xB_cons, ↓xS_asgN, ↓xS_asgT, ↓xS_par, ↓xS_setix, ↓xS_setfld, ↓xS_ex, ↓xS_retV, ↓xS_ret_lit, ↓xS_ret_bin, ↓xS_ret_neg, ↓xS_ret_cmp, ↓xS_ret_chain, ↓xS_ret_not_, ↓xS_ret_and_, ↓xS_ret_or_, ↓xS_ret_ife, ↓xS_ret_tup, ↓xS_ret_lst, ↓xS_ret_dct, ↓xS_ret_ix, ↓xS_ret_sl, ↓xS_ret_rev, ↓xS_ret_fld, ↓xS_ret_prop, ↓xS_ret_call, ↓xS_ret_callp, ↓xS_ret_meth, ↓xS_ret_mk, ↓xS_ret_alloc, ↓xS_ret_bi, ↓xS_ret_isi, ↓xS_ret_rng, ↓xS_ret_bm, ↓xS_ret_mm, ↓xS_ret_lc, ↓xS_ret_dc, ↓xS_ret_eqo, ↓xS_retn, ↓xS_ife, ↓xS_for, ↓xS_while, ↓xS_pass, ↓xS_brk, ↓xS_cont, ↓xS_raise, ↓xS_try, ↓xG_name, ↓xG_tup, ↓xGs_nil, ↓xGs_cons, ↓loopH_nil, ↓loopH_cons, ↓xE_lc1, ↓optH_s, ↓iteH_t, ↓iteH_f, ↓andH_t, goH_go, ↓onSlot_v, ↓onSlot_o, ↓onInt_i, ↓onBl_b, ↓onOwn_o, ↓onTup_t, ↓onTup_l, ↓onCons_c, ↓onDct_d, ↓onZip_l, ↓onZip_t, ↓callH_mk, pick, List.getD_cons_zero, List.getD_cons_succ, ↓callH_in, ↓upH_s, ↓upH_r,
  vres_v, vres_s, look_own, look_val, view_int, view_bl, view_str, view_non, view_tup, view_lst, view_scr, view_dct, view_ins, view_r0, view_r1, Option.getD_some, Option.map_some, Option.map_none, Option.bind_some, Option.bind_none, Option.getD_none,
  fld_ins, isi_non, cl_int_non, cl_bool_non, cl_str_non, cl_tuple_non, cl_list_non, cl_dict_non, cl_own_non, notNon_non, isi_bl, cl_int_bl, cl_bool_bl, cl_str_bl, cl_tuple_bl, cl_list_bl, cl_dict_bl, cl_own_bl, notNon_bl, isi_int, cl_int_int, cl_bool_int, cl_str_int, cl_tuple_int, cl_list_int, cl_dict_int, cl_own_int, notNon_int, isi_str, cl_int_str, cl_bool_str, cl_str_str, cl_tuple_str, cl_list_str, cl_dict_str, cl_own_str, notNon_str, isi_tup, cl_int_tup, cl_bool_tup, cl_str_tup, cl_tuple_tup, cl_list_tup, cl_dict_tup, cl_own_tup, notNon_tup, isi_lst, cl_int_lst, cl_bool_lst, cl_str_lst, cl_tuple_lst, cl_list_lst, cl_dict_lst, cl_own_lst, notNon_lst, isi_dct, cl_int_dct, cl_bool_dct, cl_str_dct, cl_tuple_dct, cl_list_dct, cl_dict_dct, cl_own_dct, notNon_dct, isi_ins, cl_own_ins, notNon_ins, truth_non, truth_bl, truth_int, truth_tup, truth_lst, walk_tup, walk_lst, walk_scr, walk_str, seq_tup, seq_lst, frz_lst, frz_dct, frz_ins, ofrz_v, ofrz_o, oslot_v, oslot_o, keep_v, keep_o, keep_u, setsS_nil, setsS_cons, isLst_l, isIns_i, noField_i, mm_app, mm_popF, set_lst, set_dct, sf_ins, sl_tup, sl_lst, ress_nil, ress_cons,
  Bm.ok, all, List.any_cons, List.any_nil, List.contains_cons, List.contains_nil, Option.isSome_some, lookF, putF, wipeS, backS,
  List.getElem?_cons_zero, List.getElem?_cons_succ, List.length_cons, List.length_nil, List.map_cons, List.map_nil, List.replicate_zero, List.replicate_succ, List.cons_append, List.nil_append, List.set_cons_zero, List.set_cons_succ, List.getElem?_nil, Nat.reduceAdd, Nat.reduceSub, Nat.reduceLeDiff, Nat.reduceLT, Nat.reduceEqDiff, big, Int.cast_ofNat_Int, Int.reduceLE, Int.reduceLT, Int.reduceNeg, Int.reduceAdd, Int.reduceSub, Int.reduceMul, Int.reducePow, Int.reduceAbs, Int.reduceToNat, Int.reduceEq, Int.reduceDiv, Int.reduceMod, upTo, ↓lcH_nil, ↓lcH_cons,
  ok_60, okAt_int, okAt_bl, okAt_str, okAt_non, okAt_tup, okAt_lst, okAts_nil, okAts_cons, okAts_mapI, okAts_mapS, okAts_mapB, Bool.and_true, Bool.true_and, Bool.and_false, Bool.false_and, Bool.or_true, Bool.true_or, Bool.or_false, Bool.false_or, Bool.not_true, Bool.not_false, Bool.not_not, Bool.false_eq_true, if_true, if_false, ↓reduceIte, decide_true, decide_false, decide_eq_true_eq, eq_self, true_and, and_true, and_self, ofString_inj, String.reduceEq,
  eqD_int, eqD_str, eqD_bl, eqD_tup, eqD_lst, eqD_nn, eqD_nt, eqD_tn, eqD_si, eqD_is, eqD_st, eqD_ts, eqD_ti, eqD_it, eqD_tl, eqD_lt, eqDs_nil, eqDs_cons, eqDs_nc, eqDs_cn, eqDs_strs, eqDs_ints, any_strs,
  atI_0, atI_1, atI_2, atI_3, atI_4, ix_tup, ix_lst, ix_dctS, getD_cons, putD_cons, putD_nil, keyFits_str, keyFits_int, isSome_keyAt, isSome_keyAt0, mergeD,
  cmp_eq, cmp_ne, cmp_in_tup, cmp_in_lst, cmp_nin_tup, cmp_nin_lst, cmp_in_dct, cmp_nin_dct, cmp_lt_int, cmp_gt_int, cmp_le_int, cmp_ge_int, cmp_is_non, cmp_isn_non, cmp_is_bl, cmp_isn_bl,
  add_int, sub_int, add_tup, add_lst, add_str, mul_int, mod_int, fdiv_int, pow_int, len_tup, len_lst, len_scr, abs_int, int_int, int_bl, max_int, min_int, list_tup, list_lst, tuple_tup, tuple_lst, all_bls, any_bls, lenset_strs, lenset_strsL, all_mapP, any_mapP, List.length_map, rec_view, rec_ok, rec_eq, ↓rec_tup, rec_ix0, rec_ix1, rec_ix2, rec_ix3, rule_view, rule_f0, rule_f1, rule_f2, rule_f3, max_rec, rec_fold, rule_frz, rule_isIns, rule_noField, rec_sl3, rec_sl1, way_view, way_frz, way_o, way_k, way_s, way_r, cut1, cut2])
local macro_rules | `(tactic| walk_at "hps") => `(tactic| simp (config := { dsimp := false, failIfUnchanged := false, implicitDefEqProofs := false }) only [↓xA_lit, ↓xA_bin, ↓xA_neg, ↓xA_cmp, ↓xA_chain, ↓xA_not_, ↓xA_and_, ↓xA_or_, ↓xA_ife, ↓xA_tup, ↓xA_lst, ↓xA_dct, ↓xA_ix, ↓xA_sl, ↓xA_rev, ↓xA_fld, ↓xA_prop, ↓xA_call, ↓xA_callp, ↓xA_meth, ↓xA_mk, ↓xA_alloc, ↓xA_bi, ↓xA_isi, ↓xA_rng, ↓xA_bm, ↓xA_mm, ↓xA_lc, ↓xA_dc, ↓xA_eqo, ↓xA_var, ↓xE_lit, ↓xE_var, ↓xE_bin, ↓xE_neg, ↓xE_cmp, ↓xT_cmp, ↓xE_chain, ↓xT_chain, ↓xE_not_, ↓xT_not_, ↓xE_and_, ↓xT_and_, ↓xE_or_, ↓xT_or_, ↓xE_ife, ↓xT_ife, ↓xE_tup, ↓xE_lst, ↓xE_dct, ↓xE_ix, ↓xE_sl, ↓xE_rev, ↓xE_fld, ↓xE_call, ↓xE_callp, ↓xE_meth, ↓xE_mk, ↓xE_prop, ↓xE_alloc, ↓xE_bi, ↓xE_isi, ↓xT_isi, ↓xE_eqo, ↓xT_eqo, ↓xE_rng, ↓xE_bm, ↓xE_mm, ↓xT_lit, ↓xT_bin, ↓xT_neg, ↓xT_tup, ↓xT_lst, ↓xT_dct, ↓xT_ix, ↓xT_sl, ↓xT_rev, ↓xT_fld, ↓xT_prop, ↓xT_call, ↓xT_callp, ↓xT_meth, ↓xT_mk, ↓xT_alloc, ↓xT_bi, ↓xT_rng, ↓xT_bm, ↓xT_mm, ↓xT_lc, ↓xT_dc, ↓xT_var, ↓xV_nil, ↓xO_nil, ↓xU_nil, ↓xV_cons, ↓xO_cons, ↓xU_cons, ↓xV_star, ↓xF_nil, ↓xF_one, ↓xP_nil, ↓xP_cons, ↓xN_nil, ↓xN_cons, ↓xI_seq, ↓xI_rng1, ↓xI_rng2, ↓xI_enum0, ↓xI_items, ↓xI_zip, ↓xB_nil, ↓xB_cons, ↓xS_asgN, ↓xS_asgT, ↓xS_par, ↓xS_setix, ↓xS_setfld, ↓xS_ex, ↓xS_retV, ↓xS_ret_lit, ↓xS_ret_bin, ↓xS_ret_neg, ↓xS_ret_cmp, ↓xS_ret_chain, ↓xS_ret_not_, ↓xS_ret_and_, ↓xS_ret_or_, ↓xS_ret_ife, ↓xS_ret_tup, ↓xS_ret_lst, ↓xS_ret_dct, ↓xS_ret_ix, ↓xS_ret_sl, ↓xS_ret_rev, ↓xS_ret_fld, ↓xS_ret_prop, ↓xS_ret_call, ↓xS_ret_callp, ↓xS_ret_meth, ↓xS_ret_mk, ↓xS_ret_alloc, ↓xS_ret_bi, ↓xS_ret_isi, ↓xS_ret_rng, ↓xS_ret_bm, ↓xS_ret_mm, ↓xS_ret_lc, ↓xS_ret_dc, ↓xS_ret_eqo, ↓xS_retn, ↓xS_ife, ↓xS_for, ↓xS_while, ↓xS_pass, ↓xS_brk, ↓xS_cont, ↓xS_raise, ↓xS_try, ↓xG_name, ↓xG_tup, ↓xGs_nil, ↓xGs_cons, ↓loopH_nil, ↓loopH_cons, ↓xE_lc1, ↓optH_s, ↓iteH_t, ↓iteH_f, ↓andH_t, goH_go, ↓onSlot_v, ↓onSlot_o, ↓onInt_i, ↓onBl_b, ↓onOwn_o, ↓onTup_t, ↓onTup_l, ↓onCons_c, ↓onDct_d, ↓onZip_l, ↓onZip_t, ↓callH_mk, pick, List.getD_cons_zero, List.getD_cons_succ, ↓callH_in, ↓upH_s, ↓upH_r,
  vres_v, vres_s, look_own, look_val, view_int, view_bl, view_str, view_non, view_tup, view_lst, view_scr, view_dct, view_ins, view_r0, view_r1, Option.getD_some, Option.map_some, Option.map_none, Option.bind_some, Option.bind_none, Option.getD_none,
  fld_ins, isi_non, cl_int_non, cl_bool_non, cl_str_non, cl_tuple_non, cl_list_non, cl_dict_non, cl_own_non, notNon_non, isi_bl, cl_int_bl, cl_bool_bl, cl_str_bl, cl_tuple_bl, cl_list_bl, cl_dict_bl, cl_own_bl, notNon_bl, isi_int, cl_int_int, cl_bool_int, cl_str_int, cl_tuple_int, cl_list_int, cl_dict_int, cl_own_int, notNon_int, isi_str, cl_int_str, cl_bool_str, cl_str_str, cl_tuple_str, cl_list_str, cl_dict_str, cl_own_str, notNon_str, isi_tup, cl_int_tup, cl_bool_tup, cl_str_tup, cl_tuple_tup, cl_list_tup, cl_dict_tup, cl_own_tup, notNon_tup, isi_lst, cl_int_lst, cl_bool_lst, cl_str_lst, cl_tuple_lst, cl_list_lst, cl_dict_lst, cl_own_lst, notNon_lst, isi_dct, cl_int_dct, cl_bool_dct, cl_str_dct, cl_tuple_dct, cl_list_dct, cl_dict_dct, cl_own_dct, notNon_dct, isi_ins, cl_own_ins, notNon_ins, truth_non, truth_bl, truth_int, truth_tup, truth_lst, walk_tup, walk_lst, walk_scr, walk_str, seq_tup, seq_lst, frz_lst, frz_dct, frz_ins, ofrz_v, ofrz_o, oslot_v, oslot_o, keep_v, keep_o, keep_u, setsS_nil, setsS_cons, isLst_l, isIns_i, noField_i, mm_app, mm_popF, set_lst, set_dct, sf_ins, sl_tup, sl_lst, ress_nil, ress_cons,
  Bm.ok, all, List.any_cons, List.any_nil, List.contains_cons, List.contains_nil, Option.isSome_some, lookF, putF, wipeS, backS,
  List.getElem?_cons_zero, List.getElem?_cons_succ, List.length_cons, List.length_nil, List.map_cons, List.map_nil, List.replicate_zero, List.replicate_succ, List.cons_append, List.nil_append, List.set_cons_zero, List.set_cons_succ, List.getElem?_nil, Nat.reduceAdd, Nat.reduceSub, Nat.reduceLeDiff, Nat.reduceLT, Nat.reduceEqDiff, big, Int.cast_ofNat_Int, Int.reduceLE, Int.reduceLT, Int.reduceNeg, Int.reduceAdd, Int.reduceSub, Int.reduceMul, Int.reducePow, Int.reduceAbs, Int.reduceToNat, Int.reduceEq, Int.reduceDiv, Int.reduceMod, upTo, ↓lcH_nil, ↓lcH_cons,
  ok_60, okAt_int, okAt_bl, okAt_str, okAt_non, okAt_tup, okAt_lst, okAts_nil, okAts_cons, okAts_mapI, okAts_mapS, okAts_mapB, Bool.and_true, Bool.true_and, Bool.and_false, Bool.false_and, Bool.or_true, Bool.true_or, Bool.or_false, Bool.false_or, Bool.not_true, Bool.not_false, Bool.not_not, Bool.false_eq_true, if_true, if_false, ↓reduceIte, decide_true, decide_false, decide_eq_true_eq, eq_self, true_and, and_true, and_self, ofString_inj, String.reduceEq,
  eqD_int, eqD_str, eqD_bl, eqD_tup, eqD_lst, eqD_nn, eqD_nt, eqD_tn, eqD_si, eqD_is, eqD_st, eqD_ts, eqD_ti, eqD_it, eqD_tl, eqD_lt, eqDs_nil, eqDs_cons, eqDs_nc, eqDs_cn, eqDs_strs, eqDs_ints, any_strs,
  atI_0, atI_1, atI_2, atI_3, atI_4, ix_tup, ix_lst, ix_dctS, getD_cons, putD_cons, putD_nil, keyFits_str, keyFits_int, isSome_keyAt, isSome_keyAt0, mergeD,
  cmp_eq, cmp_ne, cmp_in_tup, cmp_in_lst, cmp_nin_tup, cmp_nin_lst, cmp_in_dct, cmp_nin_dct, cmp_lt_int, cmp_gt_int, cmp_le_int, cmp_ge_int, cmp_is_non, cmp_isn_non, cmp_is_bl, cmp_isn_bl,
  add_int, sub_int, add_tup, add_lst, add_str, mul_int, mod_int, fdiv_int, pow_int, len_tup, len_lst, len_scr, abs_int, int_int, int_bl, max_int, min_int, list_tup, list_lst, tuple_tup, tuple_lst, all_bls, any_bls, lenset_strs, lenset_strsL, all_mapP, any_mapP, List.length_map, rec_view, rec_ok, rec_eq, ↓rec_tup, rec_ix0, rec_ix1, rec_ix2, rec_ix3, rule_view, rule_f0, rule_f1, rule_f2, rule_f3, max_rec, rec_fold, rule_frz, rule_isIns, rule_noField, rec_sl3, rec_sl1, way_view, way_frz, way_o, way_k, way_s, way_r, cut1, cut2, *])
local macro_rules | `(tactic| walk_at "lif") => `(tactic| (rw [if_pos]; rotate_left; (simp (config := { failIfUnchanged := false }) only [List.length_append, List.length_map, List.length_cons, List.length_nil, List.length_set, List.length_take, List.length_drop, List.length_range, big]; omega)))
local macro_rules | `(tactic| walk_at "len") => `(tactic| (rw [iteH_yes (p := _ ≤ _)]; rotate_left; (simp (config := { failIfUnchanged := false }) only [List.length_append, List.length_map, List.length_cons, List.length_nil, List.length_set, List.length_take, List.length_drop, List.length_range]; omega)))
theorem unlike_spec {r : RuleM} (hr : r.Ok) (hQ : Q (.own (.lst ((unlikeM r).map (alterD r)))) s) : callH g__law_unlike [r.WD] s Q X h h2 := by
  have s0 := hr.s0
  obtain ⟨T, hT⟩ : ∃ T, T = Ss.drop3' b__law_unlike := ⟨_, rfl⟩
  have hT' := hT
  unfold g__law_unlike b__law_unlike
  simp only [b__law_unlike, Ss.drop3'] at hT'
  rw [← hT']
  walk_at "hp"
  clear hT'
  have hun : unlikeM r = .s ((r.slack + 1) % 5) :: .o (tailM r.order) :: (swapM r.order ++ ((["done", "place", "stamp"] : List Str).map fun x => Part.k (toggM ["done", "place", "stamp"] r.kept x)) ++ ((["again", "back"] : List Str).map fun x => Part.r (toggM ["again", "back"] r.raises x))) := rfl
  rw [hun] at hQ
  clear hun
  rcases ho : r.order with _ | ⟨a, _ | ⟨b, l⟩⟩ <;> rw [ho] at hQ
  · walk_at "hp"
    refine unlike_rest (r := r) [.s ((r.slack + 1) % 5), .o ["turn"]] (by simp only [List.length_cons, List.length_nil]; decide) (fun o e => ?_) T hT
    rw [e]
    exact hQ
  · walk_at "hp"
    refine unlike_rest (r := r) [.s ((r.slack + 1) % 5), .o []] (by simp only [List.length_cons, List.length_nil]; decide) (fun o e => ?_) T hT
    rw [e]
    exact hQ
  · walk_at "hp"
    rw [decide_eq_true (show (1 : Int) < ((l.length + 1 + 1 : Nat) : Int) by omega)]
    have hl : 2 + l.length ≤ 16777216 := by
      have := nodup_len hr.n hr.o
      rw [ho] at this
      simp only [List.length_cons, List.length_nil] at this
      omega
    have hT3 := hT
    clear ho s0 hT
    have hQ3 : ∀ o, o = _ → Q o s := fun o (e : o = _) => e ▸ hQ
    clear hQ
    walk_at "hps"
    refine unlike_rest (r := r) [.s ((r.slack + 1) % 5), .o (b :: l), .o (b :: a :: l)] (by simp only [List.length_cons, List.length_nil]; decide) (fun o e => ?_) _ rfl
    exact hQ3 o e
local macro_rules | `(tactic| walk_at "hp") => `(tactic| simp (config := { dsimp := false, failIfUnchanged := false, implicitDefEqProofs := false }) only [↓xA_lit, ↓xA_bin, ↓xA_neg, ↓xA_cmp, ↓xA_chain, ↓xA_not_, ↓xA_and_, ↓xA_or_, ↓xA_ife, ↓xA_tup, ↓xA_lst, ↓xA_dct, ↓xA_ix, ↓xA_sl, ↓xA_rev, ↓xA_fld, ↓xA_prop, ↓xA_call, ↓xA_callp, ↓xA_meth, ↓xA_mk, ↓xA_alloc, ↓xA_bi, ↓xA_isi, ↓xA_rng, ↓xA_bm, ↓xA_mm, ↓xA_lc, ↓xA_dc, ↓xA_eqo, ↓xA_var, ↓xE_lit, ↓xE_var, ↓xE_bin, ↓xE_neg, ↓xE_cmp, ↓xT_cmp, ↓xE_chain, ↓xT_chain, ↓xE_not_, ↓xT_not_, ↓xE_and_, ↓xT_and_, ↓xE_or_, ↓xT_or_, ↓xE_ife, ↓xT_ife, ↓xE_tup, ↓xE_lst, ↓xE_dct, ↓xE_ix, ↓xE_sl, ↓xE_rev, ↓xE_fld, ↓xE_call, ↓xE_callp, ↓xE_meth, ↓xE_mk, ↓xE_prop, ↓xE_alloc, ↓xE_bi, ↓xE_isi, ↓xT_isi, ↓xE_eqo, ↓xT_eqo, ↓xE_rng, ↓xE_bm, ↓xE_mm, ↓xT_lit, ↓xT_bin, ↓xT_neg, ↓xT_tup, ↓xT_lst, ↓xT_dct, ↓xT_ix, ↓xT_sl, ↓xT_rev, ↓xT_fld, ↓xT_prop, ↓xT_call, ↓xT_callp, ↓xT_meth, ↓xT_mk, ↓xT_alloc, ↓xT_bi, ↓xT_rng, ↓xT_bm, ↓xT_mm, ↓xT_lc, ↓xT_dc, ↓xT_var, ↓xV_nil, ↓xO_nil, ↓xU_nil, ↓xV_cons, ↓xO_cons, ↓xU_cons, ↓xV_star, ↓xF_nil, ↓xF_one, ↓xP_nil, ↓xP_cons, ↓xN_nil, ↓xN_cons, ↓xI_seq, ↓xI_rng1, ↓xI_rng2, ↓xI_enum0, ↓xI_items, ↓xI_zip, ↓xB_nil, ↓xB_cons, ↓xS_asgN, ↓xS_asgT, ↓xS_par, ↓xS_setix, ↓xS_setfld, ↓xS_ex, ↓xS_retV, ↓xS_ret_lit, ↓xS_ret_bin, ↓xS_ret_neg, ↓xS_ret_cmp, ↓xS_ret_chain, ↓xS_ret_not_, ↓xS_ret_and_, ↓xS_ret_or_, ↓xS_ret_ife, ↓xS_ret_tup, ↓xS_ret_lst, ↓xS_ret_dct, ↓xS_ret_ix, ↓xS_ret_sl, ↓xS_ret_rev, ↓xS_ret_fld, ↓xS_ret_prop, ↓xS_ret_call, ↓xS_ret_callp, ↓xS_ret_meth, ↓xS_ret_mk, ↓xS_ret_alloc, ↓xS_ret_bi, ↓xS_ret_isi, ↓xS_ret_rng, ↓xS_ret_bm, ↓xS_ret_mm, ↓xS_ret_lc, ↓xS_ret_dc, ↓xS_ret_eqo, ↓xS_retn, ↓xS_ife, ↓xS_for, ↓xS_while, ↓xS_pass, ↓xS_brk, ↓xS_cont, ↓xS_raise, ↓xS_try, ↓xG_name, ↓xG_tup, ↓xGs_nil, ↓xGs_cons, ↓loopH_nil, ↓loopH_cons, ↓xE_lc1, ↓optH_s, ↓iteH_t, ↓iteH_f, ↓andH_t, goH_go, ↓onSlot_v, ↓onSlot_o, ↓onInt_i, ↓onBl_b, ↓onOwn_o, ↓onTup_t, ↓onTup_l, ↓onCons_c, ↓onDct_d, ↓onZip_l, ↓onZip_t, ↓callH_mk, pick, List.getD_cons_zero, List.getD_cons_succ, ↓callH_in, ↓upH_s, ↓upH_r,
  vres_v, vres_s, look_own, look_val, view_int, view_bl, view_str, view_non, view_tup, view_lst, view_scr, view_dct, view_ins, view_r0, view_r1, Option.getD_some, Option.map_some, Option.map_none, Option.bind_some, Option.bind_none, Option.getD_none,
  fld_ins, isi_non, cl_int_non, cl_bool_non, cl_str_non, cl_tuple_non, cl_list_non, cl_dict_non, cl_own_non, notNon_non, isi_bl, cl_int_bl, cl_bool_bl, cl_str_bl, cl_tuple_bl, cl_list_bl, cl_dict_bl, cl_own_bl, notNon_bl, isi_int, cl_int_int, cl_bool_int, cl_str_int, cl_tuple_int, cl_list_int, cl_dict_int, cl_own_int, notNon_int, isi_str, cl_int_str, cl_bool_str, cl_str_str, cl_tuple_str, cl_list_str, cl_dict_str, cl_own_str, notNon_str, isi_tup, cl_int_tup, cl_bool_tup, cl_str_tup, cl_tuple_tup, cl_list_tup, cl_dict_tup, cl_own_tup, notNon_tup, isi_lst, cl_int_lst, cl_bool_lst, cl_str_lst, cl_tuple_lst, cl_list_lst, cl_dict_lst, cl_own_lst, notNon_lst, isi_dct, cl_int_dct, cl_bool_dct, cl_str_dct, cl_tuple_dct, cl_list_dct, cl_dict_dct, cl_own_dct, notNon_dct, isi_ins, cl_own_ins, notNon_ins, truth_non, truth_bl, truth_int, truth_tup, truth_lst, walk_tup, walk_lst, walk_scr, walk_str, seq_tup, seq_lst, frz_lst, frz_dct, frz_ins, ofrz_v, ofrz_o, oslot_v, oslot_o, keep_v, keep_o, keep_u, setsS_nil, setsS_cons, isLst_l, isIns_i, noField_i, mm_app, mm_popF, set_lst, set_dct, sf_ins, sl_tup, sl_lst, ress_nil, ress_cons,
  Bm.ok, all, List.any_cons, List.any_nil, List.contains_cons, List.contains_nil, Option.isSome_some, lookF, putF, wipeS, backS,
  List.getElem?_cons_zero, List.getElem?_cons_succ, List.length_cons, List.length_nil, List.map_cons, List.map_nil, List.replicate_zero, List.replicate_succ, List.cons_append, List.nil_append, List.set_cons_zero, List.set_cons_succ, List.getElem?_nil, Nat.reduceAdd, Nat.reduceSub, Nat.reduceLeDiff, Nat.reduceLT, Nat.reduceEqDiff, big, Int.cast_ofNat_Int, Int.reduceLE, Int.reduceLT, Int.reduceNeg, Int.reduceAdd, Int.reduceSub, Int.reduceMul, Int.reducePow, Int.reduceAbs, Int.reduceToNat, Int.reduceEq, Int.reduceDiv, Int.reduceMod, upTo, ↓lcH_nil, ↓lcH_cons,
  ok_60, okAt_int, okAt_bl, okAt_str, okAt_non, okAt_tup, okAt_lst, okAts_nil, okAts_cons, okAts_mapI, okAts_mapS, okAts_mapB, Bool.and_true, Bool.true_and, Bool.and_false, Bool.false_and, Bool.or_true, Bool.true_or, Bool.or_false, Bool.false_or, Bool.not_true, Bool.not_false, Bool.not_not, Bool.false_eq_true, if_true, if_false, ↓reduceIte, decide_true, decide_false, decide_eq_true_eq, eq_self, true_and, and_true, and_self, ofString_inj, String.reduceEq,
  eqD_int, eqD_str, eqD_bl, eqD_tup, eqD_lst, eqD_nn, eqD_nt, eqD_tn, eqD_si, eqD_is, eqD_st, eqD_ts, eqD_ti, eqD_it, eqD_tl, eqD_lt, eqDs_nil, eqDs_cons, eqDs_nc, eqDs_cn, eqDs_strs, eqDs_ints, any_strs,
  atI_0, atI_1, atI_2, atI_3, atI_4, ix_tup, ix_lst, ix_dctS, getD_cons, putD_cons, putD_nil, keyFits_str, keyFits_int, isSome_keyAt, isSome_keyAt0, mergeD,
  cmp_eq, cmp_ne, cmp_in_tup, cmp_in_lst, cmp_nin_tup, cmp_nin_lst, cmp_in_dct, cmp_nin_dct, cmp_lt_int, cmp_gt_int, cmp_le_int, cmp_ge_int, cmp_is_non, cmp_isn_non, cmp_is_bl, cmp_isn_bl,
  add_int, sub_int, add_tup, add_lst, add_str, mul_int, mod_int, fdiv_int, pow_int, len_tup, len_lst, len_scr, abs_int, int_int, int_bl, max_int, min_int, list_tup, list_lst, tuple_tup, tuple_lst, all_bls, any_bls, lenset_strs, lenset_strsL, all_mapP, any_mapP, List.length_map, rec_view, rec_ok, rec_eq, ↓rec_tup, rec_ix0, rec_ix1, rec_ix2, rec_ix3, rule_view, rule_f0, rule_f1, rule_f2, rule_f3, max_rec, rec_isi, rec_cl_t, rec_cl_l, rec_len, rule_isi, ↓is_number_i, ↓is_number_in_i, rec_fold, rule_frz, rule_isIns, rule_noField, rec_sl3, rec_sl1, eqDs_strs])
local macro_rules | `(tactic| walk_at "hps") => `(tactic| simp (config := { dsimp := false, failIfUnchanged := false, implicitDefEqProofs := false }) only [↓xA_lit, ↓xA_bin, ↓xA_neg, ↓xA_cmp, ↓xA_chain, ↓xA_not_, ↓xA_and_, ↓xA_or_, ↓xA_ife, ↓xA_tup, ↓xA_lst, ↓xA_dct, ↓xA_ix, ↓xA_sl, ↓xA_rev, ↓xA_fld, ↓xA_prop, ↓xA_call, ↓xA_callp, ↓xA_meth, ↓xA_mk, ↓xA_alloc, ↓xA_bi, ↓xA_isi, ↓xA_rng, ↓xA_bm, ↓xA_mm, ↓xA_lc, ↓xA_dc, ↓xA_eqo, ↓xA_var, ↓xE_lit, ↓xE_var, ↓xE_bin, ↓xE_neg, ↓xE_cmp, ↓xT_cmp, ↓xE_chain, ↓xT_chain, ↓xE_not_, ↓xT_not_, ↓xE_and_, ↓xT_and_, ↓xE_or_, ↓xT_or_, ↓xE_ife, ↓xT_ife, ↓xE_tup, ↓xE_lst, ↓xE_dct, ↓xE_ix, ↓xE_sl, ↓xE_rev, ↓xE_fld, ↓xE_call, ↓xE_callp, ↓xE_meth, ↓xE_mk, ↓xE_prop, ↓xE_alloc, ↓xE_bi, ↓xE_isi, ↓xT_isi, ↓xE_eqo, ↓xT_eqo, ↓xE_rng, ↓xE_bm, ↓xE_mm, ↓xT_lit, ↓xT_bin, ↓xT_neg, ↓xT_tup, ↓xT_lst, ↓xT_dct, ↓xT_ix, ↓xT_sl, ↓xT_rev, ↓xT_fld, ↓xT_prop, ↓xT_call, ↓xT_callp, ↓xT_meth, ↓xT_mk, ↓xT_alloc, ↓xT_bi, ↓xT_rng, ↓xT_bm, ↓xT_mm, ↓xT_lc, ↓xT_dc, ↓xT_var, ↓xV_nil, ↓xO_nil, ↓xU_nil, ↓xV_cons, ↓xO_cons, ↓xU_cons, ↓xV_star, ↓xF_nil, ↓xF_one, ↓xP_nil, ↓xP_cons, ↓xN_nil, ↓xN_cons, ↓xI_seq, ↓xI_rng1, ↓xI_rng2, ↓xI_enum0, ↓xI_items, ↓xI_zip, ↓xB_nil, ↓xB_cons, ↓xS_asgN, ↓xS_asgT, ↓xS_par, ↓xS_setix, ↓xS_setfld, ↓xS_ex, ↓xS_retV, ↓xS_ret_lit, ↓xS_ret_bin, ↓xS_ret_neg, ↓xS_ret_cmp, ↓xS_ret_chain, ↓xS_ret_not_, ↓xS_ret_and_, ↓xS_ret_or_, ↓xS_ret_ife, ↓xS_ret_tup, ↓xS_ret_lst, ↓xS_ret_dct, ↓xS_ret_ix, ↓xS_ret_sl, ↓xS_ret_rev, ↓xS_ret_fld, ↓xS_ret_prop, ↓xS_ret_call, ↓xS_ret_callp, ↓xS_ret_meth, ↓xS_ret_mk, ↓xS_ret_alloc, ↓xS_ret_bi, ↓xS_ret_isi, ↓xS_ret_rng, ↓xS_ret_bm, ↓xS_ret_mm, ↓xS_ret_lc, ↓xS_ret_dc, ↓xS_ret_eqo, ↓xS_retn, ↓xS_ife, ↓xS_for, ↓xS_while, ↓xS_pass, ↓xS_brk, ↓xS_cont, ↓xS_raise, ↓xS_try, ↓xG_name, ↓xG_tup, ↓xGs_nil, ↓xGs_cons, ↓loopH_nil, ↓loopH_cons, ↓xE_lc1, ↓optH_s, ↓iteH_t, ↓iteH_f, ↓andH_t, goH_go, ↓onSlot_v, ↓onSlot_o, ↓onInt_i, ↓onBl_b, ↓onOwn_o, ↓onTup_t, ↓onTup_l, ↓onCons_c, ↓onDct_d, ↓onZip_l, ↓onZip_t, ↓callH_mk, pick, List.getD_cons_zero, List.getD_cons_succ, ↓callH_in, ↓upH_s, ↓upH_r,
  vres_v, vres_s, look_own, look_val, view_int, view_bl, view_str, view_non, view_tup, view_lst, view_scr, view_dct, view_ins, view_r0, view_r1, Option.getD_some, Option.map_some, Option.map_none, Option.bind_some, Option.bind_none, Option.getD_none,
  fld_ins, isi_non, cl_int_non, cl_bool_non, cl_str_non, cl_tuple_non, cl_list_non, cl_dict_non, cl_own_non, notNon_non, isi_bl, cl_int_bl, cl_bool_bl, cl_str_bl, cl_tuple_bl, cl_list_bl, cl_dict_bl, cl_own_bl, notNon_bl, isi_int, cl_int_int, cl_bool_int, cl_str_int, cl_tuple_int, cl_list_int, cl_dict_int, cl_own_int, notNon_int, isi_str, cl_int_str, cl_bool_str, cl_str_str, cl_tuple_str, cl_list_str, cl_dict_str, cl_own_str, notNon_str, isi_tup, cl_int_tup, cl_bool_tup, cl_str_tup, cl_tuple_tup, cl_list_tup, cl_dict_tup, cl_own_tup, notNon_tup, isi_lst, cl_int_lst, cl_bool_lst, cl_str_lst, cl_tuple_lst, cl_list_lst, cl_dict_lst, cl_own_lst, notNon_lst, isi_dct, cl_int_dct, cl_bool_dct, cl_str_dct, cl_tuple_dct, cl_list_dct, cl_dict_dct, cl_own_dct, notNon_dct, isi_ins, cl_own_ins, notNon_ins, truth_non, truth_bl, truth_int, truth_tup, truth_lst, walk_tup, walk_lst, walk_scr, walk_str, seq_tup, seq_lst, frz_lst, frz_dct, frz_ins, ofrz_v, ofrz_o, oslot_v, oslot_o, keep_v, keep_o, keep_u, setsS_nil, setsS_cons, isLst_l, isIns_i, noField_i, mm_app, mm_popF, set_lst, set_dct, sf_ins, sl_tup, sl_lst, ress_nil, ress_cons,
  Bm.ok, all, List.any_cons, List.any_nil, List.contains_cons, List.contains_nil, Option.isSome_some, lookF, putF, wipeS, backS,
  List.getElem?_cons_zero, List.getElem?_cons_succ, List.length_cons, List.length_nil, List.map_cons, List.map_nil, List.replicate_zero, List.replicate_succ, List.cons_append, List.nil_append, List.set_cons_zero, List.set_cons_succ, List.getElem?_nil, Nat.reduceAdd, Nat.reduceSub, Nat.reduceLeDiff, Nat.reduceLT, Nat.reduceEqDiff, big, Int.cast_ofNat_Int, Int.reduceLE, Int.reduceLT, Int.reduceNeg, Int.reduceAdd, Int.reduceSub, Int.reduceMul, Int.reducePow, Int.reduceAbs, Int.reduceToNat, Int.reduceEq, Int.reduceDiv, Int.reduceMod, upTo, ↓lcH_nil, ↓lcH_cons,
  ok_60, okAt_int, okAt_bl, okAt_str, okAt_non, okAt_tup, okAt_lst, okAts_nil, okAts_cons, okAts_mapI, okAts_mapS, okAts_mapB, Bool.and_true, Bool.true_and, Bool.and_false, Bool.false_and, Bool.or_true, Bool.true_or, Bool.or_false, Bool.false_or, Bool.not_true, Bool.not_false, Bool.not_not, Bool.false_eq_true, if_true, if_false, ↓reduceIte, decide_true, decide_false, decide_eq_true_eq, eq_self, true_and, and_true, and_self, ofString_inj, String.reduceEq,
  eqD_int, eqD_str, eqD_bl, eqD_tup, eqD_lst, eqD_nn, eqD_nt, eqD_tn, eqD_si, eqD_is, eqD_st, eqD_ts, eqD_ti, eqD_it, eqD_tl, eqD_lt, eqDs_nil, eqDs_cons, eqDs_nc, eqDs_cn, eqDs_strs, eqDs_ints, any_strs,
  atI_0, atI_1, atI_2, atI_3, atI_4, ix_tup, ix_lst, ix_dctS, getD_cons, putD_cons, putD_nil, keyFits_str, keyFits_int, isSome_keyAt, isSome_keyAt0, mergeD,
  cmp_eq, cmp_ne, cmp_in_tup, cmp_in_lst, cmp_nin_tup, cmp_nin_lst, cmp_in_dct, cmp_nin_dct, cmp_lt_int, cmp_gt_int, cmp_le_int, cmp_ge_int, cmp_is_non, cmp_isn_non, cmp_is_bl, cmp_isn_bl,
  add_int, sub_int, add_tup, add_lst, add_str, mul_int, mod_int, fdiv_int, pow_int, len_tup, len_lst, len_scr, abs_int, int_int, int_bl, max_int, min_int, list_tup, list_lst, tuple_tup, tuple_lst, all_bls, any_bls, lenset_strs, lenset_strsL, all_mapP, any_mapP, List.length_map, rec_view, rec_ok, rec_eq, ↓rec_tup, rec_ix0, rec_ix1, rec_ix2, rec_ix3, rule_view, rule_f0, rule_f1, rule_f2, rule_f3, max_rec, rec_isi, rec_cl_t, rec_cl_l, rec_len, rule_isi, ↓is_number_i, ↓is_number_in_i, rec_fold, rule_frz, rule_isIns, rule_noField, rec_sl3, rec_sl1, eqDs_strs, *])
local macro_rules | `(tactic| walk_at "lif") => `(tactic| (rw [if_pos]; rotate_left; (simp (config := { failIfUnchanged := false }) only [List.length_append, List.length_map, List.length_cons, List.length_nil, List.length_set, List.length_take, List.length_drop, List.length_range, big]; omega)))
local macro_rules | `(tactic| walk_at "len") => `(tactic| (rw [iteH_yes (p := _ ≤ _)]; rotate_left; (simp (config := { failIfUnchanged := false }) only [List.length_append, List.length_map, List.length_cons, List.length_nil, List.length_set, List.length_take, List.length_drop, List.length_range]; omega)))
theorem rule_eq_r (r u : RuleM) : callH g_Rule_eq [r.D, u.D] s Q X h h2 = Q (.val (.bl (ruleB r u))) s := by
  unfold g_Rule_eq b_Rule_eq ruleB
  walk_at "hp"
  rcases decide (r.order = u.order) with _ | _
  · walk_at "hp"
  walk_at "hp"
  rcases decide (r.kept = u.kept) with _ | _
  · walk_at "hp"
  walk_at "hp"
  rcases decide (r.slack = u.slack) with _ | _
  · walk_at "hp"
  walk_at "hp"
theorem rule_odd (r : RuleM) {d : D} (hd : isiSem all [.own "Rule"] d = some false) (hv : ∀ s, view s d = d) : callH g_Rule_eq [r.D, d] s Q X h h2 = Q (.val (.bl false)) s := by
  unfold g_Rule_eq b_Rule_eq
  walk_at "hp"
  rw [hv, hd]
  walk_at "hp"
theorem odd_non (r : RuleM) : callH g_Rule_eq [r.D, .non] s Q X h h2 = Q (.val (.bl false)) s := rule_odd r rfl fun _ => rfl
theorem odd_tup (r : RuleM) (l : List D) : callH g_Rule_eq [r.D, .tup l] s Q X h h2 = Q (.val (.bl false)) s := rule_odd r rfl fun _ => rfl
theorem odd_int (r : RuleM) (n : Int) : callH g_Rule_eq [r.D, .int n] s Q X h h2 = Q (.val (.bl false)) s := rule_odd r rfl fun _ => rfl
theorem odd_str (r : RuleM) (n : Str) : callH g_Rule_eq [r.D, .str n] s Q X h h2 = Q (.val (.bl false)) s := rule_odd r rfl fun _ => rfl
theorem odd_way (r u : RuleM) : callH g_Rule_eq [r.D, u.WD] s Q X h h2 = Q (.val (.bl false)) s := rule_odd r rfl fun _ => rfl
theorem ty_rule (r : RuleM) : eqTy "Rule" r.D = true := by simp [eqTy, RuleM.D]
theorem ty_non : eqTy "Rule" .non = true := rfl
theorem ty_tup (l : List D) : eqTy "Rule" (.tup l) = true := rfl
theorem ty_int (n : Int) : eqTy "Rule" (.int n) = true := rfl
theorem ty_str (n : Str) : eqTy "Rule" (.str n) = true := rfl
theorem ty_way (r : RuleM) : eqTy "Rule" r.WD = true := rfl
local macro_rules | `(tactic| walk_at "hp") => `(tactic| simp (config := { dsimp := false, failIfUnchanged := false, implicitDefEqProofs := false }) only [↓xA_lit, ↓xA_bin, ↓xA_neg, ↓xA_cmp, ↓xA_chain, ↓xA_not_, ↓xA_and_, ↓xA_or_, ↓xA_ife, ↓xA_tup, ↓xA_lst, ↓xA_dct, ↓xA_ix, ↓xA_sl, ↓xA_rev, ↓xA_fld, ↓xA_prop, ↓xA_call, ↓xA_callp, ↓xA_meth, ↓xA_mk, ↓xA_alloc, ↓xA_bi, ↓xA_isi, ↓xA_rng, ↓xA_bm, ↓xA_mm, ↓xA_lc, ↓xA_dc, ↓xA_eqo, ↓xA_var, ↓xE_lit, ↓xE_var, ↓xE_bin, ↓xE_neg, ↓xE_cmp, ↓xT_cmp, ↓xE_chain, ↓xT_chain, ↓xE_not_, ↓xT_not_, ↓xE_and_, ↓xT_and_, ↓xE_or_, ↓xT_or_, ↓xE_ife, ↓xT_ife, ↓xE_tup, ↓xE_lst, ↓xE_dct, ↓xE_ix, ↓xE_sl, ↓xE_rev, ↓xE_fld, ↓xE_call, ↓xE_callp, ↓xE_meth, ↓xE_mk, ↓xE_prop, ↓xE_alloc, ↓xE_bi, ↓xE_isi, ↓xT_isi, ↓xE_eqo, ↓xT_eqo, ↓xE_rng, ↓xE_bm, ↓xE_mm, ↓xT_lit, ↓xT_bin, ↓xT_neg, ↓xT_tup, ↓xT_lst, ↓xT_dct, ↓xT_ix, ↓xT_sl, ↓xT_rev, ↓xT_fld, ↓xT_prop, ↓xT_call, ↓xT_callp, ↓xT_meth, ↓xT_mk, ↓xT_alloc, ↓xT_bi, ↓xT_rng, ↓xT_bm, ↓xT_mm, ↓xT_lc, ↓xT_dc, ↓xT_var, ↓xV_nil, ↓xO_nil, ↓xU_nil, ↓xV_cons, ↓xO_cons, ↓xU_cons, ↓xV_star, ↓xF_nil, ↓xF_one, ↓xP_nil, ↓xP_cons, ↓xN_nil, ↓xN_cons, ↓xI_seq, ↓xI_rng1, ↓xI_rng2, ↓xI_enum0, ↓xI_items, ↓xI_zip, ↓xB_nil, ↓xB_cons, ↓xS_asgN, ↓xS_asgT, ↓xS_par, ↓xS_setix, ↓xS_setfld, ↓xS_ex, ↓xS_retV, ↓xS_ret_lit, ↓xS_ret_bin, ↓xS_ret_neg, ↓xS_ret_cmp, ↓xS_ret_chain, ↓xS_ret_not_, ↓xS_ret_and_, ↓xS_ret_or_, ↓xS_ret_ife, ↓xS_ret_tup, ↓xS_ret_lst, ↓xS_ret_dct, ↓xS_ret_ix, ↓xS_ret_sl, ↓xS_ret_rev, ↓xS_ret_fld, ↓xS_ret_prop, ↓xS_ret_call, ↓xS_ret_callp, ↓xS_ret_meth, ↓xS_ret_mk, ↓xS_ret_alloc, ↓xS_ret_bi, ↓xS_ret_isi, ↓xS_ret_rng, ↓xS_ret_bm, ↓xS_ret_mm, ↓xS_ret_lc, ↓xS_ret_dc, ↓xS_ret_eqo, ↓xS_retn, ↓xS_ife, ↓xS_for, ↓xS_while, ↓xS_pass, ↓xS_brk, ↓xS_cont, ↓xS_raise, ↓xS_try, ↓xG_name, ↓xG_tup, ↓xGs_nil, ↓xGs_cons, ↓loopH_nil, ↓loopH_cons, ↓xE_lc1, ↓optH_s, ↓iteH_t, ↓iteH_f, ↓andH_t, goH_go, ↓onSlot_v, ↓onSlot_o, ↓onInt_i, ↓onBl_b, ↓onOwn_o, ↓onTup_t, ↓onTup_l, ↓onCons_c, ↓onDct_d, ↓onZip_l, ↓onZip_t, ↓callH_mk, pick, List.getD_cons_zero, List.getD_cons_succ, ↓callH_in, ↓upH_s, ↓upH_r,
  vres_v, vres_s, look_own, look_val, view_int, view_bl, view_str, view_non, view_tup, view_lst, view_scr, view_dct, view_ins, view_r0, view_r1, Option.getD_some, Option.map_some, Option.map_none, Option.bind_some, Option.bind_none, Option.getD_none,
  fld_ins, isi_non, cl_int_non, cl_bool_non, cl_str_non, cl_tuple_non, cl_list_non, cl_dict_non, cl_own_non, notNon_non, isi_bl, cl_int_bl, cl_bool_bl, cl_str_bl, cl_tuple_bl, cl_list_bl, cl_dict_bl, cl_own_bl, notNon_bl, isi_int, cl_int_int, cl_bool_int, cl_str_int, cl_tuple_int, cl_list_int, cl_dict_int, cl_own_int, notNon_int, isi_str, cl_int_str, cl_bool_str, cl_str_str, cl_tuple_str, cl_list_str, cl_dict_str, cl_own_str, notNon_str, isi_tup, cl_int_tup, cl_bool_tup, cl_str_tup, cl_tuple_tup, cl_list_tup, cl_dict_tup, cl_own_tup, notNon_tup, isi_lst, cl_int_lst, cl_bool_lst, cl_str_lst, cl_tuple_lst, cl_list_lst, cl_dict_lst, cl_own_lst, notNon_lst, isi_dct, cl_int_dct, cl_bool_dct, cl_str_dct, cl_tuple_dct, cl_list_dct, cl_dict_dct, cl_own_dct, notNon_dct, isi_ins, cl_own_ins, notNon_ins, truth_non, truth_bl, truth_int, truth_tup, truth_lst, walk_tup, walk_lst, walk_scr, walk_str, seq_tup, seq_lst, frz_lst, frz_dct, frz_ins, ofrz_v, ofrz_o, oslot_v, oslot_o, keep_v, keep_o, keep_u, setsS_nil, setsS_cons, isLst_l, isIns_i, noField_i, mm_app, mm_popF, set_lst, set_dct, sf_ins, sl_tup, sl_lst, ress_nil, ress_cons,
  Bm.ok, all, List.any_cons, List.any_nil, List.contains_cons, List.contains_nil, Option.isSome_some, lookF, putF, wipeS, backS,
  List.getElem?_cons_zero, List.getElem?_cons_succ, List.length_cons, List.length_nil, List.map_cons, List.map_nil, List.replicate_zero, List.replicate_succ, List.cons_append, List.nil_append, List.set_cons_zero, List.set_cons_succ, List.getElem?_nil, Nat.reduceAdd, Nat.reduceSub, Nat.reduceLeDiff, Nat.reduceLT, Nat.reduceEqDiff, big, Int.cast_ofNat_Int, Int.reduceLE, Int.reduceLT, Int.reduceNeg, Int.reduceAdd, Int.reduceSub, Int.reduceMul, Int.reducePow, Int.reduceAbs, Int.reduceToNat, Int.reduceEq, Int.reduceDiv, Int.reduceMod, upTo, ↓lcH_nil, ↓lcH_cons,
  ok_60, okAt_int, okAt_bl, okAt_str, okAt_non, okAt_tup, okAt_lst, okAts_nil, okAts_cons, okAts_mapI, okAts_mapS, okAts_mapB, Bool.and_true, Bool.true_and, Bool.and_false, Bool.false_and, Bool.or_true, Bool.true_or, Bool.or_false, Bool.false_or, Bool.not_true, Bool.not_false, Bool.not_not, Bool.false_eq_true, if_true, if_false, ↓reduceIte, decide_true, decide_false, decide_eq_true_eq, eq_self, true_and, and_true, and_self, ofString_inj, String.reduceEq,
  eqD_int, eqD_str, eqD_bl, eqD_tup, eqD_lst, eqD_nn, eqD_nt, eqD_tn, eqD_si, eqD_is, eqD_st, eqD_ts, eqD_ti, eqD_it, eqD_tl, eqD_lt, eqDs_nil, eqDs_cons, eqDs_nc, eqDs_cn, eqDs_strs, eqDs_ints, any_strs,
  atI_0, atI_1, atI_2, atI_3, atI_4, ix_tup, ix_lst, ix_dctS, getD_cons, putD_cons, putD_nil, keyFits_str, keyFits_int, isSome_keyAt, isSome_keyAt0, mergeD,
  cmp_eq, cmp_ne, cmp_in_tup, cmp_in_lst, cmp_nin_tup, cmp_nin_lst, cmp_in_dct, cmp_nin_dct, cmp_lt_int, cmp_gt_int, cmp_le_int, cmp_ge_int, cmp_is_non, cmp_isn_non, cmp_is_bl, cmp_isn_bl,
  add_int, sub_int, add_tup, add_lst, add_str, mul_int, mod_int, fdiv_int, pow_int, len_tup, len_lst, len_scr, abs_int, int_int, int_bl, max_int, min_int, list_tup, list_lst, tuple_tup, tuple_lst, all_bls, any_bls, lenset_strs, lenset_strsL, all_mapP, any_mapP, List.length_map, rec_view, rec_ok, rec_eq, ↓rec_tup, rec_ix0, rec_ix1, rec_ix2, rec_ix3, rule_view, rule_f0, rule_f1, rule_f2, rule_f3, max_rec, rec_fold, rule_frz, rule_isIns, rule_noField, rec_sl3, rec_sl1, way_view, way_frz, way_o, way_k, way_s, way_r, way_dict, put_ix, get_ix, view_v, alterD, get_put, ty_rule, ty_non, ty_tup, ty_int, ty_str, ty_way, odd_non, odd_tup, odd_int, odd_str, odd_way, rule_eq_r, ruleB_self])
local macro_rules | `(tactic| walk_at "hps") => `(tactic| simp (config := { dsimp := false, failIfUnchanged := false, implicitDefEqProofs := false }) only [↓xA_lit, ↓xA_bin, ↓xA_neg, ↓xA_cmp, ↓xA_chain, ↓xA_not_, ↓xA_and_, ↓xA_or_, ↓xA_ife, ↓xA_tup, ↓xA_lst, ↓xA_dct, ↓xA_ix, ↓xA_sl, ↓xA_rev, ↓xA_fld, ↓xA_prop, ↓xA_call, ↓xA_callp, ↓xA_meth, ↓xA_mk, ↓xA_alloc, ↓xA_bi, ↓xA_isi, ↓xA_rng, ↓xA_bm, ↓xA_mm, ↓xA_lc, ↓xA_dc, ↓xA_eqo, ↓xA_var, ↓xE_lit, ↓xE_var, ↓xE_bin, ↓xE_neg, ↓xE_cmp, ↓xT_cmp, ↓xE_chain, ↓xT_chain, ↓xE_not_, ↓xT_not_, ↓xE_and_, ↓xT_and_, ↓xE_or_, ↓xT_or_, ↓xE_ife, ↓xT_ife, ↓xE_tup, ↓xE_lst, ↓xE_dct, ↓xE_ix, ↓xE_sl, ↓xE_rev, ↓xE_fld, ↓xE_call, ↓xE_callp, ↓xE_meth, ↓xE_mk, ↓xE_prop, ↓xE_alloc, ↓xE_bi, ↓xE_isi, ↓xT_isi, ↓xE_eqo, ↓xT_eqo, ↓xE_rng, ↓xE_bm, ↓xE_mm, ↓xT_lit, ↓xT_bin, ↓xT_neg, ↓xT_tup, ↓xT_lst, ↓xT_dct, ↓xT_ix, ↓xT_sl, ↓xT_rev, ↓xT_fld, ↓xT_prop, ↓xT_call, ↓xT_callp, ↓xT_meth, ↓xT_mk, ↓xT_alloc, ↓xT_bi, ↓xT_rng, ↓xT_bm, ↓xT_mm, ↓xT_lc, ↓xT_dc, ↓xT_var, ↓xV_nil, ↓xO_nil, ↓xU_nil, ↓xV_cons, ↓xO_cons, ↓xU_cons, ↓xV_star, ↓xF_nil, ↓xF_one, ↓xP_nil, ↓xP_cons, ↓xN_nil, ↓xN_cons, ↓xI_seq, ↓xI_rng1, ↓xI_rng2, ↓xI_enum0, ↓xI_items, ↓xI_zip, ↓xB_nil, ↓xB_cons, ↓xS_asgN, ↓xS_asgT, ↓xS_par, ↓xS_setix, ↓xS_setfld, ↓xS_ex, ↓xS_retV, ↓xS_ret_lit, ↓xS_ret_bin, ↓xS_ret_neg, ↓xS_ret_cmp, ↓xS_ret_chain, ↓xS_ret_not_, ↓xS_ret_and_, ↓xS_ret_or_, ↓xS_ret_ife, ↓xS_ret_tup, ↓xS_ret_lst, ↓xS_ret_dct, ↓xS_ret_ix, ↓xS_ret_sl, ↓xS_ret_rev, ↓xS_ret_fld, ↓xS_ret_prop, ↓xS_ret_call, ↓xS_ret_callp, ↓xS_ret_meth, ↓xS_ret_mk, ↓xS_ret_alloc, ↓xS_ret_bi, ↓xS_ret_isi, ↓xS_ret_rng, ↓xS_ret_bm, ↓xS_ret_mm, ↓xS_ret_lc, ↓xS_ret_dc, ↓xS_ret_eqo, ↓xS_retn, ↓xS_ife, ↓xS_for, ↓xS_while, ↓xS_pass, ↓xS_brk, ↓xS_cont, ↓xS_raise, ↓xS_try, ↓xG_name, ↓xG_tup, ↓xGs_nil, ↓xGs_cons, ↓loopH_nil, ↓loopH_cons, ↓xE_lc1, ↓optH_s, ↓iteH_t, ↓iteH_f, ↓andH_t, goH_go, ↓onSlot_v, ↓onSlot_o, ↓onInt_i, ↓onBl_b, ↓onOwn_o, ↓onTup_t, ↓onTup_l, ↓onCons_c, ↓onDct_d, ↓onZip_l, ↓onZip_t, ↓callH_mk, pick, List.getD_cons_zero, List.getD_cons_succ, ↓callH_in, ↓upH_s, ↓upH_r,
  vres_v, vres_s, look_own, look_val, view_int, view_bl, view_str, view_non, view_tup, view_lst, view_scr, view_dct, view_ins, view_r0, view_r1, Option.getD_some, Option.map_some, Option.map_none, Option.bind_some, Option.bind_none, Option.getD_none,
  fld_ins, isi_non, cl_int_non, cl_bool_non, cl_str_non, cl_tuple_non, cl_list_non, cl_dict_non, cl_own_non, notNon_non, isi_bl, cl_int_bl, cl_bool_bl, cl_str_bl, cl_tuple_bl, cl_list_bl, cl_dict_bl, cl_own_bl, notNon_bl, isi_int, cl_int_int, cl_bool_int, cl_str_int, cl_tuple_int, cl_list_int, cl_dict_int, cl_own_int, notNon_int, isi_str, cl_int_str, cl_bool_str, cl_str_str, cl_tuple_str, cl_list_str, cl_dict_str, cl_own_str, notNon_str, isi_tup, cl_int_tup, cl_bool_tup, cl_str_tup, cl_tuple_tup, cl_list_tup, cl_dict_tup, cl_own_tup, notNon_tup, isi_lst, cl_int_lst, cl_bool_lst, cl_str_lst, cl_tuple_lst, cl_list_lst, cl_dict_lst, cl_own_lst, notNon_lst, isi_dct, cl_int_dct, cl_bool_dct, cl_str_dct, cl_tuple_dct, cl_list_dct, cl_dict_dct, cl_own_dct, notNon_dct, isi_ins, cl_own_ins, notNon_ins, truth_non, truth_bl, truth_int, truth_tup, truth_lst, walk_tup, walk_lst, walk_scr, walk_str, seq_tup, seq_lst, frz_lst, frz_dct, frz_ins, ofrz_v, ofrz_o, oslot_v, oslot_o, keep_v, keep_o, keep_u, setsS_nil, setsS_cons, isLst_l, isIns_i, noField_i, mm_app, mm_popF, set_lst, set_dct, sf_ins, sl_tup, sl_lst, ress_nil, ress_cons,
  Bm.ok, all, List.any_cons, List.any_nil, List.contains_cons, List.contains_nil, Option.isSome_some, lookF, putF, wipeS, backS,
  List.getElem?_cons_zero, List.getElem?_cons_succ, List.length_cons, List.length_nil, List.map_cons, List.map_nil, List.replicate_zero, List.replicate_succ, List.cons_append, List.nil_append, List.set_cons_zero, List.set_cons_succ, List.getElem?_nil, Nat.reduceAdd, Nat.reduceSub, Nat.reduceLeDiff, Nat.reduceLT, Nat.reduceEqDiff, big, Int.cast_ofNat_Int, Int.reduceLE, Int.reduceLT, Int.reduceNeg, Int.reduceAdd, Int.reduceSub, Int.reduceMul, Int.reducePow, Int.reduceAbs, Int.reduceToNat, Int.reduceEq, Int.reduceDiv, Int.reduceMod, upTo, ↓lcH_nil, ↓lcH_cons,
  ok_60, okAt_int, okAt_bl, okAt_str, okAt_non, okAt_tup, okAt_lst, okAts_nil, okAts_cons, okAts_mapI, okAts_mapS, okAts_mapB, Bool.and_true, Bool.true_and, Bool.and_false, Bool.false_and, Bool.or_true, Bool.true_or, Bool.or_false, Bool.false_or, Bool.not_true, Bool.not_false, Bool.not_not, Bool.false_eq_true, if_true, if_false, ↓reduceIte, decide_true, decide_false, decide_eq_true_eq, eq_self, true_and, and_true, and_self, ofString_inj, String.reduceEq,
  eqD_int, eqD_str, eqD_bl, eqD_tup, eqD_lst, eqD_nn, eqD_nt, eqD_tn, eqD_si, eqD_is, eqD_st, eqD_ts, eqD_ti, eqD_it, eqD_tl, eqD_lt, eqDs_nil, eqDs_cons, eqDs_nc, eqDs_cn, eqDs_strs, eqDs_ints, any_strs,
  atI_0, atI_1, atI_2, atI_3, atI_4, ix_tup, ix_lst, ix_dctS, getD_cons, putD_cons, putD_nil, keyFits_str, keyFits_int, isSome_keyAt, isSome_keyAt0, mergeD,
  cmp_eq, cmp_ne, cmp_in_tup, cmp_in_lst, cmp_nin_tup, cmp_nin_lst, cmp_in_dct, cmp_nin_dct, cmp_lt_int, cmp_gt_int, cmp_le_int, cmp_ge_int, cmp_is_non, cmp_isn_non, cmp_is_bl, cmp_isn_bl,
  add_int, sub_int, add_tup, add_lst, add_str, mul_int, mod_int, fdiv_int, pow_int, len_tup, len_lst, len_scr, abs_int, int_int, int_bl, max_int, min_int, list_tup, list_lst, tuple_tup, tuple_lst, all_bls, any_bls, lenset_strs, lenset_strsL, all_mapP, any_mapP, List.length_map, rec_view, rec_ok, rec_eq, ↓rec_tup, rec_ix0, rec_ix1, rec_ix2, rec_ix3, rule_view, rule_f0, rule_f1, rule_f2, rule_f3, max_rec, rec_fold, rule_frz, rule_isIns, rule_noField, rec_sl3, rec_sl1, way_view, way_frz, way_o, way_k, way_s, way_r, way_dict, put_ix, get_ix, view_v, alterD, get_put, ty_rule, ty_non, ty_tup, ty_int, ty_str, ty_way, odd_non, odd_tup, odd_int, odd_str, odd_way, rule_eq_r, ruleB_self, *])
local macro_rules | `(tactic| walk_at "lif") => `(tactic| (rw [if_pos]; rotate_left; (simp (config := { failIfUnchanged := false }) only [List.length_append, List.length_map, List.length_cons, List.length_nil, List.length_set, List.length_take, List.length_drop, List.length_range, big]; omega)))
local macro_rules | `(tactic| walk_at "len") => `(tactic| (rw [iteH_yes (p := _ ≤ _)]; rotate_left; (simp (config := { failIfUnchanged := false }) only [List.length_append, List.length_map, List.length_cons, List.length_nil, List.length_set, List.length_take, List.length_drop, List.length_range]; omega)))
theorem unlike_turn {r : RuleM} (hr : r.Ok) {p : Part} (hp : (p.put r).Ok) (hn : p ≠ p.get r) {d0 : D} {s2 s4 s7 s8 : Slot} {N : QN} {P : Rst} {h3 : Hd N} {h4 : Hd P} (h4s : s4 = .own r.C ∨ s4 = .val r.D) (hN : ∀ s7, N [.val d0, .val (.ref 1), s2, .val r.WD, .val r.D, .val (p.put r).WD, .val (.str p.key), s7, s8] s) :
    xB l_law_1 [.val d0, .val (.ref 1), s2, .val r.WD, s4, .val (p.put r).WD, .val (.str p.key), s7, s8] s N P h3 h4 := by
  have e1 := ruleB_put hn
  have e2 := ruleB_comm (p.put r) r
  rw [e1] at e2
  unfold l_law_1
  rcases h4s with rfl | rfl
  all_goals
    walk_at "hp"
    rw [law_rule_eq hp]
    walk_at "hp"
    rw [e2]
    walk_at "hp"
    rw [e1]
    walk_at "hp"
    rw [with_part_eq hp]
    walk_at "hp"
    rw [back_part_eq hr]
    walk_at "hp"
    exact hN _
theorem unlike_loop {r : RuleM} (hr : r.Ok) {d0 : D} {s2 : Slot} {N : QN} {P : Rst} {h3 : Hd N} {h4 : Hd P} (hN : ∀ s4 s5 s6 s7 s8, (s4 = .own r.C ∨ s4 = .val r.D) → N [.val d0, .val (.ref 1), s2, .val r.WD, s4, s5, s6, s7, s8] s) : ∀ (ps : List Part) (s4 s5 s6 s7 s8 : Slot), (∀ p ∈ ps, (p.put r).Ok ∧ p ≠ p.get r) → (s4 = .own r.C ∨ s4 = .val r.D) →
    loopH (.tup [.name 5, .name 6]) l_law_1 (ps.map (alterD r)) [.val d0, .val (.ref 1), s2, .val r.WD, s4, s5, s6, s7, s8] s N P h3 h4
  | [], s4, s5, s6, s7, s8, _, e => hN _ _ _ _ _ e
  | p :: ps, s4, s5, s6, s7, s8, hps, e => by
    rw [List.map_cons, loopH_cons, alterD]
    walk_at "hp"
    obtain ⟨h1, h2⟩ := hps p (List.mem_cons_self ..)
    with_reducible refine unlike_turn hr h1 h2 e fun s7 => ?_
    exact unlike_loop hr hN ps _ _ _ _ _ (fun q hq => hps q (List.mem_cons_of_mem _ hq)) (.inr rfl)
def Ss.drop4' : Ss → Ss
  | .cons _ (.cons _ (.cons _ (.cons _ r))) => r
  | _ => .nil
theorem odd_turns {r : RuleM} {d0 : D} {s2 s4 s5 s6 s7 s8 : Slot} {N : QN} {P : Rst} {h3 : Hd N} {h4 : Hd P} (h4s : s4 = .own r.C ∨ s4 = .val r.D) (hN : ∀ s4 s8, N [.val d0, .val (.ref 1), s2, .val r.WD, s4, s5, s6, s7, s8] s) :
    ∀ T, T = Ss.drop4' l_law_3 → xB T [.val d0, .val (.ref 1), s2, .val r.WD, s4, s5, s6, s7, s8] s N P h3 h4 := by
  intro T hT
  simp only [l_law_3, Ss.drop4'] at hT
  subst hT
  unfold l_law_2
  rcases h4s with rfl | rfl
  all_goals
    walk_at "hp"
    exact hN _ _
theorem law_turn {d0 : D} {s2 s3 s4 s5 s6 s7 s8 : Slot} {N : QN} {P : Rst} {h3 : Hd N} {h4 : Hd P} (hs : Draws s m) (hN : ∀ s3 s4 s5 s6 s7 s8 s, Draws s m → N [.val d0, .val (.ref 1), s2, s3, s4, s5, s6, s7, s8] s) :
    xB l_law_3 [.val d0, .val (.ref 1), s2, s3, s4, s5, s6, s7, s8] s N P h3 h4 := by
  obtain ⟨T, hT⟩ : ∃ T, T = Ss.drop4' l_law_3 := ⟨_, rfl⟩
  have hT' := hT
  unfold l_law_3
  simp only [l_law_3, Ss.drop4'] at hT'
  rw [← hT']
  clear hT'
  walk_at "hp"
  refine way_spec hs fun r hr s1 hs1 => ?_
  walk_at "hp"
  rw [law_rule_eq hr]
  walk_at "hp"
  rw [law_rule_eq hr]
  walk_at "hp"
  rw [law_rule_eq hr]
  walk_at "hp"
  refine unlike_spec hr ?_
  walk_at "hp"
  with_reducible refine unlike_loop hr (fun s4 s5 s6 s7 s8 e => ?_) _ _ _ _ _ _ (unlike_ok hr) ?_
  · with_reducible refine odd_turns e (fun s4 s8 => ?_) _ hT
    exact hN _ _ _ _ _ _ _ hs1
  · exact .inr rfl
theorem outer {N : QN} {P : Rst} {h3 : Hd N} {h4 : Hd P} {d0 : D} (hN : ∀ s2 s3 s4 s5 s6 s7 s8 s, N [.val d0, .val (.ref 1), s2, s3, s4, s5, s6, s7, s8] s) : ∀ (ds : List D) (s2 s3 s4 s5 s6 s7 s8 : Slot) (s : Store), Draws s m →
    loopH (.name 2) l_law_3 ds [.val d0, .val (.ref 1), s2, s3, s4, s5, s6, s7, s8] s N P h3 h4
  | [], s2, s3, s4, s5, s6, s7, s8, s, hs => hN _ _ _ _ _ _ _ s
  | d :: ds, s2, s3, s4, s5, s6, s7, s8, s, hs => by
    rw [loopH_cons]
    walk_at "hp"
    with_reducible refine law_turn hs fun s3 s4 s5 s6 s7 s8 s hs => ?_
    exact outer hN ds _ _ _ _ _ _ _ s hs
theorem plain (ns : List Int) (hl : ns.length ≤ 63) : g_law [.scr (ns.map .int)] [] (fun o _ => o = .val (.bl true)) (fun _ _ => False) := by
  show callH g_law [.scr (ns.map .int)] [] (fun o _ => o = .val (.bl true)) (fun _ _ => False)
  unfold g_law b_law
  walk_at "hp"
  refine begin_spec hl fun s hs => ?_
  walk_at "hp"
  have hr : rngOk 0 (5 + if 20 < (ns.length : Int) then 20 else (ns.length : Int)) = true := by
    unfold rngOk
    simp only [Bool.and_eq_true, decide_eq_true_eq]
    split <;> omega
  rw [hr]
  walk_at "hp"
  with_reducible refine outer (fun s2 s3 s4 s5 s6 s7 s8 s => ?_) _ _ _ _ _ _ _ _ _ hs
  walk_at "hp"
end HP

set_option maxHeartbeats 0
namespace HP
open PySem L2
theorem kr_KEPT : DvsR [.str "done", .str "place", .str "stamp"] [.str "done", .str "place", .str "stamp"] := (.cons (.str _) (.cons (.str _) (.cons (.str _) .nil)))
theorem kr_KEYS : DvsR [.str "turn", .str "done", .str "newest", .str "furthest"] [.str "turn", .str "done", .str "newest", .str "furthest"] := (.cons (.str _) (.cons (.str _) (.cons (.str _) (.cons (.str _) .nil))))
theorem kr_RAISES : DvsR [.str "again", .str "back"] [.str "again", .str "back"] := (.cons (.str _) (.cons (.str _) .nil))
section
variable {P : Program} {w : World} {K : PySem.W.Frag} {mg : Str → Option Value} {base : Heap}
theorem isiF (T : Tt K mg base) : ∀ c ∈ all, IsiF all K c := isiB_ok (T.exs 0 rfl)
theorem m_abs (T : Tt K mg base) : mg "abs" = none := T.free 0 rfl
theorem m_all (T : Tt K mg base) : mg "all" = none := T.free 1 rfl
theorem m_bool (T : Tt K mg base) : mg "bool" = none := T.free 2 rfl
theorem m_dict (T : Tt K mg base) : mg "dict" = none := T.free 3 rfl
theorem m_int (T : Tt K mg base) : mg "int" = none := T.free 4 rfl
theorem m_isinstance (T : Tt K mg base) : mg "isinstance" = none := T.free 5 rfl
theorem m_len (T : Tt K mg base) : mg "len" = none := T.free 6 rfl
theorem m_list (T : Tt K mg base) : mg "list" = none := T.free 7 rfl
theorem m_min (T : Tt K mg base) : mg "min" = none := T.free 8 rfl
theorem m_range (T : Tt K mg base) : mg "range" = none := T.free 9 rfl
theorem m_set (T : Tt K mg base) : mg "set" = none := T.free 10 rfl
theorem m_sorted (T : Tt K mg base) : mg "sorted" = none := T.free 11 rfl
theorem m_str (T : Tt K mg base) : mg "str" = none := T.free 12 rfl
theorem m_tuple (T : Tt K mg base) : mg "tuple" = none := T.free 13 rfl
theorem m_Rule (T : Tt K mg base) : mg "Rule" = some (.ref (He.ga K "Rule")) := T.glo 15 rfl
theorem m__law_begin (T : Tt K mg base) : mg "_law_begin" = some (.ref (He.ga K "_law_begin")) := T.glo 16 rfl
theorem m__law_blend (T : Tt K mg base) : mg "_law_blend" = some (.ref (He.ga K "_law_blend")) := T.glo 17 rfl
theorem m__law_mixed (T : Tt K mg base) : mg "_law_mixed" = some (.ref (He.ga K "_law_mixed")) := T.glo 18 rfl
theorem m__law_pick (T : Tt K mg base) : mg "_law_pick" = some (.ref (He.ga K "_law_pick")) := T.glo 19 rfl
theorem m__law_rule (T : Tt K mg base) : mg "_law_rule" = some (.ref (He.ga K "_law_rule")) := T.glo 20 rfl
theorem m__law_some (T : Tt K mg base) : mg "_law_some" = some (.ref (He.ga K "_law_some")) := T.glo 21 rfl
theorem m__law_take (T : Tt K mg base) : mg "_law_take" = some (.ref (He.ga K "_law_take")) := T.glo 22 rfl
theorem m__law_unlike (T : Tt K mg base) : mg "_law_unlike" = some (.ref (He.ga K "_law_unlike")) := T.glo 23 rfl
theorem m__law_way (T : Tt K mg base) : mg "_law_way" = some (.ref (He.ga K "_law_way")) := T.glo 24 rfl
theorem m_are_ascending_some (T : Tt K mg base) : mg "are_ascending_some" = some (.ref (He.ga K "are_ascending_some")) := T.glo 25 rfl
theorem m_are_some (T : Tt K mg base) : mg "are_some" = some (.ref (He.ga K "are_some")) := T.glo 26 rfl
theorem m_is_number (T : Tt K mg base) : mg "is_number" = some (.ref (He.ga K "is_number")) := T.glo 27 rfl
theorem m_is_number_in (T : Tt K mg base) : mg "is_number_in" = some (.ref (He.ga K "is_number_in")) := T.glo 28 rfl
theorem cl_Rule (T : Tt K mg base) : Cls K (He.ga K "Rule") := He.cls_ok (T.fact 29 rfl)
theorem na_Rule_own_order (T : Tt K mg base) : NoAttr K (He.ga K "Rule") "own_order" := He.noat_ok (T.fact 30 rfl)
theorem na_Rule_own_kept (T : Tt K mg base) : NoAttr K (He.ga K "Rule") "own_kept" := He.noat_ok (T.fact 31 rfl)
theorem na_Rule_own_slack (T : Tt K mg base) : NoAttr K (He.ga K "Rule") "own_slack" := He.noat_ok (T.fact 32 rfl)
theorem na_Rule_own_raises (T : Tt K mg base) : NoAttr K (He.ga K "Rule") "own_raises" := He.noat_ok (T.fact 33 rfl)
theorem ne_Rule (T : Tt K mg base) : neB "Rule" K = true := T.exs 1 rfl
theorem c_KEPT (T : Tt K mg base) : mg "KEPT" = some (.ref (He.ga K "KEPT")) := T.glo 34 rfl
theorem k_KEPT (T : Tt K mg base) : tupX K "KEPT" [.str "done", .str "place", .str "stamp"] = true := T.exs 2 rfl
theorem c_KEYS (T : Tt K mg base) : mg "KEYS" = some (.ref (He.ga K "KEYS")) := T.glo 35 rfl
theorem k_KEYS (T : Tt K mg base) : tupX K "KEYS" [.str "turn", .str "done", .str "newest", .str "furthest"] = true := T.exs 3 rfl
theorem c_MOST_SLACK (T : Tt K mg base) : ∃ t, mg "MOST_SLACK" = some (.int 4 t) := T.int 36 rfl
theorem c_RAISES (T : Tt K mg base) : mg "RAISES" = some (.ref (He.ga K "RAISES")) := T.glo 37 rfl
theorem k_RAISES (T : Tt K mg base) : tupX K "RAISES" [.str "again", .str "back"] = true := T.exs 4 rfl
theorem mt_Rule_eq (T : Tt K mg base) : Meth K (He.ga K "Rule") "__eq__" (He.ma K (He.ga K "Rule") "__eq__") := He.meth_ok (T.fact 38 rfl)
theorem mk_Rule (T : Tt K mg base) : Mk K (He.ga K "Rule") (He.ma K (He.ga K "Rule") "__init__") := He.mkr_ok (T.fact 39 rfl)
theorem mt_Rule_with_part (T : Tt K mg base) : Meth K (He.ga K "Rule") "with_part" (He.ma K (He.ga K "Rule") "with_part") := He.meth_ok (T.fact 40 rfl)
theorem sc_Rule_slack : FnScope ["self"] ["self"] (defScope s_Rule_slack) := ⟨rfl, rfl, rfl, by decide +kernel, rfl, by decide +kernel, by decide +kernel⟩
theorem gt_Rule_slack (T : Tt K mg base) : GetG P w K mg base "Rule" "slack" "own_slack" := getG_of (T.fn 20 rfl) (fun _ _ _ _ _ _ us hl => match us, hl with | [_], _ => rfl) sc_Rule_slack rfl (isGet_ok (by decide +kernel)) (cl_Rule T) (na_Rule_own_slack T) (propB_ok (T.exs 8 rfl))
theorem sc_Rule_raises : FnScope ["self"] ["self"] (defScope s_Rule_raises) := ⟨rfl, rfl, rfl, by decide +kernel, rfl, by decide +kernel, by decide +kernel⟩
theorem gt_Rule_raises (T : Tt K mg base) : GetG P w K mg base "Rule" "raises" "own_raises" := getG_of (T.fn 19 rfl) (fun _ _ _ _ _ _ us hl => match us, hl with | [_], _ => rfl) sc_Rule_raises rfl (isGet_ok (by decide +kernel)) (cl_Rule T) (na_Rule_own_raises T) (propB_ok (T.exs 7 rfl))
theorem sc_Rule_order : FnScope ["self"] ["self"] (defScope s_Rule_order) := ⟨rfl, rfl, rfl, by decide +kernel, rfl, by decide +kernel, by decide +kernel⟩
theorem gt_Rule_order (T : Tt K mg base) : GetG P w K mg base "Rule" "order" "own_order" := getG_of (T.fn 18 rfl) (fun _ _ _ _ _ _ us hl => match us, hl with | [_], _ => rfl) sc_Rule_order rfl (isGet_ok (by decide +kernel)) (cl_Rule T) (na_Rule_own_order T) (propB_ok (T.exs 6 rfl))
theorem sc_Rule_kept : FnScope ["self"] ["self"] (defScope s_Rule_kept) := ⟨rfl, rfl, rfl, by decide +kernel, rfl, by decide +kernel, by decide +kernel⟩
theorem gt_Rule_kept (T : Tt K mg base) : GetG P w K mg base "Rule" "kept" "own_kept" := getG_of (T.fn 17 rfl) (fun _ _ _ _ _ _ us hl => match us, hl with | [_], _ => rfl) sc_Rule_kept rfl (isGet_ok (by decide +kernel)) (cl_Rule T) (na_Rule_own_kept T) (propB_ok (T.exs 5 rfl))
theorem fn_Rule_eq (T : Tt K mg base) : ∃ fd, FnS K "__eq__" "Rule.__eq__" s_Rule_eq (He.ma K (He.ga K "Rule") "__eq__") fd := T.fn 0 rfl
theorem sc_Rule_eq : FnScope ["self", "other"] ["self", "other"] (defScope s_Rule_eq) := ⟨rfl, rfl, rfl, by decide +kernel, rfl, by decide +kernel, by decide +kernel⟩
theorem ok_Rule_eq (T : Tt K mg base) : OkG P w K mg base 1 (He.ma K (He.ga K "Rule") "__eq__") ["self", "other"] (spG K g_Rule_eq) :=
  okG_of (k := 0) (T.fn 0 rfl) (fun _ _ _ _ _ _ us hl => match us, hl with | [_, _], _ => rfl) sc_Rule_eq rfl rfl fun cdv B out z G Z g hp =>
    ss_cons (st_if (se_bo (fun _ _ _ _ _ => rfl) (sb_or (se_not (se_isi1 (isiF T) (isi_mem1 rfl) rfl (m_isinstance T) rfl rfl rfl (fun _ => rfl) (se_v rfl rfl rfl rfl) (sc_own rfl (m_Rule T) rfl))) (sb_or (se_cmp g.hu .ne (se_fld (se_v rfl rfl rfl rfl) rfl (cl_Rule T) (na_Rule_own_order T)) (se_fld (se_v rfl rfl rfl rfl) rfl (cl_Rule T) (na_Rule_own_order T)) rfl) (sb_one (se_cmp g.hu .ne (se_fld (se_v rfl rfl rfl rfl) rfl (cl_Rule T) (na_Rule_own_kept T)) (se_fld (se_v rfl rfl rfl rfl) rfl (cl_Rule T) (na_Rule_own_kept T)) rfl))))) (ss_cons (st_ret (fun _ => nofun) se_bl) ss_nil) ss_nil) (ss_cons (st_ret (fun _ => nofun) (se_bo (fun _ _ _ _ _ => rfl) (sb_and (se_cmp g.hu .eq (se_fld (se_v rfl rfl rfl rfl) rfl (cl_Rule T) (na_Rule_own_slack T)) (se_fld (se_v rfl rfl rfl rfl) rfl (cl_Rule T) (na_Rule_own_slack T)) rfl) (sb_one (se_cmp g.hu .eq (se_fld (se_v rfl rfl rfl rfl) rfl (cl_Rule T) (na_Rule_own_raises T)) (se_fld (se_v rfl rfl rfl rfl) rfl (cl_Rule T) (na_Rule_own_raises T)) rfl))))) ss_nil)
theorem fn_are_some (T : Tt K mg base) : ∃ fd, FnS K "are_some" "are_some" s_are_some (He.ga K "are_some") fd := T.fn 1 rfl
theorem sc_are_some : FnScope ["thing", "words", "word"] ["thing", "words"] (defScope s_are_some) := ⟨rfl, rfl, rfl, by decide +kernel, rfl, by decide +kernel, by decide +kernel⟩
theorem ok_are_some (T : Tt K mg base) : OkG P w K mg base 1 (He.ga K "are_some") ["thing", "words"] (spG K g_are_some) :=
  okG_of (k := 0) (T.fn 1 rfl) (fun _ _ _ _ _ _ us hl => match us, hl with | [_, _], _ => rfl) sc_are_some rfl rfl fun cdv B out z G Z g hp =>
    ss_cons (st_if (se_bo (fun _ _ _ _ _ => rfl) (sb_or (se_not (se_isi1 (isiF T) (isi_mem1 rfl) rfl (m_isinstance T) rfl rfl rfl (fun _ => rfl) (se_v rfl rfl rfl rfl) (sc_bi rfl (m_tuple T) (by decide +kernel) rfl (by decide) rfl))) (sb_one (se_not (se_callB (cr_allD g.calm) rfl (m_all T) (by decide +kernel) (by decide) rfl rfl rfl (fun _ => rfl) (sa_cons rfl (se_lc (own := [("word", 2)]) g.calm g.nd (si_seq (se_v rfl rfl rfl rfl)) (blkOk_by rfl) (fun z1 G1 C1 cl1 fp1 J1 h1 => tg_name (h1 2 (by decide)) (g.blk _ z1 G1 C1 cl1 fp1).nd rfl (.inl rfl) (.inr rfl)) (fun z1 G1 C1 cl1 fp1 => sif_nil) (fun z1 G1 C1 cl1 fp1 => se_bo (fun _ _ _ _ _ => rfl) (sb_and (se_isi1 (isiF T) (isi_mem1 rfl) rfl (m_isinstance T) rfl rfl rfl (fun _ => rfl) (se_v rfl rfl rfl rfl) (sc_bi rfl (m_str T) (by decide +kernel) rfl (by decide) rfl)) (sb_one (se_cmp (g.blk _ z1 G1 C1 cl1 fp1).hu .in_ (se_v rfl rfl rfl rfl) (se_v rfl rfl rfl rfl) rfl)))) (fun _ => rfl) (fun _ => rfl)) sa_nil)))))) (ss_cons (st_ret (fun _ => nofun) se_bl) ss_nil) ss_nil) (ss_cons (st_ret (fun _ => nofun) (se_cmp g.hu .eq (se_lenset g.calm rfl (m_len T) rfl (m_set T) rfl (fun _ => rfl) (se_v rfl rfl rfl rfl)) (se_callB cr_len rfl (m_len T) (by decide +kernel) (by decide) rfl rfl rfl (fun _ => rfl) (sa_cons rfl (se_v rfl rfl rfl rfl) sa_nil)) rfl)) ss_nil)
theorem fn_is_number (T : Tt K mg base) : ∃ fd, FnS K "is_number" "is_number" s_is_number (He.ga K "is_number") fd := T.fn 2 rfl
theorem sc_is_number : FnScope ["thing"] ["thing"] (defScope s_is_number) := ⟨rfl, rfl, rfl, by decide +kernel, rfl, by decide +kernel, by decide +kernel⟩
theorem ok_is_number (T : Tt K mg base) : OkG P w K mg base 1 (He.ga K "is_number") ["thing"] (spG K g_is_number) :=
  okG_of (k := 0) (T.fn 2 rfl) (fun _ _ _ _ _ _ us hl => match us, hl with | [_], _ => rfl) sc_is_number rfl rfl fun cdv B out z G Z g hp =>
    ss_cons (st_ret (fun _ => nofun) (se_bo (fun _ _ _ _ _ => rfl) (sb_and (se_isi1 (isiF T) (isi_mem1 rfl) rfl (m_isinstance T) rfl rfl rfl (fun _ => rfl) (se_v rfl rfl rfl rfl) (sc_bi rfl (m_int T) (by decide +kernel) rfl (by decide) rfl)) (sb_one (se_not (se_isi1 (isiF T) (isi_mem1 rfl) rfl (m_isinstance T) rfl rfl rfl (fun _ => rfl) (se_v rfl rfl rfl rfl) (sc_bi rfl (m_bool T) (by decide +kernel) rfl (by decide) rfl))))))) ss_nil
theorem fn__law_unlike (T : Tt K mg base) : ∃ fd, FnS K "_law_unlike" "_law_unlike" s__law_unlike (He.ga K "_law_unlike") fd := T.fn 3 rfl
theorem sc__law_unlike : FnScope ["_law_way_here", "_law_found", "_law_order", "_law_changed", "_law_part", "_law_every", "_law_word", "_law_one", "_law_worth", "_law_other"] ["_law_way_here"] (defScope s__law_unlike) := ⟨rfl, rfl, rfl, by decide +kernel, rfl, by decide +kernel, by decide +kernel⟩
theorem ok__law_unlike (T : Tt K mg base) : OkG P w K mg base 1 (He.ga K "_law_unlike") ["_law_way_here"] (spG K g__law_unlike) :=
  okG_of (k := 0) (T.fn 3 rfl) (fun _ _ _ _ _ _ us hl => match us, hl with | [_], _ => rfl) sc__law_unlike rfl rfl fun cdv B out z G Z g hp =>
    ss_cons (st_par2 jT jT g.calm g.nd rfl rfl (by decide) rfl rfl (ou_cons rfl (se_lst sa_nil) (ou_cons rfl (se_ix g.hu (se_v rfl rfl rfl rfl) se_str (fun _ _ => rfl)) ou_nil)) rfl rfl) (ss_cons (st_set jT g.nd rfl (.inl rfl) (se_lst (sa_cons rfl (se_tup (sa_cons rfl se_str (sa_cons rfl (se_bin g.hu0 .mod (se_callTy cr_int rfl (m_int T) (by decide +kernel) (by decide) rfl rfl rfl (fun _ => rfl) (sa_cons rfl (se_bin g.hu0 .add (se_ix g.hu (se_v rfl rfl rfl rfl) se_str (fun _ _ => rfl)) se_int) sa_nil)) se_int) sa_nil))) (sa_cons rfl (se_tup (sa_cons rfl se_str (sa_cons rfl (se_ife (se_cmp g.hu .ne (se_v rfl rfl rfl rfl) (se_tup sa_nil) rfl) (se_sl (se_v rfl rfl rfl rfl) (so_some se_int) so_none) (se_tup (sa_cons rfl se_str sa_nil))) sa_nil))) sa_nil))) rfl (.inr rfl)) (ss_cons (st_if (se_cmp g.hu .gt (se_callB cr_len rfl (m_len T) (by decide +kernel) (by decide) rfl rfl rfl (fun _ => rfl) (sa_cons rfl (se_v rfl rfl rfl rfl) sa_nil)) se_int rfl) (ss_cons (st_ex (se_mm PySem.F.slot_list_append PySem.F.type_list_append mm_append (se_v rfl rfl rfl rfl) (sa_cons rfl (se_tup (sa_cons rfl se_str (sa_cons rfl (se_bin g.hu0 .add (se_tup (sa_cons rfl (se_ix g.hu (se_v rfl rfl rfl rfl) se_int (fun _ _ => rfl)) (sa_cons rfl (se_ix g.hu (se_v rfl rfl rfl rfl) se_int (fun _ _ => rfl)) sa_nil))) (se_sl (se_v rfl rfl rfl rfl) (so_some se_int) so_none)) sa_nil))) sa_nil) rfl rfl rfl rfl rfl (fun _ => rfl)) rfl) ss_nil) ss_nil) (ss_cons (st_for hp g.calm (si_seq (se_lst (sa_cons rfl (se_tup (sa_cons rfl se_str (sa_cons rfl (se_lst (sa_cons rfl se_str (sa_cons rfl se_str (sa_cons rfl se_str sa_nil)))) sa_nil))) (sa_cons rfl (se_tup (sa_cons rfl se_str (sa_cons rfl (se_lst (sa_cons rfl se_str (sa_cons rfl se_str sa_nil))) sa_nil))) sa_nil)))) (tg_tup g.calm (tgs_cons (tg_name jT g.nd rfl (.inr rfl) (.inl rfl)) (tgs_cons (tg_name jT g.nd rfl (.inl rfl) (.inr rfl)) tgs_nil rfl) rfl) rfl rfl) (ss_cons (st_for hp g.calm (si_seq (se_v rfl rfl rfl rfl)) (tg_name jT g.nd rfl (.inr rfl) (.inl rfl)) (ss_cons (st_ex (se_mm PySem.F.slot_list_append PySem.F.type_list_append mm_append (se_v rfl rfl rfl rfl) (sa_cons rfl (se_tup (sa_cons rfl (se_v rfl rfl rfl rfl) (sa_cons rfl (se_callTy cr_tuple rfl (m_tuple T) (by decide +kernel) (by decide) rfl rfl rfl (fun _ => rfl) (sa_cons rfl (se_lc (own := [("_law_one", 7)]) g.calm g.nd (si_seq (se_v rfl rfl rfl rfl)) (blkOk_by rfl) (fun z1 G1 C1 cl1 fp1 J1 h1 => tg_name (h1 7 (by decide)) (g.blk _ z1 G1 C1 cl1 fp1).nd rfl (.inl rfl) (.inr rfl)) (fun z1 G1 C1 cl1 fp1 => sif_one (se_cmp (g.blk _ z1 G1 C1 cl1 fp1).hu .ne (se_cmp (g.blk _ z1 G1 C1 cl1 fp1).hu .in_ (se_v rfl rfl rfl rfl) (se_ix (g.blk _ z1 G1 C1 cl1 fp1).hu (se_v rfl rfl rfl rfl) (se_v rfl rfl rfl rfl) (fun _ _ => rfl)) rfl) (se_cmp (g.blk _ z1 G1 C1 cl1 fp1).hu .eq (se_v rfl rfl rfl rfl) (se_v rfl rfl rfl rfl) rfl) rfl)) (fun z1 G1 C1 cl1 fp1 => se_v rfl rfl rfl rfl) (fun _ => rfl) (fun _ => rfl)) sa_nil)) sa_nil))) sa_nil) rfl rfl rfl rfl rfl (fun _ => rfl)) rfl) ss_nil) (fun _ => rfl)) ss_nil) (fun _ => rfl)) (ss_cons (st_for hp g.calm (si_seq (se_v rfl rfl rfl rfl)) (tg_tup g.calm (tgs_cons (tg_name jT g.nd rfl (.inr rfl) (.inl rfl)) (tgs_cons (tg_name jT g.nd rfl (.inl rfl) (.inr rfl)) tgs_nil rfl) rfl) rfl rfl) (ss_cons (st_set jT g.nd rfl (.inl rfl) (se_callTy (cr_dictD g.calm) rfl (m_dict T) (by decide +kernel) (by decide) rfl rfl rfl (fun _ => rfl) (sa_cons rfl (se_v rfl rfl rfl rfl) sa_nil)) rfl (.inr rfl)) (ss_cons (st_setix g.hu1 (se_v rfl rfl rfl rfl) (se_v rfl rfl rfl rfl) (se_v rfl rfl rfl rfl) rfl rfl rfl (fun _ => rfl)) (ss_cons (st_ex (se_mm PySem.F.slot_list_append PySem.F.type_list_append mm_append (se_v rfl rfl rfl rfl) (sa_cons rfl (se_tup (sa_cons rfl (se_v rfl rfl rfl rfl) (sa_cons rfl (se_v rfl rfl rfl rfl) sa_nil))) sa_nil) rfl rfl rfl rfl rfl (fun _ => rfl)) rfl) ss_nil))) (fun _ => rfl)) (ss_cons (st_retV (pe_v rfl rfl rfl rfl)) ss_nil)))))
theorem fn__law_blend (T : Tt K mg base) : ∃ fd, FnS K "_law_blend" "_law_blend" s__law_blend (He.ga K "_law_blend") fd := T.fn 4 rfl
theorem sc__law_blend : FnScope ["_law_draw", "_law_turn", "_law_found", "_law_prime", "_law_blend_here", "_law_cell"] ["_law_draw"] (defScope s__law_blend) := ⟨rfl, rfl, rfl, by decide +kernel, rfl, by decide +kernel, by decide +kernel⟩
theorem ok__law_blend (T : Tt K mg base) : OkG P w K mg base 1 (He.ga K "_law_blend") ["_law_draw"] (spG K g__law_blend) :=
  okG_of (k := 0) (T.fn 4 rfl) (fun _ _ _ _ _ _ us hl => match us, hl with | [_], _ => rfl) sc__law_blend rfl rfl fun cdv B out z G Z g hp =>
    ss_cons (st_set jT g.nd rfl (.inl rfl) (se_bin g.hu0 .add (se_ix g.hu (se_v rfl rfl rfl rfl) se_str (fun _ _ => rfl)) se_int) rfl (.inr rfl)) (ss_cons (st_setix g.hu1 (se_v rfl rfl rfl rfl) se_str (se_v rfl rfl rfl rfl) rfl rfl rfl (fun _ => rfl)) (ss_cons (st_set jT g.nd rfl (.inl rfl) se_int rfl (.inr rfl)) (ss_cons (st_for hp g.calm (si_seq (se_lst (sa_cons rfl se_int (sa_cons rfl se_int (sa_cons rfl se_int (sa_cons rfl se_int sa_nil)))))) (tg_name jT g.nd rfl (.inl rfl) (.inr rfl)) (ss_cons (st_set jT g.nd rfl (.inl rfl) (se_bin g.hu0 .mod (se_callTy cr_int rfl (m_int T) (by decide +kernel) (by decide) rfl rfl rfl (fun _ => rfl) (sa_cons rfl (se_bin g.hu0 .add (se_bin g.hu0 .mul (se_v rfl rfl rfl rfl) se_int) (se_bin g.hu0 .fdiv (se_v rfl rfl rfl rfl) se_int)) sa_nil)) (se_v rfl rfl rfl rfl)) rfl (.inr rfl)) (ss_cons (st_for hp g.calm (si_seq (se_ix g.hu (se_v rfl rfl rfl rfl) se_str (fun _ _ => rfl))) (tg_name jT g.nd rfl (.inl rfl) (.inr rfl)) (ss_cons (st_set jT g.nd rfl (.inl rfl) (se_bin g.hu0 .mod (se_callTy cr_int rfl (m_int T) (by decide +kernel) (by decide) rfl rfl rfl (fun _ => rfl) (sa_cons rfl (se_bin g.hu0 .add (se_bin g.hu0 .mul (se_v rfl rfl rfl rfl) se_int) (se_v rfl rfl rfl rfl)) sa_nil)) (se_v rfl rfl rfl rfl)) rfl (.inr rfl)) ss_nil) (fun _ => rfl)) (ss_cons (st_set jT g.nd rfl (.inl rfl) (se_bin g.hu0 .add (se_bin g.hu0 .mul (se_v rfl rfl rfl rfl) se_int) (se_bin g.hu0 .mod (se_callTy cr_int rfl (m_int T) (by decide +kernel) (by decide) rfl rfl rfl (fun _ => rfl) (sa_cons rfl (se_bin g.hu0 .pow (se_v rfl rfl rfl rfl) se_int) sa_nil)) (se_v rfl rfl rfl rfl))) rfl (.inr rfl)) ss_nil))) (fun _ => rfl)) (ss_cons (st_retV (pe_v rfl rfl rfl rfl)) ss_nil))))
theorem fn__law_begin (T : Tt K mg base) : ∃ fd, FnS K "_law_begin" "_law_begin" s__law_begin (He.ga K "_law_begin") fd := T.fn 5 rfl
theorem sc__law_begin : FnScope ["_law_script", "_law_great", "_law_cell"] ["_law_script"] (defScope s__law_begin) := ⟨rfl, rfl, rfl, by decide +kernel, rfl, by decide +kernel, by decide +kernel⟩
theorem ok__law_begin (T : Tt K mg base) : OkG P w K mg base 1 (He.ga K "_law_begin") ["_law_script"] (spG K g__law_begin) :=
  okG_of (k := 0) (T.fn 5 rfl) (fun _ _ _ _ _ _ us hl => match us, hl with | [_], _ => rfl) sc__law_begin rfl rfl fun cdv B out z G Z g hp =>
    ss_cons (st_setLcA (own := [("_law_cell", 2)]) jT g.calm g.nd rfl rfl rfl (si_seq (se_v rfl rfl rfl rfl)) (blkOk_by rfl) (fun z1 G1 C1 cl1 fp1 J1 h1 => tg_name (h1 2 (by decide)) (g.blk _ z1 G1 C1 cl1 fp1).nd rfl (.inl rfl) (.inr rfl)) (fun z1 G1 C1 cl1 fp1 => sif_one (se_cmp (g.blk _ z1 G1 C1 cl1 fp1).hu .ge (se_callB cr_abs rfl (m_abs T) (by decide +kernel) (by decide) rfl rfl rfl (fun _ => rfl) (sa_cons rfl (se_v rfl rfl rfl rfl) sa_nil)) (se_bin (g.blk _ z1 G1 C1 cl1 fp1).hu0 .pow se_int se_int) rfl)) (fun z1 G1 C1 cl1 fp1 => se_bin (g.blk _ z1 G1 C1 cl1 fp1).hu0 .sub (se_callB cr_abs rfl (m_abs T) (by decide +kernel) (by decide) rfl rfl rfl (fun _ => rfl) (sa_cons rfl (se_v rfl rfl rfl rfl) sa_nil)) (se_bin (g.blk _ z1 G1 C1 cl1 fp1).hu0 .pow se_int se_int)) (fun _ => rfl)) (ss_cons (st_ret (fun _ => nofun) (se_alloc (fun _ => rfl) (se_dct (sp_cons se_str (se_v rfl rfl rfl rfl) (sp_cons se_str se_int (sp_cons se_str (se_lc (own := [("_law_cell", 2)]) g.calm g.nd (si_seq (se_v rfl rfl rfl rfl)) (blkOk_by rfl) (fun z1 G1 C1 cl1 fp1 J1 h1 => tg_name (h1 2 (by decide)) (g.blk _ z1 G1 C1 cl1 fp1).nd rfl (.inl rfl) (.inr rfl)) (fun z1 G1 C1 cl1 fp1 => sif_nil) (fun z1 G1 C1 cl1 fp1 => se_callB cr_abs rfl (m_abs T) (by decide +kernel) (by decide) rfl rfl rfl (fun _ => rfl) (sa_cons rfl (se_v rfl rfl rfl rfl) sa_nil)) (fun _ => rfl) (fun _ => rfl)) (sp_cons se_str se_int sp_nil)))) rfl rfl nofun (by decide)))) ss_nil)
theorem fn_are_ascending_some (T : Tt K mg base) : ∃ fd, FnS K "are_ascending_some" "are_ascending_some" s_are_ascending_some (He.ga K "are_ascending_some") fd := T.fn 6 rfl
theorem sc_are_ascending_some : FnScope ["thing", "words"] ["thing", "words"] (defScope s_are_ascending_some) := ⟨rfl, rfl, rfl, by decide +kernel, rfl, by decide +kernel, by decide +kernel⟩
theorem ok_are_ascending_some (T : Tt K mg base) : OkG P w K mg base 2 (He.ga K "are_ascending_some") ["thing", "words"] (spG K g_are_ascending_some) :=
  okG_of (k := 1) (T.fn 6 rfl) (fun _ _ _ _ _ _ us hl => match us, hl with | [_, _], _ => rfl) sc_are_ascending_some rfl rfl fun cdv B out z G Z g hp =>
    ss_cons (st_ret (fun _ => nofun) (se_bo (fun _ _ _ _ _ => rfl) (sb_and (se_cG (ok_are_some T) g (by decide) (m_are_some T) rfl rfl rfl rfl (fun _ => rfl) (sa_cons rfl (se_v rfl rfl rfl rfl) (sa_cons rfl (se_v rfl rfl rfl rfl) sa_nil))) (sb_one (se_cmp g.hu .eq (se_callTy (cr_list g.calm) rfl (m_list T) (by decide +kernel) (by decide) rfl rfl rfl (fun _ => rfl) (sa_cons rfl (se_v rfl rfl rfl rfl) sa_nil)) (se_callB (cr_sortedD g.hu) rfl (m_sorted T) (by decide +kernel) (by decide) rfl rfl rfl (fun _ => rfl) (sa_cons rfl (se_v rfl rfl rfl rfl) sa_nil)) rfl))))) ss_nil
theorem fn_is_number_in (T : Tt K mg base) : ∃ fd, FnS K "is_number_in" "is_number_in" s_is_number_in (He.ga K "is_number_in") fd := T.fn 7 rfl
theorem sc_is_number_in : FnScope ["thing", "least", "most"] ["thing", "least", "most"] (defScope s_is_number_in) := ⟨rfl, rfl, rfl, by decide +kernel, rfl, by decide +kernel, by decide +kernel⟩
theorem ok_is_number_in (T : Tt K mg base) : OkG P w K mg base 2 (He.ga K "is_number_in") ["thing", "least", "most"] (spG K g_is_number_in) :=
  okG_of (k := 1) (T.fn 7 rfl) (fun _ _ _ _ _ _ us hl => match us, hl with | [_, _, _], _ => rfl) sc_is_number_in rfl rfl fun cdv B out z G Z g hp =>
    ss_cons (st_ret (fun _ => nofun) (se_bo (fun _ _ _ _ _ => rfl) (sb_and (se_cG (ok_is_number T) g (by decide) (m_is_number T) rfl rfl rfl rfl (fun _ => rfl) (sa_cons rfl (se_v rfl rfl rfl rfl) sa_nil)) (sb_one (se_chain g.hu .le .le (se_v rfl rfl rfl rfl) (se_v rfl rfl rfl rfl) (se_v rfl rfl rfl rfl) rfl))))) ss_nil
theorem fn__law_take (T : Tt K mg base) : ∃ fd, FnS K "_law_take" "_law_take" s__law_take (He.ga K "_law_take") fd := T.fn 8 rfl
theorem sc__law_take : FnScope ["_law_draw", "_law_many", "_law_found"] ["_law_draw", "_law_many"] (defScope s__law_take) := ⟨rfl, rfl, rfl, by decide +kernel, rfl, by decide +kernel, by decide +kernel⟩
theorem ok__law_take (T : Tt K mg base) : OkG P w K mg base 2 (He.ga K "_law_take") ["_law_draw", "_law_many"] (spG K g__law_take) :=
  okG_of (k := 1) (T.fn 8 rfl) (fun _ _ _ _ _ _ us hl => match us, hl with | [_, _], _ => rfl) sc__law_take rfl rfl fun cdv B out z G Z g hp =>
    ss_cons (st_if (se_bo (fun _ _ _ _ _ => rfl) (sb_and (se_cmp g.hu .eq (se_ix g.hu (se_v rfl rfl rfl rfl) se_str (fun _ _ => rfl)) se_int rfl) (sb_one (se_cmp g.hu .ne (se_ix g.hu (se_v rfl rfl rfl rfl) se_str (fun _ _ => rfl)) (se_lst sa_nil) rfl)))) (ss_cons (st_setix g.hu1 (se_v rfl rfl rfl rfl) se_str (se_mm PySem.F.slot_list_pop PySem.F.type_list_pop mm_pop (se_ix g.hu (se_v rfl rfl rfl rfl) se_str (fun _ _ => rfl)) (sa_cons rfl se_int sa_nil) rfl rfl rfl rfl rfl (fun _ => rfl)) rfl rfl rfl (fun _ => rfl)) ss_nil) ss_nil) (ss_cons (st_if (se_cmp g.hu .eq (se_ix g.hu (se_v rfl rfl rfl rfl) se_str (fun _ _ => rfl)) se_int rfl) (ss_cons (st_setix g.hu1 (se_v rfl rfl rfl rfl) se_str (se_cG (ok__law_blend T) g (by decide) (m__law_blend T) rfl rfl rfl rfl (fun _ => rfl) (sa_cons rfl (se_v rfl rfl rfl rfl) sa_nil)) rfl rfl rfl (fun _ => rfl)) ss_nil) ss_nil) (ss_cons (st_set jT g.nd rfl (.inl rfl) (se_bin g.hu0 .mod (se_callTy cr_int rfl (m_int T) (by decide +kernel) (by decide) rfl rfl rfl (fun _ => rfl) (sa_cons rfl (se_ix g.hu (se_v rfl rfl rfl rfl) se_str (fun _ _ => rfl)) sa_nil)) (se_v rfl rfl rfl rfl)) rfl (.inr rfl)) (ss_cons (st_setix g.hu1 (se_v rfl rfl rfl rfl) se_str (se_bin g.hu0 .fdiv (se_ix g.hu (se_v rfl rfl rfl rfl) se_str (fun _ _ => rfl)) (se_v rfl rfl rfl rfl)) rfl rfl rfl (fun _ => rfl)) (ss_cons (st_retV (pe_v rfl rfl rfl rfl)) ss_nil))))
theorem fn_Rule_init (T : Tt K mg base) : ∃ fd, FnS K "__init__" "Rule.__init__" s_Rule_init (He.ma K (He.ga K "Rule") "__init__") fd := T.fn 9 rfl
theorem sc_Rule_init : FnScope ["self", "order", "kept", "slack", "raises"] ["self", "order", "kept", "slack", "raises"] (defScope s_Rule_init) := ⟨rfl, rfl, rfl, by decide +kernel, rfl, by decide +kernel, by decide +kernel⟩
theorem ok_Rule_init (T : Tt K mg base) : OkG P w K mg base 3 (He.ma K (He.ga K "Rule") "__init__") ["self", "order", "kept", "slack", "raises"] (spI K "Rule" g_Rule_init) :=
  okI_of (k := 2) (T.fn 9 rfl) (fun _ _ _ _ _ _ us hl => match us, hl with | [_, _, _, _, _], _ => rfl) sc_Rule_init rfl rfl fun cdv B out z G Z J g hp hj =>
    ss_cons (st_if (se_not (se_cG (ok_are_some T) g (by decide) (m_are_some T) rfl rfl rfl rfl (fun _ => rfl) (sa_cons rfl (se_v rfl rfl rfl rfl) (sa_cons rfl (se_globT rfl (c_KEYS T) rfl (k_KEYS T) kr_KEYS) sa_nil)))) (ss_cons (st_raise raise_lit) ss_nil) ss_nil) (ss_cons (st_if (se_not (se_cG (ok_are_ascending_some T) g (by decide) (m_are_ascending_some T) rfl rfl rfl rfl (fun _ => rfl) (sa_cons rfl (se_v rfl rfl rfl rfl) (sa_cons rfl (se_globT rfl (c_KEPT T) rfl (k_KEPT T) kr_KEPT) sa_nil)))) (ss_cons (st_raise raise_lit) ss_nil) ss_nil) (ss_cons (st_if (se_not (se_cG (ok_is_number_in T) g (by decide) (m_is_number_in T) rfl rfl rfl rfl (fun _ => rfl) (sa_cons rfl (se_v rfl rfl rfl rfl) (sa_cons rfl se_int (sa_cons rfl (se_globI rfl (c_MOST_SLACK T) rfl) sa_nil))))) (ss_cons (st_raise raise_lit) ss_nil) ss_nil) (ss_cons (st_if (se_not (se_cG (ok_are_ascending_some T) g (by decide) (m_are_ascending_some T) rfl rfl rfl rfl (fun _ => rfl) (sa_cons rfl (se_v rfl rfl rfl rfl) (sa_cons rfl (se_globT rfl (c_RAISES T) rfl (k_RAISES T) kr_RAISES) sa_nil)))) (ss_cons (st_raise raise_lit) ss_nil) ss_nil) (ss_cons (st_setfld (cl_Rule T) (na_Rule_own_order T) (se_v rfl rfl rfl rfl) (se_v rfl rfl rfl rfl) rfl) (ss_cons (st_setfld (cl_Rule T) (na_Rule_own_kept T) (se_v rfl rfl rfl rfl) (se_v rfl rfl rfl rfl) rfl) (ss_cons (st_setfld (cl_Rule T) (na_Rule_own_slack T) (se_v rfl rfl rfl rfl) (se_v rfl rfl rfl rfl) rfl) (ss_cons (st_setfld (cl_Rule T) (na_Rule_own_raises T) (se_v rfl rfl rfl rfl) (se_v rfl rfl rfl rfl) rfl) ss_nil)))))))
theorem fn__law_pick (T : Tt K mg base) : ∃ fd, FnS K "_law_pick" "_law_pick" s__law_pick (He.ga K "_law_pick") fd := T.fn 10 rfl
theorem sc__law_pick : FnScope ["_law_draw", "_law_some_here"] ["_law_draw", "_law_some_here"] (defScope s__law_pick) := ⟨rfl, rfl, rfl, by decide +kernel, rfl, by decide +kernel, by decide +kernel⟩
theorem ok__law_pick (T : Tt K mg base) : OkG P w K mg base 3 (He.ga K "_law_pick") ["_law_draw", "_law_some_here"] (spG K g__law_pick) :=
  okG_of (k := 2) (T.fn 10 rfl) (fun _ _ _ _ _ _ us hl => match us, hl with | [_, _], _ => rfl) sc__law_pick rfl rfl fun cdv B out z G Z g hp =>
    ss_cons (st_ret (fun _ => nofun) (se_ix g.hu (se_v rfl rfl rfl rfl) (se_cG (ok__law_take T) g (by decide) (m__law_take T) rfl rfl rfl rfl (fun _ => rfl) (sa_cons rfl (se_v rfl rfl rfl rfl) (sa_cons rfl (se_callB cr_len rfl (m_len T) (by decide +kernel) (by decide) rfl rfl rfl (fun _ => rfl) (sa_cons rfl (se_v rfl rfl rfl rfl) sa_nil)) sa_nil))) (fun _ _ => rfl))) ss_nil
theorem fn__law_some (T : Tt K mg base) : ∃ fd, FnS K "_law_some" "_law_some" s__law_some (He.ga K "_law_some") fd := T.fn 11 rfl
theorem sc__law_some : FnScope ["_law_draw", "_law_words", "_law_word"] ["_law_draw", "_law_words"] (defScope s__law_some) := ⟨rfl, rfl, rfl, by decide +kernel, rfl, by decide +kernel, by decide +kernel⟩
theorem ok__law_some (T : Tt K mg base) : OkG P w K mg base 3 (He.ga K "_law_some") ["_law_draw", "_law_words"] (spG K g__law_some) :=
  okG_of (k := 2) (T.fn 11 rfl) (fun _ _ _ _ _ _ us hl => match us, hl with | [_, _], _ => rfl) sc__law_some rfl rfl fun cdv B out z G Z g hp =>
    ss_cons (st_ret (fun _ => nofun) (se_callTy cr_tuple rfl (m_tuple T) (by decide +kernel) (by decide) rfl rfl rfl (fun _ => rfl) (sa_cons rfl (se_lc (own := [("_law_word", 2)]) g.calm g.nd (si_seq (se_v rfl rfl rfl rfl)) (blkOk_by rfl) (fun z1 G1 C1 cl1 fp1 J1 h1 => tg_name (h1 2 (by decide)) (g.blk _ z1 G1 C1 cl1 fp1).nd rfl (.inl rfl) (.inr rfl)) (fun z1 G1 C1 cl1 fp1 => sif_one (se_cmp (g.blk _ z1 G1 C1 cl1 fp1).hu .eq (se_cG (ok__law_take T) (g.blk _ z1 G1 C1 cl1 fp1) (by decide) (m__law_take T) rfl rfl rfl rfl (fun _ => rfl) (sa_cons rfl (se_v rfl rfl rfl rfl) (sa_cons rfl se_int sa_nil))) se_int rfl)) (fun z1 G1 C1 cl1 fp1 => se_v rfl rfl rfl rfl) (fun _ => rfl) (fun _ => rfl)) sa_nil))) ss_nil
theorem fn__law_mixed (T : Tt K mg base) : ∃ fd, FnS K "_law_mixed" "_law_mixed" s__law_mixed (He.ga K "_law_mixed") fd := T.fn 12 rfl
theorem sc__law_mixed : FnScope ["_law_draw", "_law_some_here", "_law_left", "_law_found"] ["_law_draw", "_law_some_here"] (defScope s__law_mixed) := ⟨rfl, rfl, rfl, by decide +kernel, rfl, by decide +kernel, by decide +kernel⟩
theorem ok__law_mixed (T : Tt K mg base) : OkG P w K mg base 3 (He.ga K "_law_mixed") ["_law_draw", "_law_some_here"] (spG K g__law_mixed) :=
  okG_of (k := 2) (T.fn 12 rfl) (fun _ _ _ _ _ _ us hl => match us, hl with | [_, _], _ => rfl) sc__law_mixed rfl rfl fun cdv B out z G Z g hp =>
    ss_cons (st_par2 jT jT g.calm g.nd rfl rfl (by decide) rfl rfl (ou_cons rfl (se_callTy (cr_list g.calm) rfl (m_list T) (by decide +kernel) (by decide) rfl rfl rfl (fun _ => rfl) (sa_cons rfl (se_v rfl rfl rfl rfl) sa_nil)) (ou_cons rfl (se_lst sa_nil) ou_nil)) rfl rfl) (ss_cons (st_while hp (se_cmp g.hu .ne (se_v rfl rfl rfl rfl) (se_lst sa_nil) rfl) (ss_cons (st_ex (se_mm PySem.F.slot_list_append PySem.F.type_list_append mm_append (se_v rfl rfl rfl rfl) (sa_cons rfl (se_mm PySem.F.slot_list_pop PySem.F.type_list_pop mm_pop (se_v rfl rfl rfl rfl) (sa_cons rfl (se_cG (ok__law_take T) g (by decide) (m__law_take T) rfl rfl rfl rfl (fun _ => rfl) (sa_cons rfl (se_v rfl rfl rfl rfl) (sa_cons rfl (se_callB cr_len rfl (m_len T) (by decide +kernel) (by decide) rfl rfl rfl (fun _ => rfl) (sa_cons rfl (se_v rfl rfl rfl rfl) sa_nil)) sa_nil))) sa_nil) rfl rfl rfl rfl rfl (fun _ => rfl)) sa_nil) rfl rfl rfl rfl rfl (fun _ => rfl)) rfl) ss_nil)) (ss_cons (st_retV (pe_v rfl rfl rfl rfl)) ss_nil))
theorem fn__law_way (T : Tt K mg base) : ∃ fd, FnS K "_law_way" "_law_way" s__law_way (He.ga K "_law_way") fd := T.fn 13 rfl
theorem sc__law_way : FnScope ["_law_draw", "_law_keys_here", "_law_kept_here", "_law_raised"] ["_law_draw"] (defScope s__law_way) := ⟨rfl, rfl, rfl, by decide +kernel, rfl, by decide +kernel, by decide +kernel⟩
theorem ok__law_way (T : Tt K mg base) : OkG P w K mg base 4 (He.ga K "_law_way") ["_law_draw"] (spG K g__law_way) :=
  okG_of (k := 3) (T.fn 13 rfl) (fun _ _ _ _ _ _ us hl => match us, hl with | [_], _ => rfl) sc__law_way rfl rfl fun cdv B out z G Z g hp =>
    ss_cons (st_set jT g.nd rfl (.inl rfl) (se_callTy cr_tuple rfl (m_tuple T) (by decide +kernel) (by decide) rfl rfl rfl (fun _ => rfl) (sa_cons rfl (se_sl (se_cG (ok__law_mixed T) g (by decide) (m__law_mixed T) rfl rfl rfl rfl (fun _ => rfl) (sa_cons rfl (se_v rfl rfl rfl rfl) (sa_cons rfl (se_lst (sa_cons rfl se_str (sa_cons rfl se_str (sa_cons rfl se_str (sa_cons rfl se_str sa_nil))))) sa_nil))) so_none (so_some (se_cG (ok__law_take T) g (by decide) (m__law_take T) rfl rfl rfl rfl (fun _ => rfl) (sa_cons rfl (se_v rfl rfl rfl rfl) (sa_cons rfl se_int sa_nil))))) sa_nil)) rfl (.inr rfl)) (ss_cons (st_if (se_bo (fun _ _ _ _ _ => rfl) (sb_and (se_cmp g.hu .eq (se_cG (ok__law_take T) g (by decide) (m__law_take T) rfl rfl rfl rfl (fun _ => rfl) (sa_cons rfl (se_v rfl rfl rfl rfl) (sa_cons rfl se_int sa_nil))) se_int rfl) (sb_one (se_cmp g.hu .nin se_str (se_v rfl rfl rfl rfl) rfl)))) (ss_cons (st_set jT g.nd rfl (.inl rfl) (se_bin g.hu0 .add (se_tup (sa_cons rfl se_str sa_nil)) (se_v rfl rfl rfl rfl)) rfl (.inr rfl)) ss_nil) ss_nil) (ss_cons (st_par2 jT jT g.calm g.nd rfl rfl (by decide) rfl rfl (ou_cons rfl (se_cG (ok__law_some T) g (by decide) (m__law_some T) rfl rfl rfl rfl (fun _ => rfl) (sa_cons rfl (se_v rfl rfl rfl rfl) (sa_cons rfl (se_lst (sa_cons rfl se_str (sa_cons rfl se_str (sa_cons rfl se_str sa_nil)))) sa_nil))) (ou_cons rfl (se_cG (ok__law_some T) g (by decide) (m__law_some T) rfl rfl rfl rfl (fun _ => rfl) (sa_cons rfl (se_v rfl rfl rfl rfl) (sa_cons rfl (se_lst (sa_cons rfl se_str (sa_cons rfl se_str sa_nil))) sa_nil))) ou_nil)) rfl rfl) (ss_cons (st_ret (fun _ => nofun) (se_dct (sp_cons se_str (se_v rfl rfl rfl rfl) (sp_cons se_str (se_v rfl rfl rfl rfl) (sp_cons se_str (se_cG (ok__law_pick T) g (by decide) (m__law_pick T) rfl rfl rfl rfl (fun _ => rfl) (sa_cons rfl (se_v rfl rfl rfl rfl) (sa_cons rfl (se_lst (sa_cons rfl se_int (sa_cons rfl se_int (sa_cons rfl se_int (sa_cons rfl se_int (sa_cons rfl se_int (sa_cons rfl se_int sa_nil))))))) sa_nil))) (sp_cons se_str (se_v rfl rfl rfl rfl) sp_nil)))) rfl rfl nofun (by decide))) ss_nil)))
theorem fn_Rule_with_part (T : Tt K mg base) : ∃ fd, FnS K "with_part" "Rule.with_part" s_Rule_with_part (He.ma K (He.ga K "Rule") "with_part") fd := T.fn 14 rfl
theorem sc_Rule_with_part : FnScope ["self", "part", "value", "parts"] ["self", "part", "value"] (defScope s_Rule_with_part) := ⟨rfl, rfl, rfl, by decide +kernel, rfl, by decide +kernel, by decide +kernel⟩
theorem ok_Rule_with_part (T : Tt K mg base) : OkG P w K mg base 5 (He.ma K (He.ga K "Rule") "with_part") ["self", "part", "value"] (spG K g_Rule_with_part) :=
  okG_of (k := 4) (T.fn 14 rfl) (fun _ _ _ _ _ _ us hl => match us, hl with | [_, _, _], _ => rfl) sc_Rule_with_part rfl rfl fun cdv B out z G Z g hp =>
    ss_cons (st_set jT g.nd rfl (.inl rfl) (se_dct (sp_cons se_str (se_fld (se_v rfl rfl rfl rfl) rfl (cl_Rule T) (na_Rule_own_order T)) (sp_cons se_str (se_fld (se_v rfl rfl rfl rfl) rfl (cl_Rule T) (na_Rule_own_kept T)) (sp_cons se_str (se_fld (se_v rfl rfl rfl rfl) rfl (cl_Rule T) (na_Rule_own_slack T)) (sp_cons se_str (se_fld (se_v rfl rfl rfl rfl) rfl (cl_Rule T) (na_Rule_own_raises T)) sp_nil)))) rfl rfl nofun (by decide)) rfl (.inr rfl)) (ss_cons (st_if (se_bo (fun _ _ _ _ _ => rfl) (sb_or (se_not (se_isi1 (isiF T) (isi_mem1 rfl) rfl (m_isinstance T) rfl rfl rfl (fun _ => rfl) (se_v rfl rfl rfl rfl) (sc_bi rfl (m_str T) (by decide +kernel) rfl (by decide) rfl))) (sb_one (se_cmp g.hu .nin (se_v rfl rfl rfl rfl) (se_v rfl rfl rfl rfl) rfl)))) (ss_cons (st_raise raise_lit) ss_nil) ss_nil) (ss_cons (st_setix g.hu1 (se_v rfl rfl rfl rfl) (se_v rfl rfl rfl rfl) (se_v rfl rfl rfl rfl) rfl rfl rfl (fun _ => rfl)) (ss_cons (st_ret (fun _ => nofun) (se_mG (mk_Rule T) (ok_Rule_init T) g (by decide) (m_Rule T) rfl rfl rfl rfl (fun _ => rfl) (sa_cons rfl (se_ix g.hu (se_v rfl rfl rfl rfl) se_str (fun _ _ => rfl)) (sa_cons rfl (se_ix g.hu (se_v rfl rfl rfl rfl) se_str (fun _ _ => rfl)) (sa_cons rfl (se_ix g.hu (se_v rfl rfl rfl rfl) se_str (fun _ _ => rfl)) (sa_cons rfl (se_ix g.hu (se_v rfl rfl rfl rfl) se_str (fun _ _ => rfl)) sa_nil)))))) ss_nil)))
theorem fn__law_rule (T : Tt K mg base) : ∃ fd, FnS K "_law_rule" "_law_rule" s__law_rule (He.ga K "_law_rule") fd := T.fn 15 rfl
theorem sc__law_rule : FnScope ["_law_way_here"] ["_law_way_here"] (defScope s__law_rule) := ⟨rfl, rfl, rfl, by decide +kernel, rfl, by decide +kernel, by decide +kernel⟩
theorem ok__law_rule (T : Tt K mg base) : OkG P w K mg base 5 (He.ga K "_law_rule") ["_law_way_here"] (spG K g__law_rule) :=
  okG_of (k := 4) (T.fn 15 rfl) (fun _ _ _ _ _ _ us hl => match us, hl with | [_], _ => rfl) sc__law_rule rfl rfl fun cdv B out z G Z g hp =>
    ss_cons (st_ret (fun _ => nofun) (se_mG (mk_Rule T) (ok_Rule_init T) g (by decide) (m_Rule T) rfl rfl rfl rfl (fun _ => rfl) (sa_cons rfl (se_ix g.hu (se_v rfl rfl rfl rfl) se_str (fun _ _ => rfl)) (sa_cons rfl (se_ix g.hu (se_v rfl rfl rfl rfl) se_str (fun _ _ => rfl)) (sa_cons rfl (se_ix g.hu (se_v rfl rfl rfl rfl) se_str (fun _ _ => rfl)) (sa_cons rfl (se_ix g.hu (se_v rfl rfl rfl rfl) se_str (fun _ _ => rfl)) sa_nil)))))) ss_nil
theorem fn_law (T : Tt K mg base) : ∃ fd, FnS K "law" "law" s_law (He.ga K "law") fd := T.fn 16 rfl
theorem sc_law : FnScope ["_law_script", "_law_draw", "_law_turn", "_law_way_here", "_law_told", "_law_other", "_law_part", "_law_near", "_law_odd"] ["_law_script"] (defScope s_law) := ⟨rfl, rfl, rfl, by decide +kernel, rfl, by decide +kernel, by decide +kernel⟩
theorem ok_law (T : Tt K mg base) : OkG P w K mg base 6 (He.ga K "law") ["_law_script"] (spG K g_law) :=
  okG_of (k := 5) (T.fn 16 rfl) (fun _ _ _ _ _ _ us hl => match us, hl with | [_], _ => rfl) sc_law rfl rfl fun cdv B out z G Z g hp =>
    ss_cons (st_set jT g.nd rfl (.inl rfl) (se_cG (ok__law_begin T) g (by decide) (m__law_begin T) rfl rfl rfl rfl (fun _ => rfl) (sa_cons rfl (se_v rfl rfl rfl rfl) sa_nil)) rfl (.inr rfl)) (ss_cons (st_for hp g.calm (si_rng1 rfl (m_range T) (se_bin g.hu0 .add se_int (se_callB (cr_minD g.calm g.hu) rfl (m_min T) (by decide +kernel) (by decide) rfl rfl rfl (fun _ => rfl) (sa_cons rfl (se_callB cr_len rfl (m_len T) (by decide +kernel) (by decide) rfl rfl rfl (fun _ => rfl) (sa_cons rfl (se_v rfl rfl rfl rfl) sa_nil)) (sa_cons rfl se_int sa_nil)))) rfl) (tg_name jT g.nd rfl (.inl rfl) (.inr rfl)) (ss_cons (st_set jT g.nd rfl (.inl rfl) (se_cG (ok__law_way T) g (by decide) (m__law_way T) rfl rfl rfl rfl (fun _ => rfl) (sa_cons rfl (se_v rfl rfl rfl rfl) sa_nil)) rfl (.inr rfl)) (ss_cons (st_set jT g.nd rfl (.inl rfl) (se_cG (ok__law_rule T) g (by decide) (m__law_rule T) rfl rfl rfl rfl (fun _ => rfl) (sa_cons rfl (se_v rfl rfl rfl rfl) sa_nil)) rfl (.inr rfl)) (ss_cons (st_if (se_bo (fun _ _ _ _ _ => rfl) (sb_or (se_eqo true (ok_Rule_eq T) g (by decide) (mt_Rule_eq T) (ne_Rule T) (isiF T) (isi_mem1 (c := .own "Rule") rfl _ rfl) (se_v rfl rfl rfl rfl) (se_cG (ok__law_rule T) g (by decide) (m__law_rule T) rfl rfl rfl rfl (fun _ => rfl) (sa_cons rfl (se_v rfl rfl rfl rfl) sa_nil)) rfl) (sb_one (se_not (se_eqo false (ok_Rule_eq T) g (by decide) (mt_Rule_eq T) (ne_Rule T) (isiF T) (isi_mem1 (c := .own "Rule") rfl _ rfl) (se_v rfl rfl rfl rfl) (se_cG (ok__law_rule T) g (by decide) (m__law_rule T) rfl rfl rfl rfl (fun _ => rfl) (sa_cons rfl (se_callTy (cr_dictD g.calm) rfl (m_dict T) (by decide +kernel) (by decide) rfl rfl rfl (fun _ => rfl) (sa_cons rfl (se_v rfl rfl rfl rfl) sa_nil)) sa_nil)) rfl))))) (ss_cons (st_ret (fun _ => nofun) se_bl) ss_nil) ss_nil) (ss_cons (st_for hp g.calm (si_seq (se_cG (ok__law_unlike T) g (by decide) (m__law_unlike T) rfl rfl rfl rfl (fun _ => rfl) (sa_cons rfl (se_v rfl rfl rfl rfl) sa_nil))) (tg_tup g.calm (tgs_cons (tg_name jT g.nd rfl (.inl rfl) (.inr rfl)) (tgs_cons (tg_name jT g.nd rfl (.inl rfl) (.inr rfl)) tgs_nil rfl) rfl) rfl rfl) (ss_cons (st_set jT g.nd rfl (.inl rfl) (se_cG (ok__law_rule T) g (by decide) (m__law_rule T) rfl rfl rfl rfl (fun _ => rfl) (sa_cons rfl (se_v rfl rfl rfl rfl) sa_nil)) rfl (.inr rfl)) (ss_cons (st_if (se_bo (fun _ _ _ _ _ => rfl) (sb_or (se_eqo false (ok_Rule_eq T) g (by decide) (mt_Rule_eq T) (ne_Rule T) (isiF T) (isi_mem1 (c := .own "Rule") rfl _ rfl) (se_v rfl rfl rfl rfl) (se_v rfl rfl rfl rfl) rfl) (sb_or (se_not (se_eqo true (ok_Rule_eq T) g (by decide) (mt_Rule_eq T) (ne_Rule T) (isiF T) (isi_mem1 (c := .own "Rule") rfl _ rfl) (se_v rfl rfl rfl rfl) (se_v rfl rfl rfl rfl) rfl)) (sb_one (se_eqo true (ok_Rule_eq T) g (by decide) (mt_Rule_eq T) (ne_Rule T) (isiF T) (isi_mem1 (c := .own "Rule") rfl _ rfl) (se_oG (cl_Rule T) (mt_Rule_with_part T) (ok_Rule_with_part T) g (by decide) rfl rfl (fun _ => rfl) rfl (se_v rfl rfl rfl rfl) (sa_cons rfl (se_v rfl rfl rfl rfl) (sa_cons rfl (se_ix g.hu (se_v rfl rfl rfl rfl) (se_v rfl rfl rfl rfl) (fun _ _ => rfl)) sa_nil))) (se_v rfl rfl rfl rfl) rfl))))) (ss_cons (st_ret (fun _ => nofun) se_bl) ss_nil) ss_nil) (ss_cons (st_if (se_eqo true (ok_Rule_eq T) g (by decide) (mt_Rule_eq T) (ne_Rule T) (isiF T) (isi_mem1 (c := .own "Rule") rfl _ rfl) (se_oG (cl_Rule T) (mt_Rule_with_part T) (ok_Rule_with_part T) g (by decide) rfl rfl (fun _ => rfl) rfl (se_v rfl rfl rfl rfl) (sa_cons rfl (se_v rfl rfl rfl rfl) (sa_cons rfl (se_ix g.hu (se_v rfl rfl rfl rfl) (se_v rfl rfl rfl rfl) (fun _ _ => rfl)) sa_nil))) (se_v rfl rfl rfl rfl) rfl) (ss_cons (st_ret (fun _ => nofun) se_bl) ss_nil) ss_nil) ss_nil))) (fun _ => rfl)) (ss_cons (st_for hp g.calm (si_seq (se_lst (sa_cons rfl se_non (sa_cons rfl (se_ix g.hu (se_v rfl rfl rfl rfl) se_str (fun _ _ => rfl)) (sa_cons rfl (se_v rfl rfl rfl rfl) (sa_cons rfl se_int (sa_cons rfl se_str (sa_cons rfl (se_tup (sa_cons rfl (se_getG (gt_Rule_order T) g.room (by decide) (se_v rfl rfl rfl rfl) rfl) (sa_cons rfl (se_getG (gt_Rule_kept T) g.room (by decide) (se_v rfl rfl rfl rfl) rfl) (sa_cons rfl (se_getG (gt_Rule_slack T) g.room (by decide) (se_v rfl rfl rfl rfl) rfl) (sa_cons rfl (se_getG (gt_Rule_raises T) g.room (by decide) (se_v rfl rfl rfl rfl) rfl) sa_nil))))) sa_nil)))))))) (tg_name jT g.nd rfl (.inl rfl) (.inr rfl)) (ss_cons (st_if (se_bo (fun _ _ _ _ _ => rfl) (sb_or (se_eqo false (ok_Rule_eq T) g (by decide) (mt_Rule_eq T) (ne_Rule T) (isiF T) (isi_mem1 (c := .own "Rule") rfl _ rfl) (se_v rfl rfl rfl rfl) (se_v rfl rfl rfl rfl) rfl) (sb_one (se_not (se_eqo true (ok_Rule_eq T) g (by decide) (mt_Rule_eq T) (ne_Rule T) (isiF T) (isi_mem1 (c := .own "Rule") rfl _ rfl) (se_v rfl rfl rfl rfl) (se_v rfl rfl rfl rfl) rfl))))) (ss_cons (st_ret (fun _ => nofun) se_bl) ss_nil) ss_nil) ss_nil) (fun _ => rfl)) ss_nil))))) (fun _ => rfl)) (ss_cons (st_ret (fun _ => nofun) se_bl) ss_nil))
end
end HP
theorem HP.holds_of (plain : ∀ ns : List Int, ns.length ≤ 63 → HP.g_law [.scr (ns.map .int)] [] (fun o _ => o = .val (.bl true)) (fun _ _ => False)) : PySem.Challenge.rw_heardplaces_k04_rules_equal.Holds := by
  w_on; o_law
  refine HandSHeadRun.head_any (r := HP.R) (q := PySem.W.view HP.R.prog [25]) (H := HP.hkX) (ob := HP.ob) (M := 6000) (loose := HP.names) (d := HandSHeadRun.topDef HP.R.prog 25) (kwd := []) HP.ob_eq
    (by kernel_rfl) (fun s => by kernel_rfl) HP.runs (by kernel_rfl) (by kernel_rfl) (by kernel_rfl) (by rfl) (by first | assumption | decide +kernel) (by decide +kernel) ⟨rfl, rfl, rfl, rfl, rfl, by decide +kernel⟩ ?hw ?hc
  case hw => w_witness2
  case hc =>
    refine HP.walkA_of (l := PySem.Challenge.rw_heardplaces_k04_rules_equal) (n := 63) (k := 6) (x := "_law_script") rfl (by decide) (by kernel_rfl) ⟨rfl, by decide, by decide⟩ ?_
    intro w mg fa h Y G hmg0
    obtain ⟨K, KX, c⟩ := Y
    have hmg : mg ("law" : PySem.Str) = some (.ref fa) := by
      have e : (HandSHeadRun.topDef HP.R.prog 25).name = ("law" : PySem.Str) := by kernel_rfl
      rw [← e]
      exact hmg0
    have T : HP.Tt K mg h := ⟨KX, G, c⟩
    have e := hmg.symm.trans (T.glo 14 rfl)
    cases e
    obtain ⟨fd, F⟩ := T.fn 16 rfl
    have b := L2.FunD.bindsA (ps := ["_law_script"]) F (fun _ _ _ _ _ _ us hl => match us, hl with | [_], _ => rfl)
    refine ⟨K, fd, HP.spG K HP.g_law, KX, fun s v => b s [v] rfl, fun H a ns hl _ hS => HP.end_sp (plain ns hl) hS, fun base kb hb => ?_⟩
    have ok := HP.ok_law (P := (PySem.Challenge.rw_heardplaces_k04_rules_equal).prog) (w := w) (T := (⟨kb, hb, c⟩ : HP.Tt K mg base))
    obtain ⟨⟨fd2, F2, _, q2⟩, _⟩ := ok
    have ef := (HP.fdAt_of F).uniq q2
    rw [← ef]
    exact F2

set_option maxHeartbeats 4000000
theorem PySem.Challenge.cw_heardplaces_k04_rules_equal_holds : PySem.Challenge.rw_heardplaces_k04_rules_equal.Holds := by
  exact HP.holds_of HP.plain
