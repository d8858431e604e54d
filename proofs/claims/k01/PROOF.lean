import PyProof.Rows.All
import Wide.All
import OpenK.AllK
import Wide.FinOn
import HandS.ForMost
import HandS.Dict
import KE.KDictKeyed
import KE.KeyNested
import KE.DataMinMax
import KE.DataEq
import KE.DataFind
import KE.DataCmp
import KE.DataIsa
import KE.SortData
import HandS.HeadHook1
import HandS.Lambda
import HandS.TupAny
import HandS.TupMul
import HandS.Style
import KE.KRevSl
import HandS.Wide
import PyProof.StrOps2
import HandS.Deep
import HandS.TupLen
import HandS.Conv
import HandS.Text
import HandS.Codes
import HandS.WordsDict
import HandS.RaiseMore
import HandS.More
import HandS.IsInst
import PyProof.ListStr
import HandS.Steps
import HandS.Property
import HandS.Exc
import KE.KEqNest
import KE.KDictCopyH
import KE.KEqDict
import KE.KDictDisplayH
import HandS.Strs
import HandS.Small
import HandS.TryOnly
import HandS.Iter
import KE.GoesMore
import HandS.Zip
import KE.GoesEnum
import HandS.Comp
import HandS.Defaults
import HandS.HotCalls
import PyProof.TupleOfSeq
import KE.KDictSum
import HandS.HeadHook2
import HandS.Ends
import HandS.HeadEnd
import HandS.HeadHook4
import HandS.EndTab
import HandS.Head0
import HandS.Head1
import HandS.Head2
import KE.KSuper
import HandS.Star
import KE.KDictPairs
import HandS.SetFor
import KE.KExcSuper
import HandS.ExcInit
import HandS.ExcValue
import HandS.ExcOwn
import HandS.ExcField
import KE.KExcIs
import HandS.SetBool
import KE.KSetDisp
import KE.KDictZip
import KE.KItemsList
import HandS.NamedTupSort
import OpenK.KWalk
import PyProof.InstEq
import KE.KExcStr
import PyProof.ReprBulk
import PyProof.Rows.ReprShort
import PySem.Challenge.RW_heardplaces_k01_errors_by_hand
set_option Elab.async false
set_option linter.all false
set_option maxRecDepth 100000
set_option maxHeartbeats 2000000
/-! HpTab0: dicts whose keys are nested tuples of numbers, bools and None, in the abstract heap. -/
namespace HP
open PySem L2
open PyProof.Rows hiding St
section
variable {P : Program} {w : World} {H : Hp} {h h' : Heap} {a b : Addr}
end
section
variable {X : Cx} {pins : List (Addr × Obj)} {σ : L2.St} {H : Hp} {s : Shared} {A : Around} {E : Value → Shared → Prop} {a b : Addr} {o : Obj}
end
end HP

/-! HpSem: values, a small language without places, its functional semantics (predicate transformers). -/
namespace HP
open PySem PySem.W

/-- a lambda as it stands in the text -/
structure LamSyn where
  q : Str
  params : Arguments
  body : Expr
  scope : Scope
/-- values; lists, dicts and instances that nobody changes any more are values, too -/
inductive D where
  | non
  | bl (b : Bool)
  | int (i : Int)
  | str (s : Str)
  | tup (xs : List D)
  | lst (xs : List D)
  | dct (ks vs : List D)
  | ins (c : Str) (ns : List Str) (vs : List D)
  | ref (n : Nat)
  | exc (c : Str) (vs : List D)
  | scr (xs : List D)
  | tab (ks vs : List D)
  | lam (a : Addr)
  | clo (L : List (Str × Addr)) (j : Nat) (y : LamSyn)

/-- a thing that can be changed: its content -/
inductive Cont where
  | lst (xs : List D)
  | dct (ks vs : List D)
  | ins (c : Str) (ns : List Str) (vs : List D)
  | tab (ks vs : List D)

inductive Slot where
  | unb
  | val (d : D)
  | own (c : Cont)
/-! ### plain data -/
mutual
def D.plain : D → Bool
  | .non => true
  | .bl _ => true
  | .int _ => true
  | .str _ => true
  | .tup xs => plains xs
  | .lst xs => plains xs
  | .dct _ _ => false
  | .ins _ _ _ => false
  | .ref _ => false
  | .exc _ _ => false
  | .scr _ => false
  | .tab _ _ => false
  | .lam _ => false
  | .clo _ _ _ => false
def plains : List D → Bool
  | [] => true
  | x :: xs => x.plain && plains xs
end
mutual
def D.dep : D → Nat
  | .tup xs => deps xs + 1
  | .lst xs => deps xs + 1
  | .dct _ _ => 0
  | .non => 0
  | .bl _ => 0
  | .int _ => 0
  | .str _ => 0
  | .ins _ _ _ => 0
  | .ref _ => 0
  | .exc _ _ => 0
  | .scr _ => 0
  | .tab _ _ => 0
  | .lam _ => 0
  | .clo _ _ _ => 0
def deps : List D → Nat
  | [] => 0
  | x :: xs => max x.dep (deps xs)
end
def D.ok (d : D) : Bool := d.plain && decide (d.dep ≤ 60)
mutual
/-- the library's data -/
def D.py : D → PyData
  | .non => .none
  | .bl b => .bool b
  | .int i => .int i
  | .str x => .str x
  | .tup xs => .tuple (pys xs)
  | .lst xs => .list (pys xs)
  | .dct _ _ => .none
  | .ins _ _ _ => .none
  | .ref _ => .none
  | .exc _ _ => .none
  | .scr _ => .none
  | .tab _ _ => .none
  | .lam _ => .none
  | .clo _ _ _ => .none
def pys : List D → List PyData
  | [] => []
  | x :: xs => x.py :: pys xs
end
/-- Python's == of plain data -/
def eqD (a b : D) : Bool := PyData.eqv a.py b.py
/-- the place of a key among keys: by Python's == -/
def keyAt (ks : List D) (k : D) : Option Nat := ks.findIdx? fun x => eqD x k
def getD (ks vs : List D) (k : D) : Option D := (keyAt ks k).bind fun i => vs[i]?
/-! ### the small language -/
inductive BinO where
  | add | sub | mul | fdiv | mod | pow | bor | shl
inductive CmpO where
  | eq | ne | lt | le | gt | ge | is | isn | in_ | nin
inductive Bm where
  | join | split | index | tindex | count | get


/-! ### operations by values -/
/-- the field that an exception of a class has -/
def excFld (c : Str) : Option Str :=
  if c = "BadRule" ∨ c = "BadHouse" then some "part" else if c = "BadRow" ∨ c = "BadRecords" ∨ c = "BadWish" ∨ c = "BadJournal" then some "at"
  else if c = "NoDevice" then some "name" else if c = "BadText" then some "line" else none
/-- an exception of the class c is one of the class d -/
def isSub (c d : Str) : Bool := decide (c = d) || decide (d = ("PlaceError" : Str)) || decide (d = ("ValueError" : Str))
/-- the receiver of a method that changes nothing -/
def Bm.ok : Bm → D → Bool
  | .join, .str _ => true
  | .split, .str _ => true
  | .index, .lst _ => true
  | .tindex, .tup _ => true
  | .count, .lst _ => true
  | .get, .dct _ _ => true
  | _, _ => false
/-! ### the semantics -/
/-- what a name stood for ahead of a comprehension that has it, too: a value comes back -/
def Slot.keep : Option Slot → Slot
  | some (.val d) => .val d
  | _ => .unb
end HP

set_option maxHeartbeats 2000000
/-! HpRel: how the values and containers of the small language stand in the abstract heap. -/
namespace HP
open PySem L2


section
variable {K : PySem.W.Frag} {F F' : Hp} {M M' : List Addr}
/-- where a body began: what was frozen, where the store stood, what was to be kept -/
structure Bs where
  F0 : Hp
  M0 : List Addr
  P0 : Hp
/-- the tables of the defs that make lambdas, with the lambdas' names -/
class LamT where
  cs : PySem.W.Frag → List (Addr × Addr × Str)
abbrev LamT.T [LamT] (K : PySem.W.Frag) : List (Addr × Str) := (LamT.cs K).map fun p => (p.2.1, p.2.2)
variable [LamT]
variable {β : Bs} {P : Hp} {σ σ' : St} {H H' : Hp}
end
end HP

set_option maxHeartbeats 2000000
/-! HpTup: the steps that make a tuple, with the object that they make (it has no dict: methods of tuples ask that). -/
namespace HP
open PySem L2 PySem.Spec
open PyProof.Rows hiding St
variable [LamT] {β : Bs}
section
variable {X : Cx} {pins : List (Addr × Obj)} {σ : St} {H : Hp} {s : Shared} {Q : VK}
end
section
variable {X : Cx} {es : List Expr} {t : TA} {pos : Pos}
end
end HP

set_option maxHeartbeats 2000000
/-! HpRevT: x[::-1] of a tuple (and of a list). -/
namespace HP
open PySem L2 PySem.Spec
open PyProof.Rows hiding St
variable [LamT] {β : Bs}
section
variable {prog : Program} {w : World} {A : Around} {E : Value → Shared → Prop} {s : Shared}
end
section
variable {X : Cx}
end
end HP

set_option maxHeartbeats 2000000
/-! HpOps: the operations by values are the model's. -/
namespace HP
open PySem L2
variable [LamT] {β : Bs}
section
variable {K : PySem.W.Frag} {F F' : Hp} {M M' : List Addr} {H H' : Hp}
end

section
variable {X : Cx}
end
end HP

set_option maxHeartbeats 2000000
/-! HpOps2: comparisons, truth, subscripts of the language are the model's. -/
namespace HP
open PySem L2
variable [LamT] {β : Bs}

section
variable {X : Cx} {pins : List (Addr × Obj)} {σ : St} {H : Hp} {s : Shared} {F : Hp} {M : List Addr}
end

section
variable {X : Cx}
end
end HP

set_option maxHeartbeats 2000000
/-! HpTab1: dicts whose keys are nested tuples: the small language's and the heap's. -/
namespace HP
open PySem L2
variable [LamT] {β : Bs}
section
variable {X : Cx} {pins : List (Addr × Obj)} {σ : L2.St} {H : Hp} {s : Shared} {F : Hp} {M : List Addr}
end
end HP

set_option maxHeartbeats 2000000
/-! HpTab2: len, list, display of dicts whose keys are nested tuples. -/
namespace HP
open PySem L2
variable [LamT] {β : Bs}
section
variable {X : Cx} {pins : List (Addr × Obj)} {σ : L2.St} {H : Hp} {s : Shared} {E : Value → Shared → Prop} {a : Addr} {o : Obj}
end
end HP

set_option maxHeartbeats 2000000
/-! HpOps3: the other comparisons, truth, subscripts, slices. -/
namespace HP
open PySem L2
variable [LamT] {β : Bs}
def BinO.py : BinO → Operator
  | .add => .Add | .sub => .Sub | .mul => .Mult | .fdiv => .FloorDiv | .mod => .Mod | .pow => .Pow | .bor => .BitOr | .shl => .LShift
def CmpO.py : CmpO → CmpOp
  | .eq => .Eq | .ne => .NotEq | .lt => .Lt | .le => .LtE | .gt => .Gt | .ge => .GtE | .is => .Is | .isn => .IsNot | .in_ => .In | .nin => .NotIn

section
variable {X : Cx}
/-! ### dicts -/
/-! ### in -/
/-! ### truth -/
end
end HP

set_option maxHeartbeats 2000000
/-! HpOps4: subscripts, slices, calls of builtins. -/
namespace HP
open PySem L2
variable [LamT] {β : Bs}
section
variable {X : Cx}
/-! ### arguments -/
end
end HP

set_option maxHeartbeats 2000000
/-! HpRel2: what the relation allows: freezing, storing, changing, laying. -/
namespace HP
open PySem L2
variable [LamT] {β : Bs}
section
variable {K : PySem.W.Frag} {F F' : Hp} {M M' : List Addr} {P : Hp} {σ σ' : St} {H H' : Hp}
end
end HP

set_option maxHeartbeats 2000000
/-! HpExp: readings by the functional semantics; the rules of expressions. -/
namespace HP
open PySem L2
variable [LamT] {β : Bs}
section
variable {X : Cx} {e a b c : Expr} {pos : Pos}
end
end HP

set_option maxHeartbeats 2000000
/-! HpExp2: and, or, not; tuples, lists; subscripts; fields; builtins; methods of lists. -/
namespace HP
open PySem L2
variable [LamT] {β : Bs}
section
variable {X : Cx} {e a b c : Expr} {pos : Pos} {es : List Expr}
/-! ### truth values -/
/-! ### arguments -/
/-! ### displays -/
/-! ### subscripts, slices, fields -/
/-! ### builtins -/
end
end HP

set_option maxHeartbeats 2000000
/-! HpBorrow: an expression that changes nothing and whose answer is flat: what it is lent comes back as it was. -/
namespace HP
open PySem L2
variable [LamT] {β : Bs}
section
variable {K : PySem.W.Frag} {F F' : Hp} {M M' : List Addr}
end
section
variable {X : Cx} {e : Expr}
end
end HP

set_option maxHeartbeats 2000000
/-! HpFn: defs that are called where nothing is being printed (for repr): contracts and calls. -/
namespace HP
open PySem L2 PySem.Spec
open PyProof.Rows hiding St
variable [LamT] {β : Bs}
/-! ### exceptions: what is wanted of them where they fly -/
theorem no_cx {P : Program} {w : World} {outer : List Env} {H : Hp} {s s' : Shared} {u : Value} (h : L2.CX P w outer H s (fun _ _ _ => False) u s') : False := by
  obtain ⟨_, _, _, _, _, _, _, _, _, _, _, _, z⟩ := h
  exact z

/-- nothing is being printed -/
def Still (A : Around) : Prop := A.guards = some []
/-- a def's promise -/
structure FnA (P : Program) (w : World) (K : PySem.W.Frag) (mg : Str → Option Value) (base : Heap) (CX : CXT) (k : Nat) (f : Addr) (fd : FuncData) (ps : List Str) (sp : Sp) : Prop where
  len : ∀ xs G Q Z, sp xs G Q Z → xs.length = ps.length
  go : ∀ (B : Around) (out : List Env) (z : Shared) (G : Hp) (args : Args) (ys : List Value) (xs : List V) (Q : VK) (Z : XK), Room k B → Still B → Env0 P w K mg base B out z G →
    BindsTo z fd args (ps.zip ys) → Vals xs ys → sp xs G Q Z → codeAny (model P w) B (.call (.ref f) args) (L2.CR CX out P w G z Q Z) z
section
variable {X : Cx} {CX : CXT} {k : Nat} {f C : Addr} {fd : FuncData} {ps : List Str} {sp : Sp} {Z : XK} {x m : Str} {p pos apos : Pos} {e o : Expr} {es : List Expr} {ta : TE} {t : TA}
end

end HP

set_option maxHeartbeats 2000000
/-! HpExp3: calls of defs, of methods, of makers; methods of lists; dict displays. -/
namespace HP
open PySem L2
variable [LamT] {β : Bs}
section
variable {K : PySem.W.Frag} {F F' : Hp} {M M' : List Addr} {P : Hp} {σ σ' : St} {H H' : Hp}
/-! ### what a callee must keep -/
open Classical in
end

section
variable {X : Cx} {k : Nat} {f C : Addr} {fd : FuncData} {ps : List Str} {x m : Str} {p pos apos : Pos} {e o a : Expr} {es : List Expr}
end
end HP

set_option maxHeartbeats 2000000
/-! HpExp4: methods of lists and texts; dict displays. -/
namespace HP
open PySem L2
variable [LamT] {β : Bs}
section
variable {X : Cx}
section
variable {o e : Expr} {es : List Expr} {name : Str} {apos pos : Pos} {id : String}
end

/-! ### methods that change nothing -/
def Bm.T : Bm → String
  | .join => "str"
  | .split => "str"
  | .index => "list"
  | .tindex => "tuple"
  | .count => "list"
  | .get => "dict"
section
variable {o e : Expr} {es : List Expr} {name : Str} {apos pos : Pos} {id : String} {m : Bm}
end

/-! ### dict displays -/
end
end HP

set_option maxHeartbeats 2000000
/-! HpEqT: == of two dicts with the same keys, nested tuples, in the same order. -/
namespace HP
open PySem L2 PySem.Spec
open PyProof.Rows hiding St
open PySem.SeqAt (EqIn EqAt rcIn_lists rcIn_tuples)
section
variable {prog : Program} {w : World} {K : Type} [DecidableEq K] {A : Around} {E : Value → Shared → Prop} {s : Shared}
end
end HP

set_option maxHeartbeats 2000000
/-! HpEqd: == and != of two dicts that are equal; their values may be lists of the store. -/
namespace HP
open PySem L2
variable [LamT] {β : Bs}
section
variable {X : Cx} {pins : List (Addr × Obj)} {σ : St} {H F : Hp} {M : List Addr} {s : Shared}
end
section
variable {X : Cx} {pins : List (Addr × Obj)} {σ : St} {H F : Hp} {M : List Addr} {s : Shared}
end
section
variable {X : Cx} {a b : Expr} {pos : Pos}
end
end HP

set_option maxHeartbeats 2000000
/-! HpTab3: displays of dicts whose keys are nested tuples. -/
namespace HP
open PySem L2
variable [LamT] {β : Bs}
section
variable {X : Cx} {pos : Pos} {keys : List (Option Expr)} {values : List Expr}
end
section
variable {X : Cx}
end
end HP

set_option maxHeartbeats 2000000
/-! HpMeth: xs.index(x) of a list, t.index(x) of a tuple of texts, d.get(k), d.get(k, x). -/
namespace HP
open PySem L2 PySem.Spec PySem.W PySem.SeqAt
open PyProof.Rows hiding St
variable [LamT] {β : Bs}
section
variable {X : Cx}
end
end HP

set_option maxHeartbeats 2000000
/-! HpStm: statements. -/
namespace HP
open PySem L2
variable [LamT] {β : Bs}
section
variable {X : Cx} {J : St → Prop} {F F' : Hp} {M M' : List Addr} {P : Hp} {D D' : Ends} {e a b c : Expr} {pos : Pos} {st : Stmt} {sts : List Stmt}
/-! ### targets -/
end
end HP

set_option maxHeartbeats 2000000
/-! HpStm2: loops; several names at once; items and fields that are set. -/
namespace HP
open PySem L2
variable [LamT] {β : Bs}
section
variable {X : Cx} {J : St → Prop} {F F' : Hp} {M M' : List Addr} {P : Hp} {D D' : Ends} {e a b c tg iter : Expr} {pos : Pos} {st : Stmt} {sts : List Stmt}
/-! ### loops -/
end
end HP

set_option maxHeartbeats 2000000
/-! HpItems: enumerate, zip. -/
namespace HP
open PySem L2
variable [LamT] {β : Bs}
section
variable {X : Cx} {F : Hp} {M : List Addr} {e a b tg : Expr} {pos p tpos : Pos}
end
end HP

set_option maxHeartbeats 2000000
/-! HpEnum: enumerate of a list or a tuple, zip of two lists or of two tuples, as what a for walks. -/
namespace HP
open PySem L2 PySem.Spec
open PyProof.Rows hiding St
variable [LamT] {β : Bs}
set_option maxHeartbeats 1000000 in
section
variable {X : Cx} {F : Hp} {M : List Addr} {e a b tg : Expr} {pos p tpos : Pos} {elts : List Expr} {kk : Nat}
end
end HP

set_option maxHeartbeats 2000000
/-! HpForZ: for .. in zip(a, b), where a, b may stand for lists of the store; each turn asks that these are as they were. -/
namespace HP
open PySem L2
open PyProof.Rows hiding St
variable [LamT] {β : Bs}
section
variable {X : Cx} {J : St → Prop} {a b tg iter : Expr} {pos p tpos : Pos} {elts : List Expr} {kk : Nat}
end
end HP

set_option maxHeartbeats 2000000
/-! HpEnum2: enumerate(list, k). -/
namespace HP
open PySem L2 PySem.Spec
open PyProof.Rows hiding St
variable [LamT] {β : Bs}
section
variable {X : Cx} {F : Hp} {M : List Addr} {e a b tg : Expr} {pos p tpos : Pos} {elts : List Expr} {kk : Nat}
end
end HP

set_option maxHeartbeats 2000000
/-! HpStm3: several names at once; items and fields that are set; the instance that is made. -/
namespace HP
open PySem L2
variable [LamT] {β : Bs}
section
variable {K : PySem.W.Frag} {F F' : Hp} {M M' : List Addr} {P P' : Hp} {σ σ' : St} {H H' : Hp}
end
section
variable {X : Cx} {J : St → Prop} {e a b c tg : Expr} {pos : Pos} {es : List Expr}
/-! ### o[k] = v -/
/-! ### o.f = v -/
end
end HP

set_option maxHeartbeats 2000000
/-! HpStm4: several names at once where one of them is a cell: the tuple is made and taken apart. -/
namespace HP
open PySem L2
variable [LamT] {β : Bs}
section
variable {K : PySem.W.Frag} {F F' : Hp} {M M' : List Addr} {P P' : Hp} {σ σ' : St} {H H' : Hp}
end
section
variable {X : Cx} {J : St → Prop} {e a b c tg : Expr} {pos : Pos} {es : List Expr}
end
end HP

set_option maxHeartbeats 2000000
/-! HpAug: n += e of numbers. -/
namespace HP
open PySem L2
variable [LamT] {β : Bs}
section
variable {X : Cx} {J : L2.St → Prop}
end
end HP

set_option maxHeartbeats 2000000
/-! HpAugF: o.f += k, k a number that is written down. -/
namespace HP
open PySem L2
variable [LamT] {β : Bs}
section
variable {X : Cx} {J : L2.St → Prop}
end
end HP

set_option maxHeartbeats 2000000
/-! HpLc: list comprehensions of one clause. -/
namespace HP
open PySem L2
variable [LamT] {β : Bs}
section
variable {K : PySem.W.Frag} {F F' : Hp} {M M' : List Addr} {P P' : Hp} {σ σ' : St} {H H' : Hp} {vs : List Nat}
end

section
variable {X : Cx} {a b c tg iter elt : Expr} {pos : Pos} {es : List Expr}
end
end HP

set_option maxHeartbeats 2000000
/-! HpLc2: list comprehensions of two clauses. -/
namespace HP
open PySem L2
variable [LamT] {β : Bs}
section
variable {X : Cx} {a b c tg iter elt tg1 iter1 : Expr} {pos : Pos} {es : List Expr}
end
end HP

set_option maxHeartbeats 2000000
/-! HpLcN: list comprehensions of any number of clauses. -/
namespace HP
open PySem L2 PySem.Spec
open PyProof.Rows hiding St
variable [LamT] {β : Bs}
section
variable {M : Model} {A : Around} {R : Result → Shared → Prop} {s : Shared} {elt tg iter : Expr} {ifs : List Expr} {gens : List Comprehension} {scope : Scope} {pos : Pos} {it acc : Value} {env : Env} {k : Nat}
end
section
variable {prog : Program} {w : World} {A : Around} {R : Result → Shared → Prop} {s : Shared} {elt tg iter : Expr} {ifs : List Expr} {gens : List Comprehension} {scope : Scope} {pos : Pos} {it acc : Value} {env : Env} {k : Nat}
end

section
variable {Y : Cx} {elt : Expr} {gens : List Comprehension} {scope : Scope} {pos : Pos} {D : Addr}
end
section
variable {X : Cx} {elt : Expr} {scope : Scope} {pos pos' : Pos} {te : TE} {own : List (Str × Nat)}
end
/-! ### by the small language -/
section
variable {X : Cx}
variable {elt tg iter tg1 iter1 tg2 iter2 : Expr} {pos : Pos}
end
end HP

set_option maxHeartbeats 2000000
/-! HpDc: dict comprehensions of any number of clauses, keys nested tuples. -/
namespace HP
open PySem L2 PySem.Spec
open PyProof.Rows hiding St
variable [LamT] {β : Bs}
section
variable {M : Model} {A : Around} {R : Result → Shared → Prop} {s : Shared} {kx vx tg iter : Expr} {ifs : List Expr} {gens : List Comprehension} {scope : Scope} {pos : Pos} {it : Value} {D : Addr} {env : Env} {k : Nat}
end
section
variable {prog : Program} {w : World} {A : Around} {R : Result → Shared → Prop} {s : Shared} {kx vx tg iter : Expr} {ifs : List Expr} {gens : List Comprehension} {scope : Scope} {pos : Pos} {it : Value} {D : Addr} {env : Env} {k : Nat}
end

section
variable {Y : Cx} {kx vx : Expr} {gens : List Comprehension} {scope : Scope} {pos : Pos} {D : Addr}
end
section
variable {X : Cx} {kx vx : Expr} {scope : Scope} {pos pos' : Pos} {tk tv : TE} {own : List (Str × Nat)}
end
section
variable {X : Cx} {kx vx : Expr} {scope : Scope} {pos : Pos} {tk tv : TE} {own : List (Str × Nat)}
end
/-! ### by the small language -/
section
variable {X : Cx}
variable {kx vx tg iter tg1 iter1 : Expr} {pos : Pos}
end
end HP

set_option maxHeartbeats 2000000
/-! HpDef: a def keeps the promise of its functional semantics. -/
namespace HP
open PySem L2
open PyProof.Rows (envOfC)
variable [LamT] {β : Bs}
section
variable {P : Program} {w : World} {K : PySem.W.Frag} {mg : Str → Option Value} {base : Heap} {k : Nat} {f : Addr} {fd : FuncData} {x qual : Str} {params : Arguments} {body : List Stmt} {scope : Scope} {N ps : List Str}
end
end HP

set_option maxHeartbeats 2000000
/-! HpHot: a def that is called while an exception is handled, and that raises none. -/
namespace HP
open PySem L2
open PyProof.Rows (envOfC)
variable [LamT] {β : Bs}
section
variable {P : Program} {w : World} {K : PySem.W.Frag} {mg : Str → Option Value} {base : Heap} {k : Nat} {f : Addr} {fd : FuncData} {x qual : Str} {params : Arguments} {body : List Stmt} {scope : Scope} {N ps : List Str}
end
section
variable {X : Cx} {k : Nat} {f : Addr} {fd : FuncData} {ps : List Str} {sp : Sp} {x : Str} {p pos : Pos} {a : Expr} {es : List Expr} {t : TA}
end
end HP

set_option maxHeartbeats 2000000
/-! HpIsi: isinstance. -/
namespace HP
open PySem L2
variable [LamT] {β : Bs}
def names7 : List String := ["NoneType", "bool", "int", "str", "tuple", "list", "dict"]
/-- what is seen of the classes once -/
def isiB (all : List Str) (K : PySem.W.Frag) : Bool := all.all fun c =>
  (names7.all fun n => decide (PySem.W.kitOne K (.type n) (.ref (He.ga K c)) = some false) && decide (PySem.W.kitOne K (.ref (He.ga K c)) (.type n) = some false)) &&
  (all.all fun c' => decide (PySem.W.kitOne K (.ref (He.ga K c')) (.ref (He.ga K c)) = some (decide (c' = c)))) && (He.Fa.cls c).ok K &&
  He.eqO (PySem.W.findIn K (.ref (He.ga K c)) "__class__") (some (some (.builtin "object.__class__"))) && He.eqO (PySem.W.specialIn K (.builtin "object.__class__") "__get__") (some (some (.builtin "getset_descriptor.__get__"))) &&
  decide (PySem.W.takesIn K (.builtin "object.__class__") = some true) && decide (PySem.W.mroIn K (He.ga K c) (.type "object") = some true)
section
variable {X : Cx} {a T : Expr} {pos p : Pos} {all : List Str}
end
end HP

set_option maxHeartbeats 2000000
/-! HpSort0: tuples of which some are empty can be sorted, too. -/
namespace HP
open PySem PySem.Calls PyProof.Rows PySem.W PySem.SeqAt
section
variable {prog : Program} {w : World} {A : Around} {E : Value → Shared → Prop} {s : Shared}
end
end HP

set_option maxHeartbeats 2000000
/-! HpOps5: max, min, sorted of plain data. -/
namespace HP
open PySem L2 PySem.W
variable [LamT] {β : Bs}
section
variable {X : Cx}
end

/-! ### sorted, of a list or a tuple -/
section
variable {X : Cx}
end
end HP

set_option maxHeartbeats 4000000
/-! HpSet: len(set(texts)). -/
namespace HP
open PySem L2
variable [LamT] {β : Bs}
section
open PyProof.Rows PySem.W
variable {prog : Program} {w : World} {A : Around} {R : Result → Shared → Prop} {it : Addr} {fp wr : List Addr} {G : Array GenState → Array GenState → Prop} {n : Nat} {Pv : Nat → Value → Prop} {Sv : Nat → Shared → Prop}
end
section
open PySem.W PyProof.Rows
open AutoSeq1 (wpAny_loadPart')
variable {prog : Program} {w : World} {A : Around} {E : Value → Shared → Prop} {s : Shared}
set_option maxHeartbeats 8000000 in
end
end HP

set_option maxHeartbeats 4000000
/-! HpSet3: set(x), x a list of texts. -/
namespace HP
open PySem L2
open PyProof.Rows PySem.W
variable [LamT] {β : Bs}
open PySem.W PyProof.Rows
open AutoSeq1 (wpAny_loadPart')
section
variable {prog : Program} {w : World} {A : Around} {R : Result → Shared → Prop} {it : Addr} {fp wr : List Addr} {G : Array GenState → Array GenState → Prop} {n : Nat} {Pv : Nat → Value → Prop} {Sv : Nat → Shared → Prop}
variable {prog : Program} {w : World} {A : Around} {E : Value → Shared → Prop} {s : Shared}
set_option maxHeartbeats 8000000 in
end
end HP

set_option maxHeartbeats 2000000
/-! HpSet2: len(set(x)), x a tuple of texts. -/
namespace HP
open PySem L2
variable [LamT] {β : Bs}
section
variable {X : Cx} {a : Expr} {p p2 q pos : Pos}
end
end HP

set_option maxHeartbeats 2000000
/-! HpOps6: max, min, dict as one rule each. -/
namespace HP
open PySem L2
variable [LamT] {β : Bs}
section
variable {X : Cx}
end
end HP

set_option maxHeartbeats 2000000
/-! HpKd: a module's dict from texts to numbers, never changed: D.get(k, x). -/
namespace HP
open PySem L2 PySem.Spec
variable [LamT] {β : Bs}
abbrev Cd : Type := Str × List (Str × Int)
def Cd.due (w : World) (c : Cd) : Option (List (Int × Str × Int)) := some (c.2.map fun p => (hashStr w p.1, p.1, p.2))
section
variable {X : Cx} {e1 e2 : Expr} {x : Str} {p0 apos pos : Pos} {a : Addr} {kvs : List (Str × Int)} {t : TA}
end
end HP

set_option maxHeartbeats 2000000
/-! HpCon: a module's constants. -/
namespace HP
open PySem L2
variable [LamT] {β : Bs}
section
variable {X : Cx} {x : Str} {pos : Pos}
end
end HP

set_option maxHeartbeats 2000000
/-! HpProp: a property that hands back a field. -/
namespace HP
open PySem L2
variable [LamT] {β : Bs}
section
variable {X : Cx} {a : Expr} {pos : Pos} {k : Nat} {fd : FuncData} {gad pr : Addr}
end
end HP

set_option maxHeartbeats 4000000
/-! HpEnd: the law's own call, where nothing is being printed. -/
namespace HP
open PySem L2 PySem.Spec
open PyProof.Rows hiding St
variable [LamT] {β : Bs}
/-- what the head tells of the tables: their code objects; that they are empty, and no part of K -/
structure TabsX (K : PySem.W.Frag) (h : Heap) : Prop where
  hd : ∀ p ∈ LamT.cs K, PySem.W.CodeHd h p.1 p.2.1
  out : ∀ p ∈ LamT.cs K, K.lookup p.2.1 = none
  empty : ∀ p ∈ LamT.cs K, h.get? p.2.1 = some { cls := .none, data := .fields #[] }
/-- a table's address -/
def IsTb (K : PySem.W.Frag) (b : Addr) : Prop := ∃ p ∈ LamT.cs K, p.2.1 = b
theorem lawA_core {P : Program} {w : World} {K : PySem.W.Frag} {mg mb : Str → Option Value} {k : Nat} {fa a : Addr} {fd : FuncData} {x : Str} {sp : Sp} {z : Shared} {vs : List Value} {ns : List Int}
    (kin : K.In z.heap) (hns : z.heap.Ns mainGlobals mg) (hb : z.heap.Ns builtinsNs mb) (hbb : ∀ x : Str, x ≠ "__name__" → mb x = bootBuiltins x) (lim : z.heap.NoLimit) (hg : z.gens = #[])
    (ha : z.heap.get? a = some { cls := .type "list", data := .seq vs.toArray }) (hr : Room k callerA)
    (tx : TabsX K z.heap) (hbm : ∃ (bm : Addr) (ob : Obj), mg "__builtins__" = some (.ref bm) ∧ bm ≠ builtinsNs ∧ z.heap.get? bm = some ob ∧ ob.cls = .type "module" ∧ ob.dict = some builtinsNs ∧ ob.data = .plain)
    (Fl : ∀ base : Heap, K.In base → base.Ns mainGlobals mg → (∀ p ∈ LamT.cs K, LamX.TabB base mg p.1 p.2.1) → FnA P w K mg base (L2.CX P w) k fa fd [x] sp) (bd : ∀ (s : Shared) (u : Value), BindsTo s fd ⟨[u], []⟩ [(x, u)])
    (H : Hp) (hO : ∀ b, H b = none ∨ IsTb K b ∨ ∃ o xs, H b = some (.frz o (.lst xs))) (hT : ∀ p ∈ LamT.cs K, H p.2.1 = some (.tbl #[])) (hok : HOk P w H z.heap) (hA : ∀ b, H b ≠ none → b = a ∨ IsTb K b) (hK : H a ≠ none → K.lookup a = none) (hsp : sp [.ref a] H (fun v _ => v = .bl true) fun _ _ _ => False) :
    codeAny (model P w) callerA (.call (.ref fa) ⟨[.ref a], []⟩) (fun r s' => r = .ok (.ret (.bool true)) ∧ OldK z.heap s'.heap ∧ s'.os = z.os ∧ AllBare s'.gens) z := by
  have low : ∀ {b : Addr} {o : Obj}, z.heap.get? b = some o → H b = none → (hidT z.heap H).get? b = some o := fun e n => hidT_get e n
  have tbE : ∀ {b : Addr}, IsTb K b → z.heap.get? b = some { cls := .none, data := .fields #[] } := fun {b} ⟨p, hp, e⟩ => e ▸ tx.empty p hp
  have free : ∀ {b : Addr} {o : Obj}, z.heap.get? b = some o → (∀ vs n, o.data ≠ .seq vs n) → o.data ≠ .fields #[] → H b = none := fun {b o} e h1 h2 => by
    cases q : H b with
    | none => rfl
    | some u =>
      rcases hA b (by rw [q]; exact nofun) with rfl | hb
      · cases ha.symm.trans e
        exact absurd rfl (h1 _ _)
      · cases (tbE hb).symm.trans e
        exact absurd rfl h2
  have dic : ∀ {b : Addr} {o : Obj} {es : Array DictEntry} {ep : Nat}, z.heap.get? b = some o → o.data = .dict es ep → H b = none := fun {b o es ep} e d =>
    free e (fun vs n q => by rw [d] at q; cases q) (fun q => by rw [d] at q; cases q)
  have nsk : ∀ {b : Addr} {m : Str → Option Value}, z.heap.Ns b m → (hidT z.heap H).Ns b m := fun {b m} ⟨o, es, ep, e, d, r⟩ => ⟨o, es, ep, low e (dic e d), d, r⟩
  have kb : K.In (hidT z.heap H) := fun b o e => low (kin b o e) (by
    cases q : H b with
    | none => rfl
    | some u =>
      rcases hA b (by rw [q]; exact nofun) with rfl | ⟨p, hp, rfl⟩
      · rw [hK (by rw [q]; exact nofun)] at e
        cases e
      · rw [tx.out p hp] at e
        cases e)
  have md : Mod K mg (hidT z.heap H) := ⟨kb, nsk hns, ⟨mb, nsk hb, hbb⟩, let ⟨mc, h1, h2⟩ := lim; ⟨mc, nsk h1, h2⟩⟩
  have TB : ∀ p ∈ LamT.cs K, LamX.TabB (hidT z.heap H) mg p.1 p.2.1 := fun p hp => by
    obtain ⟨og, es, ep, eg, dg, rg⟩ := id hns
    refine ⟨?_, ?_, fun q => ?_⟩
    · obtain ⟨o, us, file, tf, flags, tg, inF, text, tt, e1, r1, r2, r3, r⟩ := tx.hd p hp
      refine ⟨o, us, file, tf, flags, tg, inF, text, tt, low e1 (free e1 (fun vs n q => by rw [r2] at q; cases q) fun q => ?_), r1, r2, r3, r⟩
      rw [r2] at q
      cases q
      simp at r3
    · obtain ⟨bm, ob, b1, b2, b3, b4, b5, b6⟩ := hbm
      refine ⟨bm, ob, b1, b2, fun q => ?_, fun q => ?_, low b3 (free b3 (fun vs n q => by rw [b6] at q; cases q) fun q => by rw [b6] at q; cases q), b4, b5, b6⟩
      · rw [q, eg] at b3
        cases b3
        rw [dg] at b6
        cases b6
      · rw [q, tx.empty p hp] at b3
        cases b3
        cases b6
    · rw [q, tx.empty p hp] at eg
      cases eg
      cases dg
  have e0 : Env0 P w K mg (hidT z.heap H) callerA [] z H := ⟨rfl, md, fun b o e => of_hidT e, Nat.le_of_eq (hidT_size _ _), trivial, (fun b q => nomatch q), hok, .of_eq hg⟩
  refine codeAny_mono ((Fl _ kb (nsk hns) TB).go callerA [] z H ⟨[.ref a], []⟩ [.ref a] [.ref a] _ _ hr rfl e0 (bd z (.ref a)) (.cons rfl .nil) hsp) fun r s' q => ?_
  match r, q with
  | .error e, q => exact (no_cx q).elim
  | .ok .next, q => exact False.elim q
  | .ok .brk, q => exact False.elim q
  | .ok .cont, q => exact False.elim q
  | .ok (.ret u), ⟨v, H', os, bare, un, hok2, rv, q⟩ =>
    have q' : v = .bl true := q
    subst q'
    obtain rfl : u = Value.bool true := rv
    have key : ∀ b o, ¬ IsTb K b → z.heap.get? b = some o → s'.heap.get? b = some o := fun b o nb e => by
      cases q : H b with
      | none => exact un.keep b o e q (fun y => nomatch y) (by simp)
      | some u =>
        rcases hO b with y | y | ⟨ob, xs, y⟩
        · rw [q] at y
          cases y
        · exact absurd y nb
        · obtain ⟨e1, _⟩ := hok b _ y
          obtain ⟨e2, _⟩ := hok2 b _ (un.frzs b ob _ y)
          cases e.symm.trans e1
          exact e2
    have grown : ∀ p ∈ LamT.cs K, ∃ more : Array Value, s'.heap.get? p.2.1 = some { cls := .none, data := .fields more } := fun p hp => by
      obtain ⟨more, y⟩ := un.tbls p.2.1 #[] (hT p hp)
      exact ⟨_, hok2 p.2.1 _ y⟩
    refine ⟨rfl, ⟨fun b o e => ?_, fun b o e => ?_⟩, os, bare⟩
    · by_cases hb : IsTb K b
      · obtain ⟨p, hp, rfl⟩ := hb
        obtain ⟨more, hm⟩ := grown p hp
        cases (tx.empty p hp).symm.trans e
        exact .inr (.inl ⟨((tx.hd p hp).tab (tx.empty p hp)).isCodeTable, rfl, #[], more, rfl, by rw [Array.empty_append]; exact hm⟩)
      · exact .inl (key b o hb e)
    · by_cases hb : IsTb K b
      · obtain ⟨p, hp, rfl⟩ := hb
        obtain ⟨more, hm⟩ := grown p hp
        exact ⟨_, hm⟩
      · exact ⟨o, key b o hb e⟩
theorem lawA_call {P : Program} {w : World} {K : PySem.W.Frag} {mg mb : Str → Option Value} {k : Nat} {fa a : Addr} {fd : FuncData} {x : Str} {sp : Sp} {z : Shared} {vs : List Value} {ns : List Int}
    (kin : K.In z.heap) (hns : z.heap.Ns mainGlobals mg) (hb : z.heap.Ns builtinsNs mb) (hbb : ∀ x : Str, x ≠ "__name__" → mb x = bootBuiltins x) (lim : z.heap.NoLimit) (hg : z.gens = #[])
    (ha : z.heap.get? a = some { cls := .type "list", data := .seq vs.toArray }) (hi : IntsAre vs ns) (hl : ns.length ≤ sizeLine) (hr : Room k callerA)
    (tx : TabsX K z.heap) (hbm : ∃ (bm : Addr) (ob : Obj), mg "__builtins__" = some (.ref bm) ∧ bm ≠ builtinsNs ∧ z.heap.get? bm = some ob ∧ ob.cls = .type "module" ∧ ob.dict = some builtinsNs ∧ ob.data = .plain)
    (Fl : ∀ base : Heap, K.In base → base.Ns mainGlobals mg → (∀ p ∈ LamT.cs K, LamX.TabB base mg p.1 p.2.1) → FnA P w K mg base (L2.CX P w) k fa fd [x] sp) (bd : ∀ (s : Shared) (u : Value), BindsTo s fd ⟨[u], []⟩ [(x, u)])
    (hsp : ∀ H : Hp, (∀ p ∈ LamT.cs K, H p.2.1 = some (.tbl #[])) → SqL K H a (ns.map V.int) → sp [.ref a] H (fun v _ => v = .bl true) fun _ _ _ => False) :
    codeAny (model P w) callerA (.call (.ref fa) ⟨[.ref a], []⟩) (fun r s' => r = .ok (.ret (.bool true)) ∧ OldK z.heap s'.heap ∧ s'.os = z.os ∧ AllBare s'.gens) z := by
  have rv := vals_ints hi
  have lv := hi.length
  have aT : ¬ IsTb K a := fun ⟨p, hp, e⟩ => by
    have q := tx.empty p hp
    rw [e, ha] at q
    have q' : Data.seq vs.toArray _ = Data.fields #[] := congrArg Obj.data (Option.some.inj q)
    cases q'
  classical
  cases hk : K.lookup a with
  | some o =>
    have e := kin a o hk
    rw [ha] at e
    cases e
    have hT : ∀ p ∈ LamT.cs K, (fun b => if IsTb K b then some (.tbl #[]) else none : Hp) p.2.1 = some (.tbl #[]) := fun p hp => if_pos ⟨p, hp, rfl⟩
    refine lawA_core (ns := ns) kin hns hb hbb lim hg ha hr tx hbm Fl bd (fun b => if IsTb K b then some (.tbl #[]) else none) (fun b => ?_) hT (fun b u y => ?_) (fun b y => ?_) (fun y => absurd (if_neg aT) y)
      (hsp _ hT (.inr ⟨_, vs.toArray, _, hk, rfl, rfl, rfl, by rw [List.size_toArray, lv]; exact hl, by simpa using rv⟩))
    · by_cases q : IsTb K b
      · exact .inr (.inl q)
      · exact .inl (if_neg q)
    · by_cases q : IsTb K b
      · cases (if_pos q).symm.trans y
        obtain ⟨p, hp, rfl⟩ := q
        exact tx.empty p hp
      · cases (if_neg q).symm.trans y
    · by_cases q : IsTb K b
      · exact .inr q
      · exact absurd (if_neg q) y
  | none =>
    have hT : ∀ p ∈ LamT.cs K, (fun b => if b = a then some (.frz { cls := .type "list", data := .seq vs.toArray } (.lst (ns.map V.int))) else if IsTb K b then some (.tbl #[]) else none : Hp) p.2.1 = some (.tbl #[]) := fun p hp =>
      (if_neg fun e => aT ⟨p, hp, e⟩).trans (if_pos ⟨p, hp, rfl⟩)
    refine lawA_core (ns := ns) kin hns hb hbb lim hg ha hr tx hbm Fl bd (fun b => if b = a then some (.frz { cls := .type "list", data := .seq vs.toArray } (.lst (ns.map V.int))) else if IsTb K b then some (.tbl #[]) else none) (fun b => ?_) hT (fun b u y => ?_) (fun b y => ?_) (fun _ => hk) (hsp _ hT (.inl (.inr ⟨_, if_pos rfl⟩)))
    · by_cases q : b = a
      · exact .inr (.inr ⟨_, _, if_pos q⟩)
      · by_cases q2 : IsTb K b
        · exact .inr (.inl q2)
        · exact .inl ((if_neg q).trans (if_neg q2))
    · by_cases q : b = a
      · cases (if_pos q).symm.trans y
        subst q
        exact ⟨ha, by rw [List.length_map]; exact hl, vs, _, rv, ha⟩
      · have y1 := (if_neg q).symm.trans y
        by_cases q2 : IsTb K b
        · cases (if_pos q2).symm.trans y1
          obtain ⟨p, hp, rfl⟩ := q2
          exact tx.empty p hp
        · cases (if_neg q2).symm.trans y1
    · by_cases q : b = a
      · exact .inl q
      · by_cases q2 : IsTb K b
        · exact .inr q2
        · exact absurd ((if_neg q).trans (if_neg q2)) y
/-- the law's walk, by its promise -/
theorem walkA_of {l : PySem.W.OpenLaw} {n k : Nat} {q : Program} {loose : List Str} {XP : (Str → Option Value) → Heap → Prop} {YP : World → Heap → Prop} {d : DefRec} {x : Str}
    (hn : l.most = some n) (hn2 : n ≤ sizeLine) (hdf : d.params.defaults = []) (hr : Room k callerA)
    (Fl : ∀ (w : World) (mg : Str → Option Value) (fa : Addr) (h : Heap), YP w h → h.Ns mainGlobals mg → mg d.name = some (.ref fa) →
      ∃ (K : PySem.W.Frag) (fd : FuncData) (sp : Sp), K.In h ∧ TabsX K h ∧ (∀ (s : Shared) (u : Value), BindsTo s fd ⟨[u], []⟩ [(x, u)]) ∧
        (∀ (H : Hp) (a : Addr) (ns : List Int), ns.length ≤ n → (∀ p ∈ LamT.cs K, H p.2.1 = some (.tbl #[])) → SqL K H a (ns.map V.int) → sp [.ref a] H (fun v _ => v = .bl true) fun _ _ _ => False) ∧
        ∀ base : Heap, K.In base → base.Ns mainGlobals mg → (∀ p ∈ LamT.cs K, LamX.TabB base mg p.1 p.2.1) → FnA l.prog w K mg base (L2.CX l.prog w) k fa fd [x] sp) :
    PySem.W.WalkO q loose XP YP l.row.toRowW d [] (fun f vs => PySem.call f vs) := by
  refine Att.attach_call hn hdf fun w s0 s1 mg mb fa o pm cd doc a vs ns G Y ho hd hcd hmg hobj hi hlen hg => ?_
  obtain ⟨K, fd, sp, kx, tx, bd, hsp, hF⟩ := Fl w mg fa _ Y G.T.g hmg
  exact lawA_call kx G.T.g G.T.b G.T.builtins G.T.nolimit hg hobj hi (Nat.le_trans hlen hn2) hr tx G.T.bmain hF bd fun H hO hS => hsp H a ns hlen hO hS
end HP

set_option maxHeartbeats 2000000
/-! HpHead: what the head tells: facts by names, any further test, each def by the place where it stands. -/
namespace HP
open PySem L2
variable [LamT] {β : Bs}
/-- a def of the text without defaults, and where it stands -/
structure Df where
  ad : PySem.W.Frag → Addr
  name : Str
  qual : Str
  st : Stmt
  sup : Bool := false
abbrev dSup (C q : Str) (st : Stmt) : Df := { ad := fun K => He.ma K (He.ga K C) "__init__", name := "__init__", qual := q, st := st, sup := true }
abbrev dGlo (x : Str) (st : Stmt) : Df := ⟨fun K => He.ga K x, x, x, st, false⟩
abbrev FnW : Type := Option (Str × Str × Arguments × FuncBody × Scope × Addr × List Str × Addr)
/-- what is seen of a function -/
def seenF (K : PySem.W.Frag) (a : Addr) : FnW := match K.lookup a with
  | some (Obj.mk _ _ (.func g) _) => some (g.name, g.qualname, g.params, g.body, g.scope, g.globals, g.closure.map (·.1), g.builtins)
  | _ => none
def Df.due (d : Df) : FnW := some (d.name, d.qual, defArgs d.st, .stmts (defBody d.st), defScope d.st, mainGlobals, if d.sup then ["__class__"] else [], builtinsNs)
def Df.good (K : PySem.W.Frag) (d : Df) : Bool := PySem.W.keepIn K (.ref (d.ad K)) && (match K.lookup (d.ad K) with
  | some (Obj.mk _ _ (.func g) _) => PySem.W.codeIn K g.code d.qual && (He.dflB K g.defaults [] && He.kwdB K g.kwdefaults [])
  | _ => false)
abbrev Seen : Type := Bool × List FnW
def seenX (fa : List He.Fa) (ex : PySem.W.Frag → Bool) (fn : List Df) (K : PySem.W.Frag) : Seen :=
  ((fa.all fun f => f.ok K) && (ex K && fn.all fun d => d.good K), fn.map fun d => seenF K (d.ad K))
def dueX (fn : List Df) : Seen := (true, fn.map Df.due)
def SaysX (fa : List He.Fa) (ex : PySem.W.Frag → Bool) (fn : List Df) (K : PySem.W.Frag) : Prop := seenX fa ex fn K = dueX fn
/-- the tables as they are seen -/
def tabG (g : Addr → Option Obj) (K : PySem.W.Frag) : Bool := (LamT.cs K).all fun p => PySem.W.codeHdIn K p.1 p.2.1 && (match g p.2.1 with
  | some o => He.emptyTab o
  | none => false)
/-- one name for each table -/
def tabU (cs : List (Addr × Addr × Str)) : Bool := cs.all fun p => cs.all fun q => !(decide (p.2.1 = q.2.1)) || decide (p.2.2 = q.2.2)
/-- what is reached from the globals, level by level; the addresses that are met are bits of a number (the kernel reckons these at once) -/
def addBits {β : Type} : List Addr → Nat → List Addr → (List Addr → Nat → β) → β
  | [], seen, acc, k => k acc seen
  | a :: as, seen, acc, k => match Nat.beq (Nat.land (Nat.shiftRight seen a) 1) 1 with
    | true => addBits as seen acc k
    | false => addBits as (Nat.lor seen (Nat.shiftLeft 1 a)) (a :: acc) k
def goBits (g : Addr → Option Obj) : Nat → List Addr → Nat → List Addr
  | 0, _, _ => []
  | n + 1, fr, seen => addBits (fr.flatMap fun a => match g a with
      | some o => He.refsD o
      | none => []) seen [] fun new seen' => new ++ goBits g n new seen'
def asBits (g : Addr → Option Obj) (n : Nat) : List Addr := mainGlobals :: goBits g n [mainGlobals] (Nat.shiftLeft 1 mainGlobals)
abbrev SeenT : Type := Bool × Seen
def obK (g : Addr → Option Obj) (fa : List He.Fa) (ex : PySem.W.Frag → Bool) (fn : List Df) (K : PySem.W.Frag) : SeenT := (tabG g K && tabU (LamT.cs K), seenX fa ex fn K)
def obX (n : Nat) (fa : List He.Fa) (ex : PySem.W.Frag → Bool) (fn : List Df) (g : Addr → Option Obj) : SeenT := obK g fa ex fn (He.frT g (sysModules :: cStatics :: asBits g n))
def hookX (n : Nat) (fa : List He.Fa) (ex : PySem.W.Frag → Bool) (fn : List Df) : PySem.W.Hook :=
  { α := SeenT
    obs := fun z => obX n fa ex fn z.heap.get?
    val := fun _ => (true, dueX fn)
    says := fun _ hp => ∃ K : PySem.W.Frag, PySem.W.Frag.In K hp ∧ SaysX fa ex fn K ∧ TabsX K hp ∧ tabU (LamT.cs K) = true
    of := fun _ z r => by
      have r1 : (tabG z.heap.get? (He.frT z.heap.get? (sysModules :: cStatics :: asBits z.heap.get? n)) && tabU (LamT.cs (He.frT z.heap.get? (sysModules :: cStatics :: asBits z.heap.get? n)))) = true := congrArg (fun z : SeenT => z.1) r
      obtain ⟨r1, r2⟩ := He.ba r1
      have key : ∀ p ∈ LamT.cs (He.frT z.heap.get? (sysModules :: cStatics :: asBits z.heap.get? n)), PySem.W.codeHdIn (He.frT z.heap.get? (sysModules :: cStatics :: asBits z.heap.get? n)) p.1 p.2.1 = true ∧ ∃ o, z.heap.get? p.2.1 = some o ∧ He.emptyTab o = true := fun p hp => by
        obtain ⟨h3, h4⟩ := He.ba (List.all_eq_true.mp r1 p hp)
        refine ⟨h3, ?_⟩
        cases q : z.heap.get? p.2.1 with
        | none => rw [q] at h4; cases h4
        | some o =>
          rw [q] at h4
          exact ⟨o, rfl, h4⟩
      exact ⟨_, He.frT_in, congrArg (fun z : SeenT => z.2) r, ⟨fun p hp => PySem.W.codeHd_of_K He.frT_in (key p hp).1, fun p hp => let ⟨_, o, q, e⟩ := key p hp; He.frT_none q e, fun p hp => let ⟨_, o, q, e⟩ := key p hp; by rw [q, He.emptyTab_eq e]⟩, r2⟩
    keeps := fun _ _ _ ⟨K, h1, h2, h3, h4⟩ r => ⟨K, PySem.W.Frag.In.keeps h1 r, h2, ⟨fun p hp => (h3.hd p hp).keeps r, h3.out, fun p hp => r _ _ (h3.empty p hp)⟩, h4⟩ }
theorem obX_eq {n : Nat} {fa : List He.Fa} {ex : PySem.W.Frag → Bool} {fn : List Df} {g : Addr → Option Obj} {z : Shared} (h : ∀ a, g a = z.heap.get? a) : obX n fa ex fn g = (hookX n fa ex fn).obs z :=
  congrArg (obX n fa ex fn) (funext h)

section
variable {fa : List He.Fa} {xb : PySem.W.Frag → Bool} {fs : List Df} {K : PySem.W.Frag} {mg : Str → Option Value} {base : Heap}
end
end HP

set_option maxHeartbeats 2000000
/-! HpHeadD: what the head tells, where the module has dicts from texts to numbers. -/
namespace HP
open PySem L2
variable [LamT] {β : Bs}
end HP

set_option maxHeartbeats 2000000
/-! HpGen: the rules as the generator names them. -/
namespace HP
open PySem L2
variable [LamT] {β : Bs}
section
variable {P : Program} {w : World} {K : PySem.W.Frag} {mg : Str → Option Value} {base : Heap} {k : Nat} {f : Addr} {x qual : Str} {st : Stmt} {N ps : List Str}
end
section
variable {X : Cx} {e a b c : Expr} {pos p : Pos} {es : List Expr} {x : Str} {k j : Nat} {f : Addr} {ps : List Str}
/-! ### calls -/
/-! ### isinstance -/
/-! ### {} and dict() -/
/-! ### a def that is never called -/
/-! ### the end -/
end
end HP

set_option maxHeartbeats 2000000
/-! HpHotG: such defs, as they are printed. -/
namespace HP
open PySem L2
open PyProof.Rows (envOfC)
variable [LamT] {β : Bs}
section
variable {P : Program} {w : World} {K : PySem.W.Frag} {mg : Str → Option Value} {base : Heap} {k : Nat} {f : Addr} {x qual : Str} {st : Stmt} {N ps : List Str}
end
section
variable {X : Cx} {j k : Nat} {f : Addr} {ps : List Str} {x : Str} {p pos : Pos} {a : Expr} {es : List Expr}
end
end HP

set_option maxHeartbeats 2000000
/-! HpMore: repr; calls by names alone. -/
namespace HP
open PySem L2 PySem.Spec
variable [LamT] {β : Bs}
/-! ### repr -/
section
variable {X : Cx} {pins : List (Addr × Obj)} {σ : St} {H : Hp} {s : Shared} {M : List Addr}
end
section
variable {X : Cx}
end

/-! ### calls by names alone -/
section
variable {X : Cx} {a : Expr} {p pos kpos : Pos} {x qual : Str} {k j : Nat} {f : Addr} {ps ks : List Str} {perm : List Nat} {kws : List Keyword} {nm : Option Str} {st : Stmt}
end

/-! ### *x, list(range(..)), x[::-1] -/
section
variable {X : Cx} {a b e : Expr} {es : List Expr} {p p2 p3 pos pos2 sp : Pos}
end
end HP

set_option maxHeartbeats 2000000
/-! HpMore2: isinstance of two classes; dict(x). -/
namespace HP
open PySem L2 PySem.Spec
open PyProof.Rows hiding St
variable [LamT] {β : Bs}
section
variable {X : Cx} {a T1 T2 : Expr} {pos p p2 : Pos} {all : List Str} {kt}
end
/-! ### dict(x) -/
end HP

set_option maxHeartbeats 2000000
/-! HpKw: makers and methods called by names alone. -/
namespace HP
open PySem L2 PySem.Spec
variable [LamT] {β : Bs}
section
variable {X : Cx} {p pos : Pos} {x qual nm Cn : Str} {k j : Nat} {f C : Addr} {fd : FuncData} {sp : Sp} {tk : TA} {Z : XK} {ps ks : List Str} {perm : List Nat} {kws : List Keyword} {st : Stmt}
end
end HP

set_option maxHeartbeats 2000000
/-! HpTab4: dicts whose keys are nested tuples: walked, asked by get; tuple(range(..)). -/
namespace HP
open PySem L2 PySem.Spec
open PyProof.Rows hiding St
variable [LamT] {β : Bs}
section
variable {X : Cx} {pins : List (Addr × Obj)} {σ : L2.St} {H : Hp} {s : Shared} {d : Addr} {o : Obj}
end
section
variable {P : Program} {w : World} {K : PySem.W.Frag} {tg : Expr} {d : Addr} {o : Obj} {es : Array DictEntry} {ep : Nat}
end
section
variable {X : Cx} {tg iter e a b : Expr} {pos : Pos}
/-! ### t.get(k), t.get(k, d) -/
section
variable {o : Expr} {es : List Expr} {apos cpos : Pos} {to : TE} {t : TA}
end
end
/-! ### tuple(range(..)) -/
section
variable {X : Cx} {a : Expr} {p p2 pos pos2 : Pos}
end
end HP

set_option maxHeartbeats 2000000
/-! HpTab5: dict([((..), ..), ..]): keys nested tuples; list(d.values()). -/
namespace HP
open PySem L2 PySem.Spec
open PyProof.Rows hiding St
variable [LamT] {β : Bs}
section
variable {X : Cx} {pins : List (Addr × Obj)} {σ : L2.St} {H : Hp} {s : Shared} {F : Hp} {M : List Addr}
end
end HP

set_option maxHeartbeats 4000000
/-! HpSet4: sorted(set(x)), x a tuple or a list of ints. -/
namespace HP
open PySem L2
open PyProof.Rows PySem.W
variable [LamT] {β : Bs}
open PySem.W PyProof.Rows
open AutoSeq1 (wpAny_loadPart')
/-! ### plain -/
section
variable {prog : Program} {w : World} {A : Around} {E : Value → Shared → Prop} {s : Shared}
set_option maxHeartbeats 8000000 in
end
section
variable {X : Cx} {a : Expr} {p p2 q pos : Pos}
theorem vals_ints : ∀ {ns : List Int} {us : List Value}, Vals (ns.map V.int) us → IntsAre us ns
  | [], _, .nil => .nil
  | _ :: _, _, .cons r t => by
    obtain ⟨k, rfl⟩ := r
    exact .cons _ k (vals_ints t)
end
end HP

set_option maxHeartbeats 4000000
/-! HpSet5: sorted(set(xs)), xs a long list of few numbers. -/
namespace HP
open PySem L2
variable [LamT] {β : Bs}
section
variable {X : Cx} {a : Expr} {p p2 q pos : Pos}
end
end HP

set_option maxHeartbeats 2000000
/-! HpGet: properties that hand back a field, by names. -/
namespace HP
open PySem L2
variable [LamT] {β : Bs}
end HP

set_option maxHeartbeats 2000000
/-! HpKeep: try .. except X as n: m = n; the exception is kept. -/
namespace HP
open PySem L2 PySem.Spec
open PyProof.Rows hiding St
section
variable {X : Cx} {pins : List (Addr × Obj)} {σ : St} {H : Hp} {s : Shared}
end
section
variable {X : Cx} {x n : Str} {c : Value} {i m : Nat} {body suite : List Stmt} {b₀ : Stmt} {np pos pos' : Pos} {tb : WX → TS} {Wout : WX}
end
end HP

set_option maxHeartbeats 2000000
/-! HpKeepN: try .. except X as n: suite; the exception is tracked in the suite. -/
namespace HP
open PySem L2 PySem.Spec
open PyProof.Rows hiding St
section
variable {X : Cx} {pins : List (Addr × Obj)} {σ : St} {H : Hp} {s : Shared}
end
section
variable {X : Cx} {x n : Str} {c : Value} {i : Nat} {body suite : List Stmt} {b₀ : Stmt} {np pos pos' : Pos} {tb : WX → TS} {ts : TS} {Wout : WX}
end
end HP

set_option maxHeartbeats 4000000
/-! HpSup: an own exception class over ValueError whose __init__ says super().__init__(part); self.f = part. -/
namespace HP
open PySem PySem.W PySem.Calls PyProof.Rows PySem.Spec

section
variable {prog : Program} {w : World} {A : Around} {E : Value → Shared → Prop} {h : Heap} {g : Array GenState} {d : Drawn} {t : Nat} {os : OsState} {K : Frag} {C : Addr}
end
section
open L2
variable {X : Cx} {e : Expr} {es : List Expr} {ta : TA} {f x : Str} {C : Addr} {p pos : Pos}
end
end HP

set_option maxHeartbeats 2000000
/-! HpThrow: raise, try, what is asked of a kept exception. -/
namespace HP
open PySem L2
variable [LamT] {β : Bs}
abbrev veBm : List Value := [.type "ValueError", .type "Exception", .type "BaseException", .type "object"]
/-- what is seen of the exception classes once -/
def excB (all : List Str) (K : PySem.W.Frag) : Bool := all.all fun c =>
  (names7.all fun n => decide (PySem.W.kitOne K (.type n) (.ref (He.ga K c)) = some false)) && (all.all fun c' => decide (PySem.W.kitOne K (.ref (He.ga K c')) (.ref (He.ga K c)) = some (isSub c' c)) && decide (PySem.W.exmOne K (.ref (He.ga K c')) (.ref (He.ga K c)) = some (isSub c' c))) &&
  decide (PySem.W.kitOne K (.ref (He.ga K c)) (.type "ValueError") = some true) && (PySem.W.clsIn K (He.ga K c)).isSome && xfB K (He.ga K c) &&
  He.eqO (PySem.W.findIn K (.ref (He.ga K c)) "__class__") (some (some (.builtin "object.__class__"))) && He.eqO (PySem.W.specialIn K (.builtin "object.__class__") "__get__") (some (some (.builtin "getset_descriptor.__get__"))) &&
  decide (PySem.W.takesIn K (.builtin "object.__class__") = some true) && decide (PySem.W.mroIn K (He.ga K c) (.type "object") = some true) && decide (PySem.W.typeIn K (.ref (He.ga K c)) = some (.type "type")) && PySem.W.keepIn K (.ref (He.ga K c)) &&
  (match excFld c with
  | none => PySem.W.excIn K (He.ga K c) veBm "ValueError.__new__"
  | some f => decide (PySem.W.findIn K (.ref (He.ga K c)) f = some none))
section
variable {X : Cx} {J : St → Prop} {e a : Expr} {pos p p2 p3 : Pos} {st : Stmt} {all : List Str} {x c : Str}
end
/-! ### what is asked of a kept exception -/
section
variable {X : Cx} {all : List Str}
variable {a T : Expr} {pos p : Pos} {t : Str}
end
/-! ### try -/
section
variable {X : Cx} {J : St → Prop} {all : List Str} {x : Str} {body suite : List Stmt} {b₀ : Stmt} {np pos pos' : Pos} {k : Nat}
end
end HP

set_option maxHeartbeats 2000000
/-! HpTryN: try: body / except x as n: suite, where the suite asks of n. -/
namespace HP
open PySem L2
variable [LamT] {β : Bs}
section
variable {X : Cx} {J : St → Prop} {all : List Str} {x : Str} {body suite : List Stmt} {b₀ : Stmt} {np pos pos' : Pos} {k : Nat}
end
end HP

set_option maxHeartbeats 2000000
/-! HpSupF: what the head tells of an exception class with an own __init__. -/
namespace HP
open PySem L2

def supB (file c f : Str) (K : PySem.W.Frag) : Bool :=
  (match K.lookup (He.ga K c) with
  | some ⟨.type "type", _, .cls cd, sl⟩ => (match cd.mro, sl.toList with
    | .ref C' :: bm, [_, _, _, _, some (.builtin n), _] => C' == He.ga K c && n == "ValueError.__new__" && !cd.hasDel && cd.hasDict && PySem.HandSPX.refsVE bm
    | _, _ => false)
  | _ => false) &&
  (match K.lookup (He.ma K (He.ga K c) "__init__") with
  | some ⟨_, _, .func fd, _⟩ => (match fd.code with
    | .ref cda => (match K.lookup cda with
      | some ⟨_, _, .fields vs, _⟩ => (match vs[2]? with
        | some (Value.str fl _) => file == fl
        | _ => false)
      | _ => false)
    | _ => false) && (match fd.closure with
    | [(_, cc)] => (match K.lookup cc with
      | some ⟨_, _, .cell (some (.ref D)), _⟩ => D == He.ga K c
      | _ => false)
    | _ => false)
  | _ => false) &&
  He.eqO (PySem.W.findIn K (.ref (He.ga K c)) "__setattr__") (some (some (.builtin "object.__setattr__"))) && decide (PySem.W.subIn K (.ref (He.ga K c)) (.type "BaseException") = some true) &&
  decide (PySem.W.typeIn K (.ref (He.ga K c)) = some (.type "type")) && PySem.W.keepIn K (.ref (He.ga K c)) && He.eqO (PySem.W.findIn K (.ref (He.ga K c)) f) (some none) &&
  He.eqO (PySem.W.ks_superIn K (He.ga K c) (He.ga K c) "__init__") (some (some (.builtin "ValueError.__init__"))) && He.eqO (PySem.W.nsIn K cStatics "thirdparty.any") (some none) &&
  decide (PySem.W.subIn K (.ref (He.ga K c)) (.type "ValueError") = some true) && decide (PySem.W.mroIn K (He.ga K c) (.ref (He.ga K c)) = some true) &&
  He.eqO (PySem.W.findIn K (.ref (He.ga K c)) "__init__") (some (some (.ref (He.ma K (He.ga K c) "__init__")))) && decide (PySem.W.typeIn K (.ref (He.ma K (He.ga K c) "__init__")) = some (.type "function"))

section
variable [LamT] {X : Cx} {J : St → Prop} {k : Nat} {pos p1 p2 p3 : Pos}
end
end HP

set_option maxHeartbeats 2000000
/-! HpLam: lambdas without parameters: handed to a def, called there, handed on. -/
namespace HP
open PySem L2
open LamX (CodeO TabB LamS lamEnv lamCx)
open PyProof.Rows (envOfC)
variable [LamT] {β : Bs}
/-! ### slots that are frozen, slots that are shown -/
section
variable {K : PySem.W.Frag} {F F' : Hp} {M M' : List Addr} {P P' : Hp} {σ : St} {H H' : Hp}
end

/-! ### the lambda is made -/
section
variable {X : Cx} {pins : List (Addr × Obj)} {σ : St} {H : Hp} {s : Shared}
end
/-! ### what is known of a lambda that was handed on -/
section
variable {X : Cx} {pins : List (Addr × Obj)} {σ : St} {H : Hp} {s : Shared} {k kt kb i : Nat} {a f : Addr} {fd : FuncData} {x y p : Str} {p0 p1 p2 pos lpos : Pos}
/-! ### lambdas that are kept -/
end
end HP

set_option maxHeartbeats 2000000
/-! HpGenL: the rules of lambdas as the generator names them. -/
namespace HP
open PySem L2
open LamX (TabB LamS lamEnv lamCx)
open PyProof.Rows (envOfC)
variable [LamT] {β : Bs}
section
variable {P : Program} {w : World} {K : PySem.W.Frag} {mg : Str → Option Value} {base : Heap} {k kt : Nat} {f : Addr} {x qual p : Str} {st : Stmt} {N ps : List Str}
end
section
variable {X : Cx} {k j kt i : Nat} {a f c Pt : Addr} {x y p : Str} {p0 p1 p2 pos lpos : Pos} {params : Arguments} {body : Expr} {scope : Scope} {ks : List Nat}
end
end HP

set_option maxHeartbeats 2000000
/-! HpLcA: kept lambdas called within a comprehension. -/
namespace HP
open PySem L2 PySem.Spec
open PyProof.Rows hiding St
variable [LamT] {β : Bs}
section
variable {X : Cx} {pins : List (Addr × Obj)} {σ : St} {H : Hp} {s : Shared}
end
section
variable {X : Cx} {pins : List (Addr × Obj)} {σ : St} {H : Hp} {s : Shared} {k kt i : Nat} {a f : Addr} {fd : FuncData} {x y p : Str} {p0 p1 p2 pos lpos : Pos}
end
end HP

set_option maxHeartbeats 2000000
/-! HpLcR: list comprehensions over a name that may stand for a list of the store; each turn asks that this list is as it was. -/
namespace HP
open PySem L2
variable [LamT] {β : Bs}
section
variable {X : Cx} {J : St → Prop} {F F' : Hp} {M M' : List Addr} {P : Hp} {a b c tg iter elt : Expr} {pos : Pos} {es : List Expr}
end
end HP

set_option maxHeartbeats 2000000
/-! HpVals: list(d.values()) of dicts whose keys are nested tuples. -/
namespace HP
open PySem L2 PySem.Spec
open PyProof.Rows hiding St
variable [LamT] {β : Bs}
section
variable {X : Cx} {o : Expr} {p apos cpos pos : Pos} {to : TE}
end
end HP

set_option maxHeartbeats 4000000
/-! HpSetD: sorted({..}), a display of ints. -/
namespace HP
open PySem L2
open PyProof.Rows (envOfC)
variable [LamT] {β : Bs}
section
variable {prog : Program} {w : World} {A : Around} {E : Value → Shared → Prop} {s : Shared}
end
section
variable {X : Cx}
end
section
variable {P : Program} {w : World} {K : PySem.W.Frag} {mg : Str → Option Value} {base : Heap} {k : Nat} {f : Addr} {x qual : Str} {st : Stmt} {N ps : List Str}
end
end HP

set_option maxHeartbeats 4000000
/-! HpZip: dict(zip(a, b)), a and b lists or tuples, the keys texts or ints. -/
namespace HP
open PySem L2 PySem.Spec
open PyProof.Rows hiding St
variable [LamT] {β : Bs}
section
variable {P : Program} {w : World} {A : Around} {E : Value → Shared → Prop} {m : Shared} {zz TI TO T p1 p2 : Addr} {f1 f2 : List Addr} {k1 k2 j : Nat} {V1 V2 : Nat → Value → Prop} {Z1 Z2 : Nat → Heap → Prop}
end
section
variable {X : Cx} {pins : List (Addr × Obj)} {σ : L2.St} {H : Hp} {s : Shared} {F : Hp} {M : List Addr}
end
section
variable {X : Cx} {a b : Expr} {p p2 q pos : Pos}
end
end HP

set_option maxHeartbeats 4000000
/-! HpZipL: dict(list(zip(a, b))), a and b lists or tuples, the keys texts or ints. -/
namespace HP
open PySem L2 PySem.Spec
open PyProof.Rows hiding St
variable [LamT] {β : Bs}
section
variable {P : Program} {w : World} {A : Around} {E : Value → Shared → Prop} {s : Shared} {zz TI TO p1 p2 S : Addr} {f1 f2 : List Addr} {k1 k2 : Nat} {V1 V2 : Nat → Value → Prop} {Z1 Z2 : Nat → Heap → Prop}
end
section
variable {X : Cx} {a b : Expr} {p p2 p3 q q2 pos : Pos}
end
end HP

/-! HpDead: a statement that is never met. -/
namespace HP
open PySem L2
variable [LamT]
section
variable {X : Cx} {J : St → Prop}
end
end HP

set_option maxHeartbeats 2000000
/-! HpEqo: == and != by a class's own __eq__. -/
namespace HP
open PySem L2 PySem.Spec
open PyProof.Rows hiding St
variable [LamT] {β : Bs}
section
variable {X : Cx} {k : Nat} {f : Addr} {fd : FuncData} {ps : List Str} {sp : Sp} {A : Around}
end
section
variable {X : Cx} {j k : Nat} {f : Addr} {ps all : List Str} {a b : Expr} {pos : Pos}
end
end HP

set_option maxHeartbeats 2000000
/-! HpPrP: properties with a body of their own. -/
namespace HP
open PySem L2
variable [LamT] {β : Bs}
section
variable {X : Cx} {k : Nat} {g : Addr} {fd : FuncData} {sp : Sp}
end
end HP

set_option maxHeartbeats 2000000
/-! HpMkxK: an own exception class with an own __init__ called with its field by name. -/
namespace PySem
namespace HandSPX
open Builtin Builtin.ObjectAttr
section
variable {prog : Program} {w : World} {A : Around} {E : Value → Shared → Prop} {R : Result → Shared → Prop} {h : Heap} {g : Array GenState} {d : Drawn} {t : Nat} {os : OsState}
variable {nm q : Str} {C N : Addr} {bs bm bmB : List Value} {hdct : Bool} {sn : List Str} {sub : List Value} {ab : Bool} {col : Option Bool} {dd : Option Addr} {k0 k1 k2 k3 k5 : Option Value} {B newId initId : String}
end
end HandSPX
end PySem

set_option maxHeartbeats 2000000
/-! HpMkx: own exceptions made as values; str() of one. -/
namespace HP
open PySem PySem.W L2 PySem.Spec
open PyProof.Rows hiding St
section
variable {X : Cx} {e : Expr} {te : TE} {x : Str} {p pos : Pos}
end
section
variable {X : Cx} {all : List Str} {e : Expr} {p pos : Pos} {c f : Str}
variable [LamT]
end
section
variable {X : Cx} {e : Expr} {x f : Str} {C : Addr} {p pos : Pos} {kws : List Keyword} {tk : TA}
end
section
variable {X : Cx} {all : List Str} {e : Expr} {p pos : Pos} {c f : Str} {kws : List Keyword}
variable [LamT]
end
/-! ### str() -/
/-- what is seen of the exception classes once: they have no __str__ of their own -/
def xstrB (all : List Str) (K : Frag) : Bool := all.all fun c => He.eqO (findIn K (.ref (He.ga K c)) "__str__") (some (some (.builtin "BaseException.__str__"))) && decide (subIn K (.ref (He.ga K c)) (.type "BaseException") = some true)
section
variable {X : Cx} {all : List Str} {e : Expr} {p pos : Pos}
variable [LamT]
end
end HP

set_option maxHeartbeats 4000000
namespace HP
open PySem L2
abbrev all : List Str := []
abbrev allX : List Str := ["BadBounds", "BadChoice", "BadDeed", "BadHouse", "BadJournal", "BadNumber", "BadRecord", "BadRecords", "BadRow", "BadRule", "BadText", "BadWish", "NoDevice", "NothingDone", "PlaceError"]
-- _law_marks: 0=_law_error 1=_law_some
end HP

set_option maxHeartbeats 0
namespace HP
open PySem L2
def top (i : Nat) : Stmt := PySem.Challenge.pw_heardplaces_k01_errors_by_hand.main.body.getD i (.Pass ⟨0, 0, 0, 0⟩)
abbrev P : Program := PySem.Challenge.rw_heardplaces_k01_errors_by_hand.prog
def memb : Stmt → Nat → Stmt
  | .ClassDef _ _ _ b _ _ _ _ _ _ _, j => b.getD j (.Pass ⟨0, 0, 0, 0⟩)
  | s, _ => s
instance : LamT := ⟨fun K => []⟩
abbrev s__law_marks : Stmt := top 21
abbrev s__law_plain : Stmt := top 23
abbrev s__law_blend : Stmt := top 18
abbrev s__law_begin : Stmt := top 17
abbrev s__law_alone : Stmt := top 22
abbrev s__law_with_fields : Stmt := top 24
abbrev s__law_take : Stmt := top 19
abbrev s__law_pick : Stmt := top 20
abbrev s_law : Stmt := top 25
abbrev s_BadHouse_init : Stmt := memb (top 5) 0
abbrev s_BadJournal_init : Stmt := memb (top 14) 0
abbrev s_BadRecords_init : Stmt := memb (top 7) 0
abbrev s_BadRow_init : Stmt := memb (top 6) 0
abbrev s_BadRule_init : Stmt := memb (top 3) 0
abbrev s_BadText_init : Stmt := memb (top 15) 0
abbrev s_BadWish_init : Stmt := memb (top 9) 0
abbrev s_NoDevice_init : Stmt := memb (top 12) 0
def fa : List He.Fa := [.free "ValueError",
  .free "abs",
  .free "enumerate",
  .free "int",
  .free "isinstance",
  .free "len",
  .free "min",
  .free "range",
  .free "repr",
  .free "str",
  .free "super",
  .glo "law",
  .glo "BadBounds",
  .glo "BadChoice",
  .glo "BadDeed",
  .glo "BadHouse",
  .glo "BadJournal",
  .glo "BadNumber",
  .glo "BadRecord",
  .glo "BadRecords",
  .glo "BadRow",
  .glo "BadRule",
  .glo "BadText",
  .glo "BadWish",
  .glo "NoDevice",
  .glo "NothingDone",
  .glo "PlaceError",
  .glo "_law_alone",
  .glo "_law_begin",
  .glo "_law_blend",
  .glo "_law_marks",
  .glo "_law_pick",
  .glo "_law_plain",
  .glo "_law_take",
  .glo "_law_with_fields"]
def exs : List (PySem.W.Frag → Bool) := [isiB all, fun K => (K.lookup sysModules).isSome, excB allX, xstrB allX, supB P.main.file "BadHouse" "part", supB P.main.file "BadJournal" "at", supB P.main.file "BadRecords" "at", supB P.main.file "BadRow" "at", supB P.main.file "BadRule" "part", supB P.main.file "BadText" "line", supB P.main.file "BadWish" "at", supB P.main.file "NoDevice" "name"]
def exB (K : PySem.W.Frag) : Bool := exs.all fun b => b K
def fnl : List Df := [dGlo "_law_marks" s__law_marks,
  dGlo "_law_plain" s__law_plain,
  dGlo "_law_blend" s__law_blend,
  dGlo "_law_begin" s__law_begin,
  dGlo "_law_alone" s__law_alone,
  dGlo "_law_with_fields" s__law_with_fields,
  dGlo "_law_take" s__law_take,
  dGlo "_law_pick" s__law_pick,
  dGlo "law" s_law,
  dSup "BadHouse" "BadHouse.__init__" s_BadHouse_init,
  dSup "BadJournal" "BadJournal.__init__" s_BadJournal_init,
  dSup "BadRecords" "BadRecords.__init__" s_BadRecords_init,
  dSup "BadRow" "BadRow.__init__" s_BadRow_init,
  dSup "BadRule" "BadRule.__init__" s_BadRule_init,
  dSup "BadText" "BadText.__init__" s_BadText_init,
  dSup "BadWish" "BadWish.__init__" s_BadWish_init,
  dSup "NoDevice" "NoDevice.__init__" s_NoDevice_init]
abbrev R : PySem.W.OpenRow := PySem.W.OpenLaw.row PySem.Challenge.rw_heardplaces_k01_errors_by_hand
abbrev hkX : PySem.W.Hook := hookX 7 fa exB fnl
def ob (s : PySem.W.SharedT) : SeenT := obX 7 fa exB fnl (HandSHeadRun.getT s)
theorem ob_eq (s : PySem.W.SharedT) : ob s = hkX.obs s.abs := obX_eq (HandSHeadRun.getT_eq s)
def names : List Str := ([("PlaceError" : Str), ("BadRecord" : Str), ("BadRule" : Str), ("BadDeed" : Str), ("BadHouse" : Str), ("BadRow" : Str), ("BadRecords" : Str), ("BadBounds" : Str), ("BadWish" : Str), ("BadNumber" : Str), ("BadChoice" : Str), ("NoDevice" : Str), ("NothingDone" : Str), ("BadJournal" : Str), ("BadText" : Str), ("_law_begin" : Str), ("_law_blend" : Str), ("_law_take" : Str), ("_law_pick" : Str), ("_law_marks" : Str), ("_law_alone" : Str), ("_law_plain" : Str), ("_law_with_fields" : Str)] : List Str)
theorem runs (w : World) : HandSHeadRun.RunEq R (PySem.W.view R.prog [25]) hkX ob 6000 names w := by
  intro os
  kernel_rfl
end HP
namespace HP
open PySem L2
theorem holds_pre (Fl : ∀ (w : World) (mg : Str → Option Value) (f0 : Addr) (h : Heap), (∃ K : PySem.W.Frag, PySem.W.Frag.In K h ∧ SaysX fa exB fnl K ∧ TabsX K h ∧ tabU (LamT.cs K) = true) → h.Ns mainGlobals mg → mg ("law" : Str) = some (.ref f0) →
    ∃ (K : PySem.W.Frag) (fd : FuncData) (sp : Sp), K.In h ∧ TabsX K h ∧ (∀ (s : Shared) (u : Value), BindsTo s fd ⟨[u], []⟩ [(("_law_script" : Str), u)]) ∧
      (∀ (H : Hp) (a : Addr) (ns : List Int), ns.length ≤ 63 → (∀ p ∈ LamT.cs K, H p.2.1 = some (.tbl #[])) → SqL K H a (ns.map V.int) → sp [.ref a] H (fun v _ => v = .bl true) fun _ _ _ => False) ∧
      ∀ base : Heap, K.In base → base.Ns mainGlobals mg → (∀ p ∈ LamT.cs K, LamX.TabB base mg p.1 p.2.1) → FnA (PySem.W.OpenLaw.prog PySem.Challenge.rw_heardplaces_k01_errors_by_hand) w K mg base (L2.CX (PySem.W.OpenLaw.prog PySem.Challenge.rw_heardplaces_k01_errors_by_hand) w) 4 f0 fd ["_law_script"] sp) : PySem.Challenge.rw_heardplaces_k01_errors_by_hand.Holds := by
  w_on; o_law
  refine HandSHeadRun.head_any (r := R) (q := PySem.W.view R.prog [25]) (H := hkX) (ob := ob) (M := 6000) (loose := names) (d := HandSHeadRun.topDef R.prog 25) (kwd := []) ob_eq
    (by kernel_rfl) (fun s => by kernel_rfl) runs (by kernel_rfl) (by kernel_rfl) (by kernel_rfl) (by rfl) (by first | assumption | decide +kernel) (by decide +kernel) ⟨rfl, rfl, rfl, rfl, rfl, by decide +kernel⟩ ?hw ?hc
  case hw => w_witness2
  case hc =>
    refine walkA_of (l := PySem.Challenge.rw_heardplaces_k01_errors_by_hand) (n := 63) (k := 4) (x := "_law_script") rfl (by decide) (by kernel_rfl) ⟨rfl, by decide, by decide⟩ ?_
    intro w mg f0 h Y G hmg0
    have e : (HandSHeadRun.topDef R.prog 25).name = ("law" : PySem.Str) := by kernel_rfl
    exact Fl w mg f0 h Y G (by rw [← e]; exact hmg0)
/-! HpStep: the functional semantics as equations that go on from the front alone: what is wanted behind is held (Hd), so that simp leaves it as it is. Printed by stepgen.py. -/
/-! ### the words -/
/-! HpData: the operations on values as equations. -/
/-! ### texts -/
/-! ### how deep plain data are -/
/-! ### == -/
/-! ### subscripts -/
/-! ### comparisons -/
/-! ### arithmetic -/
/-! ### builtins -/
/-! ### by the front alone -/
/-! ### exceptions, lambdas -/
/-! HpLoop: comprehensions and loops over lists of any length. -/
/-! HpShow: repr of data of few items with small numbers. -/
/-! HpLoop2: more on lists, dicts and comprehensions. -/
/-! ### comprehensions whose target is a tuple -/
/-! ### dicts whose keys are texts -/
/-! HpLoop3: comprehensions of two clauses in symbolic runs. -/
/-! HpLoop4: comprehensions of three clauses in symbolic runs. -/
/-! HpLoop5: dict comprehensions in symbolic runs; dicts keyed by nested tuples, by any coding of the keys. -/
/-! ### keys by a coding -/
/-! HpLoop6: dict comprehensions of two clauses in symbolic runs. -/
/-! HpLoop7: comprehensions over a list that may be a thing of the store. -/
/-! HpLoopZ: the equations of `for .. in zip(a, b)` over lists of the store. -/
/-! HpBun: the lemmas of symbolic runs, in two bundles. -/
/-! HpParIx: x, o[k] = v. -/
/-! P1: records, rules, their joins. -/
/-! P2: rules made; records and deeds judged, where they are right. -/
/-! ### rules -/
/-! P3: rules by parts; deeds. -/
/-! ### deeds -/
/-! C1: houses, and the courses of the program. -/
/-! C2: houses made; runs of courses. -/
/-! ### names -/
/-! ### runs -/
/-! P0: draws. -/
/-! P4: a drawn order. -/
/-! P5: what laws do with records and rules. -/
/-! ### joins by one key -/
/-! P6: drawn choices, drawn models of rules, drawn records. -/
/-! ### the model of a rule -/
/-! P7: the laws' own stronger one and join. -/
/-! P8: drawn records. -/
/-! P9: laws of joins; what is shown of records. -/
/-! ### joins -/
/-! ### repr -/
/-! U1: values with a change somewhere in them. -/
/-! U2: a change somewhere in a value. -/
/-! U3: what is a record, told by the program and by the law. -/
/-! U4: what is refused; what a lambda does; what is caught of it. -/
/-! W1: drawn names. -/
/-! W2: names, houses. -/
/-! ### models of houses -/
/-! K01L: the law of errors made by hand. -/
/-! ### the loops -/
/-! ### the law -/
end HP
set_option Elab.async false
set_option linter.all false
set_option maxRecDepth 100000
set_option maxHeartbeats 2000000
/-! HpTab0: dicts whose keys are nested tuples of numbers, bools and None, in the abstract heap. -/
namespace HP
open PySem L2
open PyProof.Rows hiding St
abbrev NK := NestedKey
mutual
/-- a key whose hash no setting touches -/
def noTx : NK → Bool
  | .none => true
  | .num _ => true
  | .text _ => false
  | .tup ks => noTxs ks
def noTxs : List NK → Bool
  | [] => true
  | k :: ks => noTx k && noTxs ks
end
mutual
theorem hash_any (w w' : World) : ∀ k : NK, noTx k = true → k.hash w = k.hash w'
  | .none, _ => rfl
  | .num _, _ => rfl
  | .text _, h => by cases h
  | .tup ks, h => by
    rw [NestedKey.hash, NestedKey.hash, hashes_any w w' ks h]
theorem hashes_any (w w' : World) : ∀ ks : List NK, noTxs ks = true → NestedKey.hashes w ks = NestedKey.hashes w' ks
  | [], _ => rfl
  | k :: ks, h => by
    rw [noTxs, Bool.and_eq_true] at h
    rw [NestedKey.hashes, NestedKey.hashes, hash_any w w' k h.1, hashes_any w w' ks h.2]
end
abbrev Ent := NK × Addr × V
def TR (x : Ent) (y : NK × Addr × Value) : Prop := x.1 = y.1 ∧ x.2.1 = y.2.1 ∧ RelV x.2.2 y.2.2
/-- at a stands such a dict, with the entries xs -/
def TabAt (h : Heap) (a : Addr) (xs : List Ent) : Prop := xs.length ≤ sizeLine ∧ (a == sysModules) = false ∧ ∃ (ys : List (NK × Addr × Value)) (o : Obj) (es : Array DictEntry) (ep : Nat), Paired TR xs ys ∧ h.get? a = some o ∧ o.ExactDict ∧ o.data = .dict es ep ∧
  ∀ w : World, es.toList = ys.map fun y => (⟨y.1.hash w, .ref y.2.1, y.2.2⟩ : DictEntry)
/-- the object is known, so that a walk through the dict can go on -/
def tabO (a : Addr) (xs : List Ent) (o : Obj) : HO := .ext fun h => TabAt h a xs ∧ h.get? a = some o
section
variable {P : Program} {w : World} {H : Hp} {h h' : Heap} {a b : Addr} {xs : List Ent}
theorem tabO_ok {o : Obj} (t : TabAt h a xs) (e0 : h.get? a = some o) : ObjOk P w H h a (tabO a xs o) := by
  refine ⟨⟨t, e0⟩, ⟨o, e0⟩, fun h1 h2 t1 k => ?_⟩
  obtain ⟨⟨z1, z2, ys, o, es, ep, p, e, r⟩, e1⟩ := t1
  exact ⟨⟨z1, z2, ys, o, es, ep, p, k o e, r⟩, k _ e1⟩
/-- the keys' tuples stand -/
def TabKeys (P : Program) (w : World) (h : Heap) (xs : List Ent) : Prop := (∀ x ∈ xs, (nestedKind P w).is h x.1 x.2.1 ∧ noTx x.1 = true) ∧ (xs.map (·.1)).Nodup
theorem paired_mem {xs : List Ent} {ys : List (NK × Addr × Value)} (p : Paired TR xs ys) : ∀ y ∈ ys, ∃ x ∈ xs, TR x y := by
  induction p with
  | nil => exact fun y hy => absurd hy (by simp)
  | cons r t ih =>
    intro y hy
    rcases List.mem_cons.mp hy with rfl | hy
    · exact ⟨_, List.mem_cons_self .., r⟩
    · obtain ⟨x, hx, q⟩ := ih y hy
      exact ⟨x, List.mem_cons_of_mem _ hx, q⟩
theorem paired_keys {xs : List Ent} {ys : List (NK × Addr × Value)} (p : Paired TR xs ys) : xs.map (·.1) = ys.map (·.1) := by
  induction p with
  | nil => rfl
  | cons r t ih => rw [List.map_cons, List.map_cons, ih, r.1]
theorem tab_dict (t : TabAt h a xs) (k : TabKeys P w h xs) : ∃ ys, Paired TR xs ys ∧ h.DictOfH (nestedKind P w) a ys := by
  obtain ⟨z1, z2, ys, o, es, ep, p, e, e2, e3, e4⟩ := t
  refine ⟨ys, p, o, es, ep, e, e2, e3, e4 w, fun y hy => ?_, by rw [← paired_keys p]; exact k.2⟩
  obtain ⟨x, hx, r1, r2, _⟩ := paired_mem p y hy
  rw [← r1, ← r2]
  exact (k.1 x hx).1
def tget (xs : List Ent) (k : NK) : Option V := (xs.find? fun x => decide (x.1 = k)).map (·.2.2)
theorem tget_rel {xs : List Ent} {ys : List (NK × Addr × Value)} (p : Paired TR xs ys) (k : NK) : RelO (tget xs k) ((atKey ys k).map (·.2)) := by
  induction p with
  | nil => exact trivial
  | @cons x y xs ys r t ih =>
    unfold tget atKey at ih ⊢
    rw [List.find?_cons, List.find?_cons, ← r.1]
    cases decide (x.1 = k) with
    | true => exact r.2.2
    | false => exact ih
def tput (xs : List Ent) (k : NK) (b : Addr) (v : V) : List Ent := if (tget xs k).isSome then xs.map (fun x => if x.1 = k then (x.1, x.2.1, v) else x) else xs ++ [(k, b, v)]
theorem paired_app {xs : List Ent} {ys : List (NK × Addr × Value)} (p : Paired TR xs ys) {x : Ent} {y : NK × Addr × Value} (r : TR x y) : Paired TR (xs ++ [x]) (ys ++ [y]) := by
  induction p with
  | nil => exact .cons r .nil
  | cons r t ih => exact .cons r ih
theorem tput_rel {xs : List Ent} {ys : List (NK × Addr × Value)} (p : Paired TR xs ys) (k : NK) (b : Addr) {v : V} {u : Value} (r : RelV v u) : Paired TR (tput xs k b v) (storedH ys k b u) := by
  have e : (tget xs k).isSome = (atKey ys k).isSome := by rw [(tget_rel p k).isSome_eq, Option.isSome_map]
  unfold tput storedH
  rw [e]
  split
  · clear e
    induction p with
    | nil => exact .nil
    | @cons x y xs ys r0 t ih =>
      rename_i hs
      clear hs
      rw [List.map_cons, List.map_cons]
      refine .cons ?_ ?_
      · unfold putAt
        rw [← r0.1]
        split
        · exact ⟨rfl, r0.2.1, r⟩
        · exact r0
      · clear ih
        induction t with
        | nil => exact .nil
        | @cons x2 y2 xs2 ys2 r2 t2 ih2 =>
          rw [List.map_cons, List.map_cons]
          refine .cons ?_ ih2
          unfold putAt
          rw [← r2.1]
          split
          · exact ⟨rfl, r2.2.1, r⟩
          · exact r2
  · exact paired_app p ⟨rfl, rfl, r⟩
theorem tput_len (xs : List Ent) (k : NK) (b : Addr) (v : V) : (tput xs k b v).length ≤ xs.length + 1 := by
  unfold tput
  split <;> simp
end
section
variable {X : Cx} {pins : List (Addr × Obj)} {σ : L2.St} {H : Hp} {s : Shared} {A : Around} {E : Value → Shared → Prop} {a b : Addr} {k : NK} {xs : List Ent} {o : Obj}
abbrev isKey (X : Cx) (s : Shared) (k : NK) (b : Addr) : Prop := (nestedKind X.prog X.w).is s.heap k b
theorem Inv.tab (I : Inv X pins σ H s) (e : H a = some (tabO a xs o)) : TabAt s.heap a xs := (I.hok a _ e).1.1
theorem t_in {Q : Value → Shared → Prop} (hu : A.units + 9 < cLine) (I : Inv X pins σ H s) (e : H a = some (tabO a xs o)) (t : TabKeys X.prog X.w s.heap xs) (hk : isKey X s k b) (h : ∀ s', Inv X pins σ H s' → Q (.bool (tget xs k).isSome) s') :
    wpAny (model X.prog X.w) A (compareOp .In (.ref b) (.ref a)) Q E s := by
  obtain ⟨ys, p, dd⟩ := tab_dict (Inv.tab I e) t
  refine wpAny_in_heap (knd := nestedKind X.prog X.w) (show A.in1.units + 8 < cLine by show A.units + 1 + 8 < cLine; omega) hk (Inv.tab I e).2.1 dd ?_
  have q := (tget_rel p k).isSome_eq
  rw [Option.isSome_map] at q
  rw [← q]
  exact h _ (I.tok _)
theorem t_notIn {Q : Value → Shared → Prop} (hu : A.units + 9 < cLine) (I : Inv X pins σ H s) (e : H a = some (tabO a xs o)) (t : TabKeys X.prog X.w s.heap xs) (hk : isKey X s k b) (h : ∀ s', Inv X pins σ H s' → Q (.bool !(tget xs k).isSome) s') :
    wpAny (model X.prog X.w) A (compareOp .NotIn (.ref b) (.ref a)) Q E s := by
  obtain ⟨ys, p, dd⟩ := tab_dict (Inv.tab I e) t
  refine wpAny_notIn_heap (knd := nestedKind X.prog X.w) (show A.in1.units + 8 < cLine by show A.units + 1 + 8 < cLine; omega) hk (Inv.tab I e).2.1 dd ?_
  have q := (tget_rel p k).isSome_eq
  rw [Option.isSome_map] at q
  rw [← q]
  exact h _ (I.tok _)
theorem t_item {Q : Value → Shared → Prop} (hu : A.units + 9 < cLine) (I : Inv X pins σ H s) (e : H a = some (tabO a xs o)) (t : TabKeys X.prog X.w s.heap xs) (hk : isKey X s k b) {v : V} (hv : tget xs k = some v) (h : ∀ u s', Inv X pins σ H s' → RelV v u → Q u s') :
    wpAny (model X.prog X.w) A (getItem (.ref a) (.ref b)) Q E s := by
  obtain ⟨ys, p, dd⟩ := tab_dict (Inv.tab I e) t
  obtain ⟨u, hu2, r⟩ := RelO.some_of (v := v) (o := (atKey ys k).map (·.2)) (by rw [← hv]; exact tget_rel p k)
  obtain ⟨q, hq, rfl⟩ := Option.map_eq_some_iff.mp hu2
  exact wpAny_getItem_heap (knd := nestedKind X.prog X.w) (show A.in1.units + 8 < cLine by show A.units + 1 + 8 < cLine; omega) hk dd hq (h _ _ (I.tok _) r)
/-- what stands behind a store -/
theorem tab_stored {P : Program} {w : World} {h' : Heap} {ys : List (NK × Addr × Value)} {xs' : List Ent} (p : Paired TR xs' ys) (hz : xs'.length ≤ sizeLine) (ha : (a == sysModules) = false) (hn : ∀ x ∈ xs', noTx x.1 = true) (dd : h'.DictOfH (nestedKind P w) a ys) : TabAt h' a xs' := by
  obtain ⟨o, es, ep, e1, e2, e3, e4, _⟩ := dd
  refine ⟨hz, ha, ys, o, es, ep, p, e1, e2, e3, fun w' => ?_⟩
  rw [e4]
  refine List.map_congr_left fun y hy => ?_
  obtain ⟨x, hx, r1, _⟩ := paired_mem p y hy
  show (⟨y.1.hash w, .ref y.2.1, y.2.2⟩ : DictEntry) = _
  rw [hash_any w w' y.1 (by rw [← r1]; exact hn x hx)]
theorem t_set {v : V} {u : Value} {Q : Unit → Shared → Prop} (hu : A.units + 9 < cLine) (I : Inv X pins σ H s) (e : H a = some (tabO a xs o)) (t : TabKeys X.prog X.w s.heap xs) (hk : isKey X s k b) (hn : noTx k = true) (r : RelV v u) (hz : xs.length < 1000000)
    (h : ∀ o' s', Inv X pins σ (upd H a (tabO a (tput xs k b v) o')) s' → Q () s') : wpAny (model X.prog X.w) A (setItem (.ref a) (.ref b) u) Q E s := by
  have ta := Inv.tab I e
  obtain ⟨ys, p, dd⟩ := tab_dict ta t
  have ly : ys.length = xs.length := (Paired.length p).symm
  refine wpAny_setItem_heap (knd := nestedKind X.prog X.w) (hsz := by rw [ly]; exact ta.1) (show A.in1.units + 8 < cLine by show A.units + 1 + 8 < cLine; omega) hk dd fun h' dd' hs => ?_
  obtain ⟨o9, es9, ep9, e9, r9⟩ := id dd'
  refine h o9 _ (I.write (e := a) (t' := s.toks + (nestedKind X.prog X.w).draws k) (by rw [e]; trivial) (.inl rfl) (fun c q hc z => (hs.2 c hc).trans z) ?_ ?_)
  · obtain ⟨o, _, _, z, _⟩ := dd'
    exact ⟨o, z⟩
  · refine tabO_ok (tab_stored (tput_rel p k b r) ?_ ta.2.1 ?_ dd') e9
    · have := tput_len xs k b v
      rw [sizeLine_eq]
      omega
    · intro x hx
      unfold tput at hx
      split at hx
      · obtain ⟨z, hz, rfl⟩ := List.mem_map.mp hx
        split
        · exact (t.1 z hz).2
        · exact (t.1 z hz).2
      · rcases List.mem_append.mp hx with hx | hx
        · exact (t.1 x hx).2
        · cases List.mem_singleton.mp hx
          exact hn
end
end HP

/-! HpSem: values, a small language without places, its functional semantics (predicate transformers). -/
namespace HP
open PySem PySem.W

def Cont.frz : Cont → D
  | .lst xs => .lst xs
  | .dct ks vs => .dct ks vs
  | .ins c ns vs => .ins c ns vs
  | .tab ks vs => .tab ks vs

/-- what an expression hands on: a value, or a new container that nobody else holds -/
inductive Out where
  | val (d : D)
  | own (c : Cont)
def Out.frz : Out → D
  | .val d => d
  | .own c => c.frz

def Out.slot : Out → Slot
  | .val d => .val d
  | .own c => .own c

abbrev Slots := List Slot
abbrev Store := List Cont

structure Exc where
  c : Str
  arg : Option D

abbrev QO := Out → Slots → Store → Prop
abbrev QD := D → Slots → Store → Prop
abbrev QB := Bool → Slots → Store → Prop
abbrev QN := Slots → Store → Prop
abbrev QX := Exc → Slots → Store → Prop
/-- a def: arguments, store, what is wanted of its answer, of its exception -/
abbrev Fn := List D → Store → (Out → Store → Prop) → (Exc → Store → Prop) → Prop

def optK {α : Type} : Option α → (α → Prop) → Prop
  | none, _ => False
  | some a, k => k a
@[simp] theorem optK_some {α : Type} (a : α) (k : α → Prop) : optK (some a) k = k a := rfl
@[simp] theorem optK_none {α : Type} (k : α → Prop) : optK none k = False := rfl

/-! ### plain data -/
mutual
/-- what repr shows: plain data, and dicts of it -/
def D.plainR : D → Bool
  | .non => true
  | .bl _ => true
  | .int _ => true
  | .str _ => true
  | .tup xs => plainsR xs
  | .lst xs => plainsR xs
  | .dct _ vs => plainsR vs
  | .ins _ _ _ => false
  | .ref _ => false
  | .exc _ _ => false
  | .scr _ => false
  | .tab ks vs => plainsR ks && plainsR vs
  | .lam _ => false
  | .clo _ _ _ => false
def plainsR : List D → Bool
  | [] => true
  | x :: xs => x.plainR && plainsR xs
end
mutual
def D.pyR : D → PyData
  | .non => .none
  | .bl b => .bool b
  | .int i => .int i
  | .str x => .str x
  | .tup xs => .tuple (pysR xs)
  | .lst xs => .list (pysR xs)
  | .dct ks vs => .dict ((pysR ks).zip (pysR vs))
  | .ins _ _ _ => .none
  | .ref _ => .none
  | .exc _ _ => .none
  | .scr _ => .none
  | .tab ks vs => .dict ((pysR ks).zip (pysR vs))
  | .lam _ => .none
  | .clo _ _ _ => .none
def pysR : List D → List PyData
  | [] => []
  | x :: xs => x.pyR :: pysR xs
end
/-- .. of any list and the empty one -/
def eqNil : D → D → Option Bool
  | .lst xs, .lst [] => some xs.isEmpty
  | .tup xs, .tup [] => some xs.isEmpty
  | _, _ => none
def eqSem (a b : D) : Option Bool := if a.ok && b.ok then some (eqD a b) else eqNil a b
/-- Python's < of data of one form -/
def ltD (a b : D) : Bool := dataLt a.py b.py
def notNon : D → Bool
  | .non => false
  | _ => true
def ltSem (a b : D) : Option Bool := if a.ok && b.ok && alike a.py b.py && notNon a then some (ltD a b) else none

/-- as many items as a list may have -/
def big : Nat := 16777216
/-- the text of repr -/
def reprSem (d : D) : Option Str := if d.plainR && decide (d.pyR.depth ≤ 60) && d.pyR.showable && decide (d.pyR.shown.length ≤ big) then some d.pyR.shown else none
def strSem : D → Option Str
  | .int i => if i.natAbs.log2 < 1920 then some (Str.ofString (toString i)) else none
  | .str x => some x
  | _ => none

def cutD {α : Type} (xs : List α) (lo hi : Option Int) : List α := (xs.drop (HT.sIx xs.length 0 lo)).take (HT.sIx xs.length xs.length hi - HT.sIx xs.length 0 lo)

/-- the items of what can be walked -/
def itemsOf : D → Option (List D)
  | .tup xs => some xs
  | .lst xs => some xs
  | .scr xs => some xs
  | .dct ks _ => some ks
  | .str x => some (x.cps.toList.map fun c => .str ⟨#[c]⟩)
  | _ => none
/-- what a for walks -/
def walkOf : D → Option (List D)
  | .tup xs => some xs
  | .lst xs => some xs
  | .scr xs => some xs
  | .str x => some (x.cps.toList.map fun c => .str ⟨#[c]⟩)
  | _ => none
/-- what list() walks -/
def listOf : D → Option (List D)
  | .str x => if x.cps.size ≤ big then some ((x.cps.toList.map fun c => (⟨#[c]⟩ : Str)).map .str) else none
  | .tup xs => some xs
  | .lst xs => some xs
  | .scr xs => some xs
  | .dct ks _ => some ks
  | .tab ks _ => some ks
  | _ => none
def seqOf : D → Option (List D)
  | .tup xs => some xs
  | .lst xs => some xs
  | _ => none

mutual
/-- what a dict's key counts for -/
def D.key : D → Option D
  | .bl b => some (.int (if b then 1 else 0))
  | .int i => some (.int i)
  | .str x => some (.str x)
  | .non => some .non
  | .tup xs => (keys xs).map .tup
  | _ => none
def keys : List D → Option (List D)
  | [] => some []
  | x :: xs => match x.key, keys xs with
    | some k, some ks => some (k :: ks)
    | _, _ => none
end
/-- a key of a dict: a text, an int, or a tuple (of such, nested) -/
def keyOk : D → Bool
  | .int _ => true
  | .str _ => true
  | .tup xs => (keys xs).isSome && decide (deps xs ≤ 6)
  | _ => false
def isTup : D → Bool
  | .tup _ => true
  | _ => false
def putD (ks vs : List D) (k v : D) : List D × List D := match keyAt ks k with
  | some i => (ks, vs.set i v)
  | none => (ks ++ [k], vs ++ [v])
/-- keys of one sort, told apart -/
def keyFits (ks : List D) (k : D) : Bool := keyOk k && !isTup k
def mergeD : List D → List D → List (D × D) → Option (List D × List D)
  | ks, vs, [] => some (ks, vs)
  | ks, vs, (k, v) :: r => if keyFits ks k then mergeD (putD ks vs k v).1 (putD ks vs k v).2 r else none

mutual
/-- a key of nested tuples, without texts -/
def nk : D → Option NestedKey
  | .non => some .none
  | .bl b => some (.num (if b then 1 else 0))
  | .int i => some (.num i)
  | .tup xs => (nks xs).map .tup
  | _ => none
def nks : List D → Option (List NestedKey)
  | [] => some []
  | x :: xs => match nk x, nks xs with
    | some k, some ks => some (k :: ks)
    | _, _ => none
end
/-- a tuple that can be a key of a tab -/
def tkey (d : D) : Bool := isTup d && (match nk d with | some k => decide (k.depth ≤ 8) | none => false)
def tabAt (ks : List D) (k : D) : Option Nat := ks.findIdx? fun x => decide (nk x = nk k)
def getT (ks vs : List D) (k : D) : Option D := (tabAt ks k).bind fun i => vs[i]?
def putT (ks vs : List D) (k v : D) : List D × List D := match tabAt ks k with
  | some i => (ks, vs.set i v)
  | none => (ks ++ [k], vs ++ [v])
def mergeT : List D → List D → List (D × D) → Option (List D × List D)
  | ks, vs, [] => some (ks, vs)
  | ks, vs, (k, v) :: r => if tkey k then mergeT (putT ks vs k v).1 (putT ks vs k v).2 r else none

/-! ### the small language -/
inductive Bi where
  | len | abs | int | str | repr | max | min | all | any | sorted | list | tuple | dict | lenset | sortedset | vals | zipl | zipd | tdict | sortkey (c : Str) | sortset2 | sortsetT | lensetT | tdup
inductive Mm where
  | append | pop | insert | extend | clear
/-- the classes of isinstance -/
inductive Cl where
  | int | bool | str | tuple | list | dict | own (c : Str)

inductive Tg where
  | name (i : Nat)
  | tup (ts : List Tg)

mutual
inductive E where
  | lit (d : D)
  | var (i : Nat)
  | bin (o : BinO) (a b : E)
  | neg (a : E)
  | cmp (o : CmpO) (a b : E)
  | chain (o p : CmpO) (a b c : E)
  | not_ (a : E)
  | and_ (a b : E)
  | or_ (a b : E)
  | ife (c a b : E)
  | tup (es : Es)
  | lst (es : Es)
  | dct (kvs : Es)
  | ix (a b : E)
  | sl (a : E) (lo hi : Es)
  | rev (a : E)
  | fld (c : Str) (a : E) (n : Str)
  | prop (c : Str) (g : Fn) (a : E)
  | call (g : Fn) (args : Es)
  | callp (g : Fn) (perm : List Nat) (args : Es)
  | meth (c m : Str) (g : Fn) (o : E) (args : Es)
  | mk (c : Str) (g : Fn) (args : Es)
  | alloc (e : E)
  | bi (b : Bi) (args : Es)
  | isi (all : List Str) (cs : List Cl) (a : E)
  | rng (tup : Bool) (args : Es)
  | bm (m : Bm) (o : E) (args : Es)
  | mm (m : Mm) (o : E) (args : Es)
  | lc (vs : List Nat) (elt : E) (c : Cs)
  | dc (vs : List Nat) (k v : E) (c : Cs)
  | eqo (all : List Str) (n : Bool) (c : Str) (g : Fn) (a b : E)
  | tabd (kvs : Es)
  | tget (o : E) (args : Es)
  | borrow (ks : List Nat) (e : E)
  | isx (all : List Str) (t : Str) (a : E)
  | xfld (all : List Str) (a : E) (n : Str)
  | callT (g : Addr → Fn → Fn) (ks : List Nat) (e : E)
  | lamE (L : List (Str × Addr)) (j : Nat) (y : LamSyn)
  | app (g : Addr → Fn → Fn) (L : List (Str × Addr)) (ys : List LamSyn) (ks : List Nat) (es : Es) (a : E)
  | dyn (ks : List Nat) (es : Es) (f : (Nat → Fn) → E)
  | appQ (g : Addr → Fn → Fn) (L : List (Str × Addr)) (ys : List LamSyn) (q : Nat → Fn) (a : E)
  | act (a : Addr) (f : Fn) (i : Nat)
  | callA (g : Addr → Fn → Fn) (a : Addr) (f : Fn) (i : Nat)
  | lcr (a : E) (vs : List Nat) (elt : E) (t : Tg) (ifs : Es)
  | eqd (n : Bool) (a b : E)
inductive Es where
  | nil
  | cons (e : E) (es : Es)
  | star (e : E) (es : Es)
inductive It where
  | seq (e : E)
  | rng1 (a : E)
  | rng2 (a b : E)
  | enum (e : E) (k : Es)
  | zip (es : Es)
  | items (e : E)
  | vals (e : E)
  | tabk (e : E)
inductive Cs where
  | one (t : Tg) (it : It) (ifs : Es)
  | more (t : Tg) (it : It) (ifs : Es) (vs : List Nat) (c : Cs)
end

mutual
inductive S where
  | asg (t : Tg) (e : E)
  | par (is : List Nat) (es : Es)
  | aug (i : Nat) (o : BinO) (e : E)
  | setix (o k v : E)
  | setix2 (o k o2 k2 v : E)
  | setfld (c : Str) (o : E) (n : Str) (v : E)
  | augfld (o : E) (n : Str) (b : BinO) (v : E)
  | ex (e : E)
  | ret (e : E)
  | retn
  | ife (c : E) (a b : Ss)
  | for_ (t : Tg) (it : It) (b : Ss)
  | while_ (c : E) (b : Ss)
  | pass
  | brk
  | cont
  | raise (c : Str) (f : Bool) (e : E)
  | try_ (all : List Str) (b : Ss) (c : Str) (h : Ss)
  | tryk (all : List Str) (b : Ss) (c : Str) (n m : Nat)
  | tryn (all : List Str) (b : Ss) (c : Str) (n : Nat) (h : Ss)
  | forz (es : Es) (t : Tg) (b : Ss)
  | parix (n : Nat) (o k v : E)
  | scope (ks : List Nat) (n : Nat) (e : E) (b : Ss) (k : Nat)
inductive Ss where
  | nil
  | cons (s : S) (r : Ss)
end

/-! ### operations by values -/
def isNum : D → Bool
  | .int _ => true
  | _ => false
def binSem : BinO → D → D → Option Out
  | .add, .int i, .int j => some (.val (.int (i + j)))
  | .add, .str x, .str y => if x.length + y.length ≤ big then some (.val (.str (x ++ y))) else none
  | .add, .tup xs, .tup ys => if xs.length + ys.length ≤ big then some (.val (.tup (xs ++ ys))) else none
  | .add, .lst xs, .lst ys => if xs.length + ys.length ≤ big then some (.own (.lst (xs ++ ys))) else none
  | .sub, .int i, .int j => some (.val (.int (i - j)))
  | .mul, .int i, .int j => if i.natAbs < 18446744073709551616 || j.natAbs < 18446744073709551616 || i.natAbs.log2 + j.natAbs.log2 < 1000000 then some (.val (.int (i * j))) else none
  | .mul, .str x, .int k => if 2 ≤ k && k ≤ 1000 && 1 ≤ x.length && x.length ≤ 1000 then some (.val (.str ⟨(List.replicate k.toNat x.cps).foldl (· ++ ·) #[]⟩)) else none
  | .mul, .lst xs, .int k => if -1000000 ≤ k && k ≤ 1000000 && xs.length * k.toNat ≤ big then some (.own (.lst (List.replicate k.toNat xs).flatten)) else none
  | .mul, .tup xs, .int k => if 2 ≤ k && k ≤ 1000 && 1 ≤ xs.length && xs.length ≤ 1000 then some (.val (.tup (List.replicate k.toNat xs).flatten)) else if k = 1 ∧ 1 ≤ xs.length then some (.val (.tup xs)) else none
  | .fdiv, .int i, .int j => if 0 < j && j.natAbs.log2 < 9000 then some (.val (.int (i / j))) else none
  | .mod, .int i, .int j => if 0 < j then some (.val (.int (i % j))) else none
  | .pow, .int i, .int j => if 0 ≤ j && j ≤ 1000000 && i.natAbs < 18446744073709551616 then some (.val (.int (i ^ j.toNat))) else none
  | .bor, .int i, .int j => some (.val (.int (Builtin.bitOr i j)))
  | .shl, .int i, .int j => if 0 ≤ j && j ≤ 1000000 && i.natAbs < 18446744073709551616 then some (.val (.int (i * 2 ^ j.toNat))) else none
  | _, _, _ => none
def isIn (x : D) : D → Option Bool
  | .tup ys => if x.ok && plains ys && decide (deps ys ≤ 60) then some (ys.any fun y => eqD y x) else none
  | .lst ys => if x.ok && plains ys && decide (deps ys ≤ 60) then some (ys.any fun y => eqD y x) else none
  | .dct ks _ => if keyFits ks x then some (keyAt ks x).isSome else none
  | .tab ks _ => if tkey x then some (tabAt ks x).isSome else none
  | .str y => match x with
    | .str z => if z.length = 1 then some (y.cps.toList.any fun c => z.cps.toList == [c]) else none
    | _ => none
  | _ => none
def isSem : D → D → Option Bool
  | x, .non => some (!notNon x)
  | .bl a, .bl b => some (a == b)
  | _, _ => none
def cmpSem : CmpO → D → D → Option Bool
  | .eq, a, b => eqSem a b
  | .ne, a, b => (eqSem a b).map (!·)
  | .lt, .int a, .int b => some (decide (a < b))
  | .lt, a, b => ltSem a b
  | .gt, .int a, .int b => some (decide (b < a))
  | .gt, a, b => ltSem b a
  | .le, .int a, .int b => some (decide (a ≤ b))
  | .le, a, b => (ltSem b a).map (!·)
  | .ge, .int a, .int b => some (decide (b ≤ a))
  | .ge, a, b => (ltSem a b).map (!·)
  | .is, a, b => isSem a b
  | .isn, a, b => (isSem a b).map (!·)
  | .in_, a, b => isIn a b
  | .nin, a, b => (isIn a b).map (!·)
def truth : D → Option Bool
  | .non => some false
  | .bl b => some b
  | .int i => some (decide (i ≠ 0))
  | .str x => if x.length ≤ big then some (decide (x.length ≠ 0)) else none
  | .tup xs => some !xs.isEmpty
  | .lst xs => some !xs.isEmpty
  | .dct ks _ => some !ks.isEmpty
  | _ => none
def ixSem : D → D → Option D
  | .tup xs, .int i => L2.atI xs i
  | .lst xs, .int i => L2.atI xs i
  | .str x, .int i => if x.length ≤ big then (L2.atI x.cps.toList i).map fun c => .str ⟨#[c]⟩ else none
  | .dct ks vs, k => if keyFits ks k then getD ks vs k else none
  | .tab ks vs, k => if tkey k then getT ks vs k else none
  | _, _ => none
def slSem : D → Option Int → Option Int → Option Out
  | .tup xs, lo, hi => some (.val (.tup (cutD xs lo hi)))
  | .lst xs, lo, hi => some (.own (.lst (cutD xs lo hi)))
  | .str x, lo, hi => if x.length ≤ big then some (.val (.str ⟨(cutD x.cps.toList lo hi).toArray⟩)) else none
  | _, _, _ => none
def lookF : List Str → List D → Str → Option D
  | n :: ns, v :: vs, x => if n = x then some v else lookF ns vs x
  | _, _, _ => none
def putF : List Str → List D → Str → D → List Str × List D
  | n :: ns, v :: vs, x, y => if n = x then (n :: ns, y :: vs) else ((n :: (putF ns vs x y).1), (v :: (putF ns vs x y).2))
  | ns, vs, x, y => (ns ++ [x], vs ++ [y])

def allBl : List D → Option (List Bool)
  | [] => some []
  | .bl b :: r => (allBl r).map (b :: ·)
  | _ :: _ => none
def allStr : List D → Option (List Str)
  | [] => some []
  | .str b :: r => (allStr r).map (b :: ·)
  | _ :: _ => none
def allInt : List D → Option (List Int)
  | [] => some []
  | .int b :: r => (allInt r).map (b :: ·)
  | _ :: _ => none
/-- all are of one form: each is less or not than each -/
def tupNe : D → Bool
  | .tup (_ :: _) => true
  | _ => false
def sortable (xs : List D) : Bool := (xs.all fun x => x.ok && notNon x && xs.all fun y => alike x.py y.py) && ((xs.all tupNe || xs.all fun x => !isTup x) || xs.all isTup)
/-- what max and min do: the first of the greatest (least) -/
def maxL (x : D) (xs : List D) : D := xs.foldl (fun a y => if ltD a y then y else a) x
def minL (x : D) (xs : List D) : D := xs.foldl (fun a y => if ltD y a then y else a) x
def leD (x y : D) : Bool := !ltD y x
def sortD (xs : List D) : List D := xs.mergeSort leD
/-- sorted(ws, key=lambda w: (w == c, w)) -/
def keyK (c w : Str) : PySem.PyData := .tuple [.bool (w == c), .str w]
def sortK (c : Str) (ws : List Str) : List Str := ws.mergeSort (PySem.W.dataLe false (keyK c))
def dedup : List D → List D → List D
  | acc, [] => acc
  | acc, x :: xs => if acc.any fun y => eqD y x then dedup acc xs else dedup (acc ++ [x]) xs
/-- tuples, each once (as keys), in the order in which they come first -/
def dedupT (xs : List D) : List D := xs.foldl (fun acc x => if nk x ∈ acc.map nk then acc else acc ++ [x]) []
mutual
/-- the hash of a key without texts -/
def hash0 : NestedKey → Int
  | .none => PySem.reduceHash 0xFCA86420
  | .num i => PySem.hashInt i
  | .text _ => 0
  | .tup ks => PySem.reduceHash (PySem.Builtin.Tuple.tupleHashOf (hashes0 ks))
def hashes0 : List NestedKey → List Int
  | [] => []
  | k :: ks => hash0 k :: hashes0 ks
end
/-- keys of which no two hash alike -/
def hashU (ks : List D) : Bool := match nks ks with
  | some l => decide (hashes0 l).Nodup
  | none => false
/-- of two one is the less -/
def distL : List D → Bool
  | [] => true
  | x :: xs => (xs.all fun y => ltD x y != ltD y x) && distL xs
/-- the texts, each once, in the order in which they come first -/
def nubS : List Str → List Str → List Str
  | acc, [] => acc
  | acc, x :: xs => if acc.contains x then nubS acc xs else nubS (acc ++ [x]) xs
def pairOf : D → Option (D × D)
  | .tup [k, v] => some (k, v)
  | _ => none
def pairsOf : List D → Option (List (D × D))
  | [] => some []
  | x :: r => match pairOf x, pairsOf r with
    | some p, some ps => some (p :: ps)
    | _, _ => none
def zipD : List D → List D → List D
  | x :: xs, y :: ys => .tup [x, y] :: zipD xs ys
  | _, _ => []
/-- what sorted() walks -/
def seqTab : D → Option (List D)
  | .tup xs => some xs
  | .lst xs => some xs
  | .tab ks _ => some ks
  | _ => none
def biSem : Bi → List D → Option Out
  | .len, [.str x] => if x.length ≤ big then some (.val (.int x.length)) else none
  | .len, [.tup xs] => some (.val (.int xs.length))
  | .len, [.lst xs] => some (.val (.int xs.length))
  | .len, [.scr xs] => some (.val (.int xs.length))
  | .len, [.dct ks _] => some (.val (.int ks.length))
  | .len, [.tab ks _] => some (.val (.int ks.length))
  | .abs, [.int i] => some (.val (.int (if i < 0 then -i else i)))
  | .int, [.int i] => some (.val (.int i))
  | .int, [.bl b] => some (.val (.int (if b then 1 else 0)))
  | .int, [.str x] => if x.length ≤ 640 then (PySem.intText? x).map fun n => .val (.int n) else none
  | .str, [d] => (strSem d).map fun x => .val (.str x)
  | .repr, [d] => (reprSem d).map fun x => .val (.str x)
  | .max, [.int i, .int j] => some (.val (.int (if j > i then j else i)))
  | .min, [.int i, .int j] => some (.val (.int (if j < i then j else i)))
  | .max, [.lst (x :: xs)] => if sortable (x :: xs) then some (.val (maxL x xs)) else none
  | .min, [.lst (x :: xs)] => if sortable (x :: xs) then some (.val (minL x xs)) else none
  | .all, [.lst xs] => (allBl xs).map fun bs => .val (.bl (bs.all id))
  | .any, [.lst xs] => (allBl xs).map fun bs => .val (.bl (bs.any id))
  | .sorted, [d] => (seqTab d).bind fun xs => if sortable xs && decide (xs.length ≤ big) then some (.own (.lst (sortD xs))) else none
  | .list, [d] => (listOf d).map fun xs => .own (.lst xs)
  | .tuple, [d] => (seqOf d).map fun xs => .val (.tup xs)
  | .dict, [.dct ks vs] => some (.own (.dct ks vs))
  | .dict, [.lst xs] => ((pairsOf xs).bind fun ps => mergeD [] [] ps).map fun p => .own (.dct p.1 p.2)
  | .lenset, [.tup xs] => (allStr xs).bind fun ss => if ss.length < 4000 then some (.val (.int ((nubS [] ss).length : Nat))) else none
  | .lenset, [.lst xs] => (allStr xs).bind fun ss => if ss.length < 4000 then some (.val (.int ((nubS [] ss).length : Nat))) else none
  | .sortedset, [d] => (seqOf d).bind fun xs => (allInt xs).bind fun ns => if decide (xs.length < 60) then some (.own (.lst (sortD (dedup [] xs)))) else none
  | .sortkey c, [.lst xs] => (allStr xs).bind fun ws => if decide (xs.length < 1000) then some (.own (.lst ((sortK c ws).map .str))) else none
  | .sortkey c, [.tup xs] => (allStr xs).bind fun ws => if decide (xs.length < 1000) then some (.own (.lst ((sortK c ws).map .str))) else none
  | .sortset2, [.lst xs] => (allInt xs).bind fun ns => if (decide (xs.length < 4000) && decide ((dedup [] xs).length < 60)) = true then some (.own (.lst (sortD (dedup [] xs)))) else none
  | .sortsetT, [.lst xs] => if xs.all tkey && sortable (dedupT xs) && distL (dedupT xs) && decide (xs.length ≤ big) && decide ((dedupT xs).length < 60) then some (.own (.lst (sortD (dedupT xs)))) else none
  | .lensetT, [.lst xs] => if xs.all tkey && decide ((dedupT xs).length < 60) then some (.val (.int ((dedupT xs).length : Nat))) else none
  | .lensetT, [.tup xs] => if xs.all tkey && decide ((dedupT xs).length < 60) then some (.val (.int ((dedupT xs).length : Nat))) else none
  | .tdup, [.tab ks vs] => if hashU ks && decide (ks.length < 1000000) then some (.own (.tab ks vs)) else none
  | .vals, [.tab _ vs] => some (.own (.lst vs))
  | .vals, [.dct _ vs] => some (.own (.lst vs))
  | .zipl, [a, b] => (seqOf a).bind fun xs => (seqOf b).bind fun ys => if xs.length = ys.length then some (.own (.lst (zipD xs ys))) else none
  | .tdict, [.lst xs] => ((pairsOf xs).bind fun ps => if ps.length < 1000000 then mergeT [] [] ps else none).map fun p => .own (.tab p.1 p.2)
  | .zipd, [a, b] => (seqOf a).bind fun xs => (seqOf b).bind fun ys => if xs.length = ys.length then (mergeD [] [] (xs.zip ys)).map fun p => .own (.dct p.1 p.2) else none
  | _, _ => none
def isCl : Cl → D → Bool
  | .int, d => (match d with | .int _ => true | .bl _ => true | _ => false)
  | .bool, d => (match d with | .bl _ => true | _ => false)
  | .str, d => (match d with | .str _ => true | _ => false)
  | .tuple, d => (match d with | .tup _ => true | _ => false)
  | .list, d => (match d with | .lst _ => true | _ => false)
  | .dict, d => (match d with | .dct _ _ => true | .tab _ _ => true | _ => false)
  | .own c, d => (match d with | .ins c' _ _ => decide (c' = c) | _ => false)
/-- the name of a value's built-in type -/
def tyN : D → Option String
  | .non => some "NoneType"
  | .bl _ => some "bool"
  | .int _ => some "int"
  | .str _ => some "str"
  | .tup _ => some "tuple"
  | .lst _ => some "list"
  | .dct _ _ => some "dict"
  | .tab _ _ => some "dict"
  | _ => none
/-- isinstance(d, one of cs); all: the program's own classes -/
def isiSem (all : List Str) (cs : List Cl) (d : D) : Option Bool := match d with
  | .ins c _ _ => if all.contains c then some (cs.any fun k => isCl k d) else none
  | d => if (tyN d).isSome then some (cs.any fun k => isCl k d) else none
/-- isinstance(d, an exception class t); all: the exception classes that are looked at -/
def isxSem (all : List Str) (t : Str) (d : D) : Option Bool := match d with
  | .exc c _ => if all.contains c then some (isSub c t) else none
  | .tab _ _ => none
  | d => if (tyN d).isSome then some false else none
/-- e.f of an exception -/
def xfldSem (all : List Str) (n : Str) (d : D) : Option D := match d with
  | .exc c [v] => if all.contains c && decide (excFld c = some n) then some v else none
  | _ => none
def rngSem : List D → Option (Int × Int)
  | [.int n] => some (0, n)
  | [.int a, .int b] => some (a, b)
  | _ => none
def upTo (a : Int) : Nat → List D
  | 0 => []
  | n + 1 => .int a :: upTo (a + 1) n
/-- the ints from a below b -/
def rngD (a b : Int) : List D := upTo a (b - a).toNat
def rngOk (a b : Int) : Bool := decide (-1000000 ≤ a) && decide (a ≤ 1000000) && decide (-1000000 ≤ b) && decide (b ≤ 1000000)
/-- nothing that could be changed -/
def isFlat : D → Bool
  | .lst _ => false
  | .dct _ _ => false
  | .tab _ _ => false
  | .ins _ _ _ => false
  | _ => true
def bmSem : Bm → D → List D → Option Out
  | .join, .str x, [d] => (seqOf d).bind fun xs => (allStr xs).bind fun ss =>
      if (ss.map (·.length)).sum + ss.length * x.length ≤ big then some (.val (.str (Txt.join x ss))) else none
  | .split, .str x, [.str y] => if decide (1 ≤ y.length) && decide (x.length + 2 ≤ big) then some (.own (.lst ((Txt.split x y).map .str))) else none
  | .tindex, .tup xs, [.str y] => (allStr xs).bind fun ss => (ss.findIdx? fun z => decide (z = y)).map fun (i : Nat) => .val (.int (i : Nat))
  | .index, .lst xs, [y] => if y.ok && plains xs && decide (deps xs ≤ 60) then (xs.findIdx? fun z => eqD z y).map fun (i : Nat) => .val (.int (i : Nat)) else none
  | .count, .lst xs, [y] => if y.ok && plains xs && decide (deps xs ≤ 60) then some (.val (.int (xs.countP fun x => eqD x y : Nat))) else none
  | .get, .dct ks vs, [k] => if keyFits ks k then some (.val ((getD ks vs k).getD .non)) else none
  | .get, .dct ks vs, [k, d] => if keyFits ks k && isFlat d then some (.val ((getD ks vs k).getD d)) else none
  | _, _, _ => none
/-- a changing method: the container behind it, and what it hands back -/
def mmSem : Mm → Cont → List D → Option (Cont × D)
  | .append, .lst xs, [x] => if xs.length < big then some (.lst (xs ++ [x]), .non) else none
  | .pop, .lst xs, [] => match xs.getLast? with
    | some y => some (.lst xs.dropLast, y)
    | none => none
  | .pop, .lst xs, [.int i] => match L2.ixN xs.length i with
    | some j => (xs[j]?).map fun y => (.lst (xs.eraseIdx j), y)
    | none => none
  | .insert, .lst xs, [.int i, x] => if 0 ≤ i && i < 1000000 && decide (xs.length < big) then some (.lst (xs.take i.toNat ++ [x] ++ xs.drop i.toNat), .non) else none
  | .extend, .lst xs, [.lst ys] => if xs.length + ys.length ≤ big then some (.lst (xs ++ ys), .non) else none
  | .clear, .lst _, [] => some (.lst [], .non)
  | _, _, _ => none
def isTab : D → Bool
  | .tab _ _ => true
  | .dct _ _ => true
  | _ => false
/-- t.get(k), t.get(k, d) -/
def tgetSem : D → List D → Option D
  | .tab ks vs, [k] => if tkey k then some ((getT ks vs k).getD .non) else none
  | .tab ks vs, [k, d] => if tkey k then some ((getT ks vs k).getD d) else none
  | .dct ks vs, [k, d] => if keyFits ks k then some ((getD ks vs k).getD d) else none
  | _, _ => none
def isLst : D → Bool
  | .lst _ => true
  | _ => false
/-- o[k] = v -/
def setSem : Cont → D → D → Option Cont
  | .lst xs, .int i, v => (L2.ixN xs.length i).map fun j => .lst (xs.set j v)
  | .dct ks vs, k, v => if keyFits ks k && decide (ks.length < 1000000) then some (.dct (putD ks vs k v).1 (putD ks vs k v).2) else none
  | .tab ks vs, k, v => if tkey k && decide (ks.length < 1000000) then some (.tab (putT ks vs k v).1 (putT ks vs k v).2) else none
  | _, _, _ => none

/-! ### the semantics -/
/-- an operand: a local name (looked up when it is used), or a value -/
inductive Opd where
  | slot (i : Nat)
  | val (d : D)
/-- what stands behind a reference, as a value -/
def view (s : Store) : D → D
  | .ref n => match s[n]? with
    | some c => c.frz
    | none => .ref n
  | d => d
/-- two values, or what they stand for, are equal data -/
def valSame (s : Store) (v v' : D) : Bool := (view s v).ok && (view s v').ok && eqD (view s v) (view s v')
def okEqs : List D → List D → Bool
  | [], [] => true
  | x :: xs, y :: ys => x.ok && y.ok && eqD x y && okEqs xs ys
  | _, _ => false
/-- equal data, or dicts with the same tuples as keys, in the same order -/
def eqT1 : D → D → Bool
  | .tab ks vs, .tab ks' vs' => (nks ks).isSome && decide (nks ks = nks ks') && okEqs vs vs'
  | x, y => x.ok && y.ok && eqD x y
def eqTs : List D → List D → Bool
  | [], [] => true
  | x :: xs, y :: ys => eqT1 x y && eqTs xs ys
  | _, _ => false
/-- two dicts are equal; two tuples with such dicts in them -/
def dctSame (s : Store) : D → D → Bool
  | .tup xs, .tup ys => eqTs xs ys
  | .dct ks vs, .dct ks' vs' => ks.length == ks'.length && (ks.zip vs).all fun p => match getD ks' vs' p.1 with | some v => valSame s p.2 v | none => false
  | _, _ => false
def Slot.look (s : Store) : Slot → Option D
  | .unb => none
  | .val d => some (view s d)
  | .own c => some c.frz
/-- an operand's value where it is used -/
def vres (σ : Slots) (s : Store) : Opd → Option D
  | .slot i => (σ[i]?.getD .unb).look s
  | .val d => some (view s d)
def ress (σ : Slots) (s : Store) : List Opd → Option (List D)
  | [] => some []
  | o :: os => match vres σ s o, ress σ s os with
    | some d, some ds => some (d :: ds)
    | _, _ => none
def bound : Slot → Bool
  | .unb => false
  | _ => true
/-- reading a name for keeps: its container may be changed no more -/
def Slot.froze : Slot → Slot
  | .own c => .val c.frz
  | s => s
mutual
/-- nothing of the store in it -/
def noRef : D → Bool
  | .tup xs => noRefs xs
  | .lst xs => noRefs xs
  | .scr xs => noRefs xs
  | .dct ks vs => noRefs ks && noRefs vs
  | .tab ks vs => noRefs ks && noRefs vs
  | .ins _ _ vs => noRefs vs
  | .exc _ _ => false
  | .lam _ => false
  | .clo _ _ _ => false
  | .ref _ => false
  | .non => true
  | .bl _ => true
  | .int _ => true
  | .str _ => true
def noRefs : List D → Bool
  | [] => true
  | x :: xs => noRef x && noRefs xs
end
/-- what a lent expression sees: the names that it is lent, as values -/
def hideS (ks : List Nat) : Nat → Slots → Slots
  | _, [] => []
  | i, sl :: r => (if ks.contains i then sl.froze else .unb) :: hideS ks (i + 1) r
def Slot.noRef : Slot → Bool
  | .val d => HP.noRef d
  | _ => true
def flatV : D → Bool
  | .non => true
  | .bl _ => true
  | .int _ => true
  | .str _ => true
  | _ => false
/-- the list begins with a number -/
def headI : List D → Bool
  | .int _ :: _ => true
  | _ => false
mutual
/-- no list in it begins with a number -/
def noIL : D → Bool
  | .tup xs => noILs xs
  | .lst xs => !headI xs && noILs xs
  | .scr _ => false
  | .dct _ vs => noILs vs
  | .tab ks vs => noILs ks && noILs vs
  | .ins _ _ vs => noILs vs
  | _ => true
def noILs : List D → Bool
  | [] => true
  | x :: xs => noIL x && noILs xs
end
def Slot.noIL : Slot → Bool
  | .val d => HP.noIL d
  | _ => true
mutual
/-- no list and no dict is in it -/
def noBig : D → Bool
  | .non => true
  | .bl _ => true
  | .int _ => true
  | .str _ => true
  | .tup xs => noBigs xs
  | .ins _ _ vs => noBigs vs
  | _ => false
def noBigs : List D → Bool
  | [] => true
  | x :: xs => noBig x && noBigs xs
end
def Slot.noBig : Slot → Bool
  | .val d => HP.noBig d
  | .own _ => false
  | .unb => true
mutual
/-- what stays known where a frozen list or dict is cleared -/
def thin : D → Bool
  | .non => true
  | .bl _ => true
  | .int _ => true
  | .str _ => true
  | .ref _ => true
  | .tup xs => thins xs
  | .lst xs => (allInt xs).isSome
  | .scr xs => (allInt xs).isSome
  | _ => false
def thins : List D → Bool
  | [] => true
  | x :: xs => thin x && thins xs
end
def thinC : Cont → Bool
  | .lst xs => thins xs
  | .dct _ vs => thins vs
  | .ins _ _ vs => thins vs
  | .tab _ _ => false
def Slot.thin : Slot → Slot
  | .val d => if HP.thin d then .val d else .unb
  | _ => .unb
/-- what may be cleared -/
def clrD : D → Bool
  | .lst (.tup _ :: _) => true
  | .tab _ _ => true
  | _ => false
mutual
/-- numbers, bools, None, tuples of such -/
def tinyD : D → Bool
  | .non => true
  | .bl _ => true
  | .int _ => true
  | .tup xs => tinyDs xs
  | _ => false
def tinyDs : List D → Bool
  | [] => true
  | x :: xs => tinyD x && tinyDs xs
end
/-- what a lent expression may answer: flat data; a new list of numbers; a new dict of tuples of numbers -/
def lentK (τ : Slots) (o : Out) (k : Out → Prop) : Prop := match o with
  | .own (.tab ks vs) => (tinyDs ks && tinyDs vs) = true ∧ k (.own (.tab ks vs))
  | .val (.lst xs) => τ.all Slot.noIL = true ∧ (headI xs && (allInt xs).isSome) = true ∧ k (.own (.lst xs))
  | .val d => flatV d = true ∧ k (.val d)
  | .own _ => False
def wipeS (σ : Slots) : List Nat → Slots
  | [] => σ
  | v :: vs => (wipeS σ vs).set v .unb
def backS (σ0 σ : Slots) : List Nat → Slots
  | [] => σ
  | v :: vs => (backS σ0 σ vs).set v (Slot.keep σ0[v]?)
def setsS : Slots → List Nat → List Out → Slots
  | σ, i :: is, o :: os => setsS (σ.set i o.slot) is os
  | σ, _, _ => σ
def isIns (c : Str) : D → Bool
  | .ins c' _ _ => decide (c' = c)
  | _ => false
/-- the instance has no field of that name -/
def noField (m : Str) : D → Bool
  | .ins _ ns _ => !ns.contains m
  | _ => false
mutual
def wTg : Tg → D → Slots → Store → QN → Prop
  | .name i, d, σ, s, K => K (σ.set i (.val d)) s
  | .tup ts, d, σ, s, K => match d with
    | .tup xs => xs.length = ts.length ∧ wTgs ts xs σ s K
    | .lst xs => xs.length = ts.length ∧ wTgs ts xs σ s K
    | _ => False
def wTgs : List Tg → List D → Slots → Store → QN → Prop
  | [], xs, σ, s, K => xs = [] ∧ K σ s
  | t :: ts, xs, σ, s, K => match xs with
    | [] => False
    | x :: xs => wTg t x σ s fun σ s => wTgs ts xs σ s K
end
def wLoop {A : Type} (f : D → A → Slots → Store → (A → Slots → Store → Prop) → Prop) : List D → A → Slots → Store → (A → Slots → Store → Prop) → Prop
  | [], a, σ, s, K => K a σ s
  | x :: xs, a, σ, s, K => f x a σ s fun a σ s => wLoop f xs a σ s K
def enumD (k : Int) : List D → List D
  | [] => []
  | x :: xs => .tup [.int k, x] :: enumD (k + 1) xs
def zip3D : List D → List D → List D → List D
  | x :: xs, y :: ys, z :: zs => .tup [x, y, z] :: zip3D xs ys zs
  | _, _, _ => []
def pick (ds : List D) (perm : List Nat) : List D := perm.map fun i => ds.getD i .non
/-- a def whose arguments are given in another order -/
def pickFn (perm : List Nat) (g : Fn) : Fn := fun ds s Q Z => ds.length = perm.length ∧ g (pick ds perm) s Q Z
def pickFn1 (perm : List Nat) (g : Fn) : Fn := fun ds s Q Z => match ds with
  | x :: ds => ds.length = perm.length ∧ g (x :: pick ds perm) s Q Z
  | [] => False
/-- what comprehensions keep of an answer -/
def noX : QX := fun _ _ _ => False
/-- whose own == is asked beside an instance of an own class: an instance of one of them, or a value of a built-in type -/
def eqTy (all : List Str) : D → Bool
  | .ins c' _ _ => all.contains c'
  | .tab _ _ => false
  | d => (tyN d).isSome
/-- changing what a target names -/
def upCont (o : Opd) (σ : Slots) (s : Store) (f : Cont → Option (Cont × D)) (K : D → Slots → Store → Prop) : Prop := match o with
  | .slot i => match σ[i]? with
    | some (.own c) => optK (f c) fun p => K p.2 (σ.set i (.own p.1)) s
    | _ => False
  | .val (.ref n) => optK (s[n]?) fun c => optK (f c) fun p => K p.2 σ (s.set n p.1)
  | .val _ => False

/-- these names are read for keeps -/
def frzS (ks : List Nat) : Nat → Slots → Slots
  | _, [] => []
  | i, sl :: r => (if ks.contains i then sl.froze else sl) :: frzS ks (i + 1) r
abbrev SE := Slots → Store → QO → QX → Prop
abbrev ST := Slots → Store → QB → QX → Prop
/-- as an operand: a name is not read for keeps -/
def asOp (e : E) (r : SE) (σ : Slots) (s : Store) (K : Opd → Slots → Store → Prop) (X : QX) : Prop := match e with
  | .var i => match σ[i]? with
    | some (.val d) => K (.val d) σ s
    | some (.own _) => K (.slot i) σ s
    | _ => False
  | _ => r σ s (fun o σ s => K (.val o.frz) σ s) X
/-- as a test: by its truth -/
def asT (e : E) (r : SE) : ST := fun σ s K X => asOp e r σ s (fun x σ s => optK (vres σ s x) fun x => optK (truth x) fun c => K c σ s) X
structure W where
  v : SE
  t : ST
def dft (e : E) (r : SE) : W := ⟨r, asT e r⟩
/-- a truth value -/
def ofT (t : ST) : W := ⟨fun σ s K X => t σ s (fun r σ s => K (.val (.bl r)) σ s) X, t⟩
abbrev Acc := List D × List D
abbrev WCs := List Nat → Slots → Store → Acc → (Acc → Slots → Store → (Acc → Slots → Store → Prop) → Prop) → (Acc → Slots → Store → Prop) → QX → Prop
/-- the answers of a list of expressions in the three ways that they are asked -/
structure Ws where
  vals : Slots → Store → (List D → Slots → Store → Prop) → QX → Prop
  opds : Slots → Store → (List Opd → Slots → Store → Prop) → QX → Prop
  outs : Slots → Store → (List Out → Slots → Store → Prop) → QX → Prop
  ifs : Slots → Store → QB → Prop

mutual
def w : E → W
  | .lit d => dft (.lit d) fun σ s K _ => K (.val d) σ s
  | .var i => dft (.var i) fun σ s K _ => match σ[i]? with
    | some (.val d) => K (.val d) σ s
    | some (.own c) => K (.val c.frz) (σ.set i (.val c.frz)) s
    | _ => False
  | .bin o a b => dft (.bin o a b) fun σ s K X => asOp a (w a).v σ s (fun x σ s => asOp b (w b).v σ s (fun y σ s => optK (vres σ s x) fun x => optK (vres σ s y) fun y => optK (binSem o x y) fun r => K r σ s) X) X
  | .neg a => dft (.neg a) fun σ s K X => asOp a (w a).v σ s (fun x σ s => optK (vres σ s x) fun x => match x with | .int i => K (.val (.int (-i))) σ s | _ => False) X
  | .cmp o a b => ofT fun σ s K X => asOp a (w a).v σ s (fun x σ s => asOp b (w b).v σ s (fun y σ s => optK (vres σ s x) fun x => optK (vres σ s y) fun y => optK (cmpSem o x y) fun r => K r σ s) X) X
  | .chain o p a b c => ofT fun σ s K X => asOp a (w a).v σ s (fun x σ s => asOp b (w b).v σ s (fun y σ s => optK (vres σ s x) fun xd => optK (vres σ s y) fun yd => optK (cmpSem o xd yd) fun r =>
      if r then asOp c (w c).v σ s (fun z σ s => optK (vres σ s y) fun yd => optK (vres σ s z) fun zd => optK (cmpSem p yd zd) fun r => K r σ s) X else K false σ s) X) X
  | .not_ a => ⟨fun σ s K X => (w a).v σ s (fun o σ s => match o with | .val (.bl b) => K (.val (.bl !b)) σ s | _ => False) X, fun σ s K X => (w a).t σ s (fun b σ s => K (!b) σ s) X⟩
  | .and_ a b => ⟨fun σ s K X => (w a).v σ s (fun x σ s => match x with | .val (.bl c) => if c then (w b).v σ s K X else K (.val (.bl false)) σ s | _ => False) X,
      fun σ s K X => (w a).t σ s (fun c σ s => if c then (w b).t σ s K X else K false σ s) X⟩
  | .or_ a b => ⟨fun σ s K X => (w a).v σ s (fun x σ s => match x with | .val (.bl c) => if c then K (.val (.bl true)) σ s else (w b).v σ s K X | _ => False) X,
      fun σ s K X => (w a).t σ s (fun c σ s => if c then K true σ s else (w b).t σ s K X) X⟩
  | .ife c a b => ⟨fun σ s K X => (w c).t σ s (fun r σ s => if r then (w a).v σ s K X else (w b).v σ s K X) X,
      fun σ s K X => (w c).t σ s (fun r σ s => if r then (w a).t σ s K X else (w b).t σ s K X) X⟩
  | .tup es => dft (.tup es) fun σ s K X => (ws es).vals σ s (fun ds σ s => if ds.length ≤ big then K (.val (.tup ds)) σ s else False) X
  | .lst es => dft (.lst es) fun σ s K X => (ws es).vals σ s (fun ds σ s => if ds.length ≤ big then K (.own (.lst ds)) σ s else False) X
  | .dct es => dft (.dct es) fun σ s K X => wPs es σ s (fun ps σ s => if ps.length ≤ 15 then optK (mergeD [] [] ps) fun p => K (.own (.dct p.1 p.2)) σ s else False) X
  | .ix a b => dft (.ix a b) fun σ s K X => asOp a (w a).v σ s (fun x σ s => asOp b (w b).v σ s (fun y σ s => optK (vres σ s x) fun x => optK (vres σ s y) fun y => optK (ixSem x y) fun r => K (.val r) σ s) X) X
  | .sl a lo hi => dft (.sl a lo hi) fun σ s K X => asOp a (w a).v σ s (fun x σ s => wO lo σ s (fun l σ s => wO hi σ s (fun h σ s => optK (vres σ s x) fun x => optK (slSem x l h) fun r => K r σ s) X) X) X
  | .rev a => dft (.rev a) fun σ s K X => asOp a (w a).v σ s (fun x σ s => optK (vres σ s x) fun x => match x with | .lst xs => K (.own (.lst xs.reverse)) σ s | .tup xs => K (.val (.tup xs.reverse)) σ s | _ => False) X
  | .fld c a n => dft (.fld c a n) fun σ s K X => asOp a (w a).v σ s (fun x σ s => optK (vres σ s x) fun x => match x with | .ins c' ns vs => if c' = c then optK (lookF ns vs n) fun r => K (.val r) σ s else False | _ => False) X
  | .prop c g a => dft (.prop c g a) fun σ s K X => (w a).v σ s (fun x σ s => isIns c (view s x.frz) = true ∧ g [x.frz] s (fun o s => K o σ s) fun _ _ => False) X
  | .call g es => dft (.call g es) fun σ s K X => (ws es).vals σ s (fun ds σ s => g ds s (fun o s => K o σ s) fun e s => X e σ s) X
  | .callp g perm es => dft (.callp g perm es) fun σ s K X => (ws es).vals σ s (fun ds σ s => if ds.length = perm.length then g (pick ds perm) s (fun o s => K o σ s) fun e s => X e σ s else False) X
  | .meth c m g o es => dft (.meth c m g o es) fun σ s K X => (w o).v σ s (fun x σ s => isIns c (view s x.frz) = true ∧ noField m (view s x.frz) = true ∧ (ws es).vals σ s (fun ds σ s => g (x.frz :: ds) s (fun o s => K o σ s) fun e s => X e σ s) X) X
  | .mk c g es => dft (.mk c g es) fun σ s K X => (ws es).vals σ s (fun ds σ s => g ds s (fun o s => K o σ s) fun e s => X e σ s) X
  | .alloc e => dft (.alloc e) fun σ s K X => (w e).v σ s (fun o σ s => match o with | .own c => K (.val (.ref s.length)) σ (s ++ [c]) | .val _ => False) X
  | .bi b es => dft (.bi b es) fun σ s K X => (ws es).opds σ s (fun xs σ s => optK (ress σ s xs) fun xs => optK (biSem b xs) fun r => K r σ s) X
  | .isi all cs a => ofT fun σ s K X => asOp a (w a).v σ s (fun x σ s => optK (vres σ s x) fun x => optK (isiSem all cs x) fun r => K r σ s) X
  | .rng t es => dft (.rng t es) fun σ s K X => (ws es).opds σ s (fun xs σ s => optK (ress σ s xs) fun xs => optK (rngSem xs) fun p => if rngOk p.1 p.2 then K (if t then .val (.tup (rngD p.1 p.2)) else .own (.lst (rngD p.1 p.2))) σ s else False) X
  | .bm m o es => dft (.bm m o es) fun σ s K X => asOp o (w o).v σ s (fun x σ s => optK (vres σ s x) fun x0 => Bm.ok m x0 = true ∧ (ws es).opds σ s (fun xs σ s => optK (vres σ s x) fun x => optK (ress σ s xs) fun xs => optK (bmSem m x xs) fun r => K r σ s) X) X
  | .mm m o es => dft (.mm m o es) fun σ s K X => asOp o (w o).v σ s (fun x σ s => optK (vres σ s x) fun x0 => isLst x0 = true ∧ (ws es).vals σ s (fun ds σ s => upCont x σ s (fun c => mmSem m c ds) fun d σ s => K (.val d) σ s) X) X
  | .lc vs e c => dft (.lc vs e c) fun σ s K X => wCs c vs σ s ([], []) (fun acc σ s k => (w e).v σ s (fun o σ s => if acc.1.length < big then k (acc.1 ++ [o.frz], []) σ s else False) noX) (fun acc σ' s => K (.own (.lst acc.1)) (backS σ σ' vs) s) X
  | .dc vs ek ev c => dft (.dc vs ek ev c) fun σ s K X => wCs c vs σ s ([], []) (fun acc σ s k => (w ek).v σ s (fun x σ s => (w ev).v σ s (fun y σ s =>
      if tkey x.frz && decide (acc.1.length < 1000000) then k (putT acc.1 acc.2 x.frz y.frz) σ s else False) noX) noX) (fun acc σ' s => K (.own (.tab acc.1 acc.2)) (backS σ σ' vs) s) X
  | .eqo all n c g a b => ofT fun σ s K X => (w a).v σ s (fun x σ s => (w b).v σ s (fun y σ s => isIns c (view s x.frz) = true ∧ eqTy all (view s y.frz) = true ∧ g [x.frz, y.frz] s (fun o s => match o with | .val (.bl r) => K (if n then !r else r) σ s | _ => False) fun _ _ => False) X) X
  | .tabd es => dft (.tabd es) fun σ s K X => wPs es σ s (fun ps σ s => if ps.length ≤ 15 then optK (mergeT [] [] ps) fun p => K (.own (.tab p.1 p.2)) σ s else False) X
  | .tget o es => dft (.tget o es) fun σ s K X => asOp o (w o).v σ s (fun x σ s => optK (vres σ s x) fun x0 => isTab x0 = true ∧ (ws es).vals σ s (fun ds σ s => optK (vres σ s x) fun x => optK (tgetSem x ds) fun r => K (.val r) σ s) X) X
  | .borrow ks e => dft (.borrow ks e) fun σ s K _ => (hideS ks 0 σ).all Slot.noRef = true ∧ (w e).v (hideS ks 0 σ) [] (fun o _ _ => lentK (hideS ks 0 σ) o fun o => K o σ s) noX
  | .isx all t a => ofT fun σ s K X => asOp a (w a).v σ s (fun x σ s => optK (vres σ s x) fun x => optK (isxSem all t x) fun r => K r σ s) X
  | .xfld all a n => dft (.xfld all a n) fun σ s K X => asOp a (w a).v σ s (fun x σ s => optK (vres σ s x) fun x => optK (xfldSem all n x) fun r => K (.val r) σ s) X
  | .callT g ks e => dft (.callT g ks e) fun σ s K X => ∀ a, g a (fun _ s Q Z => (w e).v (hideS ks 0 (frzS ks 0 σ)) s (fun o _ s => Q o s) (fun x _ s => Z x s)) [.lam a] s (fun o s => K o (frzS ks 0 σ) s) (fun x s => X x (frzS ks 0 σ) s)
  | .lamE L j y => dft (.lamE L j y) fun σ s K _ => K (.val (.clo L j y)) σ s
  | .app g L ys ks es a => dft (.app g L ys ks es a) fun σ s K X => asOp a (w a).v σ s (fun x σ s => optK (vres σ s x) fun x => match x with
      | .clo L' j y => L' = L ∧ ys[j]? = some y ∧ ∀ a, g a (fun _ s Q Z => wN es j (hideS ks 0 (frzS ks 0 σ)) s (fun o _ s => Q o s) (fun x _ s => Z x s)) [.lam a] s (fun o s => K o (frzS ks 0 σ) s) (fun x s => X x (frzS ks 0 σ) s)
      | _ => False) X
  | .dyn ks es f => dft (.dyn ks es f) fun σ s K X => (w (f fun j => fun _ s Q Z => wN es j (hideS ks 0 (frzS ks 0 σ)) s (fun o _ s => Q o s) (fun x _ s => Z x s))).v (frzS ks 0 σ) s K X
  | .appQ g L ys q a => dft (.appQ g L ys q a) fun σ s K X => asOp a (w a).v σ s (fun x σ s => optK (vres σ s x) fun x => match x with
      | .clo L' j y => L' = L ∧ ys[j]? = some y ∧ ∀ a, g a (q j) [.lam a] s (fun o s => K o σ s) (fun x s => X x σ s)
      | _ => False) X
  | .act a f i => dft (.act a f i) fun σ s K X => σ[i]? = some (.val (.lam a)) ∧ f [] s (fun o s => K o σ s) (fun x s => X x σ s)
  | .callA g a f i => dft (.callA g a f i) fun σ s K X => σ[i]? = some (.val (.lam a)) ∧ g a f [.lam a] s (fun o s => K o σ s) (fun x s => X x σ s)
  | .lcr a vs e t ifs => dft (.lcr a vs e t ifs) fun σ s K X => asOp a (w a).v σ s (fun x σ s => match x with
    | .val d => optK (walkOf (view s d)) fun xs => wLoop (fun x a σ s k => walkOf (view s d) = some xs ∧ wTg t x (wipeS σ vs) s fun σ s => (ws ifs).ifs σ s fun c σ s =>
        if c then (w e).v σ s (fun o σ s => if a.1.length < big then k (a.1 ++ [o.frz], []) σ s else False) noX else k a σ s) xs (([], []) : Acc) σ s (fun acc σ' s => walkOf (view s d) = some xs ∧ K (.own (.lst acc.1)) (backS σ σ' vs) s)
    | .slot _ => False) X
  | .eqd n a b => ofT fun σ s K X => (w a).v σ s (fun x σ s => (w b).v σ s (fun y σ s => dctSame s x.frz y.frz = true ∧ K (!n) σ s) X) X
/-- the j-th of some expressions -/
def wN : Es → Nat → SE
  | .cons e _, 0 => (w e).v
  | .cons _ r, j + 1 => wN r j
  | _, _ => fun _ _ _ _ => False
def ws : Es → Ws
  | .nil => ⟨fun σ s K _ => K [] σ s, fun σ s K _ => K [] σ s, fun σ s K _ => K [] σ s, fun σ s K => K true σ s⟩
  | .cons e es => ⟨fun σ s K X => (w e).v σ s (fun o σ s => (ws es).vals σ s (fun ds σ s => K (o.frz :: ds) σ s) X) X,
      fun σ s K X => asOp e (w e).v σ s (fun o σ s => (ws es).opds σ s (fun ds σ s => K (o :: ds) σ s) X) X,
      fun σ s K X => (w e).v σ s (fun o σ s => (ws es).outs σ s (fun ds σ s => K (o :: ds) σ s) X) X,
      fun σ s K => (w e).t σ s (fun c σ s => if c then (ws es).ifs σ s K else K false σ s) noX⟩
  | .star e es => ⟨fun σ s K X => (w e).v σ s (fun o σ s => optK (seqOf (view s o.frz)) fun xs => (ws es).vals σ s (fun ds σ s => K (xs ++ ds) σ s) X) X,
      fun _ _ _ _ => False, fun _ _ _ _ => False, fun _ _ _ => False⟩
/-- keys and values of a display, in turns -/
def wPs : Es → Slots → Store → (List (D × D) → Slots → Store → Prop) → QX → Prop
  | .nil, σ, s, K, _ => K [] σ s
  | .cons k (.cons v r), σ, s, K, X => (w k).v σ s (fun x σ s => (w v).v σ s (fun y σ s => wPs r σ s (fun ps σ s => K ((x.frz, y.frz) :: ps) σ s) X) X) X
  | _, _, _, _, _ => False
/-- a part of a slice -/
def wO : Es → Slots → Store → (Option Int → Slots → Store → Prop) → QX → Prop
  | .nil, σ, s, K, _ => K none σ s
  | .cons e _, σ, s, K, X => asOp e (w e).v σ s (fun x σ s => optK (vres σ s x) fun x => match x with | .int i => K (some i) σ s | _ => False) X
  | .star _ _, _, _, _, _ => False
/-- the items that a for walks -/
def wIt : It → Slots → Store → (List D → Slots → Store → Prop) → QX → Prop
  | .seq e, σ, s, K, X => (w e).v σ s (fun o σ s => optK (walkOf o.frz) fun xs => K xs σ s) X
  | .rng1 a, σ, s, K, X => asOp a (w a).v σ s (fun x σ s => optK (vres σ s x) fun x => match x with | .int n => if rngOk 0 n then K (upTo 0 n.toNat) σ s else False | _ => False) X
  | .rng2 a b, σ, s, K, X => asOp a (w a).v σ s (fun x σ s => asOp b (w b).v σ s (fun y σ s => optK (vres σ s x) fun x => optK (vres σ s y) fun y => match x, y with
      | .int m, .int n => if rngOk m n then K (upTo m (n - m).toNat) σ s else False
      | _, _ => False) X) X
  | .enum e k, σ, s, K, X => (w e).v σ s (fun o σ s => optK (seqOf o.frz) fun xs => (ws k).opds σ s (fun ks σ s => optK (ress σ s ks) fun ks => match ks with
      | [] => K (enumD 0 xs) σ s
      | [.int i] => if rngOk i i && isLst o.frz then K (enumD i xs) σ s else False
      | _ => False) X) X
  | .zip es, σ, s, K, X => (ws es).vals σ s (fun ds σ s => match ds with
      | [.lst xs, .lst ys] => K (zipD xs ys) σ s
      | [.tup xs, .tup ys] => K (zipD xs ys) σ s
      | _ => False) X
  | .items e, σ, s, K, X => (w e).v σ s (fun o σ s => match o.frz with | .dct ks vs => K (zipD ks vs) σ s | _ => False) X
  | .vals e, σ, s, K, X => (w e).v σ s (fun o σ s => match o.frz with | .dct _ vs => K vs σ s | _ => False) X
  | .tabk e, σ, s, K, X => (w e).v σ s (fun o σ s => match o.frz with | .tab ks _ => K ks σ s | _ => False) X
/-- the clauses of a comprehension; a is what is made so far -/
def wCs : Cs → WCs
  | .one t it ifs => fun vs σ s a f K X => wIt it σ s (fun items σ s => wLoop (fun x a σ s k => wTg t x (wipeS σ vs) s fun σ s => (ws ifs).ifs σ s fun c σ s => if c then f a σ s k else k a σ s) items a σ s K) X
  | .more t it ifs us c => fun vs σ s a f K X => wIt it σ s (fun items σ s => wLoop (fun x a σ s k => wTg t x (wipeS σ vs) s fun σ s => (ws ifs).ifs σ s fun b σ s => if b then wCs c us σ s a f k noX else k a σ s) items a σ s K) X
end
abbrev wE (e : E) : SE := (w e).v
abbrev wT (e : E) : ST := (w e).t
abbrev wA (e : E) := asOp e (w e).v

/-- what is wanted behind a statement -/
structure Post where
  nx : QN
  rt : Out → Store → Prop
  bk : QN
  ct : QN
  ex : QX
/-- as many turns as a while may take -/
def turns : Nat := 1000000000
def wWhile (c : Slots → Store → QB → Prop) (b : Slots → Store → QN → QN → Prop) : Nat → Slots → Store → QN → Prop
  | 0, _, _, _ => False
  | n + 1, σ, s, K => c σ s fun r σ s => if r then b σ s (fun σ s => wWhile c b n σ s K) K else K σ s
mutual
def wS : S → Slots → Store → Post → Prop
  | .asg (.name i) e, σ, s, P => wE e σ s (fun o σ s => P.nx (σ.set i o.slot) s) P.ex
  | .asg (.tup ts) e, σ, s, P => wE e σ s (fun o σ s => wTg (.tup ts) o.frz σ s P.nx) P.ex
  | .par is es, σ, s, P => (ws es).outs σ s (fun os σ s => os.length = is.length ∧ P.nx (setsS σ is os) s) P.ex
  | .aug i o e, σ, s, P => match σ[i]? with
    | some (.val (.int x)) => wA e σ s (fun y σ s => optK (vres σ s y) fun y => optK (binSem o (.int x) y) fun r => match r with | .val (.int z) => P.nx (σ.set i (.val (.int z))) s | _ => False) P.ex
    | _ => False
  | .setix o k v, σ, s, P => wE v σ s (fun y σ s => wA o σ s (fun x σ s => wE k σ s (fun i σ s => upCont x σ s (fun c => (setSem c i.frz y.frz).map fun c => (c, .non)) fun _ σ s => P.nx σ s) P.ex) P.ex) P.ex
  | .setix2 o k o2 k2 v, σ, s, P => wE v σ s (fun y σ s => match y.frz with
      | .tup [y1, y2] => wA o σ s (fun x σ s => wE k σ s (fun i σ s => upCont x σ s (fun c => (setSem c i.frz y1).map fun c => (c, .non)) fun _ σ s =>
          wA o2 σ s (fun x σ s => wE k2 σ s (fun i σ s => upCont x σ s (fun c => (setSem c i.frz y2).map fun c => (c, .non)) fun _ σ s => P.nx σ s) P.ex) P.ex) P.ex) P.ex
      | _ => False) P.ex
  | .setfld cn o n v, σ, s, P => wE v σ s (fun y σ s => wA o σ s (fun x σ s => upCont x σ s (fun c => match c with
      | .ins c ns vs => if c = cn && decide (ns.length < 100) then some (.ins c (putF ns vs n y.frz).1 (putF ns vs n y.frz).2, .non) else none
      | _ => none) fun _ σ s => P.nx σ s) P.ex) P.ex
  | .augfld o n b v, σ, s, P => wA o σ s (fun x σ s => wA v σ s (fun y σ s => optK (vres σ s y) fun y => upCont x σ s (fun c => match c with
      | .ins c ns vs => match lookF ns vs n with
        | some (.int i) => match binSem b (.int i) y with
          | some (.val (.int z)) => some (.ins c (putF ns vs n (.int z)).1 (putF ns vs n (.int z)).2, .non)
          | _ => none
        | _ => none
      | _ => none) fun _ σ s => P.nx σ s) P.ex) P.ex
  | .ex e, σ, s, P => wE e σ s (fun _ σ s => P.nx σ s) P.ex
  | .ret (.var i), σ, s, P => match σ[i]? with
    | some (.val d) => P.rt (.val d) s
    | some (.own c) => P.rt (.own c) s
    | _ => False
  | .ret e, σ, s, P => wE e σ s (fun o _ s => P.rt o s) P.ex
  | .retn, _, s, P => P.rt (.val .non) s
  | .ife c a b, σ, s, P => wT c σ s (fun r σ s => if r then wSs a σ s P else wSs b σ s P) P.ex
  | .for_ t it b, σ, s, P => wIt it σ s (fun items σ s => wLoop (fun x (_ : Unit) σ s k => wTg t x σ s fun σ s => wSs b σ s { P with nx := fun σ s => k () σ s, ct := fun σ s => k () σ s, bk := P.nx }) items () σ s fun _ σ s => P.nx σ s) P.ex
  | .while_ c b, σ, s, P => wWhile (fun σ s K => wT c σ s K P.ex) (fun σ s k d => wSs b σ s { P with nx := k, ct := k, bk := d }) turns σ s P.nx
  | .pass, σ, s, P => P.nx σ s
  | .brk, σ, s, P => P.bk σ s
  | .cont, σ, s, P => P.ct σ s
  | .raise c f e, σ, s, P => wE e σ s (fun o σ s => P.ex ⟨c, if f then some o.frz else none⟩ σ s) P.ex
  | .try_ all b c h, σ, s, P => wSs b σ s { P with ex := fun e σ s => all.contains e.c = true ∧ if isSub e.c c then wSs h σ s { P with ex := noX } else P.ex e σ s }
  | .tryk all b c n m, σ, s, P => wSs b σ s { P with ex := fun e σ s => all.contains e.c = true ∧ if isSub e.c c then P.nx ((σ.set n .unb).set m (.val (.exc e.c e.arg.toList))) s else P.ex e σ s }
  | .tryn all b c n h, σ, s, P => wSs b σ s { P with ex := fun e σ s => all.contains e.c = true ∧ if isSub e.c c then wSs h (σ.set n (.val (.exc e.c e.arg.toList))) s { nx := fun σ s => P.nx (σ.set n .unb) s, bk := fun σ s => P.bk (σ.set n .unb) s, ct := fun σ s => P.ct (σ.set n .unb) s, rt := P.rt, ex := noX } else P.ex e σ s }
  | .forz es t b, σ, s, P => (ws es).vals σ s (fun ds σ s => match ds with
      | [d1, d2] => match view s d1, view s d2 with
        | .lst xs, .lst ys => wLoop (fun x (_ : Unit) σ s k => (view s d1 = .lst xs ∧ view s d2 = .lst ys) ∧ wTg t x σ s fun σ s => wSs b σ s { P with nx := fun σ s => k () σ s, ct := fun σ s => k () σ s, bk := P.nx }) (zipD xs ys) () σ s fun _ σ s => (view s d1 = .lst xs ∧ view s d2 = .lst ys) ∧ P.nx σ s
        | _, _ => False
      | _ => False) P.ex
  | .parix n o k v, σ, s, P => wE v σ s (fun y σ s => match y.frz with
      | .tup [y1, y2] => wTg (.name n) y1 σ s fun σ s => wA o σ s (fun x σ s => wE k σ s (fun i σ s => upCont x σ s (fun c => (setSem c i.frz y2).map fun c => (c, .non)) fun _ σ s => P.nx σ s) P.ex) P.ex
      | _ => False) P.ex
  | .scope ks n e b k, σ, s, P => ((hideS ks 0 (frzS ks 0 σ)).all Slot.noBig = true ∧ σ[n]? ≠ none) ∧ (w e).v (hideS ks 0 (frzS ks 0 σ)) [] (fun o _ _ => match o with
      | .val (.tup ds) => noRefs ds = true ∧ optK (ds[k]?) fun d => clrD d = true ∧ wSs b ((frzS ks 0 σ).set n (.val (.tup ds))) s { P with nx := fun σ s => s.all thinC = true ∧ P.nx (σ.map Slot.thin) s }
      | _ => False) noX
def wSs : Ss → Slots → Store → Post → Prop
  | .nil, σ, s, P => P.nx σ s
  | .cons st r, σ, s, P => wS st σ s { P with nx := fun σ s => wSs r σ s P }
end
/-- a def of n parameters, m names in all -/
def mkFn (n m : Nat) (b : Ss) : Fn := fun ds s Q X => ds.length = n ∧
  wSs b (ds.map .val ++ List.replicate (m - n) .unb) s ⟨fun _ s => Q (.val .non) s, Q, fun _ _ => False, fun _ _ => False, fun e _ s => X e s⟩
/-- a class's maker by its __init__: the new instance in slot 0 -/
def mkIn (c : Str) (n m : Nat) (b : Ss) : Fn := fun ds s Q X => ds.length = n ∧
  wSs b (.own (.ins c [] []) :: ds.map .val ++ List.replicate (m - n - 1) .unb) s
    ⟨fun (σ : Slots) s => match σ[0]? with | some (Slot.own k) => Q (.own k) s | _ => False, fun _ _ => False, fun _ _ => False, fun _ _ => False, fun e _ s => X e s⟩
end HP

set_option maxHeartbeats 2000000
/-! HpRel: how the values and containers of the small language stand in the abstract heap. -/
namespace HP
open PySem L2

def keyD : Key → D
  | .inl i => .int i
  | .inr x => .str x

/-- a tuple whose object is known to have no dict of its own: made by a step that was walked, or the module's -/
def SqX (K : PySem.W.Frag) (F : Hp) (a : Addr) (vs : List V) : Prop :=
  (∃ o : Obj, F a = some (.frz o (.tup vs)) ∧ o.dict = none) ∨
  ∃ (o : Obj) (its : Array Value) (n : Nat), K.lookup a = some o ∧ o.cls = .type "tuple" ∧ o.data = .seq its n ∧ its.size ≤ sizeLine ∧ Vals vs its.toList ∧ o.dict = none
theorem SqX.sqT {K : PySem.W.Frag} {F : Hp} {a : Addr} {vs : List V} (h : SqX K F a vs) : SqT K F a vs := by
  rcases h with ⟨o, h, _⟩ | ⟨o, its, n, h1, h2, h3, h4, h5, _⟩
  · exact .inl (.inr ⟨o, h⟩)
  · exact .inr ⟨o, its, n, h1, h2, h3, h4, h5⟩
theorem sqX_mono {K : PySem.W.Frag} {F F' : Hp} {a : Addr} {vs : List V} (s : Same F F') (h : SqX K F a vs) : SqX K F' a vs := by
  rcases h with ⟨o, h, e⟩ | h
  · exact .inl ⟨o, s _ _ h, e⟩
  · exact .inr h
/-- o is the lambda y, made where the cells are L -/
def CloO (F : Hp) (L : List (Str × Addr)) (y : LamSyn) (o : Obj) : Prop := ∃ (pm ctv : Value) (c : Addr),
  o = PySem.W.kla_obj "<lambda>" y.q y.params y.body y.scope (cloFrom L y.scope.names []) pm c ctv ∧ F c = some (LamX.CodeO c y.q)
theorem CloO.mono {F F' : Hp} {L : List (Str × Addr)} {y : LamSyn} {o : Obj} (h : CloO F L y o) (s : Same F F') : CloO F' L y o := by
  obtain ⟨pm, ctv, c, h1, h2⟩ := h
  exact ⟨pm, ctv, c, h1, s _ _ h2⟩
mutual
/-- the value d stands as v; F: what nobody changes; M: where the store's things stand -/
inductive RV (K : PySem.W.Frag) (F : Hp) (M : List Addr) : D → V → Prop
  | non : RV K F M .non .non
  | bl (b : Bool) : RV K F M (.bl b) (.bl b)
  | int (i : Int) : RV K F M (.int i) (.int i)
  | str (x : Str) : RV K F M (.str x) (.str x)
  | tup {a : Addr} {ds : List D} {vs : List V} : SqX K F a vs → RVs K F M ds vs → RV K F M (.tup ds) (.ref a)
  | lst {a : Addr} {ds : List D} {vs : List V} : F a = some (.lst vs) → RVs K F M ds vs → RV K F M (.lst ds) (.ref a)
  | scr {a : Addr} {ds : List D} {vs : List V} : SqL K F a vs → RVs K F M ds vs → RV K F M (.scr ds) (.ref a)
  | dct {a : Addr} {ks vs : List D} {kvs : List (Key × V)} : F a = some (.dK kvs) → ks = kvs.map (fun p => keyD p.1) → (kvs.map (·.1)).Nodup → RVs K F M vs (kvs.map (·.2)) → RV K F M (.dct ks vs) (.ref a)
  | ins {a dx : Addr} {c : Str} {ns : List Str} {vs : List D} {fs : List (Str × V)} : F a = some (.ins (He.ga K c) dx fs) → ns = fs.map (·.1) → RVs K F M vs (fs.map (·.2)) → RV K F M (.ins c ns vs) (.ref a)
  | ref {n : Nat} {a : Addr} : M[n]? = some a → RV K F M (.ref n) (.ref a)
  | tab {a : Addr} {ks vs : List D} {xs : List Ent} {o : Obj} : F a = some (tabO a xs o) → nks ks = some (xs.map (·.1)) → ks.all tkey = true → RVs K F M ks (xs.map fun x => .ref x.2.1) → (xs.map (·.1)).Nodup → RVs K F M vs (xs.map (·.2.2)) → RV K F M (.tab ks vs) (.ref a)
  | lam {a : Addr} : RV K F M (.lam a) (.ref a)
  | exc {a : Addr} {c : Str} {o : Obj} {u : HO} : F a = some (.frz o u) → o.cls = .ref (He.ga K c) → (∃ fv, o.data = .fields fv) → excFld c = none → o.dict = none → RV K F M (.exc c []) (.ref a)
  | excf {a dd : Addr} {c f : Str} {o : Obj} {u : HO} {v : V} {d : D} : F a = some (.frz o u) → o.cls = .ref (He.ga K c) → (∃ fv, o.data = .fields fv) → excFld c = some f → o.dict = some dd → F dd = some (.xd [(f, v)]) → RV K F M d v → RV K F M (.exc c [d]) (.ref a)
  | excm {a t : Addr} {c : Str} {o : Obj} {u : HO} {v : V} {d : D} : F a = some (.frz o u) → o.cls = .ref (He.ga K c) → (∃ fv, o.data = .fields fv ∧ fv[0]? = some (.ref t)) → excFld c = none → o.dict = none → F t = some (.tup [v]) → RV K F M d v → RV K F M (.exc c [d]) (.ref a)
  | clo {a : Addr} {L : List (Str × Addr)} {j : Nat} {y : LamSyn} {o : Obj} {u : HO} : F a = some (.frz o u) → CloO F L y o → RV K F M (.clo L j y) (.ref a)
inductive RVs (K : PySem.W.Frag) (F : Hp) (M : List Addr) : List D → List V → Prop
  | nil : RVs K F M [] []
  | cons {d : D} {ds : List D} {v : V} {vs : List V} : RV K F M d v → RVs K F M ds vs → RVs K F M (d :: ds) (v :: vs)
end

def Ext (M M' : List Addr) : Prop := ∃ L, M' = M ++ L
theorem Ext.refl (M : List Addr) : Ext M M := ⟨[], by simp⟩
theorem Ext.trans {M M1 M2 : List Addr} (a : Ext M M1) (b : Ext M1 M2) : Ext M M2 := by
  obtain ⟨l, rfl⟩ := a
  obtain ⟨m, rfl⟩ := b
  exact ⟨l ++ m, by simp⟩
theorem Ext.at {M M' : List Addr} (e : Ext M M') {n : Nat} {a : Addr} (h : M[n]? = some a) : M'[n]? = some a := by
  obtain ⟨l, rfl⟩ := e
  rw [List.getElem?_append_left (List.getElem?_eq_some_iff.mp h).1]
  exact h

section
variable {K : PySem.W.Frag} {F F' : Hp} {M M' : List Addr}
theorem sqT_mono {a : Addr} {vs : List V} (s : Same F F') (h : SqT K F a vs) : SqT K F' a vs := by
  rcases h with (h | ⟨o, h⟩) | h
  · exact .inl (.inl (s _ _ h))
  · exact .inl (.inr ⟨o, s _ _ h⟩)
  · exact .inr h
mutual
theorem RV.mon (s : Same F F') (e : Ext M M') : ∀ {d : D} {v : V}, RV K F M d v → RV K F' M' d v
  | _, _, .non => .non
  | _, _, .bl b => .bl b
  | _, _, .int i => .int i
  | _, _, .str x => .str x
  | _, _, .tup h r => .tup (sqX_mono s h) (RVs.mon s e r)
  | _, _, .lst h r => .lst (s _ _ h) (RVs.mon s e r)
  | _, _, .scr h r => .scr (s.seq h) (RVs.mon s e r)
  | _, _, .dct h h1 h2 r => .dct (s _ _ h) h1 h2 (RVs.mon s e r)
  | _, _, .ins h h1 r => .ins (s _ _ h) h1 (RVs.mon s e r)
  | _, _, .ref h => .ref (e.at h)
  | _, _, .tab h h1 h2 h3 h4 r => .tab (s _ _ h) h1 h2 (RVs.mon s e h3) h4 (RVs.mon s e r)
  | _, _, .lam => .lam
  | _, _, .exc h h1 h2 h3 h4 => .exc (s _ _ h) h1 h2 h3 h4
  | _, _, .excf h h1 h2 h3 h4 h5 r => .excf (s _ _ h) h1 h2 h3 h4 (s _ _ h5) (RV.mon s e r)
  | _, _, .excm h h1 h2 h3 h4 h5 r => .excm (s _ _ h) h1 h2 h3 h4 (s _ _ h5) (RV.mon s e r)
  | _, _, .clo h h1 => .clo (s _ _ h) (h1.mono s)
theorem RVs.mon (s : Same F F') (e : Ext M M') : ∀ {ds : List D} {vs : List V}, RVs K F M ds vs → RVs K F' M' ds vs
  | _, _, .nil => .nil
  | _, _, .cons a b => .cons (RV.mon s e a) (RVs.mon s e b)
end
theorem RV.mono {d : D} {v : V} (h : RV K F M d v) (s : Same F F') (e : Ext M M') : RV K F' M' d v := RV.mon s e h
theorem RVs.mono {d : List D} {v : List V} (h : RVs K F M d v) (s : Same F F') (e : Ext M M') : RVs K F' M' d v := RVs.mon s e h
theorem RVs.length : ∀ {ds : List D} {vs : List V}, RVs K F M ds vs → ds.length = vs.length
  | _, _, .nil => rfl
  | _, _, .cons _ b => by rw [List.length_cons, List.length_cons, b.length]
theorem RVs.get : ∀ {ds : List D} {vs : List V} {i : Nat} {d : D}, RVs K F M ds vs → ds[i]? = some d → ∃ v, vs[i]? = some v ∧ RV K F M d v
  | _, _, _, _, .nil, h => by simp at h
  | _, _, 0, _, .cons a _, h => by
    simp at h
    subst h
    exact ⟨_, rfl, a⟩
  | _, _, i + 1, d, .cons _ b, h => by
    obtain ⟨v, h1, h2⟩ := RVs.get (i := i) (d := d) b (by simpa using h)
    exact ⟨v, by simpa using h1, h2⟩
theorem RVs.getV : ∀ {ds : List D} {vs : List V} {i : Nat} {v : V}, RVs K F M ds vs → vs[i]? = some v → ∃ d, ds[i]? = some d ∧ RV K F M d v
  | _, _, _, _, .nil, h => by simp at h
  | _, _, 0, _, .cons a _, h => by
    simp at h
    subst h
    exact ⟨_, rfl, a⟩
  | _, _, i + 1, d, .cons _ b, h => by
    obtain ⟨v, h1, h2⟩ := RVs.getV (i := i) (v := d) b (by simpa using h)
    exact ⟨v, by simpa using h1, h2⟩
theorem RVs.append : ∀ {ds es : List D} {vs ws : List V}, RVs K F M ds vs → RVs K F M es ws → RVs K F M (ds ++ es) (vs ++ ws)
  | _, _, _, _, .nil, s => s
  | _, _, _, _, .cons a b, s => .cons a (b.append s)
theorem RVs.take : ∀ {ds : List D} {vs : List V} (n : Nat), RVs K F M ds vs → RVs K F M (ds.take n) (vs.take n)
  | _, _, 0, _ => .nil
  | _, _, _ + 1, .nil => .nil
  | _, _, n + 1, .cons a b => .cons a (b.take n)
theorem RVs.drop : ∀ {ds : List D} {vs : List V} (n : Nat), RVs K F M ds vs → RVs K F M (ds.drop n) (vs.drop n)
  | _, _, 0, r => r
  | _, _, _ + 1, .nil => .nil
  | _, _, n + 1, .cons _ b => b.drop n
theorem RVs.set : ∀ {ds : List D} {vs : List V} {d : D} {v : V} (i : Nat), RV K F M d v → RVs K F M ds vs → RVs K F M (ds.set i d) (vs.set i v)
  | _, _, _, _, _, _, .nil => .nil
  | _, _, _, _, 0, r, .cons _ b => .cons r b
  | _, _, _, _, i + 1, r, .cons a b => .cons a (b.set i r)
theorem RVs.eraseIdx : ∀ {ds : List D} {vs : List V} (i : Nat), RVs K F M ds vs → RVs K F M (ds.eraseIdx i) (vs.eraseIdx i)
  | _, _, _, .nil => .nil
  | _, _, 0, .cons _ b => b
  | _, _, i + 1, .cons a b => .cons a (b.eraseIdx i)
theorem RVs.reverse {ds : List D} {vs : List V} (h : RVs K F M ds vs) : RVs K F M ds.reverse vs.reverse := by
  induction ds generalizing vs with
  | nil => cases h; exact .nil
  | cons d ds ih =>
    cases h with
    | cons a b =>
      rw [List.reverse_cons, List.reverse_cons]
      exact (ih b).append (.cons a .nil)
theorem RVs.rep {ds : List D} {vs : List V} (h : RVs K F M ds vs) : ∀ k : Nat, RVs K F M (List.replicate k ds).flatten (List.replicate k vs).flatten
  | 0 => .nil
  | k + 1 => by
    rw [List.replicate_succ, List.replicate_succ, List.flatten_cons, List.flatten_cons]
    exact h.append (h.rep k)
theorem RVs.dropLast {ds : List D} {vs : List V} (h : RVs K F M ds vs) : RVs K F M ds.dropLast vs.dropLast := by
  rw [List.dropLast_eq_take, List.dropLast_eq_take, h.length]
  exact h.take _
/-- the container c stands at a -/
inductive CR (K : PySem.W.Frag) (F : Hp) (M : List Addr) (H : Hp) (a : Addr) : Cont → Prop
  | lst {xs : List D} {vs : List V} : H a = some (.lst vs) → RVs K F M xs vs → CR K F M H a (.lst xs)
  | dct {ks vs : List D} {kvs : List (Key × V)} : H a = some (.dK kvs) → ks = kvs.map (fun p => keyD p.1) → (kvs.map (·.1)).Nodup → RVs K F M vs (kvs.map (·.2)) → CR K F M H a (.dct ks vs)
  | ins {dx : Addr} {c : Str} {ns : List Str} {vs : List D} {fs : List (Str × V)} : H a = some (.ins (He.ga K c) dx fs) → ns = fs.map (·.1) → RVs K F M vs (fs.map (·.2)) → CR K F M H a (.ins c ns vs)
  | tab {ks vs : List D} {xs : List Ent} {o : Obj} : H a = some (tabO a xs o) → nks ks = some (xs.map (·.1)) → ks.all tkey = true → RVs K F M ks (xs.map fun x => .ref x.2.1) → (xs.map (·.1)).Nodup → RVs K F M vs (xs.map (·.2.2)) → CR K F M H a (.tab ks vs)
theorem CR.has {H : Hp} {a : Addr} {c : Cont} (h : CR K F M H a c) : ∃ o, H a = some o := by
  cases h with
  | lst e _ => exact ⟨_, e⟩
  | dct e _ _ _ => exact ⟨_, e⟩
  | ins e _ _ => exact ⟨_, e⟩
  | tab e _ _ _ _ _ => exact ⟨_, e⟩
theorem CR.nt {H : Hp} {a : Addr} {c : Cont} (h : CR K F M H a c) : ∀ ps, H a ≠ some (.tbl ps) := fun ps z => by
  cases h with
  | lst e _ => rw [e] at z; cases z
  | dct e _ _ _ => rw [e] at z; cases z
  | ins e _ _ => rw [e] at z; cases z
  | tab e _ _ _ _ _ =>
    rw [e] at z
    have z' : HO.ext _ = HO.tbl ps := Option.some.inj z
    cases z'
theorem nt_at {H : Hp} {a : Addr} {o : HO} (h : H a = some o) (hn : ∀ ps, o ≠ .tbl ps) : ∀ ps, H a ≠ some (.tbl ps) := fun ps z => hn ps (Option.some.inj (h.symm.trans z))
theorem upd_nt {H : Hp} {a b : Addr} {ps : Array Value} (hn : ∀ ps, H a ≠ some (.tbl ps)) (e : H b = some (.tbl ps)) : b ≠ a := fun z => hn ps (z ▸ e)
theorem CR.mono {H H' : Hp} {a : Addr} {c : Cont} (h : CR K F M H a c) (s : Same F F') (e : Ext M M') (ha : ∀ o, H a = some o → H' a = some o) : CR K F' M' H' a c := by
  cases h with
  | lst q r => exact .lst (ha _ q) (r.mono s e)
  | dct q r1 r2 r => exact .dct (ha _ q) r1 r2 (r.mono s e)
  | ins q r1 r => exact .ins (ha _ q) r1 (r.mono s e)
  | tab q r1 r2 r3 r4 r => exact .tab (ha _ q) r1 r2 (r3.mono s e) r4 (r.mono s e)
/-- read as a value, in a heap that has it and what is frozen -/
theorem CR.rv {H : Hp} {a : Addr} {c : Cont} (s : Same F H) (h : CR K F M H a c) : RV K H M c.frz (.ref a) := by
  cases h with
  | lst q r => exact .lst q (r.mono s (.refl M))
  | dct q r1 r2 r => exact .dct q r1 r2 (r.mono s (.refl M))
  | ins q r1 r => exact .ins q r1 (r.mono s (.refl M))
  | tab q r1 r2 r3 r4 r => exact .tab q r1 r2 (r3.mono s (.refl M)) r4 (r.mono s (.refl M))

theorem same_upd {a : Addr} {o : HO} (h : F a = none) : Same F (upd F a o) := fun b u e => by
  rw [upd_ne (ne_of_none e h)]
  exact e
theorem same_upd2 {H : Hp} {a : Addr} {o : HO} (s : Same F H) (h : H a = some o) : Same (upd F a o) H := fun b u e => by
  by_cases q : b = a
  · subst q
    rw [upd_same] at e
    cases e
    exact h
  · rw [upd_ne q] at e
    exact s _ _ e

inductive SlotR (K : PySem.W.Frag) (F : Hp) (M : List Addr) (P : Hp) (H : Hp) (v : Option (Option V)) : Slot → Prop
  | unb : SlotR K F M P H v .unb
  | val {d : D} {x : V} : v = some (some x) → RV K F M d x → SlotR K F M P H v (.val d)
  | own {c : Cont} {a : Addr} : v = some (some (.ref a)) → CR K F M H a c → F a = none → P a = none → a ∉ M → SlotR K F M P H v (.own c)
theorem SlotR.ov {P H : Hp} {v : Option (Option V)} {c : Cont} (h : SlotR K F M P H v (.own c)) : ∃ a, v = some (some (.ref a)) ∧ CR K F M H a c ∧ F a = none ∧ P a = none ∧ a ∉ M := by
  cases h with
  | own a b c d e => exact ⟨_, a, b, c, d, e⟩
theorem SlotR.vv {P H : Hp} {v : Option (Option V)} {d : D} (h : SlotR K F M P H v (.val d)) : ∃ x, v = some (some x) ∧ RV K F M d x := by
  cases h with
  | val a b => exact ⟨_, a, b⟩

/-- .. and what is wanted of an exception -/
structure Pk where
  b : Bs
  qx : QX
/-- .. no exception leaves -/
abbrev Pk.no (κ : Pk) : Pk := ⟨κ.b, noX⟩
structure Bs.Le (β : Bs) (F : Hp) (M : List Addr) (P : Hp) : Prop where
  f : Same β.F0 F
  m : Ext β.M0 M
  p : Same β.P0 P
theorem Bs.Le.to {β : Bs} {P : Hp} (h : β.Le F M P) (s : Same F F') (e : Ext M M') : β.Le F' M' P := ⟨h.f.trans s, h.m.trans e, h.p⟩
theorem Bs.Le.here {P : Hp} : Bs.Le ⟨F, M, P⟩ F M P := ⟨.refl F, .refl M, .refl P⟩
/-- the tables are as they must be: nobody's, each code object in them known -/
def TabF (T : List (Addr × Str)) (F P H : Hp) : Prop := ∀ p ∈ T, F p.1 = none ∧ P p.1 = none ∧ ∃ ps : Array Value, H p.1 = some (.tbl ps) ∧ TriplesOk ps.toList ∧
  ∀ (pos : Pos) (cv : Value), codeAmong pos ps.toList = some cv → ∃ c, cv = .ref c ∧ F c = some (LamX.CodeO c p.2)
theorem TabF.to {T : List (Addr × Str)} {F F' P P' H H' : Hp} (h : TabF T F P H) (sf : Same F F') (hf : ∀ a ps, H a = some (.tbl ps) → F a = none → F' a = none) (hp : ∀ a ps, H a = some (.tbl ps) → P a = none → P' a = none) (hH : ∀ a ps, H a = some (.tbl ps) → H' a = some (.tbl ps)) : TabF T F' P' H' := fun p hm => by
  obtain ⟨h1, h2, ps, h3, h4, h5⟩ := h p hm
  exact ⟨hf _ _ h3 h1, hp _ _ h3 h2, ps, hH _ _ h3, h4, fun pos cv hc => by
    obtain ⟨c, e1, e2⟩ := h5 pos cv hc
    exact ⟨c, e1, sf _ _ e2⟩⟩
theorem TabF.nil {F P H : Hp} : TabF [] F P H := fun p h => nomatch h
variable [LamT]
/-- THE RELATION: F what nobody changes; M where the store stands; P what the callers want kept -/
structure Rel (K : PySem.W.Frag) (β : Bs) (F : Hp) (M : List Addr) (P : Hp) (σD : Slots) (s : Store) (σ : St) (H : Hp) : Prop where
  z : β.Le F M P
  tb : TabF (LamT.T K) F P H
  sF : Same F H
  sP : Same P H
  mlen : M.length = s.length
  mem : ∀ (n : Nat) a c, M[n]? = some a → s[n]? = some c → CR K F M H a c ∧ F a = none ∧ P a = none
  nd : M.Nodup
  fp : ∀ a o, P a = some o → F a = none
  slen : σD.length = σ.length
  slot : ∀ (i : Nat) sl, σD[i]? = some sl → SlotR K F M P H σ[i]? sl
  dist : ∀ (i j : Nat) c c' a, σD[i]? = some (.own c) → σD[j]? = some (.own c') → σ[i]? = some (some (.ref a)) → σ[j]? = some (some (.ref a)) → i = j

/-- an address that is free of the relation's changing things -/
structure Off (F : Hp) (M : List Addr) (P : Hp) (σD : Slots) (σ : St) (a : Addr) : Prop where
  f : F a = none
  p : P a = none
  m : a ∉ M
  o : ∀ (i : Nat) c, σD[i]? = some (.own c) → σ[i]? ≠ some (some (.ref a))

variable {β : Bs} {P : Hp} {σD σD' : Slots} {s s' : Store} {σ σ' : St} {H H' : Hp}
theorem mem_at {M : List Addr} {a : Addr} (h : a ∈ M) : ∃ n : Nat, M[n]? = some a := List.mem_iff_getElem?.mp h
theorem Rel.mat (R : Rel K β F M P σD s σ H) {n : Nat} {a : Addr} (h : M[n]? = some a) : ∃ c, s[n]? = some c := by
  have h1 := (List.getElem?_eq_some_iff.mp h).1
  rw [R.mlen] at h1
  exact ⟨_, List.getElem?_eq_getElem h1⟩
/-- an address that is not tracked is off -/
theorem Rel.off (R : Rel K β F M P σD s σ H) {a : Addr} (h : H a = none) : Off F M P σD σ a where
  f := R.sF.free h
  p := R.sP.free h
  m := fun hm => by
    obtain ⟨n, hn⟩ := mem_at hm
    obtain ⟨c, hc⟩ := R.mat hn
    obtain ⟨o, ho⟩ := (R.mem n a c hn hc).1.has
    rw [h] at ho
    cases ho
  o := fun i c hi e => by
    obtain ⟨b, hb, hc, _⟩ := (R.slot i _ hi).ov
    rw [e] at hb
    cases hb
    obtain ⟨o, ho⟩ := hc.has
    rw [h] at ho
    cases ho
theorem SlotR.mono {v : Option (Option V)} {sl : Slot} (h : SlotR K F M P H v sl) (sf : Same F F') (e : Ext M M')
    (hv : ∀ a, v = some (some (.ref a)) → F a = none → P a = none → a ∉ M → (∃ c, sl = .own c) → (∀ o, H a = some o → H' a = some o) ∧ F' a = none ∧ a ∉ M') : SlotR K F' M' P H' v sl := by
  cases h with
  | unb => exact .unb
  | val q r => exact .val q (r.mono sf e)
  | own q r1 r2 r3 r4 =>
    obtain ⟨h1, h2, h3⟩ := hv _ q r2 r3 r4 ⟨_, rfl⟩
    exact .own q (r1.mono sf e h1) h2 r3 h3
/-- the heap grows beside the changing things -/
theorem Rel.grow (R : Rel K β F M P σD s σ H) (sf : Same F F') (sH : Same F' H') (k : Same H H') (hf : ∀ a, a ∈ M ∨ (∃ (i : Nat) (c : Cont), σD[i]? = some (.own c) ∧ σ[i]? = some (some (.ref a))) ∨ (∃ o, P a = some o) → F' a = none) (ht : ∀ a ps, H a = some (.tbl ps) → F a = none → F' a = none) : Rel K β F' M P σD s σ H' where
  z := R.z.to sf (.refl M)
  tb := R.tb.to sf ht (fun _ _ _ q => q) fun a ps q => k _ _ q
  sF := sH
  sP := R.sP.trans k
  mlen := R.mlen
  mem := fun n a c h1 h2 => by
    obtain ⟨r1, r2, r3⟩ := R.mem n a c h1 h2
    exact ⟨r1.mono sf (.refl M) (k a), hf a (.inl (List.mem_of_getElem? h1)), r3⟩
  nd := R.nd
  fp := fun a o h => hf a (.inr (.inr ⟨o, h⟩))
  slen := R.slen
  slot := fun i sl hi => (R.slot i sl hi).mono sf (.refl M) fun a h1 h2 h3 h4 ⟨c, hc⟩ => ⟨k a, hf a (.inr (.inl ⟨i, c, by rw [← hc]; exact hi, h1⟩)), h4⟩
  dist := R.dist
/-- a new object that nobody needs -/
theorem Rel.junk (R : Rel K β F M P σD s σ H) {p : Addr} {o : HO} (h : H p = none) : Rel K β F M P σD s σ (upd H p o) :=
  R.grow (.refl F) (R.sF.trans (same_upd h)) (same_upd h) (fun a ha => by
    rcases ha with ha | ⟨i, c, h1, h2⟩ | ⟨u, hu⟩
    · obtain ⟨n, hn⟩ := mem_at ha
      obtain ⟨c, hc⟩ := R.mat hn
      exact (R.mem n a c hn hc).2.1
    · obtain ⟨b, hb, _, h3, _⟩ := (R.slot i _ h1).ov
      rw [h2] at hb
      cases hb
      exact h3
    · exact R.fp a u hu) fun _ _ _ q => q
/-- an off object is frozen as it stands -/
theorem Rel.freeze (R : Rel K β F M P σD s σ H) {p : Addr} {o : HO} (q : Off F M P σD σ p) (h : H p = some o) (hn : ∀ ps, o ≠ .tbl ps) : Rel K β (upd F p o) M P σD s σ H :=
  R.grow (same_upd q.f) (same_upd2 R.sF h) (.refl H) (fun a ha => by
    rcases ha with ha | ⟨i, c, h1, h2⟩ | ⟨u, hu⟩
    · have hne : a ≠ p := fun e => q.m (e ▸ ha)
      rw [upd_ne hne]
      obtain ⟨n, hn⟩ := mem_at ha
      obtain ⟨c, hc⟩ := R.mat hn
      exact (R.mem n a c hn hc).2.1
    · have hne : a ≠ p := fun e => q.o i c h1 (e ▸ h2)
      rw [upd_ne hne]
      obtain ⟨b, hb, _, h3, _⟩ := (R.slot i _ h1).ov
      rw [h2] at hb
      cases hb
      exact h3
    · have hne : a ≠ p := fun e => by rw [e, q.p] at hu; cases hu
      rw [upd_ne hne]
      exact R.fp a u hu) fun a ps e1 e2 => by
    rw [upd_ne (fun z => by rw [z, h] at e1; exact hn ps (Option.some.inj e1))]
    exact e2
theorem CR.frzF {c : Cont} {a : Addr} {o : HO} (hf : F a = none) (ho : H a = some o) (h : CR K F M H a c) : RV K (upd F a o) M c.frz (.ref a) := by
  have s := same_upd (o := o) hf
  cases h with
  | lst q r =>
    rw [ho] at q; cases q
    exact .lst upd_same (r.mono s (.refl M))
  | dct q r1 r2 r =>
    rw [ho] at q; cases q
    exact .dct upd_same r1 r2 (r.mono s (.refl M))
  | ins q r1 r =>
    rw [ho] at q; cases q
    exact .ins upd_same r1 (r.mono s (.refl M))
  | tab q r1 r2 r3 r4 r =>
    rw [ho] at q; cases q
    exact .tab upd_same r1 r2 (r3.mono s (.refl M)) r4 (r.mono s (.refl M))
end
end HP

set_option maxHeartbeats 2000000
/-! HpTup: the steps that make a tuple, with the object that they make (it has no dict: methods of tuples ask that). -/
namespace HP
open PySem L2 PySem.Spec
open PyProof.Rows hiding St
variable [LamT] {β : Bs} {κ : Pk}

/-- a new tuple of these is wanted -/
def NewT (H : Hp) (ys : List V) (Q : VK) : Prop := ∀ p o, H p = none → Obj.dict o = none → Q (.ref p) (upd H p (.frz o (.tup ys)))
section
variable {X : Cx} {pins : List (Addr × Obj)} {σ : St} {H : Hp} {s : Shared} {Q : VK}
theorem NewT.end (I : Inv X pins σ H s) {ys : List V} {us : List Value} (q : NewT H ys Q) (r : Vals ys us) (hz : ys.length ≤ sizeLine) :
    EP X pins σ Q (.ref s.heap.objs.size) { s with heap := s.heap.push { cls := .type "tuple", data := .seq us.toArray } } :=
  ⟨.ref s.heap.objs.size, _, I.laid (t' := s.toks) (o := .frz { cls := .type "tuple", data := .seq us.toArray } (.tup ys)) (fun b ob e => Heap.get?_push_of_some _ e) (Nat.le_refl _)
    ⟨Heap.get?_push_size _ rfl, hz, us, r, IsTup.new _ _⟩, rfl, q _ _ (I.hok.fresh (Nat.le_refl _)) rfl⟩
end
section
variable {X : Cx} {es : List Expr} {t : TA} {pos : Pos}
theorem pe_tupX {x1} (h : PA X es t) : PE X (.Tuple es x1 pos) (fun σ H Q => t σ H fun xs H1 => xs.length ≤ sizeLine ∧ NewT H1 xs Q) := ⟨fun pins s σ H Q I hq =>
  wpAny_Tuple_spliced (thn (h.run pos pins s σ H _ I hq) fun us s1 ⟨_, _, I1, r, z, q⟩ => ⟨by rw [← r.length]; exact z, q.end I1 r z⟩)⟩
theorem op_catX : OpR X (binaryOp .Add) (fun x y H Q => ∃ a b xs ys, x = .ref a ∧ y = .ref b ∧ SqT X.K H a xs ∧ SqT X.K H b ys ∧ xs.length + ys.length ≤ sizeLine ∧
    (xs = [] → Q (.ref b) H) ∧ (xs ≠ [] → ys = [] → Q (.ref a) H) ∧ (xs ≠ [] → ys ≠ [] → NewT H (xs ++ ys) Q)) := by
  intro pins s σ H x y v u Q I rx ry h
  obtain ⟨a, b, xs, ys, rfl, rfl, ha, hb, hz, q0, q1, q2⟩ := h
  cases rx
  cases ry
  obtain ⟨i1, r1, p1, _⟩ := I.tuple ha
  obtain ⟨i2, r2, p2, _⟩ := I.tuple hb
  by_cases hx : xs = []
  · have e1 : i1 = [] := r1.nil_iff.mpr hx
    subst e1
    exact cat_tup0 p1 p2 ⟨V.ref b, H, I, rfl, q0 hx⟩
  · refine HT.cat_tup p1 p2 (fun z => hx (r1.nil_iff.mp z)) (fun z => ⟨V.ref a, H, I, rfl, q1 hx (r2.nil_iff.mp z)⟩) (fun z => (q2 hx fun e => z (r2.nil_iff.mpr e)).end I (r1.append r2) ?_) ?_
    · rw [List.length_append]
      exact hz
    · rw [← r1.length, ← r2.length]
      exact hz
theorem op_repX : OpR X (binaryOp .Mult) (fun x y H Q => ∃ l k xs, x = .ref l ∧ y = .int k ∧ SqT X.K H l xs ∧ xs ≠ [] ∧ 2 ≤ k ∧ k ≤ 1000 ∧ xs.length ≤ 1000 ∧ NewT H (List.replicate k.toNat xs).flatten Q) := by
  intro pins s σ H x y v u Q I rx ry h
  obtain ⟨l, k, xs, rfl, rfl, hT, hne, h1, h2, hz, q⟩ := h
  cases rx
  obtain ⟨t, rfl⟩ := ry
  obtain ⟨its, r, ⟨⟨cls, dd, data, sl⟩, ho, hc, n, hd⟩, _⟩ := I.tuple hT
  simp only at hc hd
  subst hc hd
  have hl : its.length = xs.length := r.length.symm
  have hn : its ≠ [] := fun e => hne (r.nil_iff.mp e)
  have hs0 : its.toArray.size = xs.length := by rw [List.size_toArray, hl]
  have he : its.toArray.isEmpty = false := by
    cases its with
    | nil => exact absurd rfl hn
    | cons _ _ => rfl
  have hm : ((its.toArray.size : Nat) : Int) * k ≤ 1000000 := by
    rw [hs0]
    exact Int.le_trans (Int.mul_le_mul_of_nonneg_right (c := k) (show ((xs.length : Nat) : Int) ≤ 1000 by omega) (by omega)) (by omega)
  have hm2 : k.toNat * xs.length ≤ 1000 * 1000 := Nat.mul_le_mul (by omega) hz
  have hf : (List.replicate k.toNat xs).flatten.length ≤ sizeLine := by
    rw [PyProof.Rows.lm_len_rep_flat, sizeLine_eq]
    omega
  have a0 : (decide (k < -(2 ^ 63)) || decide (k ≥ 2 ^ 63)) = false := by rw [decide_eq_false (by omega), decide_eq_false (by omega)]; rfl
  have a1 : (its.toArray.isEmpty || k == 1) = false := by rw [he, Bool.false_or]; exact beq_eq_false_iff_ne.mpr (by omega)
  have a2 : (decide (k ≤ 0) || its.toArray.isEmpty) = false := by rw [he, Bool.or_false]; exact decide_eq_false (by omega)
  have a4 : Builtin.Tuple.tupleTooMany (((its.toArray.size : Nat) : Int) * k) = false := by
    unfold Builtin.Tuple.tupleTooMany
    rw [sizeLine_eq]
    exact decide_eq_false (by omega)
  have a5 : (List.foldl (fun x1 x2 => x1 ++ x2) #[] (List.replicate k.toNat its.toArray)).size ≤ sizeLine := by
    rw [size_rep, List.size_toArray, ← (r.rep k.toNat).length]
    exact hf
  have last : EP X pins σ Q (.ref s.heap.objs.size) { s with heap := s.heap.push { cls := Value.type "tuple", data := Data.seq (List.foldl (fun x1 x2 => x1 ++ x2) #[] (List.replicate k.toNat its.toArray)) } } := by
    rw [size_rep]
    exact q.end I (r.rep k.toNat) hf
  exact wpAny_binaryOp_repeat_ref (T := "tuple") (U := "int") (by decide) ⟨_, ho, rfl⟩ (fun s' => typeIs_int s' k t) noFill_tuple_mul F.fills_int_mul F.slot_int_rmul repeat_tuple F.slot_int_index.lookup
    (call_meets F.slot_int_rmul (typeIs_int s k t) F.entry_int_rmul (F.args_int_rmul_2 _ _) (int_rmul_tuple k t l its.toArray n dd sl) ⟨ho, rfl, ⟨_, ho, rfl⟩, call_meets F.slot_tuple_mul ⟨_, ho, rfl⟩ F.entry_tuple_mul (F.args_tuple_mul_2 _ _) (tuple_mulW l its.toArray n dd sl k t a0 a1 a2 (by omega) a4 a5) ⟨ho, last⟩⟩)
theorem tuple_mul1 (l : Addr) (items : Array Value) (n : Nat) (dd : Option Addr) (sl : Array (Option Value)) (u : Tok) (c1 : items.isEmpty = false) :
    Meets (Builtin.«tuple.__mul__» ⟨[.ref l, .int 1 u], []⟩) (fun _ R s => s.heap.get? l = some { cls := .type "tuple", dict := dd, data := .seq items n, slots := sl } ∧ R (.ok (.ret (Value.ref l))) s) :=
  .of_wp fun prog w A R s h => by
    obtain ⟨hp, g, d, tk, os⟩ := s
    obtain ⟨hl, h⟩ := h
    have f1 := AutoSeq1.idx_int
    wp_walk using wpAny_loadPart' hl
    exact ⟨_, rfl, h⟩
theorem op_rep1 : OpR X (binaryOp .Mult) (fun x y H Q => ∃ l xs, x = .ref l ∧ y = .int 1 ∧ SqT X.K H l xs ∧ xs ≠ [] ∧ Q (.ref l) H) := by
  intro pins s σ H x y v u Q I rx ry h
  obtain ⟨l, xs, rfl, rfl, hT, hne, q⟩ := h
  cases rx
  obtain ⟨t, rfl⟩ := ry
  obtain ⟨its, r, ⟨⟨cls, dd, data, sl⟩, ho, hc, n, hd⟩, _⟩ := I.tuple hT
  simp only at hc hd
  subst hc hd
  have hn : its ≠ [] := fun e => hne (r.nil_iff.mp e)
  have he : its.toArray.isEmpty = false := by
    cases its with
    | nil => exact absurd rfl hn
    | cons _ _ => rfl
  have last : EP X pins σ Q (.ref l) s := ⟨V.ref l, H, I, rfl, q⟩
  exact wpAny_binaryOp_repeat_ref (T := "tuple") (U := "int") (by decide) ⟨_, ho, rfl⟩ (fun s' => typeIs_int s' 1 t) noFill_tuple_mul F.fills_int_mul F.slot_int_rmul repeat_tuple F.slot_int_index.lookup
    (call_meets F.slot_int_rmul (typeIs_int s 1 t) F.entry_int_rmul (F.args_int_rmul_2 _ _) (int_rmul_tuple 1 t l its.toArray n dd sl) ⟨ho, rfl, ⟨_, ho, rfl⟩, call_meets F.slot_tuple_mul ⟨_, ho, rfl⟩ F.entry_tuple_mul (F.args_tuple_mul_2 _ _) (tuple_mul1 l its.toArray n dd sl t he) ⟨ho, last⟩⟩)
end
end HP

set_option maxHeartbeats 2000000
/-! HpRevT: x[::-1] of a tuple (and of a list). -/
namespace HP
open PySem L2 PySem.Spec
open PyProof.Rows hiding St
variable [LamT] {β : Bs} {κ : Pk}
section
variable {prog : Program} {w : World} {A : Around} {E : Value → Shared → Prop} {s : Shared}
end
section
variable {X : Cx}
end
end HP

set_option maxHeartbeats 2000000
/-! HpOps: the operations by values are the model's. -/
namespace HP
open PySem L2
variable [LamT] {β : Bs} {κ : Pk}

section
variable {K : PySem.W.Frag} {F F' : Hp} {M M' : List Addr} {H H' : Hp}
/-- a value as an operand: it may be a container that is still changed -/
def RVt (K : PySem.W.Frag) (F : Hp) (M : List Addr) (H : Hp) (d : D) (v : V) : Prop := RV K F M d v ∨ ∃ c a, d = Cont.frz c ∧ v = .ref a ∧ CR K F M H a c
theorem RVt.of {d : D} {v : V} (h : RV K F M d v) : RVt K F M H d v := .inl h
theorem RVt.non {v : V} (h : RVt K F M H .non v) : v = .non := by
  rcases h with h | ⟨c, a, e, _⟩
  · cases h; rfl
  · cases c <;> cases e
theorem RVt.bl {v : V} {b : Bool} (h : RVt K F M H (.bl b) v) : v = .bl b := by
  rcases h with h | ⟨c, a, e, _⟩
  · cases h; rfl
  · cases c <;> cases e
theorem RVt.int {v : V} {i : Int} (h : RVt K F M H (.int i) v) : v = .int i := by
  rcases h with h | ⟨c, a, e, _⟩
  · cases h; rfl
  · cases c <;> cases e
theorem RVt.str {v : V} {x : Str} (h : RVt K F M H (.str x) v) : v = .str x := by
  rcases h with h | ⟨c, a, e, _⟩
  · cases h; rfl
  · cases c <;> cases e
theorem RVt.tup {v : V} {xs : List D} (s : Same F H) (h : RVt K F M H (.tup xs) v) : ∃ a vs, v = .ref a ∧ SqT K H a vs ∧ SqX K F a vs ∧ RVs K F M xs vs := by
  rcases h with h | ⟨c, a, e, _⟩
  · cases h with
    | tup h r => exact ⟨_, _, rfl, sqT_mono s h.sqT, h, r⟩
  · cases c <;> cases e
theorem RVt.lst {v : V} {xs : List D} (s : Same F H) (h : RVt K F M H (.lst xs) v) : ∃ a vs, v = .ref a ∧ H a = some (.lst vs) ∧ RVs K F M xs vs := by
  rcases h with h | ⟨c, a, e, e2, hc⟩
  · cases h with
    | lst h r => exact ⟨_, _, rfl, s _ _ h, r⟩
  · cases hc with
    | lst q r =>
      cases e
      exact ⟨a, _, e2, q, r⟩
    | dct => cases e
    | ins => cases e
    | tab => cases e
theorem RVt.scr {v : V} {xs : List D} (s : Same F H) (h : RVt K F M H (.scr xs) v) : ∃ a vs, v = .ref a ∧ SqL K H a vs ∧ RVs K F M xs vs := by
  rcases h with h | ⟨c, a, e, e2, hc⟩
  · cases h with
    | scr h r => exact ⟨_, _, rfl, s.seq h, r⟩
  · cases c <;> cases e
theorem RVt.dct {v : V} {ks vs : List D} (s : Same F H) (h : RVt K F M H (.dct ks vs) v) : ∃ a, ∃ kvs : List (Key × V), v = .ref a ∧ H a = some (.dK kvs) ∧ ks = kvs.map (fun p => keyD p.1) ∧ (kvs.map (·.1)).Nodup ∧ RVs K F M vs (kvs.map (·.2)) := by
  rcases h with h | ⟨c, a, e, e2, hc⟩
  · cases h with
    | dct h h1 h2 r => exact ⟨_, _, rfl, s _ _ h, h1, h2, r⟩
  · cases hc with
    | dct q h1 h2 r =>
      cases e
      exact ⟨a, _, e2, q, h1, h2, r⟩
    | lst => cases e
    | ins => cases e
    | tab => cases e
theorem RVt.tab {v : V} {ks vs : List D} (s : Same F H) (h : RVt K F M H (.tab ks vs) v) : ∃ a, ∃ xs : List Ent, ∃ o : Obj, v = .ref a ∧ H a = some (tabO a xs o) ∧ nks ks = some (xs.map (·.1)) ∧ ks.all tkey = true ∧ RVs K F M ks (xs.map fun x => .ref x.2.1) ∧ (xs.map (·.1)).Nodup ∧ RVs K F M vs (xs.map (·.2.2)) := by
  rcases h with h | ⟨c, a, e, e2, hc⟩
  · cases h with
    | tab h h1 h2 h3 h4 r => exact ⟨_, _, _, rfl, s _ _ h, h1, h2, h3, h4, r⟩
  · cases hc with
    | tab q h1 h2 h3 h4 r =>
      cases e
      exact ⟨a, _, _, e2, q, h1, h2, h3, h4, r⟩
    | lst => cases e
    | dct => cases e
    | ins => cases e
theorem RVt.ins {v : V} {c : Str} {ns : List Str} {vs : List D} (s : Same F H) (h : RVt K F M H (.ins c ns vs) v) : ∃ a dx, ∃ fs : List (Str × V), v = .ref a ∧ H a = some (.ins (He.ga K c) dx fs) ∧ ns = fs.map (·.1) ∧ RVs K F M vs (fs.map (·.2)) := by
  rcases h with h | ⟨c, a, e, e2, hc⟩
  · cases h with
    | ins h h1 r => exact ⟨_, _, _, rfl, s _ _ h, h1, r⟩
  · cases hc with
    | ins q h1 r =>
      cases e
      exact ⟨a, _, _, e2, q, h1, r⟩
    | lst => cases e
    | dct => cases e
    | tab => cases e
theorem RVt.ref {v : V} {n : Nat} (h : RVt K F M H (.ref n) v) : ∃ a, v = .ref a ∧ M[n]? = some a := by
  rcases h with h | ⟨c, a, e, _⟩
  · cases h with
    | ref h => exact ⟨_, rfl, h⟩
  · cases c <;> cases e

/-- what an operation hands back, the heap behind it -/
inductive OutN (K : PySem.W.Frag) (F : Hp) (M : List Addr) (H : Hp) : Hp → Out → V → Prop
  | old {d : D} {v : V} : RV K F M d v → OutN K F M H H (.val d) v
  | new {d : D} {p : Addr} {o : HO} : H p = none → (∀ ps, o ≠ .tbl ps) → RV K (upd F p o) M d (.ref p) → OutN K F M H (upd H p o) (.val d) (.ref p)
  | own {c : Cont} {p : Addr} {o : HO} : H p = none → CR K F M (upd H p o) p c → OutN K F M H (upd H p o) (.own c) (.ref p)
theorem OutN.lst {xs : List D} {vs : List V} {p : Addr} (h : H p = none) (r : RVs K F M xs vs) : OutN K F M H (upd H p (.lst vs)) (.own (.lst xs)) (.ref p) := .own h (.lst upd_same r)
theorem OutN.tup {xs : List D} {vs : List V} {p : Addr} {o : Obj} (s : Same F H) (h : H p = none) (e : o.dict = none) (r : RVs K F M xs vs) : OutN K F M H (upd H p (.frz o (.tup vs))) (.val (.tup xs)) (.ref p) :=
  .new h nofun (.tup (.inl ⟨o, upd_same, e⟩) (r.mono (same_upd (s.free h)) (.refl M)))

abbrev QN2 := V → Hp → Prop
/-- the reading of a two-place operation by the language's own -/
def r2D (K : PySem.W.Frag) (f : D → D → Option Out) : R2 := fun x y H Q => ∃ F M dx dy, Same F H ∧ RVt K F M H dx x ∧ RVt K F M H dy y ∧ optK (f dx dy) fun o => ∀ H' v, OutN K F M H H' o v → Q v H'
theorem optK_ex {α : Type} {o : Option α} {k : α → Prop} (h : optK o k) : ∃ a, o = some a ∧ k a := by
  cases o with
  | none => exact h.elim
  | some a => exact ⟨a, rfl, h⟩
end

theorem big_eq : big = sizeLine := by rw [sizeLine_eq]; rfl

section
variable {X : Cx}
theorem op_Add (hu : X.A.units < cLine) : OpR X (binaryOp .Add) (r2D X.K (binSem .add)) := by
  intro pins s σ H x y v u Q I rx ry h
  obtain ⟨F, M, dx, dy, sF, hx, hy, h⟩ := h
  obtain ⟨o, ho, h⟩ := optK_ex h
  cases dx <;> cases dy <;> simp only [binSem] at ho <;> try (cases ho; done)
  · cases ho
    obtain rfl := hx.int
    obtain rfl := hy.int
    exact op_add pins s σ H _ _ v u Q I rx ry ⟨_, _, rfl, rfl, h _ _ (.old (.int _))⟩
  · split at ho <;> cases ho
    rename_i hz
    obtain rfl := hx.str
    obtain rfl := hy.str
    exact op_add_str pins s σ H _ _ v u Q I rx ry ⟨_, _, rfl, rfl, by rw [← big_eq]; exact hz, h _ _ (.old (.str _))⟩
  · split at ho <;> cases ho
    rename_i hz
    obtain ⟨a, vs, rfl, h1, h2, h3⟩ := hx.tup sF
    obtain ⟨b, ws, rfl, g1, g2, g3⟩ := hy.tup sF
    refine op_catX pins s σ H _ _ v u Q I rx ry ⟨a, b, vs, ws, rfl, rfl, h1, g1, by rw [← big_eq, ← h3.length, ← g3.length]; exact hz, fun e => ?_, fun e e2 => ?_, fun e e2 p o hp ho => ?_⟩
    · subst e
      cases h3
      exact h _ _ (.old (.tup g2 g3))
    · subst e2
      cases g3
      rw [List.append_nil] at h
      exact h _ _ (.old (.tup h2 h3))
    · exact h _ _ (.tup sF hp ho (h3.append g3))
  · split at ho <;> cases ho
    rename_i hz
    obtain ⟨a, vs, rfl, h1, h3⟩ := hx.lst sF
    obtain ⟨b, ws, rfl, g1, g3⟩ := hy.lst sF
    exact op_cat pins s σ H _ _ v u Q I rx ry ⟨a, b, vs, ws, rfl, rfl, h1, g1, by rw [← big_eq, ← h3.length, ← g3.length]; exact hz, fun p hp => h _ _ (.lst hp (h3.append g3))⟩
theorem op_Sub : OpR X (binaryOp .Sub) (r2D X.K (binSem .sub)) := by
  intro pins s σ H x y v u Q I rx ry h
  obtain ⟨F, M, dx, dy, sF, hx, hy, h⟩ := h
  obtain ⟨o, ho, h⟩ := optK_ex h
  cases dx <;> cases dy <;> simp only [binSem] at ho <;> try (cases ho; done)
  cases ho
  obtain rfl := hx.int
  obtain rfl := hy.int
  exact op_sub pins s σ H _ _ v u Q I rx ry ⟨_, _, rfl, rfl, h _ _ (.old (.int _))⟩
theorem foldl_size {α : Type} (a : Array α) : ∀ (k : Nat) (acc : Array α), (List.foldl (fun x1 x2 => x1 ++ x2) acc (List.replicate k a)).size = acc.size + k * a.size
  | 0, acc => by simp
  | k + 1, acc => by
    rw [List.replicate_succ, List.foldl_cons, foldl_size a k, Array.size_append, Nat.succ_mul]
    omega
theorem op_mulS : OpR X (binaryOp .Mult) (fun x y H Q => ∃ (z : Str) (k : Int), x = .str z ∧ y = .int k ∧ 2 ≤ k ∧ k ≤ 1000 ∧ 1 ≤ z.length ∧ z.length ≤ 1000 ∧ Q (.str ⟨(List.replicate k.toNat z.cps).foldl (· ++ ·) #[]⟩) H) := by
  intro pins s σ H x y v u Q I rx ry h
  obtain ⟨z, k, rfl, rfl, z1, z2, z3, z4, q⟩ := h
  obtain ⟨t, rfl⟩ := rx
  obtain ⟨t2, rfl⟩ := ry
  have hd : (1000 : Int) ≤ (2 ^ 63 - 1) / k := Int.le_ediv_of_mul_le (by omega) (by omega)
  have hm : z.length * k.toNat ≤ 1000 * 1000 := Nat.mul_le_mul z4 (by omega)
  refine PySem.P.mul_str (by rw [decide_eq_false (by omega), decide_eq_false (by omega)]; rfl) (fun _ _ => by omega) (fun _ _ => decide_eq_false (by rw [sizeLine_eq]; omega)) ?_
  rw [if_neg (by omega), if_neg (by simp only [Bool.or_eq_true, beq_iff_eq]; omega)]
  refine ⟨?_, V.str _, H, I.tok _, ⟨_, rfl⟩, q⟩
  show (List.foldl (fun x1 x2 => x1 ++ x2) #[] (List.replicate k.toNat z.cps)).size ≤ sizeLine
  rw [foldl_size, Array.size_empty, Nat.zero_add, sizeLine_eq]
  rw [Nat.mul_comm]
  show z.length * k.toNat ≤ _
  omega
theorem op_Mul : OpR X (binaryOp .Mult) (r2D X.K (binSem .mul)) := by
  intro pins s σ H x y v u Q I rx ry h
  obtain ⟨F, M, dx, dy, sF, hx, hy, h⟩ := h
  obtain ⟨o, ho, h⟩ := optK_ex h
  cases dx <;> cases dy <;> simp only [binSem] at ho <;> try (cases ho; done)
  · split at ho <;> cases ho
    rename_i hz
    obtain rfl := hx.int
    obtain rfl := hy.int
    simp only [Bool.or_eq_true, decide_eq_true_eq] at hz
    rcases hz with (hz | hz) | hz
    · exact op_mul pins s σ H _ _ v u Q I rx ry ⟨_, _, rfl, rfl, .inl ⟨by omega, by omega⟩, h _ _ (.old (.int _))⟩
    · exact op_mul pins s σ H _ _ v u Q I rx ry ⟨_, _, rfl, rfl, .inr ⟨by omega, by omega⟩, h _ _ (.old (.int _))⟩
    · exact op_mulW pins s σ H _ _ v u Q I rx ry ⟨_, _, rfl, rfl, hz, h _ _ (.old (.int _))⟩
  · split at ho <;> cases ho
    rename_i hz
    simp only [Bool.and_eq_true, decide_eq_true_eq] at hz
    obtain ⟨⟨⟨z1, z2⟩, z3⟩, z4⟩ := hz
    obtain rfl := hx.str
    obtain rfl := hy.int
    exact op_mulS pins s σ H _ _ v u Q I rx ry ⟨_, _, rfl, rfl, z1, z2, z3, z4, h _ _ (.old (.str _))⟩
  · obtain ⟨a, vs, rfl, h1, h2, h3⟩ := hx.tup sF
    obtain rfl := hy.int
    have hl := h3.length
    split at ho
    · cases ho
      rename_i hz
      simp only [Bool.and_eq_true, decide_eq_true_eq] at hz
      obtain ⟨⟨⟨z1, z2⟩, z3⟩, z4⟩ := hz
      exact op_repX pins s σ H _ _ v u Q I rx ry ⟨a, _, vs, rfl, rfl, h1, by intro e; rw [e, List.length_nil] at hl; omega, z1, z2, by omega, fun p o hp ho => h _ _ (.tup sF hp ho (h3.rep _))⟩
    · split at ho <;> cases ho
      rename_i hz
      have h9 := h
      obtain ⟨rfl, z3⟩ := hz
      exact op_rep1 pins s σ H _ _ v u Q I rx ry ⟨a, vs, rfl, rfl, h1, by intro e; rw [e, List.length_nil] at hl; omega, h9 _ _ (.old (.tup h2 h3))⟩
  · split at ho <;> cases ho
    rename_i hz
    obtain ⟨a, vs, rfl, h1, h3⟩ := hx.lst sF
    obtain rfl := hy.int
    simp only [Bool.and_eq_true, decide_eq_true_eq] at hz
    obtain ⟨⟨z1, z2⟩, z3⟩ := hz
    exact op_rep pins s σ H _ _ v u Q I rx ry ⟨a, _, vs, rfl, rfl, h1, by omega, by omega, by rw [← big_eq, ← h3.length]; exact z3, fun p hp => h _ _ (.lst hp (h3.rep _))⟩
theorem op_Fdiv : OpR X (binaryOp .FloorDiv) (r2D X.K (binSem .fdiv)) := by
  intro pins s σ H x y v u Q I rx ry h
  obtain ⟨F, M, dx, dy, sF, hx, hy, h⟩ := h
  obtain ⟨o, ho, h⟩ := optK_ex h
  cases dx <;> cases dy <;> simp only [binSem] at ho <;> try (cases ho; done)
  split at ho <;> cases ho
  rename_i hz
  simp only [Bool.and_eq_true, decide_eq_true_eq] at hz
  obtain rfl := hx.int
  obtain rfl := hy.int
  exact op_fdivW pins s σ H _ _ v u Q I rx ry ⟨_, _, rfl, rfl, hz, h _ _ (.old (.int _))⟩
theorem op_Mod : OpR X (binaryOp .Mod) (r2D X.K (binSem .mod)) := by
  intro pins s σ H x y v u Q I rx ry h
  obtain ⟨F, M, dx, dy, sF, hx, hy, h⟩ := h
  obtain ⟨o, ho, h⟩ := optK_ex h
  cases dx <;> cases dy <;> simp only [binSem] at ho <;> try (cases ho; done)
  split at ho <;> cases ho
  rename_i hz
  obtain rfl := hx.int
  obtain rfl := hy.int
  exact op_mod pins s σ H _ _ v u Q I rx ry ⟨_, _, rfl, rfl, hz, h _ _ (.old (.int _))⟩
theorem op_Pow : OpR X (binaryOp .Pow) (r2D X.K (binSem .pow)) := by
  intro pins s σ H x y v u Q I rx ry h
  obtain ⟨F, M, dx, dy, sF, hx, hy, h⟩ := h
  obtain ⟨o, ho, h⟩ := optK_ex h
  cases dx <;> cases dy <;> simp only [binSem] at ho <;> try (cases ho; done)
  split at ho <;> cases ho
  rename_i hz
  simp only [Bool.and_eq_true, decide_eq_true_eq] at hz
  obtain rfl := hx.int
  obtain rfl := hy.int
  exact op_pow pins s σ H _ _ v u Q I rx ry ⟨_, _, rfl, rfl, ⟨hz.1.1, hz.1.2, hz.2⟩, h _ _ (.old (.int _))⟩
theorem op_Bor : OpR X (binaryOp .BitOr) (r2D X.K (binSem .bor)) := by
  intro pins s σ H x y v u Q I rx ry h
  obtain ⟨F, M, dx, dy, sF, hx, hy, h⟩ := h
  obtain ⟨o, ho, h⟩ := optK_ex h
  cases dx <;> cases dy <;> simp only [binSem] at ho <;> try (cases ho; done)
  cases ho
  obtain rfl := hx.int
  obtain rfl := hy.int
  exact op_or pins s σ H _ _ v u Q I rx ry ⟨_, _, rfl, rfl, h _ _ (.old (.int _))⟩
theorem op_Shl : OpR X (binaryOp .LShift) (r2D X.K (binSem .shl)) := by
  intro pins s σ H x y v u Q I rx ry h
  obtain ⟨F, M, dx, dy, sF, hx, hy, h⟩ := h
  obtain ⟨o, ho, h⟩ := optK_ex h
  cases dx <;> cases dy <;> simp only [binSem] at ho <;> try (cases ho; done)
  split at ho <;> cases ho
  rename_i hz
  simp only [Bool.and_eq_true, decide_eq_true_eq] at hz
  obtain rfl := hx.int
  obtain rfl := hy.int
  exact op_shl pins s σ H _ _ v u Q I rx ry ⟨_, _, rfl, rfl, ⟨hz.1.1, hz.1.2, hz.2⟩, h _ _ (.old (.int _))⟩
end
end HP

set_option maxHeartbeats 2000000
/-! HpOps2: comparisons, truth, subscripts of the language are the model's. -/
namespace HP
open PySem L2
variable [LamT] {β : Bs} {κ : Pk}

mutual
theorem py_plain : ∀ d : D, d.plain = true → d.py.plain = true
  | .non, _ => rfl
  | .bl _, _ => rfl
  | .int _, _ => rfl
  | .str _, _ => rfl
  | .tup xs, h => by
    simp only [D.py, PyData.plain]
    exact py_plains xs (by simpa [D.plain] using h)
  | .lst xs, h => by
    simp only [D.py, PyData.plain]
    exact py_plains xs (by simpa [D.plain] using h)
  | .dct _ _, h => by simp [D.plain] at h
  | .ins _ _ _, h => by simp [D.plain] at h
  | .ref _, h => by simp [D.plain] at h
  | .exc _ _, h => by simp [D.plain] at h
  | .scr _, h => by simp [D.plain] at h
theorem py_plains : ∀ xs : List D, plains xs = true → PyData.plainAll (pys xs) = true
  | [], _ => by simp [pys, PyData.plainAll]
  | x :: xs, h => by
    simp only [plains, Bool.and_eq_true] at h
    simp only [pys, PyData.plainAll, py_plain x h.1, py_plains xs h.2, Bool.and_self]
end
mutual
theorem py_dep : ∀ d : D, d.plain = true → d.py.depth = d.dep
  | .non, _ => by simp [D.py, D.dep, PyData.depth]
  | .bl _, _ => by simp [D.py, D.dep, PyData.depth]
  | .int _, _ => by simp [D.py, D.dep, PyData.depth]
  | .str _, _ => by simp [D.py, D.dep, PyData.depth]
  | .tup xs, h => by simp only [D.py, D.dep, PyData.depth, py_deps xs (by simpa [D.plain] using h)]
  | .lst xs, h => by simp only [D.py, D.dep, PyData.depth, py_deps xs (by simpa [D.plain] using h)]
  | .dct _ _, h => by simp [D.plain] at h
  | .ins _ _ _, h => by simp [D.plain] at h
  | .ref _, h => by simp [D.plain] at h
  | .exc _ _, h => by simp [D.plain] at h
  | .scr _, h => by simp [D.plain] at h
theorem py_deps : ∀ xs : List D, plains xs = true → PyData.depthAll (pys xs) = deps xs
  | [], _ => by simp [pys, deps, PyData.depthAll]
  | x :: xs, h => by
    simp only [plains, Bool.and_eq_true] at h
    simp only [pys, deps, PyData.depthAll, py_dep x h.1, py_deps xs h.2]
end
theorem pys_map : ∀ xs : List D, pys xs = xs.map D.py
  | [] => rfl
  | x :: xs => by simp [pys, pys_map xs]
mutual
theorem py_inj : ∀ d e : D, d.plain = true → e.plain = true → d.py = e.py → d = e
  | .non, e, _, he, h => by cases e <;> simp_all [D.py, D.plain]
  | .bl _, e, _, he, h => by cases e <;> simp_all [D.py, D.plain]
  | .int _, e, _, he, h => by cases e <;> simp_all [D.py, D.plain]
  | .str _, e, _, he, h => by cases e <;> simp_all [D.py, D.plain]
  | .tup xs, e, hd, he, h => by
    cases e with
    | tup ys =>
      simp only [D.py, PyData.tuple.injEq] at h
      rw [pys_inj xs ys (by simpa [D.plain] using hd) (by simpa [D.plain] using he) h]
    | _ => simp_all [D.py, D.plain]
  | .lst xs, e, hd, he, h => by
    cases e with
    | lst ys =>
      simp only [D.py, PyData.list.injEq] at h
      rw [pys_inj xs ys (by simpa [D.plain] using hd) (by simpa [D.plain] using he) h]
    | _ => simp_all [D.py, D.plain]
  | .dct _ _, _, h, _, _ => by simp [D.plain] at h
  | .ins _ _ _, _, h, _, _ => by simp [D.plain] at h
  | .ref _, _, h, _, _ => by simp [D.plain] at h
  | .exc _ _, _, h, _, _ => by simp [D.plain] at h
  | .scr _, _, h, _, _ => by simp [D.plain] at h
theorem pys_inj : ∀ xs ys : List D, plains xs = true → plains ys = true → pys xs = pys ys → xs = ys
  | [], [], _, _, _ => rfl
  | [], _ :: _, _, _, h => by simp [pys] at h
  | _ :: _, [], _, _, h => by simp [pys] at h
  | x :: xs, y :: ys, hx, hy, h => by
    simp only [plains, Bool.and_eq_true] at hx hy
    simp only [pys, List.cons.injEq] at h
    rw [py_inj x y hx.1 hy.1 h.1, pys_inj xs ys hx.2 hy.2 h.2]
end

section
variable {X : Cx} {pins : List (Addr × Obj)} {σ : St} {H : Hp} {s : Shared} {F : Hp} {M : List Addr}
mutual
/-- plain data is read off the heap -/
theorem RV.reads (I : Inv X pins σ H s) (sF : Same F H) : ∀ (d : D) (v : V) (u : Value), d.plain = true → RV X.K F M d v → RelV v u → ∃ as, Reads s.heap u d.py as
  | .non, _, _, _, .non, r => by cases r; exact ⟨_, .none⟩
  | .bl b, _, _, _, .bl _, r => by cases r; exact ⟨_, .bool b⟩
  | .int i, _, _, _, .int _, r => by obtain ⟨t, rfl⟩ := r; exact ⟨_, .int i t⟩
  | .str x, _, _, _, .str _, r => by obtain ⟨t, rfl⟩ := r; exact ⟨_, .str x t⟩
  | .tup xs, _, _, h, .tup q rs, r => by
    cases r
    obtain ⟨its, rv, ⟨o, ho, hc, n, hd⟩, _⟩ := I.tuple (sqT_mono sF q.sqT)
    obtain ⟨as, ra⟩ := RVs.reads I sF xs _ its (by simpa [D.plain] using h) rs rv
    simp only [D.py]
    exact ⟨_, .tuple ho hc hd (by simpa using ra)⟩
  | .lst xs, _, _, h, .lst q rs, r => by
    cases r
    obtain ⟨_, its, n, rv, ho⟩ := I.hok _ _ (sF _ _ q)
    obtain ⟨as, ra⟩ := RVs.reads I sF xs _ its (by simpa [D.plain] using h) rs rv
    simp only [D.py]
    exact ⟨_, .list ho rfl rfl (by simpa using ra)⟩
theorem RVs.reads (I : Inv X pins σ H s) (sF : Same F H) : ∀ (ds : List D) (vs : List V) (us : List Value), plains ds = true → RVs X.K F M ds vs → Vals vs us → ∃ as, ReadsAll s.heap us (pys ds) as
  | [], _, _, _, .nil, .nil => ⟨_, by simp only [pys]; exact .nil⟩
  | x :: xs, _, _, h, .cons a b, .cons p q => by
    simp only [plains, Bool.and_eq_true] at h
    obtain ⟨as, r1⟩ := RV.reads I sF x _ _ h.1 a p
    obtain ⟨bs, r2⟩ := RVs.reads I sF xs _ _ h.2 b q
    simp only [pys]
    exact ⟨_, .cons r1 r2⟩
end
theorem RVt.rv {d : D} {v : V} {K : PySem.W.Frag} (sF : Same F H) (h : RVt K F M H d v) : RV K H M d v := by
  rcases h with h | ⟨c, a, rfl, rfl, hc⟩
  · exact h.mono sF (.refl M)
  · exact hc.rv sF
theorem RVt.reads (I : Inv X pins σ H s) (sF : Same F H) {d : D} {v : V} {u : Value} (hp : d.plain = true) (h : RVt X.K F M H d v) (r : RelV v u) : ∃ as, Reads s.heap u d.py as := RV.reads I (.refl H) d v u hp (h.rv sF) r
end

section
variable {X : Cx}
/-- a two-place operation that tells a truth value -/
def rCmp (K : PySem.W.Frag) (f : D → D → Option Bool) : R2 := fun x y H Q => ∃ F M dx dy, Same F H ∧ RVt K F M H dx x ∧ RVt K F M H dy y ∧ optK (f dx dy) fun b => Q (.bl b) H
theorem D.ok_plain {d : D} (h : d.ok = true) : d.plain = true ∧ d.dep ≤ 60 := by
  unfold D.ok at h
  simpa using h
theorem eqSem_some {a b : D} {r : Bool} (h : eqSem a b = some r) : (a.ok = true ∧ b.ok = true ∧ r = eqD a b) ∨ (∃ xs, a = .lst xs ∧ b = .lst [] ∧ r = xs.isEmpty) ∨ ∃ xs, a = .tup xs ∧ b = .tup [] ∧ r = xs.isEmpty := by
  unfold eqSem at h
  split at h
  · rename_i h1
    simp only [Bool.and_eq_true] at h1
    cases h
    exact .inl ⟨h1.1, h1.2, rfl⟩
  · unfold eqNil at h
    split at h
    · cases h
      exact .inr (.inl ⟨_, rfl, rfl, rfl⟩)
    · cases h
      exact .inr (.inr ⟨_, rfl, rfl, rfl⟩)
    · cases h
theorem ltSem_some {a b : D} {r : Bool} (h : ltSem a b = some r) : a.ok = true ∧ b.ok = true ∧ PySem.W.alike a.py b.py = true ∧ a.py ≠ .none ∧ r = ltD a b := by
  unfold ltSem at h
  split at h
  · rename_i h1
    simp only [Bool.and_eq_true] at h1
    cases h
    refine ⟨h1.1.1.1, h1.1.1.2, h1.1.2, ?_, rfl⟩
    have hp := (D.ok_plain h1.1.1.1).1
    have hn := h1.2
    cases a <;> simp_all [D.py, D.plain, notNon]
  · cases h
theorem op_EqS (hu : X.A.units + 64 < cLine) : OpR X (compareOp .Eq) (rCmp X.K eqSem) := by
  intro pins s σ H x y v u Q I rx ry h
  obtain ⟨F, M, dx, dy, sF, hx, hy, h⟩ := h
  obtain ⟨o, ho, h⟩ := optK_ex h
  rcases eqSem_some ho with ⟨h1, h2, rfl⟩ | ⟨xs, rfl, rfl, rfl⟩ | ⟨xs, rfl, rfl, rfl⟩
  · obtain ⟨p1, d1⟩ := D.ok_plain h1
    obtain ⟨p2, d2⟩ := D.ok_plain h2
    obtain ⟨as, r1⟩ := hx.reads I sF p1 rx
    obtain ⟨bs, r2⟩ := hy.reads I sF p2 ry
    refine SeqAt.eq_plain r1 r2 (py_plain _ p1) (py_plain _ p2) ?_ ⟨.bl _, H, I, rfl, h⟩
    rw [py_dep _ p1]
    omega
  · obtain ⟨a, vs, rfl, ha, r1⟩ := hx.lst sF
    obtain ⟨b, ws, rfl, hb, r2⟩ := hy.lst sF
    cases r2
    cases (show v = Value.ref a from rx)
    cases (show u = Value.ref b from ry)
    obtain ⟨z, its, n, q1, _, o1⟩ := I.lstM ha
    obtain ⟨z2, its2, n2, q2, _, o2⟩ := I.lstM hb
    cases q2
    have l1 : s.heap.IsList a its.toArray := ⟨_, o1, rfl, _, rfl⟩
    have l2 : s.heap.IsList b #[] := ⟨_, o2, rfl, _, rfl⟩
    have hu0 : X.A.units < cLine := by omega
    have e1 := q1.length
    have e2 := r1.length
    by_cases hn : its = []
    · subst hn
      have : xs = [] := List.length_eq_zero_iff.mp (by rw [e2, e1]; rfl)
      subst this
      exact SeqAt.RcAt.lists (e := fun _ => true) l1 l2 rfl hu0 (fun j h1 => by simp at h1) X.prog X.w _ _ ⟨.bl _, H, I, by rfl, h⟩
    · have : xs ≠ [] := fun q => hn (List.length_eq_zero_iff.mp (by rw [← e1, ← e2, q]; rfl))
      have e : xs.isEmpty = false := by cases xs <;> simp_all
      rw [e] at h
      exact SeqAt.RcAt.lists_lengths l1 l2 (by simp [hn]) hu0 X.prog X.w _ _ ⟨.bl _, H, I, rfl, h⟩
  · obtain ⟨a, vs, rfl, ha, _, r1⟩ := hx.tup sF
    obtain ⟨b, ws, rfl, hb, _, r2⟩ := hy.tup sF
    cases r2
    cases (show v = Value.ref a from rx)
    cases (show u = Value.ref b from ry)
    obtain ⟨its, q1, t1, _⟩ := I.tuple ha
    obtain ⟨its2, q2, t2, _⟩ := I.tuple hb
    cases q2
    have hu0 : X.A.units < cLine := by omega
    have e1 := q1.length
    have e2 := r1.length
    have e : xs.isEmpty = ((List.range (min its.toArray.size (#[] : Array Value).size)).all (fun _ => true) && its.toArray.size == (#[] : Array Value).size) := by
      cases its with
      | nil =>
        have : xs = [] := List.length_eq_zero_iff.mp (by rw [e2, e1]; rfl)
        subst this
        rfl
      | cons i its =>
        cases xs with
        | nil => simp at e1 e2; omega
        | cons x xs => rfl
    rw [e] at h
    exact SeqAt.RcAt.tuples (e := fun _ => true) t1 t2 hu0 (fun j h1 h2 => by simp at h2) X.prog X.w _ _ ⟨.bl _, H, I, rfl, h⟩
theorem op_NeS (hu : X.A.units + 64 < cLine) : OpR X (compareOp .NotEq) (rCmp X.K fun a b => (eqSem a b).map (!·)) := by
  intro pins s σ H x y v u Q I rx ry h
  obtain ⟨F, M, dx, dy, sF, hx, hy, h⟩ := h
  obtain ⟨o, ho, h⟩ := optK_ex h
  obtain ⟨r, hr, rfl⟩ := Option.map_eq_some_iff.mp ho
  rcases eqSem_some hr with ⟨h1, h2, rfl⟩ | ⟨xs, rfl, rfl, rfl⟩ | ⟨xs, rfl, rfl, rfl⟩
  · obtain ⟨p1, d1⟩ := D.ok_plain h1
    obtain ⟨p2, d2⟩ := D.ok_plain h2
    obtain ⟨as, r1⟩ := hx.reads I sF p1 rx
    obtain ⟨bs, r2⟩ := hy.reads I sF p2 ry
    refine SeqAt.ne_plain r1 r2 (py_plain _ p1) (py_plain _ p2) ?_ ⟨.bl _, H, I, rfl, h⟩
    rw [py_dep _ p1]
    omega
  · obtain ⟨a, vs, rfl, ha, r1⟩ := hx.lst sF
    obtain ⟨b, ws, rfl, hb, r2⟩ := hy.lst sF
    cases r2
    cases (show v = Value.ref a from rx)
    cases (show u = Value.ref b from ry)
    obtain ⟨z, its, n, q1, _, o1⟩ := I.lstM ha
    obtain ⟨z2, its2, n2, q2, _, o2⟩ := I.lstM hb
    cases q2
    have l1 : s.heap.IsList a its.toArray := ⟨_, o1, rfl, _, rfl⟩
    have l2 : s.heap.IsList b #[] := ⟨_, o2, rfl, _, rfl⟩
    have hu0 : X.A.units < cLine := by omega
    have e1 := q1.length
    have e2 := r1.length
    by_cases hn : its = []
    · subst hn
      have : xs = [] := List.length_eq_zero_iff.mp (by rw [e2, e1]; rfl)
      subst this
      exact SeqAt.RcNeAt.lists (e := fun _ => true) l1 l2 rfl hu0 (fun j h1 => by simp at h1) X.prog X.w _ _ ⟨.bl _, H, I, by rfl, h⟩
    · have : xs ≠ [] := fun q => hn (List.length_eq_zero_iff.mp (by rw [← e1, ← e2, q]; rfl))
      have e : xs.isEmpty = false := by cases xs <;> simp_all
      rw [e] at h
      exact SeqAt.RcNeAt.lists_lengths l1 l2 (by simp [hn]) hu0 X.prog X.w _ _ ⟨.bl _, H, I, rfl, h⟩
  · obtain ⟨a, vs, rfl, ha, _, r1⟩ := hx.tup sF
    obtain ⟨b, ws, rfl, hb, _, r2⟩ := hy.tup sF
    cases r2
    cases (show v = Value.ref a from rx)
    cases (show u = Value.ref b from ry)
    obtain ⟨its, q1, t1, _⟩ := I.tuple ha
    obtain ⟨its2, q2, t2, _⟩ := I.tuple hb
    cases q2
    have hu0 : X.A.units < cLine := by omega
    have e1 := q1.length
    have e2 := r1.length
    have e : xs.isEmpty = ((List.range (min its.toArray.size (#[] : Array Value).size)).all (fun _ => true) && its.toArray.size == (#[] : Array Value).size) := by
      cases its with
      | nil =>
        have : xs = [] := List.length_eq_zero_iff.mp (by rw [e2, e1]; rfl)
        subst this
        rfl
      | cons i its =>
        cases xs with
        | nil => simp at e1 e2; omega
        | cons x xs => rfl
    rw [e] at h
    exact SeqAt.RcNeAt.tuples (e := fun _ => true) t1 t2 hu0 (fun j h1 h2 => by simp at h2) X.prog X.w _ _ ⟨.bl _, H, I, rfl, h⟩
/-- the four orders -/
theorem op_LtS (hu : X.A.units + 64 < cLine) : OpR X (compareOp .Lt) (rCmp X.K ltSem) := by
  intro pins s σ H x y v u Q I rx ry h
  obtain ⟨F, M, dx, dy, sF, hx, hy, h⟩ := h
  obtain ⟨o, ho, h⟩ := optK_ex h
  obtain ⟨h1, h2, h3, h4, rfl⟩ := ltSem_some ho
  obtain ⟨p1, d1⟩ := D.ok_plain h1
  obtain ⟨p2, d2⟩ := D.ok_plain h2
  obtain ⟨as, r1⟩ := hx.reads I sF p1 rx
  obtain ⟨bs, r2⟩ := hy.reads I sF p2 ry
  refine PySem.W.lt_data r1 r2 h3 h4 ?_ ⟨.bl _, H, I, rfl, h⟩
  rw [py_dep _ p1]
  omega
theorem alike_symm {a b : PyData} (h : PySem.W.alike a b = true) : PySem.W.alike b a = true := by rw [PySem.W.alike_comm]; exact h
theorem alike_none {a b : PyData} (h : PySem.W.alike a b = true) (hn : a ≠ .none) : b ≠ .none := fun e => by
  subst e
  cases a <;> simp_all [PySem.W.alike]
theorem op_GtS (hu : X.A.units + 64 < cLine) : OpR X (compareOp .Gt) (rCmp X.K fun a b => ltSem b a) := by
  intro pins s σ H x y v u Q I rx ry h
  obtain ⟨F, M, dx, dy, sF, hx, hy, h⟩ := h
  obtain ⟨o, ho, h⟩ := optK_ex h
  obtain ⟨h2, h1, h3, h4, rfl⟩ := ltSem_some ho
  obtain ⟨p1, d1⟩ := D.ok_plain h1
  obtain ⟨p2, d2⟩ := D.ok_plain h2
  obtain ⟨as, r1⟩ := hx.reads I sF p1 rx
  obtain ⟨bs, r2⟩ := hy.reads I sF p2 ry
  refine PySem.W.gt_data r1 r2 (alike_symm h3) (alike_none h3 h4) ?_ ⟨.bl _, H, I, rfl, h⟩
  rw [py_dep _ p1]
  omega
theorem op_LeS (hu : X.A.units + 64 < cLine) : OpR X (compareOp .LtE) (rCmp X.K fun a b => (ltSem b a).map (!·)) := by
  intro pins s σ H x y v u Q I rx ry h
  obtain ⟨F, M, dx, dy, sF, hx, hy, h⟩ := h
  obtain ⟨o, ho, h⟩ := optK_ex h
  obtain ⟨r, hr, rfl⟩ := Option.map_eq_some_iff.mp ho
  obtain ⟨h2, h1, h3, h4, rfl⟩ := ltSem_some hr
  obtain ⟨p1, d1⟩ := D.ok_plain h1
  obtain ⟨p2, d2⟩ := D.ok_plain h2
  obtain ⟨as, r1⟩ := hx.reads I sF p1 rx
  obtain ⟨bs, r2⟩ := hy.reads I sF p2 ry
  refine PySem.W.le_data r1 r2 (alike_symm h3) (alike_none h3 h4) ?_ ⟨.bl _, H, I, rfl, h⟩
  rw [py_dep _ p1]
  omega
theorem op_GeS (hu : X.A.units + 64 < cLine) : OpR X (compareOp .GtE) (rCmp X.K fun a b => (ltSem a b).map (!·)) := by
  intro pins s σ H x y v u Q I rx ry h
  obtain ⟨F, M, dx, dy, sF, hx, hy, h⟩ := h
  obtain ⟨o, ho, h⟩ := optK_ex h
  obtain ⟨r, hr, rfl⟩ := Option.map_eq_some_iff.mp ho
  obtain ⟨h1, h2, h3, h4, rfl⟩ := ltSem_some hr
  obtain ⟨p1, d1⟩ := D.ok_plain h1
  obtain ⟨p2, d2⟩ := D.ok_plain h2
  obtain ⟨as, r1⟩ := hx.reads I sF p1 rx
  obtain ⟨bs, r2⟩ := hy.reads I sF p2 ry
  refine PySem.W.ge_data r1 r2 h3 h4 ?_ ⟨.bl _, H, I, rfl, h⟩
  rw [py_dep _ p1]
  omega
theorem op_Lt (hu : X.A.units + 64 < cLine) : OpR X (compareOp .Lt) (rCmp X.K (cmpSem .lt)) := by
  intro pins s σ H x y v u Q I rx ry h
  obtain ⟨F, M, dx, dy, sF, hx, hy, h⟩ := h
  unfold cmpSem at h
  split at h <;> try (rename_i q1 q2; cases q1; done)
  any_goals cases ‹CmpO.lt = _›
  all_goals first
    | (obtain rfl := hx.int; obtain rfl := hy.int; exact op_lt pins s σ H _ _ v u Q I rx ry ⟨_, _, rfl, rfl, h⟩)
    | exact op_LtS hu pins s σ H x y v u Q I rx ry ⟨F, M, _, _, sF, hx, hy, h⟩
end
end HP

set_option maxHeartbeats 2000000
/-! HpTab1: dicts whose keys are nested tuples: the small language's and the heap's. -/
namespace HP
open PySem L2
variable [LamT] {β : Bs} {κ : Pk}
mutual
theorem nk_noTx : ∀ (d : D) (k : NK), nk d = some k → noTx k = true
  | .non, k, h => by rw [nk] at h; cases h; rfl
  | .bl _, k, h => by rw [nk] at h; cases h; rfl
  | .int _, k, h => by rw [nk] at h; cases h; rfl
  | .tup xs, k, h => by
    rw [nk] at h
    obtain ⟨ks, h1, rfl⟩ := Option.map_eq_some_iff.mp h
    exact nks_noTx xs ks h1
  | .str _, _, h => by simp [nk] at h
  | .lst _, _, h => by simp [nk] at h
  | .dct _ _, _, h => by simp [nk] at h
  | .ins _ _ _, _, h => by simp [nk] at h
  | .ref _, _, h => by simp [nk] at h
  | .exc _ _, _, h => by simp [nk] at h
  | .scr _, _, h => by simp [nk] at h
  | .tab _ _, _, h => by simp [nk] at h
theorem nks_noTx : ∀ (ds : List D) (ks : List NK), nks ds = some ks → noTxs ks = true
  | [], ks, h => by rw [nks] at h; cases h; rfl
  | x :: xs, ks, h => by
    rw [nks] at h
    split at h
    · rename_i k1 k2 e1 e2
      cases h
      rw [noTxs, nk_noTx x _ e1, nks_noTx xs _ e2]
      rfl
    · cases h
end
theorem nks_cons {x : D} {xs : List D} {ks : List NK} (h : nks (x :: xs) = some ks) : ∃ k r, ks = k :: r ∧ nk x = some k ∧ nks xs = some r := by
  rw [nks] at h
  split at h
  · rename_i k1 k2 e1 e2
    cases h
    exact ⟨_, _, rfl, e1, e2⟩
  · cases h
theorem nks_cons_of {x : D} {xs : List D} {k : NK} {r : List NK} (h1 : nk x = some k) (h2 : nks xs = some r) : nks (x :: xs) = some (k :: r) := by rw [nks, h1, h2]
theorem nks_app {x : D} {k : NK} (h1 : nk x = some k) : ∀ {xs : List D} {r : List NK}, nks xs = some r → nks (xs ++ [x]) = some (r ++ [k])
  | [], r, h => by
    rw [nks] at h
    cases h
    exact nks_cons_of h1 rfl
  | y :: xs, r, h => by
    obtain ⟨k2, r2, rfl, e1, e2⟩ := nks_cons h
    exact nks_cons_of e1 (nks_app h1 e2)
theorem tkey_some {d : D} (h : tkey d = true) : ∃ k xs, nk d = some k ∧ k.depth ≤ 8 ∧ noTx k = true ∧ d = .tup xs := by
  unfold tkey at h
  rw [Bool.and_eq_true] at h
  obtain ⟨h1, h2⟩ := h
  split at h2
  · rename_i k e
    cases d <;> simp [isTup] at h1
    exact ⟨k, _, e, of_decide_eq_true h2, nk_noTx _ _ e, rfl⟩
  · cases h2
section
variable {X : Cx} {pins : List (Addr × Obj)} {σ : L2.St} {H : Hp} {s : Shared} {F : Hp} {M : List Addr}
mutual
theorem RV.nkIs (I : Inv X pins σ H s) (sF : Same F H) : ∀ (d : D) (v : V) (u : Value) (k : NK), nk d = some k → RV X.K F M d v → RelV v u → NestedIs s.heap k u
  | .non, _, _, _, h, .non, r => by rw [nk] at h; cases h; cases r; exact .none
  | .bl b, _, _, _, h, .bl _, r => by rw [nk] at h; cases h; cases r; exact .bool rfl
  | .int i, _, _, _, h, .int _, r => by rw [nk] at h; cases h; obtain ⟨t, rfl⟩ := r; exact .int i t
  | .tup xs, _, _, _, h, .tup q rs, r => by
    cases r
    rw [nk] at h
    obtain ⟨ks, h1, rfl⟩ := Option.map_eq_some_iff.mp h
    obtain ⟨its, rv, ⟨o, ho, hc, n, hd⟩, _⟩ := I.tuple (sqT_mono sF q.sqT)
    exact .tup ho hc hd (by simpa using RVs.nkIs I sF xs _ its ks h1 rs rv)
  | .str _, _, _, _, h, _, _ => by simp [nk] at h
  | .lst _, _, _, _, h, _, _ => by simp [nk] at h
  | .dct _ _, _, _, _, h, _, _ => by simp [nk] at h
  | .ins _ _ _, _, _, _, h, _, _ => by simp [nk] at h
  | .ref _, _, _, _, h, _, _ => by simp [nk] at h
  | .exc _ _, _, _, _, h, _, _ => by simp [nk] at h
  | .scr _, _, _, _, h, _, _ => by simp [nk] at h
  | .tab _ _, _, _, _, h, _, _ => by simp [nk] at h
theorem RVs.nkIs (I : Inv X pins σ H s) (sF : Same F H) : ∀ (ds : List D) (vs : List V) (us : List Value) (ks : List NK), nks ds = some ks → RVs X.K F M ds vs → Vals vs us → NestedAll s.heap ks us
  | [], _, _, _, h, .nil, .nil => by rw [nks] at h; cases h; exact .nil
  | x :: xs, _, _, _, h, .cons a b, .cons p q => by
    obtain ⟨k, r, rfl, h1, h2⟩ := nks_cons h
    exact .cons (RV.nkIs I sF x _ _ k h1 a p) (RVs.nkIs I sF xs _ _ r h2 b q)
end
/-- a value that is a key -/
theorem RVt.keyIs (I : Inv X pins σ H s) (sF : Same F H) {d : D} {v : V} {u : Value} (ht : tkey d = true) (h : RVt X.K F M H d v) (r : RelV v u) : ∃ k b, nk d = some k ∧ v = .ref b ∧ u = .ref b ∧ isKey X s k b ∧ noTx k = true ∧ RV X.K F M d (.ref b) := by
  obtain ⟨k, xs, h1, h2, h3, rfl⟩ := tkey_some ht
  obtain ⟨a, vs, rfl, _, q, rs⟩ := h.tup sF
  cases (show u = Value.ref a from r)
  exact ⟨k, a, h1, rfl, rfl, ⟨RV.nkIs I sF _ _ _ k h1 (.tup q rs) rfl, h2⟩, h3, .tup q rs⟩
theorem tabKeys_of (I : Inv X pins σ H s) (sF : Same F H) : ∀ {ks : List D} {xs : List Ent}, nks ks = some (xs.map (·.1)) → ks.all tkey = true → RVs X.K F M ks (xs.map fun x => .ref x.2.1) → ∀ x ∈ xs, isKey X s x.1 x.2.1 ∧ noTx x.1 = true
  | [], [], _, _, _ => fun x hx => absurd hx (by simp)
  | [], _ :: _, _, _, h => by cases h
  | _ :: _, [], _, _, h => by cases h
  | d :: ks, x :: xs, hn, ht, .cons a b => by
    obtain ⟨k, r, e, h1, h2⟩ := nks_cons hn
    rw [List.map_cons] at e
    cases e
    rw [List.all_cons, Bool.and_eq_true] at ht
    intro y hy
    rcases List.mem_cons.mp hy with rfl | hy
    · obtain ⟨k2, b2, e2, e3, _, e5, e6, _⟩ := RVt.keyIs I sF (u := .ref y.2.1) ht.1 (.inl a) rfl
      rw [h1] at e2
      cases e2
      cases e3
      exact ⟨e5, e6⟩
    · exact tabKeys_of I sF h2 ht.2 b y hy
theorem tabAt_of {d : D} {k : NK} (hd : nk d = some k) : ∀ {ks : List D} {xs : List Ent}, nks ks = some (xs.map (·.1)) → tabAt ks d = xs.findIdx? fun x => decide (x.1 = k)
  | [], [], _ => rfl
  | [], _ :: _, h => by simp [nks] at h
  | _ :: _, [], h => by
    obtain ⟨_, _, e, _⟩ := nks_cons h
    cases e
  | y :: ks, x :: xs, h => by
    obtain ⟨k2, r, e, h1, h2⟩ := nks_cons h
    rw [List.map_cons] at e
    cases e
    have ih := tabAt_of hd h2
    unfold tabAt at ih ⊢
    rw [List.findIdx?_cons, List.findIdx?_cons, h1, ih]
    simp only [hd, Option.some.injEq]
theorem getT_rel {K : PySem.W.Frag} {d : D} {k : NK} (hd : nk d = some k) : ∀ {ks vs : List D} {xs : List Ent}, nks ks = some (xs.map (·.1)) → RVs K F M vs (xs.map (·.2.2)) → (getT ks vs d = none ∧ tget xs k = none) ∨ ∃ e v, getT ks vs d = some e ∧ tget xs k = some v ∧ RV K F M e v
  | [], [], [], _, _ => .inl ⟨rfl, rfl⟩
  | [], _, _ :: _, h, _ => by simp [nks] at h
  | _ :: _, _, [], h, _ => by
    obtain ⟨_, _, e, _⟩ := nks_cons h
    cases e
  | y :: ks, v :: vs, x :: xs, h, .cons a b => by
    obtain ⟨k2, r, e, h1, h2⟩ := nks_cons h
    rw [List.map_cons] at e
    cases e
    have ih := getT_rel hd h2 b
    unfold getT tget at ih ⊢
    rw [tabAt_of hd h2] at ih
    rw [tabAt_of hd h, List.findIdx?_cons, List.find?_cons]
    by_cases q : x.1 = k
    · rw [decide_eq_true q]
      exact .inr ⟨v, x.2.2, rfl, rfl, a⟩
    · rw [decide_eq_false q]
      rcases ih with ⟨i1, i2⟩ | ⟨e, w, i1, i2, i3⟩
      · refine .inl ⟨?_, i2⟩
        cases hf : xs.findIdx? (fun x => decide (x.1 = k)) with
        | none => rfl
        | some j => rw [hf] at i1; simpa using i1
      · refine .inr ⟨e, w, ?_, i2, i3⟩
        cases hf : xs.findIdx? (fun x => decide (x.1 = k)) with
        | none => rw [hf] at i1; cases i1
        | some j => rw [hf] at i1; simpa using i1
theorem tabAt_some {d : D} {k : NK} (hd : nk d = some k) {ks : List D} {xs : List Ent} (h : nks ks = some (xs.map (·.1))) : (tabAt ks d).isSome = (tget xs k).isSome := by
  rw [tabAt_of hd h]
  unfold tget
  rw [Option.isSome_map]
  clear h
  induction xs with
  | nil => rfl
  | cons x xs ih =>
    rw [List.findIdx?_cons, List.find?_cons]
    cases decide (x.1 = k) with
    | true => rfl
    | false => simpa using ih
theorem tput_keys (xs : List Ent) (k : NK) (b : Addr) (v : V) (h : (tget xs k).isSome = true) : (tput xs k b v).map (·.1) = xs.map (·.1) ∧ ((tput xs k b v).map fun x => V.ref x.2.1) = xs.map fun x => V.ref x.2.1 := by
  unfold tput
  rw [if_pos h, List.map_map, List.map_map]
  constructor
  · refine List.map_congr_left fun x _ => ?_
    show (if x.1 = k then (x.1, x.2.1, v) else x).1 = x.1
    split <;> rfl
  · refine List.map_congr_left fun x _ => ?_
    show V.ref (if x.1 = k then (x.1, x.2.1, v) else x).2.1 = V.ref x.2.1
    split <;> rfl
theorem nks_nodup_app {xs : List Ent} {k : NK} (hn : (xs.map (·.1)).Nodup) (h : tget xs k = none) : (xs.map (·.1) ++ [k]).Nodup := by
  rw [List.nodup_append]
  refine ⟨hn, by simp, fun a ha b hb => ?_⟩
  cases List.mem_singleton.mp hb
  intro e
  subst e
  obtain ⟨x, hx, rfl⟩ := List.mem_map.mp ha
  unfold tget at h
  rw [Option.map_eq_none_iff, List.find?_eq_none] at h
  exact h x hx (decide_eq_true rfl)
/-- behind a store -/
theorem putT_rel {K : PySem.W.Frag} {d e : D} {k : NK} {b : Addr} {u : V} (hd : nk d = some k) (ht : tkey d = true) (rk : RV K F M d (.ref b)) (rv : RV K F M e u) {ks vs : List D} {xs : List Ent} (h1 : nks ks = some (xs.map (·.1))) (h2 : ks.all tkey = true)
    (h3 : RVs K F M ks (xs.map fun x => .ref x.2.1)) (h4 : (xs.map (·.1)).Nodup) (h5 : RVs K F M vs (xs.map (·.2.2))) :
    nks (putT ks vs d e).1 = some ((tput xs k b u).map (·.1)) ∧ (putT ks vs d e).1.all tkey = true ∧ RVs K F M (putT ks vs d e).1 ((tput xs k b u).map fun x => .ref x.2.1) ∧ ((tput xs k b u).map (·.1)).Nodup ∧ RVs K F M (putT ks vs d e).2 ((tput xs k b u).map (·.2.2)) := by
  have hs0 := tabAt_some hd h1
  unfold putT
  cases hi : tabAt ks d with
  | some i =>
    rw [hi] at hs0
    have hs : (tget xs k).isSome = true := hs0.symm
    clear hs0
    obtain ⟨t1, t2⟩ := tput_keys xs k b u hs
    dsimp only
    rw [t1, t2]
    refine ⟨h1, h2, h3, h4, ?_⟩
    rw [tabAt_of hd h1] at hi
    clear t1 t2 h1 h2 h3 rk
    unfold tput
    rw [if_pos hs]
    clear hs
    induction xs generalizing vs i with
    | nil => simp at hi
    | cons x xs ih =>
      cases h5 with
      | @cons v0 vs0 _ _ a r =>
      rw [List.findIdx?_cons] at hi
      rw [List.map_cons, List.nodup_cons] at h4
      by_cases q : x.1 = k
      · rw [decide_eq_true q] at hi
        cases hi
        rw [List.map_cons, List.map_cons, if_pos q, List.set_cons_zero]
        refine .cons rv ?_
        have hne : ∀ y ∈ xs, y.1 ≠ k := fun y hy z => h4.1 (by rw [q, ← z]; exact List.mem_map.mpr ⟨y, hy, rfl⟩)
        have : (xs.map fun x => if x.1 = k then (x.1, x.2.1, u) else x) = xs := by
          conv => rhs; rw [← List.map_id xs]
          exact List.map_congr_left fun y hy => if_neg (hne y hy)
        rw [this]
        exact r
      · rw [decide_eq_false q] at hi
        cases hf : xs.findIdx? (fun x => decide (x.1 = k)) with
        | none => rw [hf] at hi; cases hi
        | some j =>
          rw [hf] at hi
          cases (show some (j + 1) = some i from hi)
          rw [List.map_cons, List.map_cons, if_neg q, List.set_cons_succ]
          exact .cons a (ih h4.2 r j hf)
  | none =>
    rw [hi] at hs0
    have hs : (tget xs k).isSome = false := hs0.symm
    have hn : tget xs k = none := by
      cases q : tget xs k with
      | none => rfl
      | some _ => rw [q] at hs; cases hs
    dsimp only
    unfold tput
    rw [hs, if_neg Bool.false_ne_true, List.map_append, List.map_append, List.map_append]
    refine ⟨nks_app hd h1, ?_, h3.append (.cons rk .nil), nks_nodup_app h4 hn, h5.append (.cons rv .nil)⟩
    rw [List.all_append, h2, List.all_cons, ht]
    rfl
end
end HP

set_option maxHeartbeats 2000000
/-! HpTab2: len, list, display of dicts whose keys are nested tuples. -/
namespace HP
open PySem L2
variable [LamT] {β : Bs} {κ : Pk}
abbrev dict0 : Obj := { cls := .type "dict", data := .dict #[] }
section
variable {X : Cx} {pins : List (Addr × Obj)} {σ : L2.St} {H : Hp} {s : Shared} {E : Value → Shared → Prop} {a : Addr} {xs : List Ent} {o : Obj}
theorem tab_type (I : Inv X pins σ H s) (e : H a = some (tabO a xs o)) : s.TypeIs (.ref a) "dict" := by
  obtain ⟨_, _, _, o, _, _, _, ho, hx, _⟩ := Inv.tab I e
  exact ⟨o, ho, hx.1⟩
theorem t_len {Q : Value → Shared → Prop} {A : Around} (I : Inv X pins σ H s) (e : H a = some (tabO a xs o)) (t : TabKeys X.prog X.w s.heap xs) (h : ∀ u s', Inv X pins σ H s' → RelV (.int xs.length) u → Q u s') :
    wpAny (model X.prog X.w) A (call (.builtin "len") [.ref a]) Q E s := by
  obtain ⟨ys, p, dd⟩ := tab_dict (Inv.tab I e) t
  have hl : ys.length = xs.length := (Paired.length p).symm
  have hz := (Inv.tab I e).1
  refine call_len_dictH (knd := nestedKind X.prog X.w) (Inv.tab I e).2.1 dd (by rw [hl]; rw [sizeLine_eq] at hz; omega) ?_
  rw [hl]
  exact h _ _ (I.tok _) ⟨_, rfl⟩
end
end HP

set_option maxHeartbeats 2000000
/-! HpOps3: the other comparisons, truth, subscripts, slices. -/
namespace HP
open PySem L2
variable [LamT] {β : Bs} {κ : Pk}

section
variable {X : Cx}
theorem op_Gt (hu : X.A.units + 64 < cLine) : OpR X (compareOp .Gt) (rCmp X.K (cmpSem .gt)) := by
  intro pins s σ H x y v u Q I rx ry h
  obtain ⟨F, M, dx, dy, sF, hx, hy, h⟩ := h
  unfold cmpSem at h
  split at h <;> try (rename_i q1 q2; cases q1; done)
  any_goals cases ‹CmpO.gt = _›
  all_goals first
    | (obtain rfl := hx.int; obtain rfl := hy.int; exact op_gt pins s σ H _ _ v u Q I rx ry ⟨_, _, rfl, rfl, h⟩)
    | exact op_GtS hu pins s σ H x y v u Q I rx ry ⟨F, M, _, _, sF, hx, hy, h⟩
theorem op_Le (hu : X.A.units + 64 < cLine) : OpR X (compareOp .LtE) (rCmp X.K (cmpSem .le)) := by
  intro pins s σ H x y v u Q I rx ry h
  obtain ⟨F, M, dx, dy, sF, hx, hy, h⟩ := h
  unfold cmpSem at h
  split at h <;> try (rename_i q1 q2; cases q1; done)
  any_goals cases ‹CmpO.le = _›
  all_goals first
    | (obtain rfl := hx.int; obtain rfl := hy.int; exact op_le pins s σ H _ _ v u Q I rx ry ⟨_, _, rfl, rfl, h⟩)
    | exact op_LeS hu pins s σ H x y v u Q I rx ry ⟨F, M, _, _, sF, hx, hy, h⟩
theorem op_Ge (hu : X.A.units + 64 < cLine) : OpR X (compareOp .GtE) (rCmp X.K (cmpSem .ge)) := by
  intro pins s σ H x y v u Q I rx ry h
  obtain ⟨F, M, dx, dy, sF, hx, hy, h⟩ := h
  unfold cmpSem at h
  split at h <;> try (rename_i q1 q2; cases q1; done)
  any_goals cases ‹CmpO.ge = _›
  all_goals first
    | (obtain rfl := hx.int; obtain rfl := hy.int; exact op_ge pins s σ H _ _ v u Q I rx ry ⟨_, _, rfl, rfl, h⟩)
    | exact op_GeS hu pins s σ H x y v u Q I rx ry ⟨F, M, _, _, sF, hx, hy, h⟩
theorem RVt.notNon {K : PySem.W.Frag} {F : Hp} {M : List Addr} {H : Hp} {d : D} {v : V} (h : RVt K F M H d v) (hv : v = .non) : d = .non := by
  subst hv
  rcases h with h | ⟨c, a, e, e2, _⟩
  · cases h
    · rfl
  · cases e2
theorem isSem_non {K : PySem.W.Frag} {F : Hp} {M : List Addr} {H : Hp} {d : D} {v : V} (h : RVt K F M H d v) : (!notNon d) = decide (v = .non) := by
  by_cases hv : v = .non
  · have := h.notNon hv
    subst this
    simp [hv, notNon]
  · have : d ≠ .non := fun e => by
      subst e
      exact hv h.non
    cases d <;> simp_all [notNon]
theorem isSem_cases {a b : D} {r : Bool} (h : isSem a b = some r) : (b = .non ∧ r = !notNon a) ∨ ∃ x y, a = .bl x ∧ b = .bl y ∧ r = (x == y) := by
  unfold isSem at h
  split at h
  · cases h; exact .inl ⟨rfl, rfl⟩
  · cases h; exact .inr ⟨_, _, rfl, rfl, rfl⟩
  · cases h
theorem op_Is : OpR X (compareOp .Is) (rCmp X.K (cmpSem .is)) := by
  intro pins s σ H x y v u Q I rx ry h
  obtain ⟨F, M, dx, dy, sF, hx, hy, h⟩ := h
  obtain ⟨o, ho, h⟩ := optK_ex h
  simp only [cmpSem] at ho
  rcases isSem_cases ho with ⟨rfl, rfl⟩ | ⟨a, b, rfl, rfl, rfl⟩
  · obtain rfl := hy.non
    rw [isSem_non hx] at h
    exact op_isN pins s σ H _ _ v u Q I rx ry ⟨rfl, h⟩
  · obtain rfl := hx.bl
    obtain rfl := hy.bl
    exact op_isBl pins s σ H _ _ v u Q I rx ry ⟨_, _, rfl, rfl, by rw [Bool.beq_eq_decide_eq] at h; exact h⟩
theorem op_IsN : OpR X (compareOp .IsNot) (rCmp X.K (cmpSem .isn)) := by
  intro pins s σ H x y v u Q I rx ry h
  obtain ⟨F, M, dx, dy, sF, hx, hy, h⟩ := h
  obtain ⟨o, ho, h⟩ := optK_ex h
  simp only [cmpSem] at ho
  obtain ⟨r, hr, rfl⟩ := Option.map_eq_some_iff.mp ho
  rcases isSem_cases hr with ⟨rfl, rfl⟩ | ⟨a, b, rfl, rfl, rfl⟩
  · obtain rfl := hy.non
    rw [isSem_non hx] at h
    exact op_notN pins s σ H _ _ v u Q I rx ry ⟨rfl, h⟩
  · obtain rfl := hx.bl
    obtain rfl := hy.bl
    exact op_notBl pins s σ H _ _ v u Q I rx ry ⟨_, _, rfl, rfl, by rw [Bool.beq_eq_decide_eq] at h; exact h⟩

/-! ### dicts -/
theorem keyD_inj {a b : Key} : eqD (keyD a) (keyD b) = decide (a = b) := by
  cases a <;> cases b <;> simp [eqD, keyD, D.py, PyData.eqv]
  all_goals rename_i a b
  all_goals by_cases h : a = b
  all_goals simp_all
theorem keyAt_map {β : Type} (k : Key) : ∀ kvs : List (Key × β), keyAt (kvs.map fun p => keyD p.1) (keyD k) = kvs.findIdx? fun p => decide (p.1 = k)
  | [] => rfl
  | p :: r => by
    have ih := keyAt_map k r
    unfold keyAt at ih ⊢
    rw [List.map_cons, List.findIdx?_cons, List.findIdx?_cons, ih, keyD_inj]
/-- a fit key of a dict whose keys are ints and texts -/
theorem keyFits_of {k : D} {K : PySem.W.Frag} {F : Hp} {M : List Addr} {H : Hp} {v : V} (h : RVt K F M H k v) {ks : List D} (hf : keyFits ks k = true) : ∃ q : Key, k = keyD q ∧ v = kV q := by
  unfold keyFits at hf
  simp only [Bool.and_eq_true] at hf
  cases k with
  | int i =>
    obtain rfl := h.int
    exact ⟨.inl i, rfl, rfl⟩
  | str x =>
    obtain rfl := h.str
    exact ⟨.inr x, rfl, rfl⟩
  | tup xs => simp [isTup] at hf
  | _ => simp [keyOk] at hf
theorem getD_val {K : PySem.W.Frag} {F : Hp} {M : List Addr} (q : Key) : ∀ {kvs : List (Key × V)} {vs : List D}, RVs K F M vs (kvs.map (·.2)) →
    (getD (kvs.map fun p => keyD p.1) vs (keyD q) = none ∧ valV kvs q = none) ∨ ∃ d v, getD (kvs.map fun p => keyD p.1) vs (keyD q) = some d ∧ valV kvs q = some v ∧ RV K F M d v
  | [], _, _ => .inl ⟨by unfold getD; rw [keyAt_map]; rfl, rfl⟩
  | p :: r, _, .cons (ds := ds) (d := d) h0 hr => by
    by_cases e : p.1 = q
    · refine .inr ⟨d, p.2, ?_, valV_pos e, h0⟩
      unfold getD
      rw [keyAt_map, List.findIdx?_cons, decide_eq_true e]
      rfl
    · have hs : getD ((p :: r).map fun p => keyD p.1) (d :: ds) (keyD q) = getD (r.map fun p => keyD p.1) ds (keyD q) := by
        unfold getD
        rw [keyAt_map, keyAt_map, List.findIdx?_cons, decide_eq_false e]
        cases r.findIdx? (fun p => decide (p.1 = q)) <;> simp
      rw [hs, valV_neg e]
      exact getD_val q hr
theorem keyAt_get (q : Key) (kvs : List (Key × V)) : (keyAt (kvs.map fun p => keyD p.1) (keyD q)).isSome = (valV kvs q).isSome := by
  rw [keyAt_map, ← valV_any]
  induction kvs with
  | nil => rfl
  | cons p r ih => 
    rw [List.findIdx?_cons, List.any_cons]
    cases h2 : decide (p.1 = q) with
    | true => rfl
    | false => simp [Option.isSome_map, ih]

/-! ### in -/
theorem isIn_tup {b : Bool} {x : D} {ys : List D} (h : (if x.ok && plains ys && decide (deps ys ≤ 60) then some (ys.any fun y => eqD y x) else none) = some b) : x.ok = true ∧ plains ys = true ∧ deps ys ≤ 60 ∧ b = ys.any fun y => eqD y x := by
  split at h
  · rename_i h1
    simp only [Bool.and_eq_true, decide_eq_true_eq] at h1
    cases h
    exact ⟨h1.1.1, h1.1.2, h1.2, rfl⟩
  · cases h
theorem any_pys (ys : List D) (x : D) : ((pys ys).any fun y => PyData.eqv y x.py) = ys.any fun y => eqD y x := by
  rw [pys_map, List.any_map]
  rfl
theorem op_In0 (hu : X.A.units + 64 < cLine) (n : Bool) : OpR X (compareOp (if n then .NotIn else .In)) (rCmp X.K fun a b => if n then (isIn a b).map (!·) else isIn a b) := by
  intro pins s σ H x y v u Q I rx ry h
  obtain ⟨F, M, dx, dy, sF, hx, hy, h⟩ := h
  have hb : ∃ b, isIn dx dy = some b ∧ Q (.bl (if n then !b else b)) H := by
    cases n with
    | true =>
      obtain ⟨o, ho, h⟩ := optK_ex h
      obtain ⟨r, hr, rfl⟩ := Option.map_eq_some_iff.mp ho
      exact ⟨r, hr, h⟩
    | false =>
      obtain ⟨o, ho, h⟩ := optK_ex h
      exact ⟨o, ho, h⟩
  obtain ⟨b, ho, h⟩ := hb
  cases dy <;> simp only [isIn] at ho <;> try (cases ho; done)
  · rename_i y
    cases dx <;> try (simp at ho; done)
    rename_i z
    simp only at ho
    split at ho
    · rename_i hz
      cases ho
      obtain rfl := hx.str
      obtain rfl := hy.str
      obtain ⟨c, hc⟩ : ∃ c, z = ⟨#[c]⟩ := by
        obtain ⟨a⟩ := z
        have : a.size = 1 := hz
        obtain ⟨c, hc⟩ := Array.size_eq_one_iff.mp this
        exact ⟨c, by rw [hc]⟩
      subst hc
      have e : (y.cps.toList.any fun c' => [c] == [c']) = decide (c ∈ y.cps.toList) := by
        rw [Bool.eq_iff_iff]
        simp only [List.any_eq_true, decide_eq_true_eq, beq_iff_eq, List.cons.injEq, and_true]
        constructor
        · rintro ⟨a, h1, h2⟩
          rw [h2]
          exact h1
        · exact fun hh => ⟨c, hh, rfl⟩
      simp only [e] at h
      cases n
      · exact op_in_sign pins s σ H _ _ v u Q I rx ry ⟨c, y, rfl, rfl, h⟩
      · exact op_notIn_sign pins s σ H _ _ v u Q I rx ry ⟨c, y, rfl, rfl, h⟩
    · cases ho
  · obtain ⟨h1, h2, h3, rfl⟩ := isIn_tup ho
    obtain ⟨p1, d1⟩ := D.ok_plain h1
    obtain ⟨as, r1⟩ := hx.reads I sF p1 rx
    obtain ⟨bs, r2⟩ := hy.reads I sF (by simpa [D.plain] using h2) ry
    simp only [D.py] at r2
    have hd : ∀ ys : List D, X.A.units + 1 + min (PyData.depthAll (pys ys)) dx.py.depth < cLine := fun ys => by
      rw [py_dep _ p1]
      omega
    cases n
    · refine SeqAt.in_tuple_data r2 r1 (py_plains _ h2) (py_plain _ p1) (hd _) ?_
      exact ⟨.bl _, H, I, rfl, by rw [any_pys]; exact h⟩
    · refine SeqAt.notIn_tuple_data r2 r1 (py_plains _ h2) (py_plain _ p1) (hd _) ?_
      exact ⟨.bl _, H, I, rfl, by rw [any_pys]; exact h⟩
  · obtain ⟨h1, h2, h3, rfl⟩ := isIn_tup ho
    obtain ⟨p1, d1⟩ := D.ok_plain h1
    obtain ⟨as, r1⟩ := hx.reads I sF p1 rx
    obtain ⟨bs, r2⟩ := hy.reads I sF (by simpa [D.plain] using h2) ry
    simp only [D.py] at r2
    have hd : ∀ ys : List D, X.A.units + 1 + min (PyData.depthAll (pys ys)) dx.py.depth < cLine := fun ys => by
      rw [py_dep _ p1]
      omega
    cases n
    · refine SeqAt.in_list_data r2 r1 (py_plains _ h2) (py_plain _ p1) (hd _) ?_
      exact ⟨.bl _, H, I, rfl, by rw [any_pys]; exact h⟩
    · refine SeqAt.notIn_list_data r2 r1 (py_plains _ h2) (py_plain _ p1) (hd _) ?_
      exact ⟨.bl _, H, I, rfl, by rw [any_pys]; exact h⟩
  · split at ho
    · rename_i hf
      cases ho
      obtain ⟨a, kvs, rfl, h1, h2, h3, h4⟩ := hy.dct sF
      subst h2
      obtain ⟨q, rfl, rfl⟩ := keyFits_of hx hf
      cases (show u = Value.ref a from ry)
      rw [keyAt_get q kvs] at h
      cases n
      · exact d_in (by omega) I (DGet.k h1) rx fun s' I' => ⟨.bl _, H, I', rfl, h⟩
      · exact d_notIn (by omega) I (DGet.k h1) rx fun s' I' => ⟨.bl _, H, I', rfl, h⟩
    · cases ho
  · split at ho
    · rename_i hf
      cases ho
      obtain ⟨a, xs, o8, rfl, h1, k1, k2, k3, k4, k5⟩ := hy.tab sF
      obtain ⟨k, b, e1, rfl, rfl, e4, e5, _⟩ := RVt.keyIs I sF hf hx rx
      cases (show u = Value.ref a from ry)
      rw [tabAt_some e1 k1] at h
      cases n
      · exact t_in (by omega) I h1 ⟨tabKeys_of I sF k1 k2 k3, k4⟩ e4 fun s' I' => ⟨.bl _, H, I', rfl, h⟩
      · exact t_notIn (by omega) I h1 ⟨tabKeys_of I sF k1 k2 k3, k4⟩ e4 fun s' I' => ⟨.bl _, H, I', rfl, h⟩
    · cases ho
/-- every comparison -/
theorem op_cmp (hu : X.A.units + 64 < cLine) : ∀ o : CmpO, OpR X (compareOp o.py) (rCmp X.K (cmpSem o))
  | .eq => op_EqS hu
  | .ne => op_NeS hu
  | .lt => op_Lt hu
  | .le => op_Le hu
  | .gt => op_Gt hu
  | .ge => op_Ge hu
  | .is => op_Is
  | .isn => op_IsN
  | .in_ => op_In0 hu false
  | .nin => op_In0 hu true
theorem op_bin (hu : X.A.units < cLine) : ∀ o : BinO, OpR X (binaryOp o.py) (r2D X.K (binSem o))
  | .add => op_Add hu
  | .sub => op_Sub
  | .mul => op_Mul
  | .fdiv => op_Fdiv
  | .mod => op_Mod
  | .pow => op_Pow
  | .bor => op_Bor
  | .shl => op_Shl

/-! ### truth -/
end
end HP

set_option maxHeartbeats 2000000
/-! HpOps4: subscripts, slices, calls of builtins. -/
namespace HP
open PySem L2
variable [LamT] {β : Bs} {κ : Pk}

theorem atI_rel {K : PySem.W.Frag} {F : Hp} {M : List Addr} {ds : List D} {vs : List V} {i : Int} {d : D} (h : RVs K F M ds vs) (e : L2.atI ds i = some d) : ∃ v, L2.atI vs i = some v ∧ RV K F M d v := by
  unfold L2.atI at e ⊢
  rw [← h.length]
  obtain ⟨j, hj, e2⟩ := Option.bind_eq_some_iff.mp e
  obtain ⟨v, hv, r⟩ := h.get e2
  exact ⟨v, by rw [hj]; exact hv, r⟩

section
variable {X : Cx}
def rIxD (K : PySem.W.Frag) : R2 := fun x y H Q => ∃ F M dx dy, Same F H ∧ RVt K F M H dx x ∧ RVt K F M H dy y ∧ optK (ixSem dx dy) fun d => ∀ v, RV K F M d v → Q v H
theorem ix_D (hu : X.A.units + 64 < cLine) : IxR X (rIxD X.K) := by
  intro value slice pins s σ H x y v u Q I rx ry h hs
  obtain ⟨F, M, dx, dy, sF, hx, hy, h⟩ := h
  replace h := optK_ex h
  obtain ⟨o, ho, h⟩ := h
  cases dx <;> try (simp [ixSem] at ho; done)
  · cases dy <;> simp only [ixSem] at ho <;> try (cases ho; done)
    split at ho <;> try (cases ho; done)
    rename_i hz
    obtain ⟨c, hc, rfl⟩ := Option.map_eq_some_iff.mp ho
    obtain rfl := hx.str
    obtain rfl := hy.int
    exact ix_seq value slice pins s σ H _ _ v u Q I rx ry (.inr (.inr ⟨_, _, c, rfl, rfl, by rw [← big_eq]; exact hz, hc, h _ (.str _)⟩)) hs
  · cases dy <;> simp only [ixSem] at ho <;> try (cases ho; done)
    obtain ⟨a, vs, rfl, h1, h2, h3⟩ := hx.tup sF
    obtain rfl := hy.int
    obtain ⟨w, hw, r⟩ := atI_rel h3 ho
    exact ix_seq value slice pins s σ H _ _ v u Q I rx ry (.inr (.inl ⟨a, vs, _, w, rfl, rfl, h1, hw, h _ r⟩)) hs
  · cases dy <;> simp only [ixSem] at ho <;> try (cases ho; done)
    obtain ⟨a, vs, rfl, h1, h3⟩ := hx.lst sF
    obtain rfl := hy.int
    obtain ⟨w, hw, r⟩ := atI_rel h3 ho
    exact ix_seq value slice pins s σ H _ _ v u Q I rx ry (.inl ⟨a, vs, _, w, rfl, rfl, .inl (.inl h1), hw, h _ r⟩) hs
  · rename_i ks ws
    simp only [ixSem] at ho
    split at ho <;> try (cases ho; done)
    rename_i hf
    obtain ⟨a, kvs, rfl, h1, h2, h3, h4⟩ := hx.dct sF
    subst h2
    obtain ⟨q, rfl, rfl⟩ := keyFits_of hy hf
    cases (show v = Value.ref a from rx)
    rcases getD_val q h4 with ⟨g1, _⟩ | ⟨d, w, g1, g2, r⟩
    · rw [g1] at ho; cases ho
    · rw [g1] at ho; cases ho
      have g : DGet H a (kV q) (some w) := by rw [← g2]; exact DGet.k h1
      exact PyProof.Rows.tail_any (dict_typeIs I g) PySem.F.slot_dict_getitem.lookup (d_getItem (by omega) I g ry fun w' s3 I3 rw' => ⟨w, H, I3, rw', h _ r⟩) hs
  · simp only [ixSem] at ho
    split at ho <;> try (cases ho; done)
    rename_i hf
    obtain ⟨a, xs, o8, rfl, h1, k1, k2, k3, k4, k5⟩ := hx.tab sF
    obtain ⟨k, b, e1, rfl, rfl, e4, e5, _⟩ := RVt.keyIs I sF hf hy ry
    cases (show v = Value.ref a from rx)
    rcases getT_rel e1 k1 k5 with ⟨g1, _⟩ | ⟨d, w, g1, g2, r⟩
    · rw [g1] at ho; cases ho
    · rw [g1] at ho; cases ho
      exact PyProof.Rows.tail_any (tab_type I h1) PySem.F.slot_dict_getitem.lookup (t_item (by omega) I h1 ⟨tabKeys_of I sF k1 k2 k3, k4⟩ e4 g2 fun w' s3 I3 rw' => ⟨w, H, I3, rw', h _ r⟩) hs

def rSlD (K : PySem.W.Frag) : V → Option Int → Option Int → Hp → VK → Prop := fun x lo hi H Q => ∃ F M d, Same F H ∧ RVt K F M H d x ∧ optK (slSem d lo hi) fun o => ∀ H' v, OutN K F M H H' o v → Q v H'
/-! ### arguments -/
inductive RVts (K : PySem.W.Frag) (F : Hp) (M : List Addr) (H : Hp) : List D → List V → Prop
  | nil : RVts K F M H [] []
  | cons {d : D} {ds : List D} {v : V} {vs : List V} : RVt K F M H d v → RVts K F M H ds vs → RVts K F M H (d :: ds) (v :: vs)
theorem RVts.one {K : PySem.W.Frag} {F : Hp} {M : List Addr} {H : Hp} {d : D} {vs : List V} (h : RVts K F M H [d] vs) : ∃ v, vs = [v] ∧ RVt K F M H d v := by
  cases h with
  | cons a b => cases b; exact ⟨_, rfl, a⟩
theorem RVts.two {K : PySem.W.Frag} {F : Hp} {M : List Addr} {H : Hp} {d e : D} {vs : List V} (h : RVts K F M H [d, e] vs) : ∃ v w, vs = [v, w] ∧ RVt K F M H d v ∧ RVt K F M H e w := by
  cases h with
  | cons a b =>
    obtain ⟨w, rfl, hw⟩ := b.one
    exact ⟨_, _, rfl, a, hw⟩
/-- the reading of a call by the language's own -/
def rcD (K : PySem.W.Frag) (f : List D → Option Out) : List V → Hp → VK → Prop := fun xs H Q => ∃ F M ds, Same F H ∧ RVts K F M H ds xs ∧ optK (f ds) fun o => ∀ H' v, OutN K F M H H' o v → Q v H'

theorem cr_len : CallR X (.builtin "len") (rcD X.K (biSem .len)) := by
  intro pins s σ H xs us Q I r h
  obtain ⟨F, M, ds, sF, hx, h⟩ := h
  replace h := optK_ex h
  obtain ⟨o, ho, h⟩ := h
  unfold biSem at ho
  split at ho <;> try (cases ‹Bi.len = _›; done)
  · split at ho <;> cases ho
    rename_i hz
    obtain ⟨v, rfl, hv⟩ := hx.one
    obtain rfl := hv.str
    exact call_len pins s σ H _ us Q I r ⟨_, _, rfl, ⟨by rw [← big_eq]; exact hz, rfl⟩, h _ _ (.old (.int _))⟩
  · cases ho
    obtain ⟨v, rfl, hv⟩ := hx.one
    obtain ⟨a, vs, rfl, h1, h2, h3⟩ := hv.tup sF
    exact call_len pins s σ H _ us Q I r ⟨_, _, rfl, .inr ⟨vs, h1, rfl⟩, by rw [h3.length] at h; exact h _ _ (.old (.int _))⟩
  · cases ho
    obtain ⟨v, rfl, hv⟩ := hx.one
    obtain ⟨a, vs, rfl, h1, h3⟩ := hv.lst sF
    exact call_len pins s σ H _ us Q I r ⟨_, _, rfl, .inl ⟨vs, .inl (.inl h1), rfl⟩, by rw [h3.length] at h; exact h _ _ (.old (.int _))⟩
  · cases ho
    obtain ⟨v, rfl, hv⟩ := hx.one
    obtain ⟨a, vs, rfl, h1, h3⟩ := hv.scr sF
    exact call_len pins s σ H _ us Q I r ⟨_, _, rfl, .inl ⟨vs, h1, rfl⟩, by rw [h3.length] at h; exact h _ _ (.old (.int _))⟩
  · cases ho
    obtain ⟨v, rfl, hv⟩ := hx.one
    obtain ⟨a, kvs, rfl, h1, rfl, h3, h4⟩ := hv.dct sF
    exact call_lenD pins s σ H _ us Q I r ⟨a, kvs, rfl, h1, by rw [List.length_map] at h; exact h _ _ (.old (.int _))⟩
  · cases ho
    obtain ⟨v, rfl, hv⟩ := hx.one
    obtain ⟨a, xs, o8, rfl, h1, k1, k2, k3, k4, k5⟩ := hv.tab sF
    obtain ⟨u, rfl, ru⟩ := r.one
    cases ru
    refine t_len I h1 ⟨tabKeys_of I sF k1 k2 k3, k4⟩ fun u s' I' ru => ⟨_, H, I', ru, ?_⟩
    have e : (List.length (xs.map fun x : Ent => V.ref x.2.1) : Int) = xs.length := by rw [List.length_map]
    rw [← e, ← k3.length]
    exact h _ _ (.old (.int _))
  · cases ho
theorem cr_abs : CallR X (.builtin "abs") (rcD X.K (biSem .abs)) := by
  intro pins s σ H xs us Q I r h
  obtain ⟨F, M, ds, sF, hx, h⟩ := h
  replace h := optK_ex h
  obtain ⟨o, ho, h⟩ := h
  unfold biSem at ho
  split at ho <;> try (cases ‹Bi.abs = _›; done)
  · cases ho
    obtain ⟨v, rfl, hv⟩ := hx.one
    obtain rfl := hv.int
    exact call_abs pins s σ H _ us Q I r ⟨_, rfl, h _ _ (.old (.int _))⟩
  · cases ho
theorem cr_int : CallR X (.type "int") (rcD X.K (biSem .int)) := by
  intro pins s σ H xs us Q I r h
  obtain ⟨F, M, ds, sF, hx, h⟩ := h
  replace h := optK_ex h
  obtain ⟨o, ho, h⟩ := h
  unfold biSem at ho
  split at ho <;> try (cases ‹Bi.int = _›; done)
  · cases ho
    obtain ⟨v, rfl, hv⟩ := hx.one
    obtain rfl := hv.int
    exact call_int1 pins s σ H _ us Q I r (.inl ⟨_, rfl, h _ _ (.old (.int _))⟩)
  · cases ho
    obtain ⟨v, rfl, hv⟩ := hx.one
    obtain rfl := hv.bl
    exact call_int1 pins s σ H _ us Q I r (.inr ⟨_, rfl, h _ _ (.old (.int _))⟩)
  · split at ho <;> try (cases ho; done)
    rename_i hz
    obtain ⟨n, hn, rfl⟩ := Option.map_eq_some_iff.mp ho
    obtain ⟨v, rfl, hv⟩ := hx.one
    obtain rfl := hv.str
    exact call_int_str pins s σ H _ us Q I r ⟨_, n, rfl, hn, hz, h _ _ (.old (.int _))⟩
  · cases ho
theorem cr_min2 (hc : X.calm = true) : CallR X (.builtin "min") (rcD X.K fun ds => match ds with | [.int i, .int j] => some (.val (.int (if j < i then j else i))) | _ => none) := by
  intro pins s σ H xs us Q I r h
  obtain ⟨F, M, ds, sF, hx, h⟩ := h
  replace h := optK_ex h
  obtain ⟨o, ho, h⟩ := h
  dsimp only at ho
  split at ho <;> cases ho
  obtain ⟨v, w, rfl, hv, hw⟩ := hx.two
  obtain rfl := hv.int
  obtain rfl := hw.int
  exact call_min2 hc pins s σ H _ us Q I r ⟨_, _, rfl, h _ _ (.old (.int _))⟩
end
end HP

set_option maxHeartbeats 2000000
/-! HpRel2: what the relation allows: freezing, storing, changing, laying. -/
namespace HP
open PySem L2
variable [LamT] {β : Bs} {κ : Pk}

section
variable {K : PySem.W.Frag} {F F' : Hp} {M M' : List Addr} {P : Hp} {σD σD' : Slots} {s s' : Store} {σ σ' : St} {H H' : Hp}

/-- what an expression hands on stands as v -/
def OutR (K : PySem.W.Frag) (F : Hp) (M : List Addr) (P : Hp) (σD : Slots) (σ : St) (H : Hp) : Out → V → Prop
  | .val d, v => RV K F M d v
  | .own c, v => ∃ a, v = .ref a ∧ CR K F M H a c ∧ Off F M P σD σ a
/-- an operand stands as v -/
def OpdR (K : PySem.W.Frag) (F : Hp) (M : List Addr) (σ : St) : Opd → V → Prop
  | .slot i, v => σ[i]? = some (some v)
  | .val d, v => RV K F M d v
theorem OpdR.mono {x : Opd} {v : V} (h : OpdR K F M σ x v) (s : Same F F') (e : Ext M M') : OpdR K F' M' σ x v := by
  cases x with
  | slot i => exact h
  | val d => exact RV.mono h s e
theorem Rel.view (R : Rel K β F M P σD s σ H) {d : D} {v : V} (h : RV K F M d v) : RVt K F M H (view s d) v := by
  cases h with
  | @ref n a hm =>
    obtain ⟨c, hc⟩ := R.mat hm
    simp only [HP.view, hc]
    exact .inr ⟨c, a, rfl, rfl, (R.mem n a c hm hc).1⟩
  | non => exact .inl .non
  | bl b => exact .inl (.bl b)
  | int i => exact .inl (.int i)
  | str x => exact .inl (.str x)
  | tup a b => exact .inl (.tup a b)
  | lst a b => exact .inl (.lst a b)
  | scr a b => exact .inl (.scr a b)
  | dct a b c d => exact .inl (.dct a b c d)
  | ins a b c => exact .inl (.ins a b c)
  | tab a b c d e f => exact .inl (.tab a b c d e f)
  | lam => exact .inl .lam
  | exc a b c d e => exact .inl (.exc a b c d e)
  | excf a b c d e f g => exact .inl (.excf a b c d e f g)
  | excm a b c d e f g => exact .inl (.excm a b c d e f g)
  | clo a b => exact .inl (.clo a b)
theorem Rel.res (R : Rel K β F M P σD s σ H) {x : Opd} {v : V} {d : D} (h : OpdR K F M σ x v) (e : vres σD s x = some d) : RVt K F M H d v := by
  cases x with
  | val d' =>
    cases e
    exact R.view h
  | slot i =>
    simp only [vres] at e
    cases hi : σD[i]? with
    | none =>
      rw [hi] at e
      cases e
    | some sl =>
      rw [hi] at e
      cases sl with
      | unb => cases e
      | val d' =>
        cases e
        obtain ⟨w, hw, r⟩ := (R.slot i _ hi).vv
        cases hw.symm.trans h
        exact R.view r
      | own c =>
        cases e
        obtain ⟨a, ha, r, _⟩ := (R.slot i _ hi).ov
        cases ha.symm.trans h
        exact .inr ⟨c, a, rfl, rfl, r⟩
inductive OpdsR (K : PySem.W.Frag) (F : Hp) (M : List Addr) (σ : St) : List Opd → List V → Prop
  | nil : OpdsR K F M σ [] []
  | cons {x : Opd} {v : V} {xs : List Opd} {vs : List V} : OpdR K F M σ x v → OpdsR K F M σ xs vs → OpdsR K F M σ (x :: xs) (v :: vs)
theorem OpdsR.mono {xs : List Opd} {vs : List V} (h : OpdsR K F M σ xs vs) (s : Same F F') (e : Ext M M') : OpdsR K F' M' σ xs vs := by
  induction h with
  | nil => exact .nil
  | cons a _ ih => exact .cons (a.mono s e) ih
theorem Rel.ress (R : Rel K β F M P σD s σ H) {xs : List Opd} {vs : List V} (h : OpdsR K F M σ xs vs) : ∀ {ds : List D}, ress σD s xs = some ds → RVts K F M H ds vs := by
  induction h with
  | nil =>
    intro ds e
    cases e
    exact .nil
  | @cons x v xs vs a _ ih =>
    intro ds e
    unfold HP.ress at e
    cases hx : vres σD s x with
    | none => rw [hx] at e; simp at e
    | some d =>
      cases hr : HP.ress σD s xs with
      | none => rw [hx, hr] at e; simp at e
      | some r =>
        rw [hx, hr] at e
        cases e
        exact .cons (R.res a hx) (ih hr)

theorem getElem?_set_cases {α : Type} {xs : List α} {i j : Nat} {x y : α} (h : (xs.set i x)[j]? = some y) : (i = j ∧ y = x) ∨ (i ≠ j ∧ xs[j]? = some y) := by
  by_cases e : i = j
  · subst e
    rw [List.getElem?_set_self'] at h
    cases hx : xs[i]? with
    | none => rw [hx] at h; cases h
    | some z => rw [hx] at h; exact .inl ⟨rfl, (Option.some.inj h).symm⟩
  · rw [List.getElem?_set_ne e] at h
    exact .inr ⟨e, h⟩
/-- an own slot is frozen -/
theorem Rel.freezeSlot (R : Rel K β F M P σD s σ H) {i : Nat} {c : Cont} (hi : σD[i]? = some (.own c)) :
    ∃ F' a, Same F F' ∧ σ[i]? = some (some (.ref a)) ∧ Rel K β F' M P (σD.set i (.val c.frz)) s σ H ∧ RV K F' M c.frz (.ref a) := by
  obtain ⟨a, ha, r, hf, hp, hm⟩ := (R.slot i _ hi).ov
  obtain ⟨o, ho⟩ := r.has
  have sF : Same F (upd F a o) := same_upd hf
  have rv := r.frzF hf ho
  refine ⟨upd F a o, a, sF, ha, ⟨R.z.to sF (.refl M), R.tb.to sF (fun b ps e q => by rw [upd_ne (upd_nt r.nt e)]; exact q) (fun _ _ _ q => q) (fun _ _ q => q), same_upd2 R.sF ho, R.sP, R.mlen, fun n b c' h1 h2 => ?_, R.nd, fun b u hu => ?_, by rw [List.length_set]; exact R.slen, fun j sl hj => ?_, fun j k c1 c2 b h1 h2 h3 h4 => ?_⟩, rv⟩
  · obtain ⟨r1, r2, r3⟩ := R.mem n b c' h1 h2
    have hne : b ≠ a := fun e => hm (e ▸ List.mem_of_getElem? h1)
    exact ⟨r1.mono sF (.refl M) fun _ x => x, by rw [upd_ne hne]; exact r2, r3⟩
  · have hne : b ≠ a := fun e => by rw [e, hp] at hu; cases hu
    rw [upd_ne hne]
    exact R.fp b u hu
  · rcases getElem?_set_cases hj with ⟨rfl, rfl⟩ | ⟨hne, hj⟩
    · exact .val ha rv
    · refine (R.slot j sl hj).mono sF (.refl M) fun b h1 h2 h3 h4 ⟨c', hc'⟩ => ⟨fun _ x => x, ?_, h4⟩
      subst hc'
      have hne2 : b ≠ a := fun e => hne (R.dist i j c c' b hi hj (by rw [ha, e]) h1)
      rw [upd_ne hne2]
      exact h2
  · rcases getElem?_set_cases h1 with ⟨_, e⟩ | ⟨_, h1⟩
    · cases e
    · rcases getElem?_set_cases h2 with ⟨_, e⟩ | ⟨_, h2⟩
      · cases e
      · exact R.dist j k c1 c2 b h1 h2 h3 h4
/-- what is handed on is frozen -/
theorem Rel.frz (R : Rel K β F M P σD s σ H) {o : Out} {v : V} (h : OutR K F M P σD σ H o v) : ∃ F', Same F F' ∧ Rel K β F' M P σD s σ H ∧ RV K F' M o.frz v := by
  cases o with
  | val d => exact ⟨F, .refl F, R, h⟩
  | own c =>
    obtain ⟨a, rfl, r, q⟩ := h
    obtain ⟨o, ho⟩ := r.has
    exact ⟨upd F a o, same_upd q.f, R.freeze q ho (fun ps z => r.nt ps (z ▸ ho)), r.frzF q.f ho⟩
/-- a name is bound -/
theorem Rel.put (R : Rel K β F M P σD s σ H) {o : Out} {v : V} (i : Nat) (h : OutR K F M P σD σ H o v) : Rel K β F M P (σD.set i o.slot) s (σ.set i (some v)) H := by
  refine ⟨R.z, R.tb, R.sF, R.sP, R.mlen, R.mem, R.nd, R.fp, by rw [List.length_set, List.length_set]; exact R.slen, fun j sl hj => ?_, fun j k c1 c2 b h1 h2 h3 h4 => ?_⟩
  · rcases getElem?_set_cases hj with ⟨rfl, rfl⟩ | ⟨hne, hj⟩
    · have hl : i < σ.length := by
        have := (List.getElem?_eq_some_iff.mp hj).1
        rw [List.length_set, R.slen] at this
        exact this
      have hv : (σ.set i (some v))[i]? = some (some v) := by rw [List.getElem?_set_self hl]
      cases o with
      | val d => exact .val hv h
      | own c =>
        obtain ⟨a, rfl, r, q⟩ := h
        exact .own hv r q.f q.p q.m
    · rw [List.getElem?_set_ne hne]
      exact R.slot j sl hj
  · rcases getElem?_set_cases h1 with ⟨rfl, e1⟩ | ⟨n1, g1⟩
    · rcases getElem?_set_cases h2 with ⟨rfl, _⟩ | ⟨n2, g2⟩
      · rfl
      · rw [List.getElem?_set_ne n2] at h4
        exfalso
        cases o with
        | val d => cases e1
        | own c =>
          obtain ⟨a, rfl, r, q⟩ := h
          have h5 := (getElem?_set_cases h3)
          rcases h5 with ⟨_, e5⟩ | ⟨n5, _⟩
          · cases e5
            exact q.o k c2 g2 h4
          · exact n5 rfl
    · rcases getElem?_set_cases h2 with ⟨rfl, e2⟩ | ⟨n2, g2⟩
      · rw [List.getElem?_set_ne n1] at h3
        exfalso
        cases o with
        | val d => cases e2
        | own c =>
          obtain ⟨a, rfl, r, q⟩ := h
          rcases getElem?_set_cases h4 with ⟨_, e5⟩ | ⟨n5, _⟩
          · cases e5
            exact q.o j c1 g1 h3
          · exact n5 rfl
      · rw [List.getElem?_set_ne n1] at h3
        rw [List.getElem?_set_ne n2] at h4
        exact R.dist j k c1 c2 b g1 g2 h3 h4
theorem upd_same2 {P : Hp} {H : Hp} {a : Addr} {o : HO} (s : Same P H) (h : P a = none) : Same P (upd H a o) := fun b u e => by
  rw [upd_ne (ne_of_none e h)]
  exact s _ _ e
/-- an own slot's container is changed -/
theorem Rel.updSlot (R : Rel K β F M P σD s σ H) {i : Nat} {c c' : Cont} {a : Addr} {o : HO} (hi : σD[i]? = some (.own c)) (ha : σ[i]? = some (some (.ref a))) (hc : CR K F M (upd H a o) a c') :
    Rel K β F M P (σD.set i (.own c')) s σ (upd H a o) := by
  obtain ⟨a', ha', r, hf, hp, hm⟩ := (R.slot i _ hi).ov
  cases ha.symm.trans ha'
  refine ⟨R.z, R.tb.to (.refl F) (fun _ _ _ q => q) (fun _ _ _ q => q) (fun b ps e => by rw [upd_ne (upd_nt r.nt e)]; exact e), upd_same2 R.sF hf, upd_same2 R.sP hp, R.mlen, fun n b c' h1 h2 => ?_, R.nd, R.fp, by rw [List.length_set]; exact R.slen, fun j sl hj => ?_, fun j k c1 c2 b h1 h2 h3 h4 => ?_⟩
  · obtain ⟨r1, r2, r3⟩ := R.mem n b c' h1 h2
    have hne : b ≠ a := fun e => hm (e ▸ List.mem_of_getElem? h1)
    exact ⟨r1.mono (.refl F) (.refl M) fun _ x => by rw [upd_ne hne]; exact x, r2, r3⟩
  · rcases getElem?_set_cases hj with ⟨rfl, rfl⟩ | ⟨hne, hj⟩
    · exact .own ha hc hf hp hm
    · refine (R.slot j sl hj).mono (.refl F) (.refl M) fun b h1 h2 h3 h4 ⟨c', hc'⟩ => ⟨fun _ x => ?_, h2, h4⟩
      subst hc'
      have hne2 : b ≠ a := fun e => hne (R.dist i j c c' b hi hj (by rw [ha, e]) h1)
      rw [upd_ne hne2]
      exact x
  · have f1 : ∃ c0, σD[j]? = some (.own c0) := by
      rcases getElem?_set_cases h1 with ⟨rfl, _⟩ | ⟨_, h1⟩
      · exact ⟨_, hi⟩
      · exact ⟨_, h1⟩
    have f2 : ∃ c0, σD[k]? = some (.own c0) := by
      rcases getElem?_set_cases h2 with ⟨rfl, _⟩ | ⟨_, h2⟩
      · exact ⟨_, hi⟩
      · exact ⟨_, h2⟩
    obtain ⟨_, f1⟩ := f1
    obtain ⟨_, f2⟩ := f2
    exact R.dist j k _ _ b f1 f2 h3 h4
theorem nodup_at {M : List Addr} (h : M.Nodup) {i j : Nat} {a : Addr} (hi : M[i]? = some a) (hj : M[j]? = some a) : i = j := by
  obtain ⟨h1, e1⟩ := List.getElem?_eq_some_iff.mp hi
  obtain ⟨h2, e2⟩ := List.getElem?_eq_some_iff.mp hj
  have hp := List.pairwise_iff_getElem.mp h
  rcases Nat.lt_trichotomy i j with q | q | q
  · exact absurd (e1.trans e2.symm) (hp i j h1 h2 q)
  · exact q
  · exact absurd (e2.trans e1.symm) (hp j i h2 h1 q)
/-- a thing of the store is changed -/
theorem Rel.updMem (R : Rel K β F M P σD s σ H) {n : Nat} {c c' : Cont} {a : Addr} {o : HO} (hn : M[n]? = some a) (hs : s[n]? = some c) (hc : CR K F M (upd H a o) a c') :
    Rel K β F M P σD (s.set n c') σ (upd H a o) := by
  obtain ⟨r, hf, hp⟩ := R.mem n a c hn hs
  refine ⟨R.z, R.tb.to (.refl F) (fun _ _ _ q => q) (fun _ _ _ q => q) (fun b ps e => by rw [upd_ne (upd_nt r.nt e)]; exact e), upd_same2 R.sF hf, upd_same2 R.sP hp, by rw [List.length_set]; exact R.mlen, fun m b c2 h1 h2 => ?_, R.nd, R.fp, R.slen, fun j sl hj => ?_, R.dist⟩
  · rcases getElem?_set_cases h2 with ⟨rfl, rfl⟩ | ⟨hne, h2⟩
    · cases hn.symm.trans h1
      exact ⟨hc, hf, hp⟩
    · obtain ⟨r1, r2, r3⟩ := R.mem m b c2 h1 h2
      have hne2 : b ≠ a := fun e => hne (nodup_at R.nd hn (e ▸ h1))
      exact ⟨r1.mono (.refl F) (.refl M) fun _ x => by rw [upd_ne hne2]; exact x, r2, r3⟩
  · refine (R.slot j sl hj).mono (.refl F) (.refl M) fun b h1 h2 h3 h4 ⟨c', hc'⟩ => ⟨fun _ x => ?_, h2, h4⟩
    have hne2 : b ≠ a := fun e => h4 (e ▸ List.mem_of_getElem? hn)
    rw [upd_ne hne2]
    exact x
/-- a new container becomes a thing of the store -/
theorem Rel.alloc (R : Rel K β F M P σD s σ H) {c : Cont} {a : Addr} (hc : CR K F M H a c) (q : Off F M P σD σ a) : Rel K β F (M ++ [a]) P σD (s ++ [c]) σ H ∧ RV K F (M ++ [a]) (.ref s.length) (.ref a) := by
  have ex : Ext M (M ++ [a]) := ⟨[a], rfl⟩
  refine ⟨⟨R.z.to (.refl F) ex, R.tb, R.sF, R.sP, by rw [List.length_append, List.length_append, R.mlen]; rfl, fun n b c2 h1 h2 => ?_, ?_, R.fp, R.slen, fun j sl hj => ?_, R.dist⟩, .ref ?_⟩
  · by_cases hn : n < M.length
    · rw [List.getElem?_append_left hn] at h1
      rw [List.getElem?_append_left (by rw [← R.mlen]; exact hn)] at h2
      obtain ⟨r1, r2, r3⟩ := R.mem n b c2 h1 h2
      exact ⟨r1.mono (.refl F) ex fun _ x => x, r2, r3⟩
    · have hn1 : M.length ≤ n := Nat.le_of_not_lt hn
      rw [List.getElem?_append_right hn1] at h1
      rw [List.getElem?_append_right (by rw [← R.mlen]; exact hn1)] at h2
      have e0 : n - M.length = 0 := by
        have := (List.getElem?_eq_some_iff.mp h1).1
        simp at this
        omega
      rw [e0] at h1
      rw [← R.mlen, e0] at h2
      cases h1
      cases h2
      exact ⟨hc.mono (.refl F) ex fun _ x => x, q.f, q.p⟩
  · rw [List.nodup_append]
    refine ⟨R.nd, by simp, fun b hb c hc e => ?_⟩
    simp at hc
    subst hc
    exact q.m (e ▸ hb)
  · refine (R.slot j sl hj).mono (.refl F) ex fun b h1 h2 h3 h4 ⟨c', hc'⟩ => ⟨fun _ x => x, h2, fun hb => ?_⟩
    rw [List.mem_append] at hb
    rcases hb with hb | hb
    · exact h4 hb
    · simp at hb
      subst hb
      subst hc'
      exact q.o j c' hj h1
  · rw [← R.mlen]
    simp
/-- a result of an operation as what is handed on -/
theorem Rel.out (R : Rel K β F M P σD s σ H) {o : Out} {v : V} (h : OutN K F M H H' o v) : ∃ F', Same F F' ∧ Rel K β F' M P σD s σ H' ∧ OutR K F' M P σD σ H' o v := by
  cases h with
  | old r => exact ⟨F, .refl F, R, r⟩
  | @new d p ob hp hn r =>
    have q := R.off hp
    exact ⟨upd F p ob, same_upd q.f, (R.junk hp).freeze q upd_same hn, r⟩
  | @own c p ob hp r => exact ⟨F, .refl F, R.junk hp, p, rfl, r, R.off hp⟩
theorem OutR.mono {o : Out} {v : V} (h : OutR K F M P σD σ H (.val o.frz) v) (s : Same F F') (e : Ext M M') : OutR K F' M' P σD σ H (.val o.frz) v := RV.mono h s e
end
end HP

set_option maxHeartbeats 2000000
/-! HpExp: readings by the functional semantics; the rules of expressions. -/
namespace HP
open PySem L2
variable [LamT] {β : Bs} {κ : Pk}

def tE (X : Cx) (κ : Pk) (r : SE) : TE := fun σ H Q => ∃ F M P σD s K, Rel X.K κ.b F M P σD s σ H ∧ r σD s K κ.qx ∧
  ∀ o σD' s' F' M' H' v, K o σD' s' → Same F F' → Ext M M' → Rel X.K κ.b F' M' P σD' s' σ H' → OutR X.K F' M' P σD' σ H' o v → Q v H'
def tOd (X : Cx) (κ : Pk) (e : E) (r : SE) : TE := fun σ H Q => ∃ F M P σD s K, Rel X.K κ.b F M P σD s σ H ∧ asOp e r σD s K κ.qx ∧
  ∀ x σD' s' F' M' H' v, K x σD' s' → Same F F' → Ext M M' → Rel X.K κ.b F' M' P σD' s' σ H' → OpdR X.K F' M' σ x v → Q v H'
def tTt (X : Cx) (κ : Pk) (r : ST) : TT := fun σ H Q => ∃ F M P σD s K, Rel X.K κ.b F M P σD s σ H ∧ r σD s K κ.qx ∧
  ∀ b σD' s' F' M' H', K b σD' s' → Same F F' → Ext M M' → Rel X.K κ.b F' M' P σD' s' σ H' → Q b H'
def tVals (X : Cx) (κ : Pk) (r : Slots → Store → (List D → Slots → Store → Prop) → QX → Prop) : TA := fun σ H Q => ∃ F M P σD s K, Rel X.K κ.b F M P σD s σ H ∧ r σD s K κ.qx ∧
  ∀ x σD' s' F' M' H' v, K x σD' s' → Same F F' → Ext M M' → Rel X.K κ.b F' M' P σD' s' σ H' → RVs X.K F' M' x v → Q v H'
def tOpds (X : Cx) (κ : Pk) (r : Slots → Store → (List Opd → Slots → Store → Prop) → QX → Prop) : TA := fun σ H Q => ∃ F M P σD s K, Rel X.K κ.b F M P σD s σ H ∧ r σD s K κ.qx ∧
  ∀ x σD' s' F' M' H' v, K x σD' s' → Same F F' → Ext M M' → Rel X.K κ.b F' M' P σD' s' σ H' → OpdsR X.K F' M' σ x v → Q v H'
def tOptI (X : Cx) (κ : Pk) (r : Slots → Store → (Option Int → Slots → Store → Prop) → QX → Prop) : TO := fun σ H Q => ∃ F M P σD s K, Rel X.K κ.b F M P σD s σ H ∧ r σD s K κ.qx ∧
  ∀ x σD' s' F' M' H', K x σD' s' → Same F F' → Ext M M' → Rel X.K κ.b F' M' P σD' s' σ H' → Q x H'

/-- the expression e is read as i: as a value, as an operand, as a test -/
structure SEx (X : Cx) (κ : Pk) (e : Expr) (i : E) : Prop where
  v : PE X e (tE X κ (w i).v)
  o : PE X e (tOd X κ i (w i).v)
  t : PT X e (tTt X κ (w i).t)
/-- arguments -/
structure SAs (X : Cx) (κ : Pk) (es : List Expr) (is : Es) : Prop where
  v : PA X es (tVals X κ (ws is).vals)
  o : PA X es (tOpds X κ (ws is).opds)

section
variable {X : Cx} {e a b c : Expr} {i ia ib ic : E} {pos : Pos}
theorem peImp {t t' : TE} (h : PE X e t) (k : ∀ σ H Q, t' σ H Q → t σ H Q) : PE X e t' := ⟨fun pins s σ H Q I q => h.run pins s σ H Q I (k σ H Q q)⟩
theorem ptImp {t t' : TT} (h : PT X e t) (k : ∀ σ H Q, t' σ H Q → t σ H Q) : PT X e t' := ⟨fun pins s σ H Q I q => h.run pins s σ H Q I (k σ H Q q)⟩
theorem pwImp {t t' : TT} (h : PW X e t) (k : ∀ σ H Q, t' σ H Q → t σ H Q) : PW X e t' := ⟨fun wh pins s σ H Q I q => h.run wh pins s σ H Q I (k σ H Q q)⟩
theorem paImp {es : List Expr} {t t' : TA} (h : PA X es t) (k : ∀ σ H Q, t' σ H Q → t σ H Q) : PA X es t' := ⟨fun p pins s σ H Q I q => h.run p pins s σ H Q I (k σ H Q q)⟩
/-- as an operand: what is handed on is frozen -/
def Dft (i : E) : Prop := ∀ (r : SE) (σ : Slots) (s : Store) (K : Opd → Slots → Store → Prop) (x : QX), asOp i r σ s K x = r σ s (fun o σ s => K (.val o.frz) σ s) x
theorem od_of (hi : Dft i) (h : PE X e (tE X κ (w i).v)) : PE X e (tOd X κ i (w i).v) := peImp h fun σ H Q ⟨F, M, P, σD, s, K, R, h, hK⟩ => by
  rw [hi] at h
  refine ⟨F, M, P, σD, s, _, R, h, fun o σ' s' F' M' H' v k sf ex R' q => ?_⟩
  obtain ⟨F2, sf2, R2, rv⟩ := R'.frz q
  exact hK _ _ _ F2 M' H' v k (sf.trans sf2) ex R2 rv
theorem truV {K : PySem.W.Frag} {F : Hp} {M : List Addr} {H : Hp} {d : D} {x : V} {o : Bool} (sF : Same F H) (hx : RVt K F M H d x) (ho : truth d = some o) : TruV K x H o := by
  cases d <;> simp only [truth] at ho <;> try (cases ho; done)
  · cases ho
    obtain rfl := hx.non
    rfl
  · cases ho
    obtain rfl := hx.bl
    rfl
  · cases ho
    obtain rfl := hx.int
    show decide (_ ≠ _) = (_ != _)
    rw [bne, Bool.eq_iff_iff]
    simp
  · split at ho <;> cases ho
    obtain rfl := hx.str
    rename_i hz
    refine ⟨by rw [← big_eq]; exact hz, ?_⟩
    rw [bne, Bool.eq_iff_iff]
    simp
  · cases ho
    obtain ⟨a, vs, rfl, h1, h2, h3⟩ := hx.tup sF
    refine .inr (.inl ⟨vs, h1, ?_⟩)
    cases h3 <;> rfl
  · cases ho
    obtain ⟨a, vs, rfl, h1, h3⟩ := hx.lst sF
    refine .inl ⟨vs, .inl (.inl h1), ?_⟩
    cases h3 <;> rfl
  · cases ho
    obtain ⟨a, kvs, rfl, h1, rfl, h3, h4⟩ := hx.dct sF
    refine .inr (.inr ⟨kvs, h1, ?_⟩)
    cases kvs <;> rfl
/-- how a test of e is looked at: by its truth -/
def TruE (X : Cx) (e : Expr) : Prop := ∀ whole, isTrue e X.env whole = (do let v ← whole; standAt e.pos; holding [v] (truthy v))
theorem tt_of (he : TruE X e) (h : PE X e (tOd X κ i (w i).v)) : PT X e (tTt X κ (asT i (w i).v)) := ptImp (pt_truth h he) fun σ H Q ⟨F, M, P, σD, s, K, R, h, hK⟩ => by
  refine ⟨F, M, P, σD, s, _, R, h, fun x σ' s' F' M' H' v k sf ex R' q => ?_⟩
  obtain ⟨d, hd, k⟩ := optK_ex k
  obtain ⟨o, ho, k⟩ := optK_ex k
  exact ⟨o, truV R'.sF (R'.res q hd) ho, hK _ _ _ _ _ _ k sf ex R'⟩
theorem sex_dft {t : TE} {r : SE} (hw : w i = dft i r) (hi : Dft i) (he : TruE X e) (hp : PE X e t) (rd : ∀ σ H Q, tE X κ r σ H Q → t σ H Q) : SEx X κ e i := by
  have v : PE X e (tE X κ (w i).v) := peImp hp fun σ H Q h => by
    rw [hw] at h
    exact rd σ H Q h
  refine ⟨v, od_of hi v, ?_⟩
  have ht : (w i).t = asT i (w i).v := by rw [hw]; rfl
  rw [ht]
  exact tt_of he (od_of hi v)

theorem se_lit {d : D} {x : V} (he : TruE X e) (h : PE X e (tC x)) (r : ∀ F M, RV X.K F M d x) : SEx X κ e (.lit d) :=
  sex_dft (w.eq_1 d) (fun _ _ _ _ _ => rfl) he h fun σ H Q ⟨F, M, P, σD, s, K, R, h, hK⟩ => hK _ _ _ F M H x h (.refl F) (.refl M) R (r F M)
theorem se_int {n : Int} {j} : SEx X κ (.Constant (.int n) j pos) (.lit (.int n)) := se_lit (fun _ => rfl) pe_int fun _ _ => .int n
theorem se_bl {n : Bool} {j} : SEx X κ (.Constant (.bool n) j pos) (.lit (.bl n)) := se_lit (fun _ => rfl) pe_bl fun _ _ => .bl n
theorem se_str {n : Str} {j} : SEx X κ (.Constant (.str n) j pos) (.lit (.str n)) := se_lit (fun _ => rfl) pe_str fun _ _ => .str n
theorem se_non {j} : SEx X κ (.Constant .none j pos) (.lit .non) := se_lit (fun _ => rfl) pe_non fun _ _ => .non
theorem se_var {n : Nat} {x : Str} (hN : X.N[n]? = some x) (hv : Vis X.env.scope x) (hd : (x == ("__debug__" : Str)) = false) (hcd : (x == ("__classdict__" : Str)) = false) : SEx X κ (.Name x pos) (.var n) := by
  have p : PE X (.Name x pos) (tVar n) := pe_var hN hv hd hcd
  have o : PE X (.Name x pos) (tOd X κ (.var n) (w (.var n)).v) := peImp p fun σ H Q ⟨F, M, P, σD, s, K, R, h, hK⟩ => by
    simp only [asOp] at h
    cases hs : σD[n]? with
    | none => rw [hs] at h; exact h.elim
    | some sl =>
      rw [hs] at h
      cases sl with
      | unb => exact h.elim
      | val d =>
        obtain ⟨v, hv, r⟩ := (R.slot n _ hs).vv
        exact ⟨v, hv, hK _ _ _ F M H v h (.refl F) (.refl M) R r⟩
      | own c =>
        obtain ⟨a, ha, _⟩ := (R.slot n _ hs).ov
        exact ⟨_, ha, hK _ _ _ F M H _ h (.refl F) (.refl M) R ha⟩
  refine ⟨peImp p fun σ H Q ⟨F, M, P, σD, s, K, R, h, hK⟩ => ?_, o, tt_of (fun _ => rfl) o⟩
  rw [w.eq_2] at h
  simp only [dft] at h
  cases hs : σD[n]? with
  | none => rw [hs] at h; exact h.elim
  | some sl =>
    rw [hs] at h
    cases sl with
    | unb => exact h.elim
    | val d =>
      obtain ⟨v, hv, r⟩ := (R.slot n _ hs).vv
      exact ⟨v, hv, hK _ _ _ F M H v h (.refl F) (.refl M) R r⟩
    | own c =>
      obtain ⟨F', a, sf, ha, R', rv⟩ := R.freezeSlot hs
      exact ⟨_, ha, hK _ _ _ F' M H _ h sf (.refl M) R' rv⟩

theorem se_bin (hu : X.A.units < cLine) (o : BinO) (ha : SEx X κ a ia) (hb : SEx X κ b ib) : SEx X κ (.BinOp a o.py b pos) (.bin o ia ib) := by
  refine sex_dft (w.eq_3 o ia ib) (fun _ _ _ _ _ => rfl) (fun _ => rfl) (pe_op (op_bin hu o) ha.o hb.o) fun σ H Q ⟨F, M, P, σD, s, K, R, h, hK⟩ => ?_
  refine ⟨F, M, P, σD, s, _, R, h, fun x σ1 s1 F1 M1 H1 vx k1 sf1 e1 R1 ox => ⟨F1, M1, P, σ1, s1, _, R1, k1, fun y σ2 s2 F2 M2 H2 vy k2 sf2 e2 R2 oy => ?_⟩⟩
  obtain ⟨dx, hx, k2⟩ := optK_ex k2
  obtain ⟨dy, hy, k2⟩ := optK_ex k2
  obtain ⟨r, hr, k2⟩ := optK_ex k2
  refine ⟨F2, M2, dx, dy, R2.sF, R2.res (ox.mono sf2 e2) hx, R2.res oy hy, ?_⟩
  rw [hr]
  intro H' v q
  obtain ⟨F', sf', R', q'⟩ := R2.out q
  exact hK _ _ _ F' M2 H' v k2 (sf1.trans (sf2.trans sf')) (e1.trans e2) R' q'
/-- a truth value's readings -/
theorem sex_ofT {t : TE} {r : ST} (hw : w i = ofT r) (hi : Dft i) (hv : PE X e t) (ht : PT X e (tTest t)) (rd : ∀ σ H (Q : VK) (B : Bool → Hp → Prop), (∀ k H', B k H' → Q (.bl k) H') → tTt X κ r σ H B → t σ H Q) : SEx X κ e i := by
  have v : PE X e (tE X κ (w i).v) := peImp hv fun σ H Q ⟨F, M, P, σD, s, K, R, h, hK⟩ => by
    rw [hw] at h
    exact rd σ H Q (fun k H' => Q (.bl k) H') (fun _ _ q => q) ⟨F, M, P, σD, s, _, R, h, fun b σ' s' F' M' H' k sf ex R' => hK _ _ _ F' M' H' _ k sf ex R' (.bl b)⟩
  refine ⟨v, od_of hi v, ptImp ht fun σ H Q h => ?_⟩
  rw [hw] at h
  exact rd σ H _ Q (fun k H' q => ⟨k, rfl, q⟩) h
theorem se_cmp (hu : X.A.units + 64 < cLine) (o : CmpO) (ha : SEx X κ a ia) (hb : SEx X κ b ib) (hm : behindInMarks o.py b = false) : SEx X κ (.Compare a [o.py] [b] pos) (.cmp o ia ib) := by
  refine sex_ofT (w.eq_5 o ia ib) (fun _ _ _ _ _ => rfl) (pe_cmpR (op_cmp hu o) ha.o hb.o hm) (pt_cmpR (op_cmp hu o) ha.o hb.o hm) fun σ H Q B hB ⟨F, M, P, σD, s, K, R, h, hK⟩ => ?_
  refine ⟨F, M, P, σD, s, _, R, h, fun x σ1 s1 F1 M1 H1 vx k1 sf1 e1 R1 ox => ⟨F1, M1, P, σ1, s1, _, R1, k1, fun y σ2 s2 F2 M2 H2 vy k2 sf2 e2 R2 oy => ?_⟩⟩
  obtain ⟨dx, hx, k2⟩ := optK_ex k2
  obtain ⟨dy, hy, k2⟩ := optK_ex k2
  obtain ⟨r, hr, k2⟩ := optK_ex k2
  refine ⟨F2, M2, dx, dy, R2.sF, R2.res (ox.mono sf2 e2) hx, R2.res oy hy, ?_⟩
  rw [hr]
  exact hB _ _ (hK _ _ _ F2 M2 H2 k2 (sf1.trans sf2) (e1.trans e2) R2)
end
end HP

set_option maxHeartbeats 2000000
/-! HpExp2: and, or, not; tuples, lists; subscripts; fields; builtins; methods of lists. -/
namespace HP
open PySem L2
variable [LamT] {β : Bs} {κ : Pk}

section
variable {X : Cx} {e a b c : Expr} {i ia ib ic : E} {pos : Pos} {es : List Expr} {is : Es}

/-! ### truth values -/
theorem se_not (ha : SEx X κ a ia) : SEx X κ (.UnaryOp .Not a pos) (.not_ ia) := by
  have hv : PE X (.UnaryOp .Not a pos) (tE X κ (w (.not_ ia)).v) := peImp (pe_not ha.v) fun σ H Q ⟨F, M, P, σD, s, K, R, h, hK⟩ => by
    rw [w.eq_7] at h
    refine ⟨F, M, P, σD, s, _, R, h, fun o σ1 s1 F1 M1 H1 v k sf ex R1 q => ?_⟩
    split at k
    · cases q
      exact ⟨_, rfl, hK _ _ _ F1 M1 H1 _ k sf ex R1 (.bl _)⟩
    · exact k.elim
  refine ⟨hv, od_of (fun _ _ _ _ _ => rfl) hv, ptImp (pt_not ha.t) fun σ H Q ⟨F, M, P, σD, s, K, R, h, hK⟩ => ?_⟩
  rw [w.eq_7] at h
  exact ⟨F, M, P, σD, s, _, R, h, fun b σ' s' F' M' H' k sf ex R' => hK _ _ _ F' M' H' k sf ex R'⟩

/-- the rest of an and, of an or -/
structure SBo (X : Cx) (κ : Pk) (op : BoolOp) (es : List Expr) (pos : Pos) (i : E) : Prop where
  v : PE X (.BoolOp op es pos) (tE X κ (w i).v)
  t : PW X (.BoolOp op es pos) (tTt X κ (w i).t)
theorem sb_one {op : BoolOp} (ha : SEx X κ a ia) : SBo X κ op [a] pos ia := ⟨pe_one ha.v, by cases op; exact pw_and1 ha.t; exact pw_or1 ha.t⟩
theorem sb_and (ha : SEx X κ a ia) (hb : SBo X κ .And (b :: es) pos ib) : SBo X κ .And (a :: b :: es) pos (.and_ ia ib) := by
  refine ⟨peImp (pe_and ha.v hb.v) fun σ H Q ⟨F, M, P, σD, s, K, R, h, hK⟩ => ?_, pwImp (pw_and ha.t hb.t) fun σ H Q ⟨F, M, P, σD, s, K, R, h, hK⟩ => ?_⟩
  · rw [w.eq_8] at h
    refine ⟨F, M, P, σD, s, _, R, h, fun o σ1 s1 F1 M1 H1 v1 k sf1 e1 R1 q => ?_⟩
    split at k
    · rename_i c
      cases q
      refine ⟨c, rfl, ?_⟩
      cases c with
      | true =>
        rw [if_pos rfl] at k ⊢
        exact ⟨F1, M1, P, σ1, s1, _, R1, k, fun o σ2 s2 F2 M2 H2 v2 k2 sf2 e2 R2 q2 => hK _ _ _ F2 M2 H2 v2 k2 (sf1.trans sf2) (e1.trans e2) R2 q2⟩
      | false =>
        rw [if_neg Bool.false_ne_true] at k ⊢
        exact hK _ _ _ F1 M1 H1 _ k sf1 e1 R1 (.bl false)
    · exact k.elim
  · rw [w.eq_8] at h
    refine ⟨F, M, P, σD, s, _, R, h, fun c σ1 s1 F1 M1 H1 k sf1 e1 R1 => ?_⟩
    cases c with
    | true =>
      rw [if_pos rfl] at k ⊢
      exact ⟨F1, M1, P, σ1, s1, _, R1, k, fun o σ2 s2 F2 M2 H2 k2 sf2 e2 R2 => hK _ _ _ F2 M2 H2 k2 (sf1.trans sf2) (e1.trans e2) R2⟩
    | false =>
      rw [if_neg Bool.false_ne_true] at k ⊢
      exact hK _ _ _ F1 M1 H1 k sf1 e1 R1
theorem sb_or (ha : SEx X κ a ia) (hb : SBo X κ .Or (b :: es) pos ib) : SBo X κ .Or (a :: b :: es) pos (.or_ ia ib) := by
  refine ⟨peImp (pe_or ha.v hb.v) fun σ H Q ⟨F, M, P, σD, s, K, R, h, hK⟩ => ?_, pwImp (pw_or ha.t hb.t) fun σ H Q ⟨F, M, P, σD, s, K, R, h, hK⟩ => ?_⟩
  · rw [w.eq_9] at h
    refine ⟨F, M, P, σD, s, _, R, h, fun o σ1 s1 F1 M1 H1 v1 k sf1 e1 R1 q => ?_⟩
    split at k
    · rename_i c
      cases q
      refine ⟨c, rfl, ?_⟩
      cases c with
      | true =>
        rw [if_pos rfl] at k ⊢
        exact hK _ _ _ F1 M1 H1 _ k sf1 e1 R1 (.bl true)
      | false =>
        rw [if_neg Bool.false_ne_true] at k ⊢
        exact ⟨F1, M1, P, σ1, s1, _, R1, k, fun o σ2 s2 F2 M2 H2 v2 k2 sf2 e2 R2 q2 => hK _ _ _ F2 M2 H2 v2 k2 (sf1.trans sf2) (e1.trans e2) R2 q2⟩
    · exact k.elim
  · rw [w.eq_9] at h
    refine ⟨F, M, P, σD, s, _, R, h, fun c σ1 s1 F1 M1 H1 k sf1 e1 R1 => ?_⟩
    cases c with
    | true =>
      rw [if_pos rfl] at k ⊢
      exact hK _ _ _ F1 M1 H1 k sf1 e1 R1
    | false =>
      rw [if_neg Bool.false_ne_true] at k ⊢
      exact ⟨F1, M1, P, σ1, s1, _, R1, k, fun o σ2 s2 F2 M2 H2 k2 sf2 e2 R2 => hK _ _ _ F2 M2 H2 k2 (sf1.trans sf2) (e1.trans e2) R2⟩
theorem se_bo {op : BoolOp} (hi : Dft i) (h : SBo X κ op es pos i) : SEx X κ (.BoolOp op es pos) i := ⟨h.v, od_of hi h.v, h.t.pt⟩
/-! ### arguments -/
theorem sa_nil : SAs X κ [] .nil := ⟨paImp pa_nil fun σ H Q ⟨F, M, P, σD, s, K, R, h, hK⟩ => by
  rw [ws.eq_1] at h
  exact hK _ _ _ F M H _ h (.refl F) (.refl M) R .nil, paImp pa_nil fun σ H Q ⟨F, M, P, σD, s, K, R, h, hK⟩ => by
  rw [ws.eq_1] at h
  exact hK _ _ _ F M H _ h (.refl F) (.refl M) R .nil⟩
theorem sa_cons (hs : starEach (a :: es) X.env = (false, eval a X.env) :: starEach es X.env) (ha : SEx X κ a ia) (hr : SAs X κ es is) : SAs X κ (a :: es) (.cons ia is) := by
  refine ⟨paImp (pa_cons ha.v hr.v hs) fun σ H Q ⟨F, M, P, σD, s, K, R, h, hK⟩ => ?_, paImp (pa_cons ha.o hr.o hs) fun σ H Q ⟨F, M, P, σD, s, K, R, h, hK⟩ => ?_⟩
  · rw [ws.eq_2] at h
    refine ⟨F, M, P, σD, s, _, R, h, fun o σ1 s1 F1 M1 H1 v1 k sf1 e1 R1 q => ?_⟩
    obtain ⟨F', sf', R', rv⟩ := R1.frz q
    refine ⟨F', M1, P, σ1, s1, _, R', k, fun ds σ2 s2 F2 M2 H2 vs k2 sf2 e2 R2 q2 => ?_⟩
    exact hK _ _ _ F2 M2 H2 _ k2 (sf1.trans (sf'.trans sf2)) (e1.trans e2) R2 (.cons (rv.mono sf2 e2) q2)
  · rw [ws.eq_2] at h
    dsimp only at h
    refine ⟨F, M, P, σD, s, _, R, h, fun o σ1 s1 F1 M1 H1 v1 k sf1 e1 R1 q => ?_⟩
    refine ⟨F1, M1, P, σ1, s1, _, R1, k, fun ds σ2 s2 F2 M2 H2 vs k2 sf2 e2 R2 q2 => ?_⟩
    exact hK _ _ _ F2 M2 H2 _ k2 (sf1.trans sf2) (e1.trans e2) R2 (.cons (q.mono sf2 e2) q2)

/-! ### displays -/
theorem se_tup {x1} (h : SAs X κ es is) : SEx X κ (.Tuple es x1 pos) (.tup is) := by
  refine sex_dft (w.eq_11 is) (fun _ _ _ _ _ => rfl) (fun _ => rfl) (pe_tupX h.v) fun σ H Q ⟨F, M, P, σD, s, K, R, h, hK⟩ => ?_
  refine ⟨F, M, P, σD, s, _, R, h, fun ds σ1 s1 F1 M1 H1 vs k sf1 e1 R1 q => ?_⟩
  split at k
  · rename_i hz
    refine ⟨by rw [← q.length, ← big_eq]; exact hz, fun p o hp ho => ?_⟩
    obtain ⟨F', sf', R', q'⟩ := R1.out (OutN.tup R1.sF hp ho q)
    exact hK _ _ _ F' M1 _ _ k (sf1.trans sf') e1 R' q'
  · exact k.elim
theorem se_lst (h : SAs X κ es is) : SEx X κ (.List es pos) (.lst is) := by
  refine sex_dft (w.eq_12 is) (fun _ _ _ _ _ => rfl) (fun _ => rfl) (pe_lst h.v) fun σ H Q ⟨F, M, P, σD, s, K, R, h, hK⟩ => ?_
  refine ⟨F, M, P, σD, s, _, R, h, fun ds σ1 s1 F1 M1 H1 vs k sf1 e1 R1 q => ?_⟩
  split at k
  · rename_i hz
    refine ⟨by rw [← q.length, ← big_eq]; exact hz, fun p hp => ?_⟩
    obtain ⟨F', sf', R', q'⟩ := R1.out (OutN.lst (F := F1) hp q)
    exact hK _ _ _ F' M1 _ _ k (sf1.trans sf') e1 R' q'
  · exact k.elim

/-! ### subscripts, slices, fields -/
theorem se_ix (hu : X.A.units + 64 < cLine) (ha : SEx X κ a ia) (hb : SEx X κ b ib) (hs : PlainIx b) : SEx X κ (.Subscript a b pos) (.ix ia ib) := by
  refine sex_dft (w.eq_14 ia ib) (fun _ _ _ _ _ => rfl) (fun _ => rfl) (pe_ix (ix_D hu) ha.o hb.o hs) fun σ H Q ⟨F, M, P, σD, s, K, R, h, hK⟩ => ?_
  refine ⟨F, M, P, σD, s, _, R, h, fun x σ1 s1 F1 M1 H1 vx k1 sf1 e1 R1 ox => ⟨F1, M1, P, σ1, s1, _, R1, k1, fun y σ2 s2 F2 M2 H2 vy k2 sf2 e2 R2 oy => ?_⟩⟩
  obtain ⟨dx, hx, k2⟩ := optK_ex k2
  obtain ⟨dy, hy, k2⟩ := optK_ex k2
  obtain ⟨r, hr, k2⟩ := optK_ex k2
  refine ⟨F2, M2, dx, dy, R2.sF, R2.res (ox.mono sf2 e2) hx, R2.res oy hy, ?_⟩
  rw [hr]
  intro v q
  exact hK _ _ _ F2 M2 H2 v k2 (sf1.trans sf2) (e1.trans e2) R2 q
/-- what is made becomes a thing of the store -/
theorem se_alloc (he : TruE X e) (h : SEx X κ e i) : SEx X κ e (.alloc i) := by
  refine sex_dft (w.eq_23 i) (fun _ _ _ _ _ => rfl) he h.v fun σ H Q ⟨F, M, P, σD, s, K, R, h, hK⟩ => ?_
  refine ⟨F, M, P, σD, s, _, R, h, fun o σ1 s1 F1 M1 H1 v k sf1 e1 R1 q => ?_⟩
  cases o with
  | val d => exact k.elim
  | own c =>
    obtain ⟨a, rfl, r, qo⟩ := q
    obtain ⟨R2, rv⟩ := R1.alloc r qo
    exact hK _ _ _ F1 _ H1 _ k sf1 (e1.trans ⟨[a], rfl⟩) R2 rv

/-! ### builtins -/
theorem se_callB {id : String} {x : Str} {p : Pos} {bi : Bi} (hcr : CallR X (.builtin id) (rcD X.K (biSem bi))) (hg : Gl X x) (hm : X.mg x = none) (hv : bootBuiltins x = some (.builtin id)) (hn : x ≠ "__name__") (hdb : (x == ("__debug__" : Str)) = false)
    (he : starEach (a :: es) X.env = (false, eval a X.env) :: starEach es X.env) (hpl : (backTo pos (starEach es X.env)).any (·.1) = false) (ht : TruE X (.Call (.Name x p) (a :: es) [] pos)) (ha : SAs X κ (a :: es) is) :
    SEx X κ (.Call (.Name x p) (a :: es) [] pos) (.bi bi is) := by
  refine sex_dft (w.eq_24 bi is) (fun _ _ _ _ _ => rfl) ht (pe_callB hcr hg hm hv ha.o hn hdb he hpl) fun σ H Q ⟨F, M, P, σD, s, K, R, h, hK⟩ => ?_
  refine ⟨F, M, P, σD, s, _, R, h, fun xs σ1 s1 F1 M1 H1 vs k sf1 e1 R1 q => ?_⟩
  obtain ⟨ds, hd, k⟩ := optK_ex k
  obtain ⟨r, hr, k⟩ := optK_ex k
  refine ⟨F1, M1, ds, R1.sF, R1.ress q hd, ?_⟩
  rw [hr]
  intro H' v q
  obtain ⟨F', sf', R', q'⟩ := R1.out q
  exact hK _ _ _ F' M1 H' v k (sf1.trans sf') e1 R' q'
theorem se_callTy {id : String} {x : Str} {p : Pos} {bi : Bi} (hcr : CallR X (.type id) (rcD X.K (biSem bi))) (hg : Gl X x) (hm : X.mg x = none) (hv : bootBuiltins x = some (.type id)) (hn : x ≠ "__name__") (hdb : (x == ("__debug__" : Str)) = false)
    (he : starEach (a :: es) X.env = (false, eval a X.env) :: starEach es X.env) (hpl : (backTo pos (starEach es X.env)).any (·.1) = false) (ht : TruE X (.Call (.Name x p) (a :: es) [] pos)) (ha : SAs X κ (a :: es) is) :
    SEx X κ (.Call (.Name x p) (a :: es) [] pos) (.bi bi is) := by
  refine sex_dft (w.eq_24 bi is) (fun _ _ _ _ _ => rfl) ht (pe_callTy hcr hg hm hv ha.o hn hdb he hpl) fun σ H Q ⟨F, M, P, σD, s, K, R, h, hK⟩ => ?_
  refine ⟨F, M, P, σD, s, _, R, h, fun xs σ1 s1 F1 M1 H1 vs k sf1 e1 R1 q => ?_⟩
  obtain ⟨ds, hd, k⟩ := optK_ex k
  obtain ⟨r, hr, k⟩ := optK_ex k
  refine ⟨F1, M1, ds, R1.sF, R1.ress q hd, ?_⟩
  rw [hr]
  intro H' v q
  obtain ⟨F', sf', R', q'⟩ := R1.out q
  exact hK _ _ _ F' M1 H' v k (sf1.trans sf') e1 R' q'
end
end HP

set_option maxHeartbeats 2000000
/-! HpBorrow: an expression that changes nothing and whose answer is flat: what it is lent comes back as it was. -/
namespace HP
open PySem L2
variable [LamT] {β : Bs} {κ : Pk}
section
variable {K : PySem.W.Frag} {F F' : Hp} {M M' : List Addr}
mutual
theorem RV.lent (s : Same F F') : ∀ {d : D} {v : V}, noRef d = true → RV K F M d v → RV K F' M' d v
  | _, _, _, .non => .non
  | _, _, _, .bl b => .bl b
  | _, _, _, .int i => .int i
  | _, _, _, .str x => .str x
  | _, _, n, .tup h r => .tup (sqX_mono s h) (RVs.lent s (by simpa [noRef] using n) r)
  | _, _, n, .lst h r => .lst (s _ _ h) (RVs.lent s (by simpa [noRef] using n) r)
  | _, _, n, .scr h r => .scr (s.seq h) (RVs.lent s (by simpa [noRef] using n) r)
  | _, _, n, .dct h h1 h2 r => .dct (s _ _ h) h1 h2 (RVs.lent s (by simp [noRef] at n; exact n.2) r)
  | _, _, n, .ins h h1 r => .ins (s _ _ h) h1 (RVs.lent s (by simpa [noRef] using n) r)
  | _, _, n, .ref _ => by simp [noRef] at n
  | _, _, n, .tab h h1 h2 h3 h4 r => .tab (s _ _ h) h1 h2 (RVs.lent s (by simp [noRef] at n; exact n.1) h3) h4 (RVs.lent s (by simp [noRef] at n; exact n.2) r)
  | _, _, n, .lam => by simp [noRef] at n
  | _, _, n, .exc _ _ _ _ _ => by simp [noRef] at n
  | _, _, n, .excf _ _ _ _ _ _ _ => by simp [noRef] at n
  | _, _, n, .excm _ _ _ _ _ _ _ => by simp [noRef] at n
  | _, _, n, .clo _ _ => by simp [noRef] at n
theorem RVs.lent (s : Same F F') : ∀ {ds : List D} {vs : List V}, noRefs ds = true → RVs K F M ds vs → RVs K F' M' ds vs
  | _, _, _, .nil => .nil
  | _, _, n, .cons a b => .cons (RV.lent s (by simp [noRefs] at n; exact n.1) a) (RVs.lent s (by simp [noRefs] at n; exact n.2) b)
end
/-- what is kept where lists that begin with a number are left out -/
def keptO : HO → Bool
  | .lst (.int _ :: _) => false
  | _ => true
def SameX (F F' : Hp) : Prop := ∀ b u, F b = some u → keptO u = true → F' b = some u
mutual
theorem RV.lentI (s : SameX F F') : ∀ {d : D} {v : V}, noRef d = true → noIL d = true → RV K F M d v → RV K F' M' d v
  | _, _, _, _, .non => .non
  | _, _, _, _, .bl b => .bl b
  | _, _, _, _, .int i => .int i
  | _, _, _, _, .str x => .str x
  | _, _, n, m, .tup h r => .tup (by
      rcases h with ⟨o, h, e⟩ | h
      · exact .inl ⟨o, s _ _ h rfl, e⟩
      · exact .inr h) (RVs.lentI s (by simpa [noRef] using n) (by simpa [noIL] using m) r)
  | _, _, n, m, .lst h r => .lst (s _ _ h (by
      simp only [noIL, Bool.and_eq_true, Bool.not_eq_true'] at m
      cases r with
      | nil => rfl
      | cons a b =>
        cases a <;> first | rfl | (simp [headI] at m; done))) (RVs.lentI s (by simpa [noRef] using n) (by simp [noIL] at m; exact m.2) r)
  | _, _, _, m, .scr _ _ => by simp [noIL] at m
  | _, _, n, m, .dct h h1 h2 r => .dct (s _ _ h rfl) h1 h2 (RVs.lentI s (by simp [noRef] at n; exact n.2) (by simpa [noIL] using m) r)
  | _, _, n, m, .ins h h1 r => .ins (s _ _ h rfl) h1 (RVs.lentI s (by simpa [noRef] using n) (by simpa [noIL] using m) r)
  | _, _, n, _, .ref _ => by simp [noRef] at n
  | _, _, n, m, .tab h h1 h2 h3 h4 r => .tab (s _ _ h rfl) h1 h2 (RVs.lentI s (by simp [noRef] at n; exact n.1) (by simp [noIL] at m; exact m.1) h3) h4 (RVs.lentI s (by simp [noRef] at n; exact n.2) (by simp [noIL] at m; exact m.2) r)
  | _, _, n, _, .lam => by simp [noRef] at n
  | _, _, n, _, .exc _ _ _ _ _ => by simp [noRef] at n
  | _, _, n, _, .excf _ _ _ _ _ _ _ => by simp [noRef] at n
  | _, _, n, _, .excm _ _ _ _ _ _ _ => by simp [noRef] at n
  | _, _, n, _, .clo _ _ => by simp [noRef] at n
theorem RVs.lentI (s : SameX F F') : ∀ {ds : List D} {vs : List V}, noRefs ds = true → noILs ds = true → RVs K F M ds vs → RVs K F' M' ds vs
  | _, _, _, _, .nil => .nil
  | _, _, n, m, .cons a b => .cons (RV.lentI s (by simp [noRefs] at n; exact n.1) (by simp [noILs] at m; exact m.1) a) (RVs.lentI s (by simp [noRefs] at n; exact n.2) (by simp [noILs] at m; exact m.2) b)
end
theorem CR.lent {H : Hp} {a : Addr} {c : Cont} (h : CR K F M H a c) (s : Same F F') (ha : F' a = H a) (n : noRef c.frz = true) : RV K F' M' c.frz (.ref a) := by
  cases h with
  | lst q r => exact .lst (ha.trans q) (r.lent s (by simpa [Cont.frz, noRef] using n))
  | dct q r1 r2 r => exact .dct (ha.trans q) r1 r2 (r.lent s (by simp [Cont.frz, noRef] at n; exact n.2))
  | ins q r1 r => exact .ins (ha.trans q) r1 (r.lent s (by simpa [Cont.frz, noRef] using n))
  | tab q r1 r2 r3 r4 r => exact .tab (ha.trans q) r1 r2 (r3.lent s (by simp [Cont.frz, noRef] at n; exact n.1)) r4 (r.lent s (by simp [Cont.frz, noRef] at n; exact n.2))
theorem CR.lentI {H : Hp} {a : Addr} {c : Cont} (h : CR K F M H a c) (s : SameX F F') (ha : ∀ u, H a = Option.some u → keptO u = true → F' a = Option.some u) (n : noRef c.frz = true) (m : noIL c.frz = true) : RV K F' M' c.frz (.ref a) := by
  cases h with
  | lst q r =>
    have m' : noIL (.lst _) = true := m
    simp only [noIL, Bool.and_eq_true, Bool.not_eq_true'] at m'
    refine .lst (ha _ q ?_) (r.lentI s (by simpa [Cont.frz, noRef] using n) m'.2)
    cases r with
    | nil => rfl
    | cons a b =>
      cases a <;> first | rfl | (simp [headI] at m'; done)
  | dct q r1 r2 r => exact .dct (ha _ q rfl) r1 r2 (r.lentI s (by simp [Cont.frz, noRef] at n; exact n.2) (by simpa [Cont.frz, noIL] using m))
  | ins q r1 r => exact .ins (ha _ q rfl) r1 (r.lentI s (by simpa [Cont.frz, noRef] using n) (by simpa [Cont.frz, noIL] using m))
  | tab q r1 r2 r3 r4 r => exact .tab (ha _ q rfl) r1 r2 (r3.lentI s (by simp [Cont.frz, noRef] at n; exact n.1) (by simp [Cont.frz, noIL] at m; exact m.1)) r4 (r.lentI s (by simp [Cont.frz, noRef] at n; exact n.2) (by simp [Cont.frz, noIL] at m; exact m.2))
theorem RVs.ints {xs : List D} {vs : List V} (r : RVs K F M xs vs) (h : (allInt xs).isSome = true) : RVs K F' M' xs vs := by
  induction xs generalizing vs with
  | nil => cases r; exact .nil
  | cons x xs ih =>
    cases r with
    | cons a b =>
      cases x <;> simp [allInt] at h
      cases a
      exact .cons (.int _) (ih b h)
/-- tuples stand as objects of their own -/
def isFrzO : HO → Bool
  | .frz _ _ => true
  | _ => false
mutual
theorem RV.tiny (s : ∀ b u, F b = some u → isFrzO u = true → F' b = some u) : ∀ {d : D} {v : V}, tinyD d = true → RV K F M d v → RV K F' M' d v
  | _, _, _, .non => .non
  | _, _, _, .bl b => .bl b
  | _, _, _, .int i => .int i
  | _, _, _, .str x => .str x
  | _, _, n, .tup h r => .tup (by
      rcases h with ⟨o, h, e⟩ | h
      · exact .inl ⟨o, s _ _ h rfl, e⟩
      · exact .inr h) (RVs.tiny s (by simpa [tinyD] using n) r)
  | _, _, n, .lst h r => by simp [tinyD] at n
  | _, _, n, .scr h r => by simp [tinyD] at n
  | _, _, n, .dct h h1 h2 r => by simp [tinyD] at n
  | _, _, n, .ins h h1 r => by simp [tinyD] at n
  | _, _, n, .ref _ => by simp [tinyD] at n
  | _, _, n, .tab h h1 h2 h3 h4 r => by simp [tinyD] at n
  | _, _, n, .lam => by simp [tinyD] at n
  | _, _, n, .exc _ _ _ _ _ => by simp [tinyD] at n
  | _, _, n, .excf _ _ _ _ _ _ _ => by simp [tinyD] at n
  | _, _, n, .excm _ _ _ _ _ _ _ => by simp [tinyD] at n
  | _, _, n, .clo _ _ => by simp [tinyD] at n
theorem RVs.tiny (s : ∀ b u, F b = some u → isFrzO u = true → F' b = some u) : ∀ {ds : List D} {vs : List V}, tinyDs ds = true → RVs K F M ds vs → RVs K F' M' ds vs
  | _, _, _, .nil => .nil
  | _, _, n, .cons a b => .cons (RV.tiny s (by simp [tinyDs] at n; exact n.1) a) (RVs.tiny s (by simp [tinyDs] at n; exact n.2) b)
end
end
section
variable {X : Cx} {e : Expr} {i : E}
/-- how a lent expression is read -/
def lentR (ks : List Nat) (i : E) : SE := fun σ s K _ => (hideS ks 0 σ).all Slot.noRef = true ∧ (w i).v (hideS ks 0 σ) [] (fun o _ _ => lentK (hideS ks 0 σ) o fun o => K o σ s) noX
end
end HP

set_option maxHeartbeats 2000000
/-! HpFn: defs that are called where nothing is being printed (for repr): contracts and calls. -/
namespace HP
open PySem L2 PySem.Spec
open PyProof.Rows hiding St
variable [LamT] {β : Bs} {κ : Pk}

/-! ### exceptions: what is wanted of them where they fly -/
/-- the weakest wish that the context takes -/
def W0 (X : Cx) : WX := fun cls d σ H => ∀ (a : Addr) (B : Heap) (sI s' : Shared) (pins : List (Addr × Obj)), Inv X pins σ H sI → (∀ b o, sI.heap.get? b = some o → b ∉ frs X.stack → B.get? b = some o) → sI.heap.UpToSlots s'.heap →
  Sky B X.stack a (Zc cls d) X.env.locals s'.heap → H a = none → s'.os = sI.os → AllBare s'.gens → X.xe (.ref a) s'
theorem takesW (X : Cx) : Takes X (W0 X) := fun u s' ⟨a, B, sI, pins, σ, H, cls, d, e, I, nb, up, sky, na, os, ag, w⟩ => by
  subst e
  exact w a B sI s' pins I nb up sky na os ag
theorem W0.of {X : Cx} {W : WX} {cls : Value} {d : Option Addr} {σ : St} {H : Hp} (tk : Takes X W) (h : W cls d σ H) : W0 X cls d σ H := fun a B sI s' pins I nb up sky na os ag => tk (.ref a) s' ⟨a, B, sI, pins, σ, H, cls, d, rfl, I, nb, up, sky, na, os, ag, h⟩
/-- the exception e: its class, its dict -/
def ExcR (K : PySem.W.Frag) (F : Hp) (M : List Addr) (e : Exc) (cls : Value) (d : Option Addr) : Prop := cls = .ref (He.ga K e.c) ∧
  ((e.arg = none ∧ excFld e.c = none ∧ d = none) ∨ ∃ (dd : Addr) (f : Str) (v : V) (dv : D), e.arg = some dv ∧ excFld e.c = some f ∧ d = some dd ∧ F dd = some (.xd [(f, v)]) ∧ RV K F M dv v)
theorem ExcR.mono {K : PySem.W.Frag} {F F' : Hp} {M M' : List Addr} {e : Exc} {cls : Value} {d : Option Addr} (h : ExcR K F M e cls d) (s : Same F F') (x : Ext M M') : ExcR K F' M' e cls d := by
  obtain ⟨h1, h2 | ⟨dd, f, v, dv, q1, q2, q3, q4, q5⟩⟩ := h
  · exact ⟨h1, .inl h2⟩
  · exact ⟨h1, .inr ⟨dd, f, v, dv, q1, q2, q3, s _ _ q4, q5.mono s x⟩⟩
/-- what is wanted of exceptions is what the context takes -/
class PkOk (X : Cx) (κ : Pk) : Prop where
  ok : ∀ (e : Exc) (σD : Slots) (s : Store) (F : Hp) (M : List Addr) (P : Hp) (σ : St) (H : Hp) (cls : Value) (d : Option Addr), κ.qx e σD s → Rel X.K κ.b F M P σD s σ H → ExcR X.K F M e cls d → W0 X cls d σ H
instance {X : Cx} {κ : Pk} : PkOk X κ.no := ⟨fun _ _ _ _ _ _ _ _ _ _ h => h.elim⟩
/-- a def's promise, what it raises being wanted where it is called -/
def ZW (X : Cx) (σ : St) (sp : Sp) (vs : List V) (G : Hp) (Q : VK) : Prop := ∃ Z : XK, (∀ cls d H', Z cls d H' → W0 X cls d σ H') ∧ sp vs G Q Z

theorem Still.deeper {A : Around} (h : Still A) (env : Env) : Still (A.deeper env) := h
theorem Still.in1 {A : Around} (h : Still A) : Still A.in1 := h
section
variable {X : Cx} {CX : CXT} {k : Nat} {f C : Addr} {fd : FuncData} {ps : List Str} {sp : Sp} {Z : XK} {x m : Str} {p pos apos : Pos} {e o : Expr} {es : List Expr} {ta : TE} {t : TA}
theorem FnA.mono {P : Program} {w : World} {K : PySem.W.Frag} {mg : Str → Option Value} {base : Heap} {j : Nat} (F : FnA P w K mg base CX j f fd ps sp) (h : j ≤ k) : FnA P w K mg base CX k f fd ps sp :=
  ⟨F.len, fun B out z G args ys xs Q Z r => F.go B out z G args ys xs Q Z (r.mono h)⟩
/-- it runs; every parameter is given -/
theorem FnA.call {pins : List (Addr × Obj)} {σ : St} {G : Hp} {z : Shared} {Q : VK} {args : Args} {ws : List Value} {zs : List V} (F : FnA X.prog X.w X.K X.mg X.base (L2.CX X.prog X.w) k f fd ps sp) (hr : Room k X.A) (hs : Still X.A)
    (J : Inv X pins σ G z) (hb : (ws.length = ps.length) → BindsTo z fd args (ps.zip ws)) (hx : ∀ cls d H', Z cls d H' → W0 X cls d σ H') (r : Vals zs ws) (h : sp zs G Q Z) :
    codeAny (model X.prog X.w) X.A (.call (.ref f) args) (fun r z' => match r with | .ok (.ret u) => EP X pins σ Q u z' | .ok _ => False | .error e => X.xe e z') z := by
  have hl : ws.length = ps.length := r.length ▸ F.len _ _ _ _ h
  refine codeAny_mono (F.go X.A X.stack z G args ws zs Q Z hr hs J.env0 (hb hl) r h) fun r z' q => ?_
  match r, q with
  | .error e, q => exact takesW X e z' (XE.of_call J hx q)
  | .ok (.ret u), q => exact J.after q
  | .ok .next, q => exact q.elim
  | .ok .brk, q => exact q.elim
  | .ok .cont, q => exact q.elim
theorem FnA.wp {pins : List (Addr × Obj)} {σ : St} {G : Hp} {z : Shared} {Q : VK} {us : List Value} {kw : List (Str × Value)} {ws : List Value} {zs : List V} (F : FnA X.prog X.w X.K X.mg X.base (L2.CX X.prog X.w) k f fd ps sp) (hr : Room k X.A) (hs : Still X.A)
    (J : Inv X pins σ G z) (hb : (ws.length = ps.length) → BindsTo z fd ⟨us, kw⟩ (ps.zip ws)) (hx : ∀ cls d H', Z cls d H' → W0 X cls d σ H') (r : Vals zs ws) (h : sp zs G Q Z) :
    wpAny (model X.prog X.w) X.A (PySem.call (.ref f) us kw) (EP X pins σ Q) X.xe z := wpAny_call (F.call (args := ⟨us, kw⟩) hr hs J hb hx r h)
/-- f(a, ..) -/
theorem pa_callF (F : FnA X.prog X.w X.K X.mg X.base (L2.CX X.prog X.w) k f fd ps sp) (hr : Room k X.A) (hs : Still X.A) (hg : Gl X x) (hm : X.mg x = some (.ref f)) (hk : PySem.W.keepIn X.K (.ref f) = true) (hb : Binds X.K fd ps [])
    (ha : PA X (e :: es) t) (hdb : (x == ("__debug__" : Str)) = false) (he : starEach (e :: es) X.env = (false, eval e X.env) :: starEach es X.env) (hpl : (backTo pos (starEach es X.env)).any (·.1) = false) :
    PE X (.Call (.Name x p) (e :: es) [] pos) (fun σ G Q => t σ G fun xs G1 => ZW X σ sp xs G1 Q) := ⟨fun pins z σ G Q J h =>
  wpAny_Call_Name_kw (ld_glob J hg hm (PySem.W.callWith_K (h₀ := X.base) J.ok.mod.kin hk (thn (ha.run pos pins z σ G _ J h) fun us z1 ⟨xs, G1, J1, r, Z, hx, q⟩ =>
    ⟨J1.kIn, F.wp hr hs J1 (fun hl => by have := hb z1 us J1.kIn (by rw [List.append_nil]; exact hl); rw [List.append_nil] at this; exact this) hx r q⟩) he hpl) hdb)⟩
/-- C(a, ..) -/
theorem FnA.made {pins : List (Addr × Obj)} {σ : St} {G : Hp} {z : Shared} {Q : VK} {us : List Value} {xs : List V} (Mc : Mk X.K C f) (F : FnA X.prog X.w X.K X.mg X.base (L2.CX X.prog X.w) k f fd ps sp) (hr : Room (k + 1) X.A) (hs : Still X.A) (hb : Binds X.K fd ps [])
    (hx : ∀ cls d H', Z cls d H' → W0 X cls d σ H') (J : Inv X pins σ G z) (r : Vals xs us)
    (h : ∀ y dx, G y = none → G dx = none → dx ≠ y → sp (.ref y :: xs) (upd (upd G dx (.own y)) y (.ins C dx [])) (fun v G2 => v = .non ∧ Q (.ref y) G2) Z) :
    wpAny (model X.prog X.w) X.A (PySem.call (.ref C) us) (EP X pins σ Q) X.xe z := by
  have q0 := h (z.heap.objs.size + 1) z.heap.objs.size (J.hok.fresh (Nat.le_succ _)) (J.hok.fresh (Nat.le_refl _)) (Nat.ne_of_lt (Nat.lt_succ_self _))
  have J2 := Inv.made (C := C) J
  have rv : Vals (V.ref (z.heap.objs.size + 1) :: xs) (Value.ref (z.heap.objs.size + 1) :: us) := .cons rfl r
  have hl : (Value.ref (z.heap.objs.size + 1) :: us).length = ps.length := rv.length ▸ F.len _ _ _ _ q0
  have hb2 := hb _ (Value.ref (z.heap.objs.size + 1) :: us) J2.kIn (by rw [List.append_nil]; exact hl)
  rw [List.append_nil] at hb2
  refine wpAny_call (make_map (f := f) J.kIn Mc.makes Mc.init (beq_iff_eq.mp Mc.fn) (codeAny_mono (F.go _ X.stack _ _ ⟨Value.ref (z.heap.objs.size + 1) :: us, []⟩ (Value.ref (z.heap.objs.size + 1) :: us) _ _ Z (hr.make C us []) hs
    (J2.env0.make C us []) hb2 rv q0) fun r z' q => ?_))
  match r, q with
  | .error e, q => exact takesW X e z' (XE.of_call J2 hx q)
  | .ok (.ret u), q =>
    obtain ⟨v, G', J3, rv, ev, q3⟩ := J2.after q
    subst ev
    exact ⟨rv, ⟨V.ref (z.heap.objs.size + 1), G', J3, rfl, q3⟩⟩
  | .ok .next, q => exact q.elim
  | .ok .brk, q => exact q.elim
  | .ok .cont, q => exact q.elim
end

/-- THE RULE of a def by its body -/
theorem fnA_of {CX : CXT} {P : Program} {w : World} {K : PySem.W.Frag} {mg : Str → Option Value} {base : Heap} {k : Nat} {f : Addr} {name qual : Str} {params : Arguments} {body : List Stmt} {scope : Scope} {dV kV doc pm cdv ct oc : Value} {an od : Option Addr}
    {osl : Array (Option Value)} {N ps : List Str} {sp : Sp} (lk : K.lookup f = some ⟨oc, od, .func (PySem.W.fnOf name qual params body scope dV kV doc pm an cdv ct), osl⟩) (hcd : PySem.W.codeIn K cdv qual = true) (S : FnScope N ps scope)
    (len : ∀ xs G Q Z, sp xs G Q Z → xs.length = ps.length)
    (hbody : ∀ (B : Around) (out : List Env) (z : Shared) (G : Hp) (xs : List V) (Q : VK) (Z : XK), Room k (B.deeper (envOfC qual scope z.heap.objs.size f cdv)) → Still B → sp xs G Q Z →
      ∃ t, PSs (cxOf CX P w K mg base N qual scope f cdv B out z G Z) body t ∧ t { nx := fun _ G' => Q .non G', rt := Q } (start N xs) G) :
    FnA P w K mg base CX (k + 1) f (PySem.W.fnOf name qual params body scope dV kV doc pm an cdv ct) ps sp := by
  refine ⟨len, fun B out z G args ys xs Q Z hr hs e0 hb r h => ?_⟩
  have old : ∀ b o, base.get? b = some o → z.heap.get? b = some o := fun b o e => (e0.bs b o e).1
  have kin : K.In z.heap := e0.mod.kin.keeps old
  have lim : z.heap.NoLimit := e0.mod.nolimit.keeps old
  have kinds : ∀ y ∈ ps.zip ys, scope.names.lookup y.1 = some .local ∨ (scope.names.lookup y.1 = some .cell ∧ ((cellsFrom (z.heap.objs.size + 1) scope.names []).lookup y.1).isSome = true) := fun ⟨n, v⟩ hy =>
    (S.par n (List.of_mem_zip hy).1).imp (fun q => q) fun q => ⟨q, PySem.W.cellsFrom_some _ _ _ (.inl q)⟩
  refine codeAny_call_function hr.depth (kin _ _ lk) rfl S.co S.gen rfl (PySem.W.codeRec_of kin hcd) (hb _ _ _ _ (wpAny_newFunctionEnv_cells S.kind kinds fun env he z1 x => ?_))
  subst he
  refine ⟨lim.keeps x.toInCall.keep, codeAny_func ?_⟩
  obtain ⟨t, ht, hq⟩ := hbody B out z G xs Q Z (hr.deeper _) hs h
  have J : Inv (cxOf CX P w K mg base N qual scope f cdv B out z G Z) [] (start N xs) G z1 := inv_start S hr.hd e0 (len _ _ _ _ h) r x
  refine wpAny_mono (ht.run [] z1 (start N xs) G _ J hq) (fun fl z' q => ?_) fun e z' q => q
  match fl, q with
  | .ret u, ⟨v, σ', G', I2, rv, q⟩ => exact ⟨v, G', I2.os, I2.bare, I2.base, I2.hok, rv, q⟩
  | .next, ⟨σ', G', I2, q⟩ => exact ⟨V.non, G', I2.os, I2.bare, I2.base, I2.hok, rfl, q⟩
  | .brk, ⟨_, _, _, q⟩ => exact q.elim
  | .cont, ⟨_, _, _, q⟩ => exact q.elim
end HP

set_option maxHeartbeats 2000000
/-! HpExp3: calls of defs, of methods, of makers; methods of lists; dict displays. -/
namespace HP
open PySem L2
variable [LamT] {β : Bs} {κ : Pk}

section
variable {K : PySem.W.Frag} {F F' : Hp} {M M' : List Addr} {P : Hp} {σD σD' : Slots} {s s' : Store} {σ σ' : St} {H H' : Hp}

/-! ### what a callee must keep -/
def OwnAt (σD : Slots) (σ : St) (a : Addr) : Prop := ∃ (i : Nat) (c : Cont), σD[i]? = some (.own c) ∧ σ[i]? = some (some (.ref a))
open Classical in
noncomputable def keepH (P : Hp) (σD : Slots) (σ : St) (H : Hp) : Hp := fun a => if (P a).isSome ∨ OwnAt σD σ a then H a else none
theorem keepH_none {a : Addr} (h : ¬ ((P a).isSome ∨ OwnAt σD σ a)) : keepH P σD σ H a = none := by
  unfold keepH
  rw [if_neg h]
theorem keepH_at {a : Addr} (h : (P a).isSome ∨ OwnAt σD σ a) : keepH P σD σ H a = H a := by
  unfold keepH
  rw [if_pos h]
theorem Rel.ownF (R : Rel K β F M P σD s σ H) {a : Addr} (h : OwnAt σD σ a) : F a = none ∧ P a = none ∧ a ∉ M ∧ ∃ o, H a = some o := by
  obtain ⟨i, c, h1, h2⟩ := h
  obtain ⟨b, hb, r, q⟩ := (R.slot i _ h1).ov
  cases h2.symm.trans hb
  exact ⟨q.1, q.2.1, q.2.2, r.has⟩
/-- into a callee -/
theorem Rel.enter (R : Rel K β F M P σD s σ H) : Rel K ⟨F, M, keepH P σD σ H⟩ F M (keepH P σD σ H) [] s [] H := by
  refine ⟨.here, R.tb.to (.refl F) (fun _ _ _ q => q) (fun a ps e q => keepH_none fun z => by
      rcases z with z | z
      · rw [q] at z
        cases z
      · obtain ⟨i, c, h1, h2⟩ := z
        obtain ⟨b, hb, r, _⟩ := (R.slot i _ h1).ov
        cases h2.symm.trans hb
        exact r.nt ps e) (fun _ _ q => q), R.sF, fun a o h => ?_, R.mlen, fun n a c h1 h2 => ?_, R.nd, fun a o h => ?_, rfl, fun i sl h => by simp at h, fun i j c c' a h => by simp at h⟩
  · unfold keepH at h
    split at h
    · exact h
    · cases h
  · obtain ⟨r1, r2, r3⟩ := R.mem n a c h1 h2
    refine ⟨r1, r2, keepH_none fun q => ?_⟩
    rcases q with q | q
    · rw [r3] at q
      cases q
    · exact (R.ownF q).2.2.1 (List.mem_of_getElem? h1)
  · unfold keepH at h
    split at h
    · rename_i q
      rcases q with q | q
      · obtain ⟨o', ho'⟩ := Option.isSome_iff_exists.mp q
        exact R.fp a o' ho'
      · exact (R.ownF q).1
    · cases h
/-- and back -/
theorem Rel.back {β' : Bs} (R : Rel K β F M P σD s σ H) (R' : Rel K β' F' M' (keepH P σD σ H) [] s' [] H') (sf : Same F F') (e : Ext M M') : Rel K β F' M' P σD s' σ H' := by
  have kp : ∀ a o, P a = some o → keepH P σD σ H a = some o := fun a o h => by
    rw [keepH_at (.inl (by rw [h]; rfl))]
    exact R.sP a o h
  refine ⟨R.z.to sf e, R'.tb.to (.refl F') (fun _ _ _ q => q) (fun a ps _ q => by
      cases hp : P a with
      | none => rfl
      | some o =>
        rw [kp a o hp] at q
        cases q) (fun _ _ q => q), R'.sF, fun a o h => R'.sP a o (kp a o h), R'.mlen, fun n a c h1 h2 => ?_, R'.nd, fun a o h => R'.fp a o (kp a o h), R.slen, fun i sl h => ?_, R.dist⟩
  · obtain ⟨r1, r2, r3⟩ := R'.mem n a c h1 h2
    refine ⟨r1, r2, ?_⟩
    cases hp : P a with
    | none => rfl
    | some o =>
      rw [kp a o hp] at r3
      cases r3
  · refine (R.slot i sl h).mono sf e fun a h1 h2 h3 h4 ⟨c, hc⟩ => ?_
    subst hc
    have ho : OwnAt σD σ a := ⟨i, c, h, h1⟩
    have hk : keepH P σD σ H a = H a := keepH_at (.inr ho)
    obtain ⟨o, hH⟩ := (R.ownF ho).2.2.2
    refine ⟨fun o' h' => R'.sP a o' (by rw [hk]; exact h'), R'.fp a o (by rw [hk]; exact hH), fun hm => ?_⟩
    obtain ⟨n, hn⟩ := mem_at hm
    obtain ⟨c', hc'⟩ := R'.mat hn
    have := (R'.mem n a c' hn hc').2.2
    rw [hk, hH] at this
    cases this
theorem OutR.back (R : Rel K β F M P σD s σ H) {o : Out} {v : V} (h : OutR K F' M' (keepH P σD σ H) [] [] H' o v) : OutR K F' M' P σD σ H' o v := by
  cases o with
  | val d => exact h
  | own c =>
    obtain ⟨a, rfl, r, q⟩ := h
    have hn : P a = none ∧ ¬ OwnAt σD σ a := by
      have hq := q.p
      unfold keepH at hq
      by_cases hz : (P a).isSome ∨ OwnAt σD σ a
      · rw [if_pos hz] at hq
        exfalso
        rcases hz with hz | hz
        · obtain ⟨o, ho⟩ := Option.isSome_iff_exists.mp hz
          rw [R.sP a o ho] at hq
          cases hq
        · obtain ⟨o, ho⟩ := (R.ownF hz).2.2.2
          rw [ho] at hq
          cases hq
      · refine ⟨?_, fun z => hz (.inr z)⟩
        cases hp : P a with
        | none => rfl
        | some o => exact absurd (.inl (by rw [hp]; rfl)) hz
    exact ⟨a, rfl, r, q.f, hn.1, q.m, fun i c hi hs => hn.2 ⟨i, c, hi, hs⟩⟩
end

def E0 : XK := fun _ _ _ => False
/-- a def's promise by its functional semantics -/
def spG (K : PySem.W.Frag) (g : Fn) : Sp := fun vs H Q Z => ∃ F M P s Kq Zq ds, Rel K ⟨F, M, P⟩ F M P [] s [] H ∧ RVs K F M ds vs ∧ g ds s Kq Zq ∧
  (∀ o s' F' M' H' v, Kq o s' → Same F F' → Ext M M' → Rel K ⟨F, M, P⟩ F' M' P [] s' [] H' → OutR K F' M' P [] [] H' o v → Q v H') ∧
  ∀ e s' F' M' H' cls d, Zq e s' → Same F F' → Ext M M' → Rel K ⟨F, M, P⟩ F' M' P [] s' [] H' → ExcR K F' M' e cls d → Z cls d H'
/-- an __init__'s promise -/
def spI (K : PySem.W.Frag) (C : Str) (g : Fn) : Sp := fun vs H Q Z => ∃ x dx vs' F M P s Kq Zq ds, vs = .ref x :: vs' ∧ H x = some (.ins (He.ga K C) dx []) ∧ Off F M P [] [] x ∧ Rel K ⟨F, M, P⟩ F M P [] s [] H ∧ RVs K F M ds vs' ∧
  g ds s Kq Zq ∧ (∀ o s' F' M' H', Kq o s' → Same F F' → Ext M M' → Rel K ⟨F, M, P⟩ F' M' P [] s' [] H' → OutR K F' M' P [] [] H' o (.ref x) → Q .non H') ∧
  ∀ e s' F' M' H' cls d, Zq e s' → Same F F' → Ext M M' → Rel K ⟨F, M, P⟩ F' M' P [] s' [] H' → ExcR K F' M' e cls d → Z cls d H'

section
variable {X : Cx} {k : Nat} {f C : Addr} {fd : FuncData} {ps : List Str} {x m : Str} {p pos apos : Pos} {e o a : Expr} {es : List Expr} {is : Es} {g : Fn} {io : E}
/-- the callee's promise from a body -/
theorem spG_of [PkOk X κ] {σ : St} {G : Hp} {Q : VK} {F F0 : Hp} {M M0 : List Addr} {P : Hp} {σD : Slots} {s : Store} {K : QO} {ds : List D} {vs : List V} (R : Rel X.K κ.b F M P σD s σ G) (q : RVs X.K F M ds vs) (k : g ds s (fun o s => K o σD s) (fun e s => κ.qx e σD s)) (sf : Same F0 F) (ex : Ext M0 M)
    (hK : ∀ o σD' s' F' M' H' v, K o σD' s' → Same F0 F' → Ext M0 M' → Rel X.K κ.b F' M' P σD' s' σ H' → OutR X.K F' M' P σD' σ H' o v → Q v H') : ZW X σ (spG X.K g) vs G Q :=
  ⟨fun cls d H' => W0 X cls d σ H', fun _ _ _ z => z, F, M, _, s, _, _, ds, R.enter, q, k, fun o s' F' M' H' v k' sf' ex' R' q' => hK o σD s' F' M' H' v k' (sf.trans sf') (ex.trans ex') (R.back R' sf' ex') (OutR.back R q'),
    fun e s' F' M' H' cls d hz sf' ex' R' hE => PkOk.ok (κ := κ) e σD s' F' M' P σ H' cls d hz (R.back R' sf' ex') hE⟩
/-- f(a, ..) -/
theorem se_call [PkOk X κ] (F : FnA X.prog X.w X.K X.mg X.base (L2.CX X.prog X.w) k f fd ps (spG X.K g)) (hr : Room k X.A) (hs : Still X.A) (hg : Gl X x) (hm : X.mg x = some (.ref f)) (hk : PySem.W.keepIn X.K (.ref f) = true) (hb : Binds X.K fd ps [])
    (hdb : (x == ("__debug__" : Str)) = false) (he : starEach (a :: es) X.env = (false, eval a X.env) :: starEach es X.env) (hpl : (backTo pos (starEach es X.env)).any (·.1) = false)
    (ht : TruE X (.Call (.Name x p) (a :: es) [] pos)) (ha : SAs X κ (a :: es) is) : SEx X κ (.Call (.Name x p) (a :: es) [] pos) (.call g is) := by
  refine sex_dft (w.eq_19 g is) (fun _ _ _ _ _ => rfl) ht (pa_callF F hr hs hg hm hk hb ha.v hdb he hpl) fun σ H Q ⟨F, M, P, σD, s, K, R, h, hK⟩ => ?_
  exact ⟨F, M, P, σD, s, _, R, h, fun ds σ1 s1 F1 M1 H1 vs k1 sf1 e1 R1 q => spG_of R1 q k1 sf1 e1 hK⟩
end
end HP

set_option maxHeartbeats 2000000
/-! HpExp4: methods of lists and texts; dict displays. -/
namespace HP
open PySem L2
variable [LamT] {β : Bs} {κ : Pk}

def rmD (K : PySem.W.Frag) (m : Mm) : V → List V → Hp → VK → Prop := fun x xs H Q => ∃ F M c l ds, Same F H ∧ x = .ref l ∧ CR K F M H l c ∧ RVs K F M ds xs ∧ optK (mmSem m c ds) fun p => ∀ o v, CR K F M (upd H l o) l p.1 → RV K F M p.2 v → Q v (upd H l o)
theorem RVs.one {K : PySem.W.Frag} {F : Hp} {M : List Addr} {d : D} {vs : List V} (h : RVs K F M [d] vs) : ∃ v, vs = [v] ∧ RV K F M d v := by
  cases h with
  | cons a b => cases b; exact ⟨_, rfl, a⟩
theorem RVs.two {K : PySem.W.Frag} {F : Hp} {M : List Addr} {d e : D} {vs : List V} (h : RVs K F M [d, e] vs) : ∃ v w, vs = [v, w] ∧ RV K F M d v ∧ RV K F M e w := by
  cases h with
  | cons a b =>
    obtain ⟨w, rfl, hw⟩ := b.one
    exact ⟨_, _, rfl, a, hw⟩
theorem RVs.lastV {K : PySem.W.Frag} {F : Hp} {M : List Addr} {ds : List D} {vs : List V} {d : D} (h : RVs K F M ds vs) (e : ds.getLast? = some d) : ∃ v, vs[vs.length - 1]? = some v ∧ RV K F M d v := by
  rw [List.getLast?_eq_getElem?] at e
  obtain ⟨v, hv, r⟩ := h.get e
  exact ⟨v, by rw [← h.length]; exact hv, r⟩
theorem CR.lstI {K : PySem.W.Frag} {F : Hp} {M : List Addr} {H : Hp} {l : Addr} {xs : List D} (h : CR K F M H l (.lst xs)) : ∃ vs, H l = some (.lst vs) ∧ RVs K F M xs vs := by
  cases h with
  | lst a b => exact ⟨_, a, b⟩

section
variable {X : Cx}
theorem mm_pop : MtR X "list.pop" (rmD X.K .pop) := by
  intro pins s σ H x xs v us Q I rx rv h
  obtain ⟨F, M, c, l, ds, sF, rfl, hc, hd, h⟩ := h
  replace h := optK_ex h
  obtain ⟨p, hp, h⟩ := h
  unfold mmSem at hp
  split at hp <;> try (cases ‹Mm.pop = _›; done)
  · split at hp <;> cases hp
    rename_i hz
    obtain ⟨vs, h1, h2⟩ := hc.lstI
    cases hd
    obtain ⟨y, hy, r⟩ := h2.lastV hz
    exact mt_pop pins s σ H _ _ v us Q I rx rv ⟨l, vs, y, rfl, rfl, h1, hy, h _ _ (.lst upd_same h2.dropLast) r⟩
  · split at hp <;> try (cases hp; done)
    rename_i j hj
    obtain ⟨y, hy, rfl⟩ := Option.map_eq_some_iff.mp hp
    obtain ⟨vs, h1, h2⟩ := hc.lstI
    obtain ⟨w, rfl, hw⟩ := hd.one
    cases hw
    obtain ⟨z, hz, r⟩ := h2.get hy
    obtain ⟨q1, q2, q3, q4⟩ := ixN_seq hj
    rw [h2.length] at q1 q3 q4
    obtain ⟨hs, _⟩ := I.lstM h1
    have hn := line63
    exact mt_popAt pins s σ H _ _ v us Q I rx rv ⟨l, vs, _, j, z, rfl, rfl, h1, by omega, by omega, q1, hz, h _ _ (.lst upd_same (h2.eraseIdx j)) r⟩
  · cases hp
theorem upCont_rel {K : PySem.W.Frag} {F : Hp} {M : List Addr} {P : Hp} {σD : Slots} {s : Store} {σ : St} {H : Hp} {x : Opd} {v : V} {f : Cont → Option (Cont × D)} {k : D → Slots → Store → Prop} (R : Rel K β F M P σD s σ H) (ox : OpdR K F M σ x v) (h : upCont x σD s f k) :
    ∃ c l p, v = .ref l ∧ CR K F M H l c ∧ f c = some p ∧ ∀ o, CR K F M (upd H l o) l p.1 → ∃ σD' s', k p.2 σD' s' ∧ Rel K β F M P σD' s' σ (upd H l o) := by
  cases x with
  | slot i =>
    simp only [upCont] at h
    cases hi : σD[i]? with
    | none => rw [hi] at h; exact h.elim
    | some sl =>
      rw [hi] at h
      cases sl with
      | unb => exact h.elim
      | val d => exact h.elim
      | own c =>
        obtain ⟨p, hp, h⟩ := optK_ex h
        obtain ⟨a, ha, r, _⟩ := (R.slot i _ hi).ov
        cases ha.symm.trans ox
        exact ⟨c, a, p, rfl, r, hp, fun o hc => ⟨_, _, h, R.updSlot hi ha hc⟩⟩
  | val d =>
    cases d <;> try (exact h.elim)
    rename_i n
    simp only [upCont] at h
    obtain ⟨c, hc, h⟩ := optK_ex h
    obtain ⟨p, hp, h⟩ := optK_ex h
    cases ox with
    | ref hm => exact ⟨c, _, p, rfl, (R.mem n _ c hm hc).1, hp, fun o hc' => ⟨_, _, h, R.updMem hm hc hc'⟩⟩
theorem isLst_rel {K : PySem.W.Frag} {F : Hp} {M : List Addr} {H : Hp} {d : D} {v : V} (sF : Same F H) (r : RVt K F M H d v) (h : isLst d = true) : tyV K "list" v H := by
  cases d <;> try (simp [isLst] at h; done)
  obtain ⟨a, vs, rfl, h1, h2⟩ := r.lst sF
  exact .inl ⟨rfl, vs, .inl (.inl h1)⟩
section
variable {o e : Expr} {es : List Expr} {is : Es} {io : E} {name : Str} {apos pos : Pos} {id : String} {m : Mm}
/-- o.append(a), .. -/
theorem se_mm (slot : PySem.Slot "list" name id) (hty : typeOf (.builtin id) = pure (.type "method_descriptor")) (hm : MtR X id (rmD X.K m)) (ho : SEx X κ o io) (ha : SAs X κ (e :: es) is) (hbase : attributeBase o name X.env (eval o X.env) = eval o X.env)
    (hfew : ((backTo pos (starEach (e :: es) X.env)).all (fun x => !x.1) && (backToKw pos (keywordEach [] X.env)).all (fun x => x.1.isSome) && decide ((e :: es).length + ([] : List Keyword).length + (if ([] : List Keyword).isEmpty then 0 else 1) < 30)) = true)
    (hline : (apos.endLine == pos.line) = true) (hs : starEach (e :: es) X.env = (false, eval e X.env) :: starEach es X.env) (hpl : (backTo pos (starEach es X.env)).any (·.1) = false) (ht : TruE X (.Call (.Attribute o name apos) (e :: es) [] pos)) :
    SEx X κ (.Call (.Attribute o name apos) (e :: es) [] pos) (.mm m io is) := by
  refine sex_dft (w.eq_28 m io is) (fun _ _ _ _ _ => rfl) ht (pe_bm PySem.F.plainAttrs_list slot hty hm ho.o ha.v hbase hfew hline hs hpl) fun σ H Q ⟨F, M, P, σD, s, K, R, h, hK⟩ => ?_
  refine ⟨F, M, P, σD, s, _, R, h, fun x σ1 s1 F1 M1 H1 vx k1 sf1 e1 R1 ox => ?_⟩
  obtain ⟨d, hd, k1⟩ := optK_ex k1
  obtain ⟨k0, k1⟩ := k1
  refine ⟨isLst_rel R1.sF (R1.res ox hd) k0, ⟨F1, M1, P, σ1, s1, _, R1, k1, fun ds σ2 s2 F2 M2 H2 vs k2 sf2 e2 R2 q2 => ?_⟩⟩
  obtain ⟨c, l, p, rfl, hc, hp, hn⟩ := upCont_rel R2 (ox.mono sf2 e2) k2
  refine ⟨F2, M2, c, l, ds, R2.sF, rfl, hc, q2, ?_⟩
  rw [hp]
  intro o v hc' rv
  obtain ⟨σD', s', k', R'⟩ := hn o hc'
  exact hK _ _ _ F2 M2 _ _ k' (sf1.trans sf2) (e1.trans e2) R' rv
end

/-! ### methods that change nothing -/
def rbD (K : PySem.W.Frag) (m : Bm) : V → List V → Hp → VK → Prop := fun x xs H Q => ∃ F M d ds, Same F H ∧ RVt K F M H d x ∧ RVts K F M H ds xs ∧ optK (bmSem m d ds) fun o => ∀ H' v, OutN K F M H H' o v → Q v H'
/-- of that built-in type, and without a dict of its own -/
def tyX (K : PySem.W.Frag) (T : String) (v : V) (H : Hp) : Prop := tyV K T v H ∨ (T = "tuple" ∧ ∃ a vs, v = .ref a ∧ SqX K H a vs)
section
variable {o e : Expr} {es : List Expr} {is : Es} {io : E} {name : Str} {apos pos : Pos} {id : String} {m : Bm}
end

/-! ### dict displays -/
theorem putK_cons_eq {p : Key × V} {r : List (Key × V)} {k : Key} {v : V} (e : p.1 = k) (hn : k ∉ r.map (·.1)) : putK (p :: r) k v = (p.1, v) :: r := by
  unfold putK
  rw [List.any_cons, decide_eq_true e, Bool.true_or, if_pos rfl, List.map_cons, if_pos e]
  congr 1
  clear e p
  induction r with
  | nil => rfl
  | cons q t ih =>
    simp only [List.map_cons, List.mem_cons, not_or] at hn
    rw [List.map_cons, if_neg (fun z => hn.1 z.symm), ih hn.2]
theorem putK_cons_ne {p : Key × V} {r : List (Key × V)} {k : Key} {v : V} (e : ¬ p.1 = k) : putK (p :: r) k v = p :: putK r k v := by
  unfold putK
  rw [List.any_cons, decide_eq_false e, Bool.false_or]
  split
  · rw [List.map_cons, if_neg e]
  · rfl
theorem putD_rel {K : PySem.W.Frag} {F : Hp} {M : List Addr} {q : Key} {d : D} {v : V} (rv : RV K F M d v) : ∀ {kvs : List (Key × V)} {ds : List D}, (kvs.map (·.1)).Nodup → RVs K F M ds (kvs.map (·.2)) →
    (putD (kvs.map fun p => keyD p.1) ds (keyD q) d).1 = (putK kvs q v).map (fun p => keyD p.1) ∧ RVs K F M (putD (kvs.map fun p => keyD p.1) ds (keyD q) d).2 ((putK kvs q v).map (·.2)) ∧ ((putK kvs q v).map (·.1)).Nodup
  | [], _, _, .nil => ⟨rfl, .cons rv .nil, by simp [putK]⟩
  | p :: r, _, nd, .cons (d := d0) (ds := ds) h0 hr => by
    simp only [List.map_cons, List.nodup_cons] at nd
    by_cases e : p.1 = q
    · have hp : putD ((p :: r).map fun p => keyD p.1) (d0 :: ds) (keyD q) d = ((p :: r).map fun p => keyD p.1, d :: ds) := by
        unfold putD
        rw [keyAt_map, List.findIdx?_cons, decide_eq_true e]
        rfl
      rw [hp, putK_cons_eq e (by rw [← e]; exact nd.1)]
      exact ⟨rfl, .cons rv hr, by simp only [List.map_cons, List.nodup_cons]; exact nd⟩
    · have hp : putD ((p :: r).map fun p => keyD p.1) (d0 :: ds) (keyD q) d = (keyD p.1 :: (putD (r.map fun p => keyD p.1) ds (keyD q) d).1, d0 :: (putD (r.map fun p => keyD p.1) ds (keyD q) d).2) := by
        unfold putD
        rw [keyAt_map, keyAt_map, List.findIdx?_cons, decide_eq_false e]
        cases r.findIdx? (fun p => decide (p.1 = q)) <;> simp
      obtain ⟨h1, h2, h3⟩ := putD_rel rv (q := q) nd.2 hr
      rw [hp, putK_cons_ne e]
      refine ⟨by rw [h1]; rfl, .cons h0 h2, ?_⟩
      simp only [List.map_cons, List.nodup_cons]
      refine ⟨fun z => ?_, h3⟩
      obtain ⟨y, hy, hz⟩ := List.mem_map.mp z
      unfold putK at hy
      split at hy
      · obtain ⟨u, hu, rfl⟩ := List.mem_map.mp hy
        refine nd.1 (List.mem_map.mpr ⟨u, hu, ?_⟩)
        rw [← hz]
        split <;> rfl
      · rcases List.mem_append.mp hy with hy | hy
        · exact nd.1 (List.mem_map.mpr ⟨y, hy, hz⟩)
        · simp at hy
          subst hy
          exact e hz.symm
inductive PRs (K : PySem.W.Frag) (F : Hp) (M : List Addr) : List (D × D) → List (V × V) → Prop
  | nil : PRs K F M [] []
  | cons {p : D × D} {q : V × V} {ps : List (D × D)} {qs : List (V × V)} : RV K F M p.1 q.1 → RV K F M p.2 q.2 → PRs K F M ps qs → PRs K F M (p :: ps) (q :: qs)
theorem PRs.length {K : PySem.W.Frag} {F : Hp} {M : List Addr} {ps : List (D × D)} {qs : List (V × V)} (h : PRs K F M ps qs) : ps.length = qs.length := by
  induction h with
  | nil => rfl
  | cons _ _ _ ih => rw [List.length_cons, List.length_cons, ih]
theorem mergeD_rel {K : PySem.W.Frag} {F : Hp} {M : List Addr} : ∀ {ps : List (D × D)} {qs : List (V × V)} {kvs : List (Key × V)} {ds : List D} {r : List D × List D}, PRs K F M ps qs → (kvs.map (·.1)).Nodup → RVs K F M ds (kvs.map (·.2)) →
    mergeD (kvs.map fun p => keyD p.1) ds ps = some r → ∃ more : List (Key × V), qs = more.map (fun kv => (kV kv.1, kv.2)) ∧ r.1 = (mergeK kvs more).map (fun p => keyD p.1) ∧ RVs K F M r.2 ((mergeK kvs more).map (·.2)) ∧ ((mergeK kvs more).map (·.1)).Nodup
  | [], _, kvs, ds, r, .nil, nd, hr, h => by
    simp only [mergeD, Option.some.injEq] at h
    subst h
    exact ⟨[], rfl, rfl, hr, nd⟩
  | (k, v) :: ps, _, kvs, ds, r, .cons h1 h2 h3, nd, hr, h => by
    simp only [mergeD] at h
    split at h <;> try (cases h; done)
    rename_i hf
    obtain ⟨q, rfl, hq⟩ := keyFits_of (H := F) (.inl h1) hf
    obtain ⟨g1, g2, g3⟩ := putD_rel h2 (q := q) nd hr
    rw [g1] at h
    obtain ⟨more, e1, e2, e3, e4⟩ := mergeD_rel h3 g3 g2 h
    refine ⟨(q, _) :: more, ?_, e2, e3, e4⟩
    rw [List.map_cons, ← e1, ← hq]
def tPs (X : Cx) (κ : Pk) (es : Es) : St → Hp → (List (V × V) → Hp → Prop) → Prop := fun σ H Q => ∃ F M P σD s K, Rel X.K κ.b F M P σD s σ H ∧ wPs es σD s K κ.qx ∧
  ∀ x σD' s' F' M' H' v, K x σD' s' → Same F F' → Ext M M' → Rel X.K κ.b F' M' P σD' s' σ H' → PRs X.K F' M' x v → Q v H'
/-- the pairs of a display -/
structure SPs (X : Cx) (κ : Pk) (pos : Pos) (keys : List (Option Expr)) (values : List Expr) (is : Es) : Prop where
  ex : ∃ trs, PPs X pos keys values trs ∧ ∀ σ H Q, tPs X κ is σ H Q → tPairs trs σ H Q
theorem sp_nil {pos : Pos} : SPs X κ pos [] [] .nil := ⟨[], pps_nil, fun σ H Q ⟨F, M, P, σD, s, K, R, h, hK⟩ => by
  rw [wPs] at h
  exact hK _ _ _ F M H _ h (.refl F) (.refl M) R .nil⟩
theorem sp_cons {pos : Pos} {k v : Expr} {ks : List (Option Expr)} {vs : List Expr} {ik iv : E} {is : Es} (hk : SEx X κ k ik) (hv : SEx X κ v iv) (hr : SPs X κ pos ks vs is) : SPs X κ pos (some k :: ks) (v :: vs) (.cons ik (.cons iv is)) := by
  obtain ⟨trs, h1, h2⟩ := hr
  refine ⟨_, pps_cons hk.v hv.v h1, fun σ H Q ⟨F, M, P, σD, s, K, R, h, hK⟩ => ?_⟩
  rw [wPs] at h
  refine ⟨F, M, P, σD, s, _, R, h, fun o σ1 s1 F1 M1 H1 v1 k1 sf1 e1 R1 q1 => ?_⟩
  obtain ⟨G1, g1, R1, r1⟩ := R1.frz q1
  refine ⟨G1, M1, P, σ1, s1, _, R1, k1, fun o2 σ2 s2 F2 M2 H2 v2 k2 sf2 e2 R2 q2 => ?_⟩
  obtain ⟨G2, g2, R2, r2⟩ := R2.frz q2
  refine h2 σ H2 _ ⟨G2, M2, P, σ2, s2, _, R2, k2, fun ps σ3 s3 F3 M3 H3 qs k3 sf3 e3 R3 q3 => ?_⟩
  exact hK _ _ _ F3 M3 H3 _ k3 (sf1.trans (g1.trans (sf2.trans (g2.trans sf3)))) (e1.trans (e2.trans e3)) R3 (.cons (r1.mono (sf2.trans (g2.trans sf3)) (e2.trans e3)) (r2.mono sf3 e3) q3)
/-- an object is kept for the while -/
theorem Rel.guard {K : PySem.W.Frag} {F : Hp} {M : List Addr} {P : Hp} {σD : Slots} {s : Store} {σ : St} {H : Hp} {p : Addr} {o : HO} (R : Rel K β F M P σD s σ H) (hp : H p = none) : Rel K β F M (upd P p o) σD s σ (upd H p o) := by
  have R1 := R.junk (o := o) hp
  have q := R.off hp
  have hT : ∀ (a : Addr) (ps : Array Value), H a = some (.tbl ps) → a ≠ p := fun a ps e z => by rw [z, hp] at e; cases e
  refine ⟨⟨R1.z.f, R1.z.m, R1.z.p.trans (same_upd q.p)⟩, R.tb.to (.refl F) (fun _ _ _ q => q) (fun a ps e q => by rw [upd_ne (hT a ps e)]; exact q) (fun a ps e => by rw [upd_ne (hT a ps e)]; exact e), R1.sF, fun b u e => ?_, R1.mlen, fun n a c h1 h2 => ?_, R1.nd, fun a u e => ?_, R1.slen, fun i sl h => ?_, R1.dist⟩
  · by_cases z : b = p
    · subst z
      rw [upd_same] at e ⊢
      exact e
    · rw [upd_ne z] at e
      exact R1.sP b u e
  · obtain ⟨r1, r2, r3⟩ := R1.mem n a c h1 h2
    have hne : a ≠ p := fun z => q.m (z ▸ List.mem_of_getElem? h1)
    exact ⟨r1, r2, by rw [upd_ne hne]; exact r3⟩
  · by_cases z : a = p
    · subst z
      exact q.f
    · rw [upd_ne z] at e
      exact R1.fp a u e
  · have r := R1.slot i sl h
    cases r with
    | unb => exact .unb
    | val a b => exact .val a b
    | @own c a b1 b2 b3 b4 b5 =>
      have hne : a ≠ p := fun z => q.o i _ h (z ▸ b1)
      exact .own b1 b2 b3 (by rw [upd_ne hne]; exact b4) b5
theorem Rel.less {K : PySem.W.Frag} {F : Hp} {M : List Addr} {P P' : Hp} {σD : Slots} {s : Store} {σ : St} {H : Hp} (R : Rel K β F M P' σD s σ H) (h : Same P P') (hp : Same β.P0 P) : Rel K β F M P σD s σ H := by
  refine ⟨⟨R.z.f, R.z.m, hp⟩, R.tb.to (.refl F) (fun _ _ _ q => q) (fun a ps _ q => h.free q) (fun _ _ q => q), R.sF, h.trans R.sP, R.mlen, fun n a c h1 h2 => ?_, R.nd, fun a u e => R.fp a u (h a u e), R.slen, fun i sl hi => ?_, R.dist⟩
  · obtain ⟨r1, r2, r3⟩ := R.mem n a c h1 h2
    exact ⟨r1, r2, h.free r3⟩
  · cases R.slot i sl hi with
    | unb => exact .unb
    | val a b => exact .val a b
    | own a b c d e => exact .own a b c (h.free d) e
/-- what was kept is off -/
theorem Rel.kept_off {K : PySem.W.Frag} {F : Hp} {M : List Addr} {P P' : Hp} {σD : Slots} {s : Store} {σ : St} {H : Hp} {p : Addr} {o : HO} (R : Rel K β F M P' σD s σ H) (hp : P' p = some o) (hn : P p = none) : Off F M P σD σ p := by
  refine ⟨R.fp p o hp, hn, fun hm => ?_, fun i c h1 h2 => ?_⟩
  · obtain ⟨n, hn⟩ := mem_at hm
    obtain ⟨c, hc⟩ := R.mat hn
    have := (R.mem n p c hn hc).2.2
    rw [hp] at this
    cases this
  · obtain ⟨b, hb, _, _, hq, _⟩ := (R.slot i _ h1).ov
    rw [h2] at hb
    cases hb
    rw [hp] at hq
    cases hq
/-- an off object is changed -/
theorem Rel.updOff {K : PySem.W.Frag} {F : Hp} {M : List Addr} {P : Hp} {σD : Slots} {s : Store} {σ : St} {H : Hp} {p : Addr} {o : HO} (R : Rel K β F M P σD s σ H) (q : Off F M P σD σ p) (hn : ∀ ps, H p ≠ some (.tbl ps)) : Rel K β F M P σD s σ (upd H p o) := by
  refine ⟨R.z, R.tb.to (.refl F) (fun _ _ _ q => q) (fun _ _ _ q => q) (fun a ps e => by rw [upd_ne (upd_nt hn e)]; exact e), upd_same2 R.sF q.f, upd_same2 R.sP q.p, R.mlen, fun n a c h1 h2 => ?_, R.nd, R.fp, R.slen, fun i sl hi => ?_, R.dist⟩
  · obtain ⟨r1, r2, r3⟩ := R.mem n a c h1 h2
    have hne : a ≠ p := fun z => q.m (z ▸ List.mem_of_getElem? h1)
    exact ⟨r1.mono (.refl F) (.refl M) fun u x => by rw [upd_ne hne]; exact x, r2, r3⟩
  · refine (R.slot i sl hi).mono (.refl F) (.refl M) fun b h1 h2 h3 h4 ⟨c, hc⟩ => ⟨fun u x => ?_, h2, h4⟩
    subst hc
    have hne : b ≠ p := fun z => q.o i c hi (z ▸ h1)
    rw [upd_ne hne]
    exact x
theorem same_updP {P : Hp} {p : Addr} {o : HO} (h : P p = none) : Same P (upd P p o) := same_upd h
theorem se_dct {keys : List (Option Expr)} {values : List Expr} {is : Es} {pos : Pos} (hps : SPs X κ pos keys values is) (hall : keys.all (·.isSome) = true) (hl : keys.length = values.length) (h0 : keys ≠ []) (h15 : keys.length ≤ 15) :
    SEx X κ (.Dict keys values pos) (.dct is) := by
  obtain ⟨trs, h1, h2⟩ := hps
  refine sex_dft (w.eq_13 is) (fun _ _ _ _ _ => rfl) (fun _ => rfl) (pe_disp h1 hall hl h0 h15) fun σ H Q ⟨F, M, P, σD, s, K, R, h, hK⟩ p hp => ?_
  have q0 := R.off hp
  refine h2 σ _ _ ⟨F, M, _, σD, s, _, R.guard hp, h, fun ps σ1 s1 F1 M1 H1 qs k sf1 e1 R1 q => ?_⟩
  split at k <;> try (exact k.elim)
  rename_i hz
  obtain ⟨r, hr, k⟩ := optK_ex k
  obtain ⟨more, g1, g2, g3, g4⟩ := mergeD_rel (kvs := []) q (by simp) .nil hr
  have hq : qs.length ≤ 15 := by
    have := q.length
    omega
  refine ⟨R1.sP p _ upd_same, more, g1, by rw [g1, List.length_map] at hq; exact hq, ?_⟩
  have qo : Off F1 M1 P σ1 σ p := R1.kept_off upd_same q0.p
  have R2 := (R1.less (same_updP q0.p) R.z.p).updOff (o := .dK (mergeK [] more)) qo (nt_at (R1.sP p _ upd_same) nofun)
  refine hK _ _ _ F1 M1 _ _ k sf1 e1 R2 ⟨p, rfl, ?_, qo⟩
  rw [g2]
  exact .dct upd_same rfl g4 g3
end
end HP

set_option maxHeartbeats 2000000
/-! HpEqT: == of two dicts with the same keys, nested tuples, in the same order. -/
namespace HP
open PySem L2 PySem.Spec
open PyProof.Rows hiding St
open PySem.SeqAt (EqIn EqAt rcIn_lists rcIn_tuples)
section
variable {prog : Program} {w : World} {K : Type} [DecidableEq K] {knd : HeapKind prog w K} {A : Around} {E : Value → Shared → Prop} {s : Shared}
end
end HP

set_option maxHeartbeats 2000000
/-! HpEqd: == and != of two dicts that are equal; their values may be lists of the store. -/
namespace HP
open PySem L2
variable [LamT] {β : Bs} {κ : Pk}
/-- what the two dicts hold -/
def rEqd (K : PySem.W.Frag) (n : Bool) : R2 := fun x y H Q => ∃ (a b : Addr) (ks ls : List (Key × V)) (F : Hp) (M : List Addr), x = .ref a ∧ y = .ref b ∧ H a = some (.dK ks) ∧ H b = some (.dK ls) ∧ ks.length = ls.length ∧ Same F H ∧
  (∀ p ∈ ks, ∃ u d e, valV ls p.1 = some u ∧ RVt K F M H d p.2 ∧ RVt K F M H e u ∧ (d.ok && e.ok && eqD d e) = true) ∧ Q (.bl (!n)) H
section
variable {X : Cx} {pins : List (Addr × Obj)} {σ : St} {H F : Hp} {M : List Addr} {s : Shared}
end
section
variable {X : Cx} {pins : List (Addr × Obj)} {σ : St} {H F : Hp} {M : List Addr} {s : Shared}
/-- two equal tuples -/
def rEqT (K : PySem.W.Frag) (n : Bool) : R2 := fun x y H Q => ∃ (F : Hp) (M : List Addr) (xs ys : List D), Same F H ∧ RV K F M (.tup xs) x ∧ RV K F M (.tup ys) y ∧ eqTs xs ys = true ∧ Q (.bl (!n)) H
end
section
variable {X : Cx} {a b : Expr} {ia ib : E} {pos : Pos}
end
end HP

set_option maxHeartbeats 2000000
/-! HpTab3: displays of dicts whose keys are nested tuples. -/
namespace HP
open PySem L2
variable [LamT] {β : Bs} {κ : Pk}
def tputs (acc : List Ent) (es : List Ent) : List Ent := es.foldl (fun acc x => tput acc x.1 x.2.1 x.2.2) acc
/-- the keys of new entries, by the small language -/
structure KeyL (K : PySem.W.Frag) (F : Hp) (M : List Addr) (ds : List D) (es : List Ent) : Prop where
  n : nks ds = some (es.map (·.1))
  t : ds.all tkey = true
  r : RVs K F M ds (es.map fun x => .ref x.2.1)
def tTabD (K : PySem.W.Frag) (trs : List (TE × TE)) : TE := fun σ H Q => ∀ p, H p = none → tPairs trs σ (upd H p (tabO p [] dict0)) fun ps H2 => H2 p = some (tabO p [] dict0) ∧
  ∃ (es : List Ent) (F : Hp) (M : List Addr) (ds : List D), ps = es.map (fun x => (V.ref x.2.1, x.2.2)) ∧ es.length ≤ 15 ∧ Same F H2 ∧ KeyL K F M ds es ∧ ∀ o, Q (.ref p) (upd H2 p (tabO p (tputs [] es) o))
section
variable {X : Cx} {pos : Pos} {keys : List (Option Expr)} {values : List Expr}
end
section
variable {X : Cx}
end
end HP

set_option maxHeartbeats 2000000
/-! HpMeth: xs.index(x) of a list, t.index(x) of a tuple of texts, d.get(k), d.get(k, x). -/
namespace HP
open PySem L2 PySem.Spec PySem.W PySem.SeqAt
open PyProof.Rows hiding St
variable [LamT] {β : Bs} {κ : Pk}

theorem RVt.flat {K : PySem.W.Frag} {F H : Hp} {M : List Addr} {d : D} {v : V} (h : RVt K F M H d v) (hf : isFlat d = true) : RV K F M d v := by
  rcases h with h | ⟨c, a, e, _⟩
  · exact h
  · cases c <;> (subst e; cases hf)
section
variable {X : Cx}
end
end HP

set_option maxHeartbeats 2000000
/-! HpStm: statements. -/
namespace HP
open PySem L2
variable [LamT] {β : Bs} {κ : Pk}

/-- what is wanted behind a statement, from a state whose frozen things are F, whose store stands at M -/
structure EndsR (X : Cx) (κ : Pk) (J : St → Prop) (F : Hp) (M : List Addr) (P : Hp) (Pt : Post) (D : Ends) : Prop where
  nx : ∀ σD' s' F' M' σ' H', Pt.nx σD' s' → Same F F' → Ext M M' → J σ' → Rel X.K κ.b F' M' P σD' s' σ' H' → D.nx σ' H'
  bk : ∀ σD' s' F' M' σ' H', Pt.bk σD' s' → Same F F' → Ext M M' → J σ' → Rel X.K κ.b F' M' P σD' s' σ' H' → D.bk σ' H'
  ct : ∀ σD' s' F' M' σ' H', Pt.ct σD' s' → Same F F' → Ext M M' → J σ' → Rel X.K κ.b F' M' P σD' s' σ' H' → D.ct σ' H'
  rt : ∀ o σD' s' F' M' σ' H' v, Pt.rt o s' → Same F F' → Ext M M' → Rel X.K κ.b F' M' P σD' s' σ' H' → OutR X.K F' M' P σD' σ' H' o v → D.rt v H'
  ex : Pt.ex = κ.qx
def tS (X : Cx) (κ : Pk) (J : St → Prop) (r : Slots → Store → Post → Prop) : TS := fun D σ H => ∃ F M P σD s Pt, Rel X.K κ.b F M P σD s σ H ∧ J σ ∧ r σD s Pt ∧ EndsR X κ J F M P Pt D
/-- the statement st is read as i -/
def SSt (X : Cx) (κ : Pk) (J : St → Prop) (st : Stmt) (i : S) : Prop := PS X st (tS X κ J (wS i))
def SSs (X : Cx) (κ : Pk) (J : St → Prop) (st : List Stmt) (i : Ss) : Prop := PSs X st (tS X κ J (wSs i))
/-- the names that may be bound -/
def JSet (J : St → Prop) (i : Nat) : Prop := ∀ σ v, J σ → J (σ.set i (some v))

section
variable {X : Cx} {J : St → Prop} {F F' : Hp} {M M' : List Addr} {P : Hp} {Pt Pt' : Post} {D D' : Ends} {e a b c : Expr} {ie ia ib ic : E} {pos : Pos} {st : Stmt} {sts : List Stmt} {i : S} {is : Ss}
theorem EndsR.mono (h : EndsR X κ J F M P Pt D) (s : Same F F') (x : Ext M M') : EndsR X κ J F' M' P Pt D :=
  ⟨fun a b c d e f k l m n o => h.nx a b c d e f k (s.trans l) (x.trans m) n o, fun a b c d e f k l m n o => h.bk a b c d e f k (s.trans l) (x.trans m) n o, fun a b c d e f k l m n o => h.ct a b c d e f k (s.trans l) (x.trans m) n o,
    fun a b c d e f g v k l m n o => h.rt a b c d e f g v k (s.trans l) (x.trans m) n o, h.ex⟩
theorem psImp {t t' : TS} (h : PS X st t) (k : ∀ D σ H, t' D σ H → t D σ H) : PS X st t' := ⟨fun pins s σ H D I q => h.run pins s σ H D I (k D σ H q)⟩
theorem pssImp {t t' : TS} (h : PSs X sts t) (k : ∀ D σ H, t' D σ H → t D σ H) : PSs X sts t' := ⟨fun pins s σ H D I q => h.run pins s σ H D I (k D σ H q)⟩

theorem ss_nil : SSs X κ J [] .nil := pssImp pss_nil fun D σ H ⟨F, M, P, σD, s, Pt, R, j, h, hE⟩ => by
  rw [wSs] at h
  exact hE.nx _ _ F M σ H h (.refl F) (.refl M) j R
theorem ss_cons (h1 : SSt X κ J st i) (h2 : SSs X κ J sts is) : SSs X κ J (st :: sts) (.cons i is) := pssImp (pss_cons h1 h2) fun D σ H ⟨F, M, P, σD, s, Pt, R, j, h, hE⟩ => by
  rw [wSs] at h
  refine ⟨F, M, P, σD, s, _, R, j, h, ?_, hE.bk, hE.ct, hE.rt, hE.ex⟩
  exact fun σD' s' F' M' σ' H' k sf ex j' R' => ⟨F', M', P, σD', s', Pt, R', j', k, hE.mono sf ex⟩
/-- the value of a name that is returned -/
theorem Rel.unbind {K : PySem.W.Frag} {σD : Slots} {s : Store} {σ : St} {H : Hp} (R : Rel K β F M P σD s σ H) (n : Nat) : Rel K β F M P (σD.set n .unb) s σ H := by
  refine ⟨R.z, R.tb, R.sF, R.sP, R.mlen, R.mem, R.nd, R.fp, by rw [List.length_set]; exact R.slen, fun j sl hj => ?_, fun j k c1 c2 b h1 h2 h3 h4 => ?_⟩
  · rcases getElem?_set_cases hj with ⟨rfl, rfl⟩ | ⟨_, hj⟩
    · exact .unb
    · exact R.slot j sl hj
  · rcases getElem?_set_cases h1 with ⟨_, e⟩ | ⟨_, h1⟩
    · cases e
    · rcases getElem?_set_cases h2 with ⟨_, e⟩ | ⟨_, h2⟩
      · cases e
      · exact R.dist j k c1 c2 b h1 h2 h3 h4
theorem notVar_ret {x : E} (hn : ∀ n, x ≠ .var n) (σ : Slots) (s : Store) (P : Post) : wS (.ret x) σ s P = wE x σ s (fun o _ s => P.rt o s) P.ex := by
  cases x <;> first
    | (rw [wS] <;> intros <;> first | rfl | contradiction)
    | exact absurd rfl (hn _)
theorem st_ret (hn : ∀ n, ie ≠ .var n) (he : SEx X κ e ie) : SSt X κ J (.Return (some e) pos) (.ret ie) := psImp (ps_ret he.v) fun D σ H ⟨F, M, P, σD, s, Pt, R, j, h, hE⟩ => by
  rw [notVar_ret hn, hE.ex] at h
  exact ⟨F, M, P, σD, s, _, R, h, fun o σ1 s1 F1 M1 H1 v k sf ex R1 q => hE.rt o σ1 s1 F1 M1 σ H1 v k sf ex R1 q⟩
theorem st_retV {n : Nat} (p : PE X e (tVar n)) : SSt X κ J (.Return (some e) pos) (.ret (.var n)) := psImp (ps_ret p) fun D σ H ⟨F, M, P, σD, s, Pt, R, j, h, hE⟩ => by
  rw [wS] at h
  cases hs : σD[n]? with
  | none => rw [hs] at h; exact h.elim
  | some sl =>
    rw [hs] at h
    cases sl with
    | unb => exact h.elim
    | val d =>
      obtain ⟨v, hv, r⟩ := (R.slot n _ hs).vv
      exact ⟨v, hv, hE.rt _ σD s F M σ H v h (.refl F) (.refl M) R r⟩
    | own c =>
      obtain ⟨a, ha, r, q1, q2, q3⟩ := (R.slot n _ hs).ov
      refine ⟨_, ha, hE.rt _ _ s F M σ H _ h (.refl F) (.refl M) (R.unbind n) ⟨a, rfl, r, q1, q2, q3, fun j c' hj hz => ?_⟩⟩
      rcases getElem?_set_cases hj with ⟨_, e⟩ | ⟨hne, hj⟩
      · cases e
      · exact hne (R.dist n j c c' a hs hj ha hz)
theorem st_if {x y : List Stmt} {ix iy : Ss} (hc : SEx X κ c ic) (hx : SSs X κ J x ix) (hy : SSs X κ J y iy) : SSt X κ J (.If c x y pos) (.ife ic ix iy) := psImp (ps_if hc.t hx hy) fun D σ H ⟨F, M, P, σD, s, Pt, R, j, h, hE⟩ => by
  rw [wS, hE.ex] at h
  refine ⟨F, M, P, σD, s, _, R, h, fun b σ1 s1 F1 M1 H1 k sf ex R1 => ?_⟩
  cases b with
  | true =>
    rw [if_pos rfl] at k ⊢
    exact ⟨F1, M1, P, σ1, s1, Pt, R1, j, k, hE.mono sf ex⟩
  | false =>
    rw [if_neg Bool.false_ne_true] at k ⊢
    exact ⟨F1, M1, P, σ1, s1, Pt, R1, j, k, hE.mono sf ex⟩
/-- name = value -/
theorem st_set {n : Nat} {x : Str} {pos' : Pos} (hJ : JSet J n) (hN : X.N.Nodup) (hi : X.N[n]? = some x) (hx : Loc X.env.scope x) (he : SEx X κ e ie) (hs : swapsWith e (some (.Name x pos')) pos.line X.env = pure false) (hf : X.fn x = true ∨ X.env.scope.names.lookup x = some .local) :
    SSt X κ J (.Assign [.Name x pos'] e pos) (.asg (.name n) ie) := psImp (ps_set hN hi hx he.v hs hf) fun D σ H ⟨F, M, P, σD, s, Pt, R, j, h, hE⟩ => by
  rw [wS, hE.ex] at h
  exact ⟨F, M, P, σD, s, _, R, h, fun o σ1 s1 F1 M1 H1 v k sf ex R1 q => hE.nx _ _ F1 M1 _ H1 k sf ex (hJ _ _ j) (R1.put n q)⟩

/-! ### targets -/
/-- the value d stands as v; b: a pair that a loop hands out and that is taken apart at once -/
def RVb (b : Bool) (K : PySem.W.Frag) (F : Hp) (M : List Addr) (d : HP.D) (v : V) : Prop := RV K F M d v ∨ (b = true ∧ ∃ ds a vs, d = .tup ds ∧ v = .ref a ∧ SqT K F a vs ∧ RVs K F M ds vs)
theorem RVb.tup {b : Bool} {K : PySem.W.Frag} {F : Hp} {M : List Addr} {ds : List HP.D} {v : V} (h : RVb b K F M (.tup ds) v) : ∃ a vs, v = .ref a ∧ SqT K F a vs ∧ RVs K F M ds vs := by
  rcases h with h | ⟨_, ds', a, vs, e, rfl, h1, h2⟩
  · cases h with
    | tup h r => exact ⟨_, _, rfl, h.sqT, r⟩
  · cases e
    exact ⟨a, vs, rfl, h1, h2⟩
theorem RVb.strict {K : PySem.W.Frag} {F : Hp} {M : List Addr} {d : HP.D} {v : V} (h : RVb false K F M d v) : RV K F M d v := by
  rcases h with h | ⟨e, _⟩
  · exact h
  · cases e
def tTg (X : Cx) (κ : Pk) (J : St → Prop) (b : Bool) (t : Tg) : TG := fun v σ H Q => ∃ F M P σD s d K, Rel X.K κ.b F M P σD s σ H ∧ J σ ∧ RVb b X.K F M d v ∧ wTg t d σD s K ∧
  ∀ σD' s' F' M' σ' H', K σD' s' → Same F F' → Ext M M' → J σ' → Rel X.K κ.b F' M' P σD' s' σ' H' → Q σ' H'
def tTgs (X : Cx) (κ : Pk) (J : St → Prop) (t : List Tg) : TGs := fun v σ H Q => ∃ F M P σD s d K, Rel X.K κ.b F M P σD s σ H ∧ J σ ∧ RVs X.K F M d v ∧ wTgs t d σD s K ∧
  ∀ σD' s' F' M' σ' H', K σD' s' → Same F F' → Ext M M' → J σ' → Rel X.K κ.b F' M' P σD' s' σ' H' → Q σ' H'
def STg (X : Cx) (κ : Pk) (J : St → Prop) (b : Bool) (tg : Expr) (t : Tg) : Prop := PG X tg (tTg X κ J b t)
def STgs (X : Cx) (κ : Pk) (J : St → Prop) (tg : List Expr) (t : List Tg) : Prop := PGs X tg (tTgs X κ J t)
theorem pgImp {t t' : TG} (h : PG X e t) (k : ∀ v σ H Q, t' v σ H Q → t v σ H Q) : PG X e t' := ⟨fun pins s σ H v u Q I r q => h.run pins s σ H v u Q I r (k v σ H Q q)⟩
theorem pgsImp {es : List Expr} {t t' : TGs} (h : PGs X es t) (k : ∀ v σ H Q, t' v σ H Q → t v σ H Q) : PGs X es t' := ⟨fun pins s σ H v u Q I r q => h.run pins s σ H v u Q I r (k v σ H Q q)⟩
theorem tg_name {n : Nat} {x : Str} (hJ : JSet J n) (hN : X.N.Nodup) (hi : X.N[n]? = some x) (hx : Loc X.env.scope x) (hf : X.fn x = true ∨ X.env.scope.names.lookup x = some .local) : STg X κ J false (.Name x pos) (.name n) :=
  pgImp (pg_name hN hi hx hf) fun v σ H Q ⟨F, M, P, σD, s, d, K, R, j, r, h, hK⟩ => by
    rw [wTg] at h
    exact hK _ _ F M _ H h (.refl F) (.refl M) (hJ _ _ j) (R.put (o := .val d) n r.strict)
theorem tgs_nil : STgs X κ J [] [] := pgsImp pgs_nil fun v σ H Q ⟨F, M, P, σD, s, d, K, R, j, r, h, hK⟩ => by
  rw [wTgs] at h
  obtain ⟨rfl, h⟩ := h
  cases r
  exact ⟨rfl, hK _ _ F M _ H h (.refl F) (.refl M) j R⟩
theorem tgs_cons {es : List Expr} {t : Tg} {ts : List Tg} (h1 : STg X κ J false e t) (h2 : STgs X κ J es ts) (hs : (assignEach (e :: es) X.env).map (·.2) = assign e X.env :: (assignEach es X.env).map (·.2)) : STgs X κ J (e :: es) (t :: ts) :=
  pgsImp (pgs_cons h1 h2 hs) fun v σ H Q ⟨F, M, P, σD, s, d, K, R, j, r, h, hK⟩ => by
    cases r with
    | nil =>
      simp only [wTgs] at h
    | @cons d0 ds v0 vs r0 rr =>
      simp only [wTgs] at h
      refine ⟨v0, vs, rfl, F, M, P, σD, s, d0, _, R, j, .inl r0, h, fun σ1 s1 F1 M1 σ' H1 k sf ex j' R1 => ?_⟩
      exact ⟨F1, M1, P, σ1, s1, ds, _, R1, j', rr.mono sf ex, k, fun σ2 s2 F2 M2 σ'' H2 k2 sf2 ex2 j2 R2 => hK _ _ F2 M2 _ H2 k2 (sf.trans sf2) (ex.trans ex2) j2 R2⟩
theorem pgOr {t t' : TG} (h : PG X e t) (h' : PG X e t') : PG X e (fun v σ H Q => t v σ H Q ∨ t' v σ H Q) := ⟨fun pins s σ H v u Q I r q => q.elim (h.run pins s σ H v u Q I r) (h'.run pins s σ H v u Q I r)⟩
theorem RVb.lst {b : Bool} {K : PySem.W.Frag} {F : Hp} {M : List Addr} {ds : List HP.D} {v : V} (h : RVb b K F M (.lst ds) v) : ∃ a vs, v = .ref a ∧ F a = some (.lst vs) ∧ RVs K F M ds vs := by
  rcases h with h | ⟨_, ds', a, vs, e, _⟩
  · cases h with
    | lst h r => exact ⟨_, _, rfl, h, r⟩
  · cases e
theorem tg_tup {b : Bool} {es : List Expr} {k : Nat} {ts : List Tg} (hc : X.calm = true) (h : STgs X κ J es ts) (hn : (assignEach es X.env).length = ts.length) (hst : (assignEach es X.env).findIdx? (·.1) = none) : STg X κ J b (.Tuple es k pos) (.tup ts) :=
  pgImp (pgOr (pg_tup (n := ts.length) hc h hn hst) (pg_lst (n := ts.length) hc h hn hst)) fun v σ H Q ⟨F, M, P, σD, s, d, K, R, j, r, h, hK⟩ => by
    cases d <;> simp only [wTg] at h
    · rename_i xs
      obtain ⟨a, vs, rfl, h1, h3⟩ := r.tup
      obtain ⟨hl, h⟩ := h
      exact .inl ⟨a, vs, rfl, sqT_mono R.sF h1, by rw [← h3.length]; exact hl, F, M, P, σD, s, xs, K, R, j, h3, h, hK⟩
    · rename_i xs
      obtain ⟨a, vs, rfl, h1, h3⟩ := r.lst
      obtain ⟨hl, h⟩ := h
      exact .inr ⟨a, vs, rfl, .inl (.inl (R.sF _ _ h1)), by rw [← h3.length]; exact hl, F, M, P, σD, s, xs, K, R, j, h3, h, hK⟩
end
end HP

set_option maxHeartbeats 2000000
/-! HpStm2: loops; several names at once; items and fields that are set. -/
namespace HP
open PySem L2
variable [LamT] {β : Bs} {κ : Pk}

/-- the iterator hands out the items -/
def ItR (b : Bool) (K : PySem.W.Frag) (J : L2.It) (F : Hp) (M : List Addr) (items : List D) : Prop := ∀ (β : Bs) F' M' P σD s σ H, Same F F' → Ext M M' → Rel K β F' M' P σD s σ H → ∀ i : Nat,
  (∀ d, items[i]? = some d → J.go i H ∧ ∀ x H', J.yld i H x H' → ∃ F'', Same F' F'' ∧ Rel K β F'' M' P σD s σ H' ∧ RVb b K F'' M' d x) ∧ (items[i]? = none → J.stop i H)
def tIt (X : Cx) (κ : Pk) (b : Bool) (it : HP.It) : TI := fun σ H R => ∃ F M P σD s K, Rel X.K κ.b F M P σD s σ H ∧ wIt it σD s K κ.qx ∧
  ∀ items σD' s' F' M' H' J, K items σD' s' → Same F F' → Ext M M' → Rel X.K κ.b F' M' P σD' s' σ H' → ItR b X.K J F' M' items → R J H'
def SIt (X : Cx) (κ : Pk) (b : Bool) (tg iter : Expr) (it : HP.It) : Prop := PI X tg iter (tIt X κ b it)

section
variable {X : Cx} {J : St → Prop} {F F' : Hp} {M M' : List Addr} {P : Hp} {Pt Pt' : Post} {D D' : Ends} {e a b c tg iter : Expr} {ie ia ib ic : E} {pos : Pos} {st : Stmt} {sts : List Stmt} {i : S} {is : Ss} {it : HP.It} {t : Tg}
theorem piImp {t t' : TI} (h : PI X tg iter t) (k : ∀ σ H R, t' σ H R → t σ H R) : PI X tg iter t' := ⟨fun pins s σ H R I q => h.run pins s σ H R I (k σ H R q)⟩
theorem it_lst {K : PySem.W.Frag} {a : Addr} {xs : List HP.D} {vs : List V} (h : SqL K F a vs) (r : RVs K F M xs vs) : ItR false K (Itl K a) F M xs := fun β F' M' P σD s σ H sf ex R i => by
  have hq : SqL K H a vs := R.sF.seq (sf.seq h)
  refine ⟨fun d hd => ?_, fun hn => ⟨vs, hq, ?_⟩⟩
  · obtain ⟨v, hv, rv⟩ := r.get hd
    refine ⟨⟨vs, v, hq, hv⟩, fun x H' hy => ?_⟩
    obtain ⟨rfl, hy⟩ := hy
    cases (hy vs hq).symm.trans hv
    exact ⟨F', .refl F', R, .inl (rv.mono sf ex)⟩
  · rw [List.getElem?_eq_none_iff] at hn
    rw [← r.length]
    exact hn
theorem it_tup {K : PySem.W.Frag} {a : Addr} {xs : List HP.D} {vs : List V} (h : SqX K F a vs) (r : RVs K F M xs vs) : ItR false K (Itt K a) F M xs := fun β F' M' P σD s σ H sf ex R i => by
  have hq : SqT K H a vs := sqT_mono R.sF (sqT_mono sf h.sqT)
  refine ⟨fun d hd => ?_, fun hn => ⟨vs, hq, ?_⟩⟩
  · obtain ⟨v, hv, rv⟩ := r.get hd
    refine ⟨⟨vs, v, hq, hv⟩, fun x H' hy => ?_⟩
    obtain ⟨rfl, hy⟩ := hy
    cases (hy vs hq).symm.trans hv
    exact ⟨F', .refl F', R, .inl (rv.mono sf ex)⟩
  · rw [List.getElem?_eq_none_iff] at hn
    rw [← r.length]
    exact hn
theorem upTo_get {a : Int} : ∀ {n i : Nat} {d : HP.D}, (upTo a n)[i]? = some d → i < n ∧ d = .int (a + i)
  | 0, i, d, h => by simp [upTo] at h
  | n + 1, 0, d, h => by
    simp only [upTo, List.getElem?_cons_zero, Option.some.injEq] at h
    subst h
    exact ⟨by omega, by simp⟩
  | n + 1, i + 1, d, h => by
    simp only [upTo, List.getElem?_cons_succ] at h
    obtain ⟨h1, h2⟩ := upTo_get h
    refine ⟨by omega, ?_⟩
    rw [h2]
    congr 1
    omega
theorem upTo_len {a : Int} : ∀ n : Nat, (upTo a n).length = n
  | 0 => rfl
  | n + 1 => by rw [upTo, List.length_cons, upTo_len n]
theorem it_rng {K : PySem.W.Frag} {lo : Int} {n : Nat} : ItR false K (Itr lo n) F M (upTo lo n) := fun β F' M' P σD s σ H sf ex R i => by
  refine ⟨fun d hd => ?_, fun hn => ?_⟩
  · obtain ⟨h1, rfl⟩ := upTo_get hd
    refine ⟨h1, fun x H' hy => ?_⟩
    obtain ⟨rfl, rfl⟩ := hy
    exact ⟨F', .refl F', R, .inl (.int _)⟩
  · rw [List.getElem?_eq_none_iff, upTo_len] at hn
    exact hn
/-- a list, a tuple, the script, a text: walked -/
theorem pi_seq {te : TE} (he : PE X iter te) : PI X tg iter (fun σ H R => te σ H fun x H1 => (∃ p vs, x = .ref p ∧ SqL X.K H1 p vs ∧ R (Itl X.K p) H1) ∨ (∃ p vs, x = .ref p ∧ SqT X.K H1 p vs ∧ R (Itt X.K p) H1) ∨ ∃ y, x = .str y ∧ R (Its y) H1) := ⟨fun pins z σ G R J0 h =>
  thn (he.run pins z σ G _ J0 h) fun u z1 ⟨x, G1, J1, rx, q⟩ => by
    have fr : ∀ b ∈ [z1.heap.objs.size], FpOk X pins G1 b := fun b hb => by
      cases List.mem_singleton.mp hb
      exact J1.fpOk (Nat.le_refl _) (J1.hok.fresh (Nat.le_refl _))
    rcases q with ⟨p, vs, rfl, hq, q⟩ | ⟨p, vs, rfl, hq, q⟩ | ⟨y, rfl, q⟩
    · cases rx
      obtain ⟨ys, rv, hl, _⟩ := J1.list hq
      exact wpAny_pyIter_list hl.isList ⟨_, _, _, _, G1, rfl, J1.kept (t' := z1.toks) (fun b o w => Heap.get?_push_of_some _ w), turn_list p _, ⟨_, Heap.get?_push_size _ rfl, rfl, rfl⟩, fr, q⟩
    · cases rx
      obtain ⟨ys, rv, hl, _⟩ := J1.tuple hq
      have ht : z1.heap.IsTuple p ys.toArray := hl
      exact wpAny_pyIter_tuple ht ⟨_, _, _, _, G1, rfl, J1.kept (t' := z1.toks) (fun b o w => Heap.get?_push_of_some _ w), turn_tuple p _, ⟨_, Heap.get?_push_size _ rfl, rfl, rfl⟩, fr, q⟩
    · obtain ⟨t, rfl⟩ := rx
      cases ha : y.cps.all (· < 128)
      · exact wpAny_pyIter_wide ha (pi_one (tk := z1.toks) J1 _ (turn_str _ y t "str_iterator" (.inr rfl)) ⟨_, Heap.get?_push_size _ rfl, rfl, rfl⟩ q)
      · exact wpAny_pyIter_ascii ha (pi_one (tk := z1.toks) J1 _ (turn_str _ y t "str_ascii_iterator" (.inl rfl)) ⟨_, Heap.get?_push_size _ rfl, rfl, rfl⟩ q)⟩
theorem it_str {K : PySem.W.Frag} {x : Str} : ItR false K (Its x) F M (x.cps.toList.map fun c => .str ⟨#[c]⟩) := fun β F' M' P σD s σ H sf ex R i => by
  rw [List.getElem?_map, Array.getElem?_toList]
  refine ⟨fun d hd => ?_, fun hn => ?_⟩
  · obtain ⟨c, hc, rfl⟩ := Option.map_eq_some_iff.mp hd
    refine ⟨(Array.getElem?_eq_some_iff.mp hc).1, fun y H' hy => ?_⟩
    obtain ⟨rfl, c', hc', rfl⟩ := hy
    rw [hc] at hc'
    cases hc'
    exact ⟨F', .refl F', R, .inl (.str _)⟩
  · rw [Option.map_eq_none_iff] at hn
    exact Array.getElem?_eq_none_iff.mp hn
theorem si_seq (he : SEx X κ iter ie) : SIt X κ false tg iter (.seq ie) := piImp (pi_seq he.v) fun σ H R0 ⟨F, M, P, σD, s, K, R, h, hK⟩ => by
  rw [wIt] at h
  refine ⟨F, M, P, σD, s, _, R, h, fun o σ1 s1 F1 M1 H1 v k sf ex R1 q => ?_⟩
  obtain ⟨xs, hx, k⟩ := optK_ex k
  obtain ⟨F2, sf2, R2, rv⟩ := R1.frz q
  generalize o.frz = d at hx rv
  cases d <;> try (simp [walkOf] at hx; done)
  · simp only [walkOf, Option.some.injEq] at hx
    subst hx
    cases rv
    exact .inr (.inr ⟨_, rfl, hK _ _ _ F2 M1 H1 _ k (sf.trans sf2) ex R2 it_str⟩)
  · simp only [walkOf, Option.some.injEq] at hx
    subst hx
    cases rv with
    | tup g1 g2 => exact .inr (.inl ⟨_, _, rfl, sqT_mono R2.sF g1.sqT, hK _ _ _ F2 M1 H1 _ k (sf.trans sf2) ex R2 (it_tup g1 g2)⟩)
  · simp only [walkOf, Option.some.injEq] at hx
    subst hx
    cases rv with
    | lst g1 g2 => exact .inl ⟨_, _, rfl, .inl (.inl (R2.sF _ _ g1)), hK _ _ _ F2 M1 H1 _ k (sf.trans sf2) ex R2 (it_lst (.inl (.inl g1)) g2)⟩
  · simp only [walkOf, Option.some.injEq] at hx
    subst hx
    cases rv with
    | scr g1 g2 => exact .inl ⟨_, _, rfl, R2.sF.seq g1, hK _ _ _ F2 M1 H1 _ k (sf.trans sf2) ex R2 (it_lst g1 g2)⟩
theorem rngOk_le {m n : Int} (h : rngOk m n = true) : -1000000 ≤ m ∧ m ≤ 1000000 ∧ -1000000 ≤ n ∧ n ≤ 1000000 := by
  unfold rngOk at h
  simp only [Bool.and_eq_true, decide_eq_true_eq] at h
  exact ⟨h.1.1.1, h.1.1.2, h.1.2, h.2⟩
theorem si_rng1 {p : Pos} (hg : Gl X "range") (hm : X.mg "range" = none) (ha : SEx X κ a ia) (hs : starEach [a] X.env = [(false, eval a X.env)]) : SIt X κ false tg (.Call (.Name "range" p) [a] [] pos) (.rng1 ia) :=
  piImp (pi_range1 hg hm (pa_cons ha.o pa_nil hs) hs) fun σ H R0 ⟨F, M, P, σD, s, K, R, h, hK⟩ => by
    rw [wIt] at h
    refine ⟨F, M, P, σD, s, _, R, h, fun x σ1 s1 F1 M1 H1 v k sf ex R1 q => ?_⟩
    obtain ⟨d, hd, k⟩ := optK_ex k
    cases d <;> try (exact False.elim k)
    rename_i n
    dsimp only at k
    split at k <;> try (exact k.elim)
    rename_i hz
    have := (R1.res q hd).int
    subst this
    have := rngOk_le hz
    exact ⟨n, rfl, by omega, by omega, hK _ _ _ F1 M1 H1 _ k sf ex R1 it_rng⟩
/-! ### loops -/
theorem st_for {bb : Bool} {body : List Stmt} {ib : Ss} (hp : PassesOwn (model X.prog X.w) X.A X.env X.xe) (hc : X.calm = true) (hi : SIt X κ bb tg iter it) (hg : STg X κ J bb tg t) (hb : SSs X κ J body ib) (hs : ∀ x, foldedSetIterable iter X.env x = pure x) :
    SSt X κ J (.For tg iter body [] pos) (.for_ t it ib) := psImp (ps_for hp hc hi hg hb hs) fun D σ H ⟨F, M, P, σD, s, Pt, R, j, h, hE⟩ => by
  rw [wS, hE.ex] at h
  refine ⟨F, M, P, σD, s, _, R, h, fun items σ1 s1 F1 M1 H1 It k sf1 e1 R1 hI => ?_⟩
  refine ⟨fun i m σ H => m = items.length - i ∧ i ≤ items.length ∧ ∃ F' M' σD s, Same F1 F' ∧ Ext M1 M' ∧ Rel X.K κ.b F' M' P σD s σ H ∧ J σ ∧ wLoop (fun x (_ : Unit) σ s k => wTg t x σ s fun σ s => wSs ib σ s { Pt with nx := fun σ s => k () σ s, ct := fun σ s => k () σ s, bk := Pt.nx, ex := κ.qx }) (items.drop i) () σD s fun _ σ s => Pt.nx σ s,
    ⟨items.length, by omega, by omega, F1, M1, σ1, s1, .refl F1, .refl M1, R1, j, by rw [List.drop_zero]; exact k⟩, fun i m σ H ⟨hm, hi, F', M', σD, s, sf, ex, R', j', k⟩ => ?_⟩
  have hr := hI _ F' M' P σD s σ H sf ex R' i
  cases hd : items[i]? with
  | none =>
    have hl : items.drop i = [] := by
      rw [List.getElem?_eq_none_iff] at hd
      exact List.drop_eq_nil_of_le hd
    rw [hl] at k
    simp only [wLoop] at k
    exact .inl ⟨hr.2 hd, hE.nx _ _ F' M' σ H k (sf1.trans sf) (e1.trans ex) j' R'⟩
  | some d =>
    have hlt := (List.getElem?_eq_some_iff.mp hd).1
    have hl : items.drop i = d :: items.drop (i + 1) := by
      rw [List.drop_eq_getElem_cons hlt, (List.getElem?_eq_some_iff.mp hd).2]
    rw [hl] at k
    simp only [wLoop] at k
    obtain ⟨hgo, hy⟩ := hr.1 d hd
    refine .inr ⟨hgo, fun σ' H' => ∃ F2 M2 σD s, Same F1 F2 ∧ Ext M1 M2 ∧ Rel X.K κ.b F2 M2 P σD s σ' H' ∧ J σ' ∧ wLoop (fun x (_ : Unit) σ s k => wTg t x σ s fun σ s => wSs ib σ s { Pt with nx := fun σ s => k () σ s, ct := fun σ s => k () σ s, bk := Pt.nx, ex := κ.qx }) (items.drop (i + 1)) () σD s fun _ σ s => Pt.nx σ s,
      fun σ' H' ⟨F2, M2, σD2, s2, g1, g2, g3, g4, g5⟩ => ⟨items.length - (i + 1), by omega, rfl, by omega, F2, M2, σD2, s2, g1, g2, g3, g4, g5⟩, fun x H' hx => ?_⟩
    obtain ⟨F'', sf'', R'', rx⟩ := hy x H' hx
    refine ⟨F'', M', P, σD, s, d, _, R'', j', rx, k, fun σ2 s2 F2 M2 σ' H2 k2 sf2 e2 j2 R2 => ?_⟩
    have g1 : Same F1 F2 := sf.trans (sf''.trans sf2)
    have g2 : Ext M1 M2 := ex.trans e2
    exact ⟨F2, M2, P, σ2, s2, _, R2, j2, k2, fun a b c d e f k l m n o => ⟨c, d, a, b, g1.trans l, g2.trans m, o, n, k⟩, fun a b c d e f k l m n o => hE.nx a b c d e f k (sf1.trans (g1.trans l)) (e1.trans (g2.trans m)) n o,
      fun a b c d e f k l m n o => ⟨c, d, a, b, g1.trans l, g2.trans m, o, n, k⟩, fun a b c d e f g v k l m n o => hE.rt a b c d e f g v k (sf1.trans (g1.trans l)) (e1.trans (g2.trans m)) n o, rfl⟩
end
end HP

set_option maxHeartbeats 2000000
/-! HpItems: enumerate, zip. -/
namespace HP
open PySem L2
variable [LamT] {β : Bs} {κ : Pk}

theorem enumD_get : ∀ {xs : List D} {k : Int} {i : Nat}, (enumD k xs)[i]? = (xs[i]?).map fun x => .tup [.int (k + i), x]
  | [], k, i => by simp [enumD]
  | x :: xs, k, 0 => by simp [enumD]
  | x :: xs, k, i + 1 => by
    rw [enumD, List.getElem?_cons_succ, List.getElem?_cons_succ, enumD_get]
    congr 1
    funext y
    congr 3
    omega
section
variable {X : Cx} {F : Hp} {M : List Addr} {e a b tg : Expr} {ie ia ib : E} {pos p tpos : Pos}
theorem pair_rel {K : PySem.W.Frag} {F : Hp} {M : List Addr} {P : Hp} {σD : Slots} {s : Store} {σ : St} {H : Hp} {T : Addr} {x y : D} {v u : V} (R : Rel K β F M P σD s σ H) (hT : H T = none) (r1 : RV K F M x v) (r2 : RV K F M y u) :
    ∃ F', Same F F' ∧ Rel K β F' M P σD s σ (upd H T (.tup [v, u])) ∧ RVb true K F' M (.tup [x, y]) (.ref T) := by
  have q := R.off hT
  have sf : Same F (upd F T (.tup [v, u])) := same_upd q.f
  exact ⟨_, sf, (R.junk hT).freeze q upd_same nofun, .inr ⟨rfl, _, _, _, rfl, rfl, .of upd_same, .cons (r1.mono sf (.refl M)) (.cons (r2.mono sf (.refl M)) .nil)⟩⟩
theorem it_enum {K : PySem.W.Frag} {a : Addr} {xs : List HP.D} {vs : List V} (h : SqL K F a vs) (r : RVs K F M xs vs) : ItR true K (Ite K a) F M (enumD 0 xs) := fun β F' M' P σD s σ H sf ex R i => by
  have hq : SqL K H a vs := R.sF.seq (sf.seq h)
  rw [enumD_get]
  refine ⟨fun d hd => ?_, fun hn => ⟨vs, hq, ?_⟩⟩
  · obtain ⟨x, hx, rfl⟩ := Option.map_eq_some_iff.mp hd
    obtain ⟨v, hv, rv⟩ := r.get hx
    refine ⟨⟨vs, v, hq, hv⟩, fun u H' hy => ?_⟩
    obtain ⟨T, y, rfl, hT, rfl, hy⟩ := hy
    cases (hy vs hq).symm.trans hv
    rw [Int.zero_add]
    exact pair_rel R hT (.int _) (rv.mono sf ex)
  · rw [Option.map_eq_none_iff, List.getElem?_eq_none_iff] at hn
    rw [← r.length]
    exact hn
end
end HP

set_option maxHeartbeats 2000000
/-! HpEnum: enumerate of a list or a tuple, zip of two lists or of two tuples, as what a for walks. -/
namespace HP
open PySem L2 PySem.Spec
open PyProof.Rows hiding St
variable [LamT] {β : Bs} {κ : Pk}

set_option maxHeartbeats 1000000 in
theorem meets_enum1 {v : Value} {o : Obj} {H : Heap → Prop} (B : Begins v o H) :
    Meets (Builtin.«enumerate.__new__» ⟨[.type "enumerate", v], []⟩) (fun _ R s => H s.heap ∧
      R (.ok (.ret (.ref (s.heap.push o).objs.size))) { s with heap := (s.heap.push o).push { cls := .type "enumerate", data := .fields #[.none, .bool false, .ref s.heap.objs.size, rawInt 0, .none, .none] } }) :=
  .of_wp fun prog w A R s h => by
    obtain ⟨hp, g, d, tk, os⟩ := s
    obtain ⟨h1, h⟩ := h
    have sub := sub_enumerate
    have it1 : ∀ {A' : Around} {E : Value → Shared → Prop} {Q : Value → Shared → Prop}, Q (.ref hp.objs.size) ⟨hp.push o, g, d, tk, os⟩ → wpAny (model prog w) A' (pyIter v) Q E ⟨hp, g, d, tk, os⟩ :=
      fun q => B.iter prog w _ _ ⟨hp, g, d, tk, os⟩ _ h1 q
    wp_walk using it1
    refine wpAny_stack_any fun st => wpAny_pure ?_
    split
    · rename_i c _ _ _ _ _
      cases (c == Value.type "enumerate")
      · wp_walk using it1
        exact ⟨_, rfl, h⟩
      · wp_walk using it1
        exact ⟨_, rfl, h⟩
    · wp_walk using it1
      exact ⟨_, rfl, h⟩
/-- enumerate(v): its two new objects -/
theorem call_enum1 {prog : Program} {w : World} {A : Around} {E : Value → Shared → Prop} {s : Shared} {v : Value} {o : Obj} {H : Heap → Prop} {Q : Value → Shared → Prop} (B : Begins v o H) (h1 : H s.heap)
    (h : ∀ h', IsEnum h' (s.heap.objs.size + 1) s.heap.objs.size 0 .none → h'.get? s.heap.objs.size = some o → (∀ b o, s.heap.get? b = some o → h'.get? b = some o) → Q (.ref (s.heap.objs.size + 1)) { s with heap := h' }) :
    wpAny (model prog w) A (PySem.call (.type "enumerate") [v]) Q E s := by
  have hz : (s.heap.push o).objs.size = s.heap.objs.size + 1 := Heap.size_push ..
  have he : IsEnum ((s.heap.push o).push { cls := .type "enumerate", data := .fields #[.none, .bool false, .ref s.heap.objs.size, rawInt 0, .none, .none] }) (s.heap.objs.size + 1) s.heap.objs.size 0 .none := by
    have e := Heap.get?_push_size (s.heap.push o) (o := { cls := .type "enumerate", data := .fields #[.none, .bool false, .ref s.heap.objs.size, rawInt 0, .none, .none] }) rfl
    rw [hz] at e
    exact e
  refine callType_new F.called_enumerate (by decide) (F.typeCall_enumerate_1 _) (F.newCall_enumerate_1 _) (fun obj => F.args_object_init_2 obj _) F.entry_enumerate_new (meets_enum1 B) ⟨h1, ?_⟩
  show _ ∧ _
  rw [hz]
  exact ⟨⟨_, he, rfl⟩, h _ he (Heap.get?_push_of_some _ (Heap.get?_push_size _ B.free)) fun b o' x => Heap.get?_push_of_some _ (Heap.get?_push_of_some _ x)⟩

theorem next_enumT_end {prog : Program} {w : World} {A : Around} {E : Value → Shared → Prop} {s : Shared} {e it t : Addr} {i : Nat} {c : Int} {items : Array Value} {old : Value} {Q : Option Value → Shared → Prop} (hh : A.handled = none)
    (he : IsEnum s.heap e it c old) (hit : s.heap.IsTupleIter it t i) (hl : s.heap.IsTuple t items) (hx : items[i]? = none) (hQ : ∀ h', Heap.ExtBut it s.heap h' → Q none { s with heap := h' }) : wpAny (model prog w) A (pyNext (.ref e)) Q E s := by
  have ty : s.TypeIs (.ref e) "enumerate" := ⟨_, he, rfl⟩
  unfold pyNext
  refine wpAny_bind (wpAny_attempt (wpAny_callSpecial?_slot (name := Str.ofString "__next__") ty F.slot_enumerate_next (wpAny_call_entry F.slot_enumerate_next ty F.entry_enumerate_next ?_ (F.args_enumerate_next_1 _))))
  show wpAny _ _ (field (.ref e) 2 >>= _) _ _ _
  refine wpAny_bind (wpAny_field he rfl (x := .ref it) rfl (wpAny_bind (wpAny_nextOf_tuple_end (by exact hh) hit hl hx fun h' x k ⟨o, ho, hc⟩ => ?_)))
  exact wpAny_bind (wpAny_isInstance (T := "StopIteration") (b := true) ⟨o, ho, hc⟩ isSubtype_stop (wpAny_pure (hQ _ k)))

/-- the tuple at a, each item in a new pair -/
def IteT (K : PySem.W.Frag) (a : Addr) : L2.It :=
  ⟨fun i H => ∃ (xs : List V) (x : V), SqT K H a xs ∧ xs[i]? = some x, fun i H v H' => ∃ T x, v = .ref T ∧ H T = none ∧ H' = upd H T (.tup [.int (i : Nat), x]) ∧ ∀ xs, SqT K H a xs → xs[i]? = some x, fun i H => ∃ xs : List V, SqT K H a xs ∧ xs.length ≤ i⟩
theorem turn_enumT {P : Program} {w : World} {K : PySem.W.Frag} {elts : List Expr} {kk : Nat} {tpos : Pos} (a e it : Addr) :
    Turn P w K (.Tuple elts kk tpos) (IteT K a) [e, it] e (fun i h => (∃ old, IsEnum h e it ((i : Nat) : Int) old) ∧ h.IsTupleIter it a i ∧ e ≠ it ∧ a ≠ it ∧ a ≠ e) where
  mem := by simp
  obj := fun i h st b hb => by
    obtain ⟨⟨old, he⟩, ⟨o, ho, hc, hd⟩, _⟩ := st
    have e' : b = e ∨ b = it := by simpa using hb
    rcases e' with rfl | rfl
    · exact ⟨_, he, fun v q => nomatch q⟩
    · exact ⟨o, ho, fun v q => by rw [hd] at q; cases q⟩
  keep := fun i h h' st k => by
    obtain ⟨⟨old, he⟩, hi, hne⟩ := st
    exact ⟨⟨old, k e (by simp) _ he⟩, hi.at fun o q => k it (by simp) o q, hne⟩
  item := by
    intro X hP hw hK hc i pins s σ H E I hf st hg
    subst hP hw hK
    obtain ⟨⟨old, he⟩, hit, hne, n1, n2⟩ := st
    obtain ⟨xs, x, hq, hx⟩ := hg
    obtain ⟨its, rv, p, hz⟩ := I.tuple hq
    obtain ⟨u, hu, ru⟩ := rv.get hx
    have hel : e < s.heap.objs.size := Heap.lt_size he
    have hil : it < s.heap.objs.size := by
      obtain ⟨_, q, _⟩ := hit
      exact Heap.lt_size q
    have hlt : i < its.toArray.size := by
      have := (List.getElem?_eq_some_iff.mp hu).1
      simpa using this
    refine wpAny_pyNext_enum_itemD (Draws.tuple (A := X.A.in1) (I.ok.hd hc) it a n1 its.toArray) he ⟨hit, p⟩ hlt hne (by simp [hne, Ne.symm n2]) fun y h' tk hy ho st2 hT hsz hk => ?_
    obtain rfl : y = u := by
      have e1 : its[i]? = some y := by simpa using hy
      exact Option.some.inj (e1.symm.trans hu)
    refine ⟨_, rfl, wpAny_letOwnedTupleGo_enum (s := { s with heap := h', toks := tk + 1 }) ho fun h'' he' sb => ?_⟩
    have hT2 : h''.get? s.heap.objs.size = some { cls := .type "tuple", data := .seq #[.int i tk, y] } := (sb.2 _ (Nat.ne_of_gt hel)).trans hT
    have new : ObjOk X.prog X.w (upd H s.heap.objs.size (.tup [.int (i : Nat), x])) h'' s.heap.objs.size (.tup [.int (i : Nat), x]) :=
      ⟨by show 2 ≤ sizeLine; decide, [.int i tk, y], .cons ⟨_, rfl⟩ (.cons ru .nil), ⟨_, hT2, rfl, _, rfl⟩⟩
    have I1 : Inv X pins σ (upd H s.heap.objs.size (.tup [.int (i : Nat), x])) { s with heap := h'', toks := tk + 1 } :=
      I.turnedNew (ch := [e, it]) (fun b ob hb q => (sb.2 b (fun z => hb (by simp [z]))).trans (hk b ob (fun z => hb (by simp [z])) (fun z => hb (by simp [z])) q)) hf (Nat.le_refl _) new
    refine ⟨.ref s.heap.objs.size, _, I1, rfl, ⟨_, x, rfl, I.hok.fresh (Nat.le_refl _), rfl, fun ys hy => by rw [I.tuple_inj hy hq]; exact hx⟩, ⟨⟨y, ?_⟩, st2.1.at fun o q => (sb.2 it (Ne.symm hne)).trans q, hne, n1, n2⟩, fun b hb => ?_⟩
    · have e1 : ((i + 1 : Nat) : Int) = (i : Int) + 1 := by omega
      rw [e1]
      exact he'
    · have hb' : b < s.heap.objs.size := by
        have e' : b = e ∨ b = it := by simpa using hb
        rcases e' with rfl | rfl
        · exact hel
        · exact hil
      rw [upd_ne (Nat.ne_of_lt hb')]
      exact (hf b hb).1
  done := by
    intro X hP hw hK hc i pins s σ H E I hf st hg
    subst hP hw hK
    obtain ⟨⟨old, he⟩, hit, hne, n1, n2⟩ := st
    obtain ⟨xs, hq, hx⟩ := hg
    obtain ⟨its, rv, p, hz⟩ := I.tuple hq
    obtain ⟨f0, f1, f2, f3, f4, f5⟩ := hf it (by simp)
    have hl := rv.length
    refine next_enumT_end (I.ok.hd hc) he hit p (by simp; omega) fun h' eb => ⟨rfl, I.turned (t' := s.toks) (fun b o hb q => eb b o hb q) f0 f1 f3 f4 f5⟩
  self := fun A i s Q E st h => by
    obtain ⟨⟨_, he⟩, _⟩ := st
    exact wpAny_pyIter_enum he h
theorem pi_enumA {X : Cx} {e : Expr} {ta : TA} {p pos tpos : Pos} {elts : List Expr} {kk : Nat} (hg : Gl X "enumerate") (hm : X.mg "enumerate" = none) (ha : PA X [e] ta) (hs : starEach [e] X.env = [(false, eval e X.env)]) :
    PI X (.Tuple elts kk tpos) (.Call (.Name "enumerate" p) [e] [] pos) (fun σ H R => ta σ H fun vs H1 => ∃ a xs, vs = [.ref a] ∧ ((SqL X.K H1 a xs ∧ R (Ite X.K a) H1) ∨ (SqT X.K H1 a xs ∧ R (IteT X.K a) H1))) := by
  refine ⟨fun pins s σ H R I h => Call_ (ld_blt I hg hm boot_enumerate (PyProof.Rows.callWith_type1 (thn (ha.run pos pins s σ H _ I h) fun us s1 ⟨vs, H1, I1, r1, q1⟩ => ?_) hs rfl))⟩
  obtain ⟨a, xs, rfl, q⟩ := q1
  obtain ⟨u, rfl, ru⟩ := vals1 r1
  cases (show u = Value.ref a from ru)
  have fr : ∀ b ∈ [s1.heap.objs.size + 1, s1.heap.objs.size], FpOk X pins H1 b := fun b hb => by
    have e' : b = s1.heap.objs.size + 1 ∨ b = s1.heap.objs.size := by simpa using hb
    have hle : s1.heap.objs.size ≤ b := by
      rcases e' with rfl | rfl
      · exact Nat.le_add_right _ _
      · exact Nat.le_refl _
    exact I1.fpOk hle (I1.hok.fresh hle)
  rcases q with ⟨hq, q⟩ | ⟨hq, q⟩
  · obtain ⟨its, rv, pl, hz⟩ := I1.list hq
    exact call_enumerate_list pl.isList fun h' he hit hsz hk => wpAny_pyIter_enum he
      ⟨s1.heap.objs.size + 1, [s1.heap.objs.size + 1, s1.heap.objs.size], _, _, H1, rfl, I1.kept (t' := s1.toks) hk, turn_enum a (s1.heap.objs.size + 1) s1.heap.objs.size, ⟨⟨.none, he⟩, hit, Nat.succ_ne_self _⟩, fr, q⟩
  · obtain ⟨its, rv, pl, hz⟩ := I1.tuple hq
    have hl : a < s1.heap.objs.size := by
      obtain ⟨o, ho, _⟩ := id pl
      exact Heap.lt_size ho
    exact call_enum1 (begins_tuple a its.toArray) (show s1.heap.IsTuple a its.toArray from pl) fun h' he hit hk => wpAny_pyIter_enum he
      ⟨s1.heap.objs.size + 1, [s1.heap.objs.size + 1, s1.heap.objs.size], _, _, H1, rfl, I1.kept (t' := s1.toks) hk, turn_enumT a (s1.heap.objs.size + 1) s1.heap.objs.size, ⟨⟨.none, he⟩, ⟨_, hit, rfl, rfl⟩, Nat.succ_ne_self _, Nat.ne_of_lt hl, Nat.ne_of_lt (Nat.lt_succ_of_lt hl)⟩, fr, q⟩

section
variable {X : Cx} {F : Hp} {M : List Addr} {e a b tg : Expr} {ie ia ib : E} {pos p tpos : Pos} {elts : List Expr} {kk : Nat}
theorem it_enumT {K : PySem.W.Frag} {a : Addr} {xs : List HP.D} {vs : List V} (h : SqT K F a vs) (r : RVs K F M xs vs) : ItR true K (IteT K a) F M (enumD 0 xs) := fun β F' M' P σD s σ H sf ex R i => by
  have hq : SqT K H a vs := sqT_mono R.sF (sqT_mono sf h)
  rw [enumD_get]
  refine ⟨fun d hd => ?_, fun hn => ⟨vs, hq, ?_⟩⟩
  · obtain ⟨x, hx, rfl⟩ := Option.map_eq_some_iff.mp hd
    obtain ⟨v, hv, rv⟩ := r.get hx
    refine ⟨⟨vs, v, hq, hv⟩, fun u H' hy => ?_⟩
    obtain ⟨T, y, rfl, hT, rfl, hy⟩ := hy
    cases (hy vs hq).symm.trans hv
    rw [Int.zero_add]
    exact pair_rel R hT (.int _) (rv.mono sf ex)
  · rw [Option.map_eq_none_iff, List.getElem?_eq_none_iff] at hn
    rw [← r.length]
    exact hn
/-- a sequence that stands as v: a frozen list, a tuple -/
theorem seq_rel {K : PySem.W.Frag} {F : Hp} {M : List Addr} {d : HP.D} {v : V} {xs : List HP.D} (rv : RV K F M d v) (h : seqOf d = some xs) :
    ∃ p vs, v = .ref p ∧ RVs K F M xs vs ∧ ((SqL K F p vs ∧ ∃ l, d = .lst l) ∨ (SqT K F p vs ∧ ∃ l, d = .tup l)) := by
  cases rv <;> simp only [seqOf] at h <;> try (cases h; done)
  · cases h
    rename_i h1 h2
    exact ⟨_, _, rfl, h2, .inr ⟨h1.sqT, _, rfl⟩⟩
  · cases h
    rename_i h1 h2
    exact ⟨_, _, rfl, h2, .inl ⟨.inl (.inl h1), _, rfl⟩⟩
theorem si_enum (hg : Gl X "enumerate") (hm : X.mg "enumerate" = none) (he : SEx X κ e ie) (hs : starEach [e] X.env = [(false, eval e X.env)]) : SIt X κ true (.Tuple elts kk tpos) (.Call (.Name "enumerate" p) [e] [] pos) (.enum ie .nil) :=
  piImp (pi_enumA hg hm (pa_cons he.v pa_nil hs) hs) fun σ H R0 ⟨F, M, P, σD, s, K, R, h, hK⟩ => by
    rw [wIt] at h
    refine ⟨F, M, P, σD, s, _, R, h, fun o σ1 s1 F1 M1 H1 v k sf ex R1 q => ?_⟩
    obtain ⟨xs, hx, k⟩ := optK_ex k
    rw [ws.eq_1] at k
    simp only [ress, optK_some] at k
    obtain ⟨F2, sf2, R2, rv⟩ := R1.frz q
    obtain ⟨p, vs, rfl, hr, hq⟩ := seq_rel rv hx
    refine ⟨p, vs, rfl, ?_⟩
    rcases hq with ⟨hq, _⟩ | ⟨hq, _⟩
    · exact .inl ⟨R2.sF.seq hq, hK _ _ _ F2 M1 H1 _ k (sf.trans sf2) ex R2 (it_enum hq hr)⟩
    · exact .inr ⟨sqT_mono R2.sF hq, hK _ _ _ F2 M1 H1 _ k (sf.trans sf2) ex R2 (it_enumT hq hr)⟩
end
end HP

set_option maxHeartbeats 2000000
/-! HpForZ: for .. in zip(a, b), where a, b may stand for lists of the store; each turn asks that these are as they were. -/
namespace HP
open PySem L2
open PyProof.Rows hiding St
variable [LamT] {β : Bs} {κ : Pk}
/-- the iterator hands out the pairs, where d1, d2 stand for xs, ys -/
def ItZ (K : PySem.W.Frag) (J : L2.It) (F : Hp) (M : List Addr) (d1 d2 : D) (xs ys : List D) : Prop := ∀ (β : Bs) F' M' P σD s σ H, Same F F' → Ext M M' → Rel K β F' M' P σD s σ H → view s d1 = .lst xs → view s d2 = .lst ys → ∀ i : Nat,
  (∀ d, (zipD xs ys)[i]? = some d → J.go i H ∧ ∀ x H', J.yld i H x H' → ∃ F'', Same F' F'' ∧ Rel K β F'' M' P σD s σ H' ∧ RVb true K F'' M' d x) ∧ ((zipD xs ys)[i]? = none → J.stop i H)
def tIz (X : Cx) (κ : Pk) (es : Es) : TI := fun σ H R => ∃ F M P σD s Kt, Rel X.K κ.b F M P σD s σ H ∧ (ws es).vals σD s Kt κ.qx ∧
  ∀ ds σ2 s2 F2 M2 H2, Kt ds σ2 s2 → Same F F2 → Ext M M2 → Rel X.K κ.b F2 M2 P σ2 s2 σ H2 → ∃ d1 d2 xs ys, ds = [d1, d2] ∧ view s2 d1 = .lst xs ∧ view s2 d2 = .lst ys ∧ ∀ J, ItZ X.K J F2 M2 d1 d2 xs ys → R J H2
section
variable {X : Cx} {J : St → Prop} {a b tg iter : Expr} {ia ib : E} {pos p tpos : Pos} {elts : List Expr} {kk : Nat} {es : Es} {t : Tg}
end
end HP

set_option maxHeartbeats 2000000
/-! HpEnum2: enumerate(list, k). -/
namespace HP
open PySem L2 PySem.Spec
open PyProof.Rows hiding St
variable [LamT] {β : Bs} {κ : Pk}
/-- the list at a, each item in a new pair, counted from k on -/
def IteK (K : PySem.W.Frag) (a : Addr) (k : Int) : L2.It :=
  ⟨fun i H => ∃ (xs : List V) (x : V), SqL K H a xs ∧ xs[i]? = some x, fun i H v H' => ∃ T x, v = .ref T ∧ H T = none ∧ H' = upd H T (.tup [.int (k + (i : Nat)), x]) ∧ ∀ xs, SqL K H a xs → xs[i]? = some x, fun i H => ∃ xs : List V, SqL K H a xs ∧ xs.length ≤ i⟩
section
variable {X : Cx} {F : Hp} {M : List Addr} {e a b tg : Expr} {ie ia ib : E} {pos p tpos : Pos} {elts : List Expr} {kk : Nat}
end
end HP

set_option maxHeartbeats 2000000
/-! HpStm3: several names at once; items and fields that are set; the instance that is made. -/
namespace HP
open PySem L2
variable [LamT] {β : Bs} {κ : Pk}

/-- what several expressions hand on; the addresses of the new containers -/
inductive OutsR (K : PySem.W.Frag) (F : Hp) (M : List Addr) (P : Hp) (σD : Slots) (σ : St) (H : Hp) : List Out → List V → List Addr → Prop
  | nil : OutsR K F M P σD σ H [] [] []
  | val {d : D} {v : V} {os : List Out} {vs : List V} {as : List Addr} : RV K F M d v → OutsR K F M P σD σ H os vs as → OutsR K F M P σD σ H (.val d :: os) (v :: vs) as
  | own {c : Cont} {a : Addr} {os : List Out} {vs : List V} {as : List Addr} : CR K F M H a c → Off F M P σD σ a → a ∉ as → OutsR K F M P σD σ H os vs as → OutsR K F M P σD σ H (.own c :: os) (.ref a :: vs) (a :: as)
def tOuts (X : Cx) (κ : Pk) (r : Slots → Store → (List Out → Slots → Store → Prop) → QX → Prop) : TA := fun σ H Q => ∃ F M P σD s K, Rel X.K κ.b F M P σD s σ H ∧ r σD s K κ.qx ∧
  ∀ x σD' s' F' M' H' v as, K x σD' s' → Same F F' → Ext M M' → Rel X.K κ.b F' M' P σD' s' σ H' → OutsR X.K F' M' P σD' σ H' x v as → Q v H'
def setsV : St → List Nat → List V → St
  | σ, i :: is, v :: vs => setsV (σ.set i (some v)) is vs
  | σ, _, _ => σ

section
variable {K : PySem.W.Frag} {F F' : Hp} {M M' : List Addr} {P P' : Hp} {σD σD' : Slots} {s s' : Store} {σ σ' : St} {H H' : Hp}
theorem Off.less {a : Addr} (h : Off F M P' σD σ a) (k : Same P P') : Off F M P σD σ a := ⟨h.f, k.free h.p, h.m, h.o⟩
theorem OutsR.less {os : List Out} {vs : List V} {as : List Addr} (h : OutsR K F M P' σD σ H os vs as) (k : Same P P') : OutsR K F M P σD σ H os vs as := by
  induction h with
  | nil => exact .nil
  | val a _ ih => exact .val a ih
  | own a b c _ ih => exact .own a (b.less k) c ih
theorem Off.put {a : Addr} {o : Out} {v : V} {i : Nat} (h : Off F M P σD σ a) (hn : ∀ c, o = .own c → v ≠ .ref a) : Off F M P (σD.set i o.slot) (σ.set i (some v)) a := by
  refine ⟨h.f, h.p, h.m, fun j c hj hz => ?_⟩
  rcases getElem?_set_cases hj with ⟨rfl, e⟩ | ⟨hne, hj⟩
  · rcases getElem?_set_cases hz with ⟨_, e2⟩ | ⟨n, _⟩
    · cases e2
      cases o with
      | val d => cases e
      | own c' => exact hn c' rfl rfl
    · exact n rfl
  · rw [List.getElem?_set_ne hne] at hz
    exact h.o j c hj hz
theorem OutsR.put {os : List Out} {vs : List V} {as : List Addr} {o : Out} {v : V} {i : Nat} (h : OutsR K F M P σD σ H os vs as) (hn : ∀ a ∈ as, ∀ c, o = .own c → v ≠ .ref a) : OutsR K F M P (σD.set i o.slot) (σ.set i (some v)) H os vs as := by
  induction h with
  | nil => exact .nil
  | val a _ ih => exact .val a (ih hn)
  | own a b c _ ih => exact .own a (b.put (hn _ (List.mem_cons_self ..))) c (ih fun x hx => hn x (List.mem_cons_of_mem _ hx))
theorem OutsR.len {os : List Out} {vs : List V} {as : List Addr} (h : OutsR K F M P σD σ H os vs as) : os.length = vs.length := by
  induction h with
  | nil => rfl
  | val _ _ ih => rw [List.length_cons, List.length_cons, ih]
  | own _ _ _ _ ih => rw [List.length_cons, List.length_cons, ih]
theorem Rel.guardOff {p : Addr} {o : HO} (R : Rel K β F M P σD s σ H) (q : Off F M P σD σ p) (ho : H p = some o) (hn : ∀ ps, o ≠ .tbl ps) : Rel K β F M (upd P p o) σD s σ H := by
  refine ⟨⟨R.z.f, R.z.m, R.z.p.trans (same_upd q.p)⟩, R.tb.to (.refl F) (fun _ _ _ q => q) (fun a ps e q => by rw [upd_ne (upd_nt (nt_at ho hn) e)]; exact q) (fun _ _ q => q), R.sF, same_upd2 R.sP ho, R.mlen, fun n a c h1 h2 => ?_, R.nd, fun a u e => ?_, R.slen, fun i sl h => ?_, R.dist⟩
  · obtain ⟨r1, r2, r3⟩ := R.mem n a c h1 h2
    have hne : a ≠ p := fun z => q.m (z ▸ List.mem_of_getElem? h1)
    exact ⟨r1, r2, by rw [upd_ne hne]; exact r3⟩
  · by_cases z : a = p
    · subst z
      exact q.f
    · rw [upd_ne z] at e
      exact R.fp a u e
  · have r := R.slot i sl h
    cases r with
    | unb => exact .unb
    | val a b => exact .val a b
    | @own c a b1 b2 b3 b4 b5 =>
      have hne : a ≠ p := fun z => q.o i _ h (z ▸ b1)
      exact .own b1 b2 b3 (by rw [upd_ne hne]; exact b4) b5
end
section
variable {X : Cx} {J : St → Prop} {e a b c tg : Expr} {ie ia ib ic : E} {pos : Pos} {es : List Expr} {is : Es}
/-! ### o[k] = v -/
theorem psetOr {t t' : TSet} (h : PSet X t) (h' : PSet X t') : PSet X (fun o i v H Q => t o i v H Q ∨ t' o i v H Q) := fun pins s σ H o i v ov iv u Q I r1 r2 r3 q =>
  q.elim (h pins s σ H o i v ov iv u Q I r1 r2 r3) (h' pins s σ H o i v ov iv u Q I r1 r2 r3)
/-- o[i] = v, o keyed by nested tuples -/
def sTab (K : PySem.W.Frag) : TSet := fun o i v H Q => ∃ (F : Hp) (M : List Addr) (a b : Addr) (xs : List Ent) (ob : Obj) (ks : List D) (d : D) (k : NK), o = .ref a ∧ i = .ref b ∧ Same F H ∧ H a = some (tabO a xs ob) ∧ nks ks = some (xs.map (·.1)) ∧ ks.all tkey = true ∧ RVs K F M ks (xs.map fun x => .ref x.2.1) ∧ (xs.map (·.1)).Nodup ∧ tkey d = true ∧ nk d = some k ∧ RV K F M d (.ref b) ∧ xs.length < 1000000 ∧ ∀ ob, Q (upd H a (tabO a (tput xs k b v) ob))
theorem set_tab (hu : X.A.units + 64 < cLine) : PSet X (sTab X.K) := by
  intro pins s σ H o i v ov iv u Q I ro ri rv h
  obtain ⟨F, M, a, b, xs, ob, ks, d, k, rfl, rfl, sF, h1, k1, k2, k3, k4, d1, d2, d3, hz, q⟩ := h
  cases (show ov = Value.ref a from ro)
  cases (show iv = Value.ref b from ri)
  obtain ⟨k', b', e1, e2, _, e4, e5, _⟩ := RVt.keyIs I sF (u := .ref b) d1 (.inl d3) rfl
  rw [d2] at e1
  cases e1
  cases e2
  exact t_set (by omega) I h1 ⟨tabKeys_of I sF k1 k2 k3, k4⟩ e4 e5 rv hz fun o' s' I' => ⟨_, I', q o'⟩
theorem st_setix {o k v : Expr} {io ik iv : E} {p' : Pos} (hu : X.A.units + 64 < cLine) (ho : SEx X κ o io) (hk : SEx X κ k ik) (hv : SEx X κ v iv) (hs : swapsWithSole [.Subscript o k p'] v pos.line X.env = pure false) (hw : swappedStores [.Subscript o k p'] v X.env = pure none)
    (h1 : (assignEach [.Subscript o k p'] X.env).map (·.2) = [assign (.Subscript o k p') X.env])
    (ha : ∀ u, assign (.Subscript o k p') X.env u = (do
      let y ← holding [u] (eval o X.env)
      let z ← holding [u, y] (eval k X.env)
      standAt p'
      holding [u, y, z] (setItem y z u)
      release [u, y, z] [])) :
    SSt X κ J (.Assign [.Subscript o k p'] v pos) (.setix io ik iv) := psImp (ps_asg hv.v (pg_sub ho.o hk.v (psetOr set_list (psetOr (set_dict (by omega)) (set_tab hu))) ha) hs hw h1) fun D σ H ⟨F, M, P, σD, s, Pt, R, j, h, hE⟩ => by
  rw [wS, hE.ex] at h
  refine ⟨F, M, P, σD, s, _, R, h, fun ou σ1 s1 F1 M1 H1 v1 k1 sf1 e1 R1 q1 => ?_⟩
  obtain ⟨G1, g1, R1, rv⟩ := R1.frz q1
  refine ⟨G1, M1, P, σ1, s1, _, R1, k1, fun x σ2 s2 F2 M2 H2 v2 k2 sf2 e2 R2 q2 => ⟨F2, M2, P, σ2, s2, _, R2, k2, fun ok σ3 s3 F3 M3 H3 v3 k3 sf3 e3 R3 q3 => ?_⟩⟩
  obtain ⟨G3, g3, R3, rk⟩ := R3.frz q3
  have rv3 := rv.mono (sf2.trans (sf3.trans g3)) (e2.trans e3)
  obtain ⟨c, l, p, rfl, hc, hp, hn⟩ := upCont_rel R3 (q2.mono (sf3.trans g3) e3) k3
  have sfA := sf1.trans (g1.trans (sf2.trans (sf3.trans g3)))
  have eA := e1.trans (e2.trans e3)
  obtain ⟨c', hc', rfl⟩ := Option.map_eq_some_iff.mp hp
  generalize hkd : ok.frz = kd at hc' rk
  cases hc with
  | lst b1 b2 =>
    cases kd <;> simp only [setSem] at hc' <;> try (cases hc'; done)
    obtain ⟨jj, hj, rfl⟩ := Option.map_eq_some_iff.mp hc'
    cases rk
    obtain ⟨σ4, s4, k4, R4⟩ := hn _ (.lst upd_same (b2.set jj rv3))
    rw [b2.length] at hj
    exact .inl ⟨l, _, _, jj, rfl, rfl, b1, hj, hE.nx _ _ G3 M3 σ _ k4 sfA eA j R4⟩
  | dct b1 b2 b3 b4 =>
    subst b2
    simp only [setSem] at hc'
    split at hc' <;> cases hc'
    rename_i hf
    simp only [Bool.and_eq_true, decide_eq_true_eq] at hf
    obtain ⟨qk, rfl, rfl⟩ := keyFits_of (H := H3) (.inl rk) hf.1
    obtain ⟨t1, t2, t3⟩ := putD_rel rv3 (q := qk) b3 b4
    obtain ⟨σ4, s4, k4, R4⟩ := hn _ (.dct upd_same t1 t3 t2)
    have hz := hf.2
    rw [List.length_map] at hz
    have hb := big_eq
    unfold big at hb
    exact .inr (.inl ⟨l, _, rfl, DPut.k b1 (by omega), hE.nx _ _ G3 M3 σ _ k4 sfA eA j R4⟩)
  | ins b1 b2 b3 => simp [setSem] at hc'
  | tab b1 b2 b3 b4 b5 b6 =>
    simp only [setSem] at hc'
    split at hc' <;> cases hc'
    rename_i hf
    simp only [Bool.and_eq_true, decide_eq_true_eq] at hf
    obtain ⟨k', ys, e1, e2, e3, e4⟩ := tkey_some hf.1
    obtain ⟨bb, rfl⟩ : ∃ bb, v3 = .ref bb := by
      subst e4
      cases rk
      exact ⟨_, rfl⟩
    obtain ⟨t1, t2, t3, t4, t5⟩ := putT_rel e1 hf.1 rk rv3 b2 b3 b4 b5 b6
    have hz := hf.2
    have hz : _ < 1000000 := hz
    rw [b4.length, List.length_map] at hz
    refine .inr (.inr ⟨G3, M3, l, bb, _, _, _, kd, k', rfl, rfl, R3.sF, b1, b2, b3, b4, b5, hf.1, e1, rk, hz, fun o9 => ?_⟩)
    obtain ⟨σ4, s4, k4, R4⟩ := hn (tabO l _ o9) (.tab upd_same t1 t2 t3 t4 t5)
    exact hE.nx _ _ G3 M3 σ _ k4 sfA eA j R4

/-! ### o.f = v -/
end
end HP

set_option maxHeartbeats 2000000
/-! HpStm4: several names at once where one of them is a cell: the tuple is made and taken apart. -/
namespace HP
open PySem L2
variable [LamT] {β : Bs} {κ : Pk}
section
variable {K : PySem.W.Frag} {F F' : Hp} {M M' : List Addr} {P P' : Hp} {σD σD' : Slots} {s s' : Store} {σ σ' : St} {H H' : Hp}
theorem OutsR.junk {os : List Out} {vs : List V} {as : List Addr} {p : Addr} {o : HO} (h : OutsR K F M P σD σ H os vs as) (hp : H p = none) : OutsR K F M P σD σ (upd H p o) os vs as := by
  induction h with
  | nil => exact .nil
  | val a _ ih => exact .val a ih
  | own a b c _ ih => exact .own (a.mono (.refl F) (.refl M) fun o ho => by rw [upd_ne (ne_of_none ho hp)]; exact ho) b c ih
end
section
variable {X : Cx} {J : St → Prop} {e a b c tg : Expr} {ie ia ib ic : E} {pos : Pos} {es : List Expr} {is : Es}
end
end HP

set_option maxHeartbeats 2000000
/-! HpAug: n += e of numbers. -/
namespace HP
open PySem L2
variable [LamT] {β : Bs} {κ : Pk}
section
variable {X : Cx} {J : L2.St → Prop}
end
end HP

set_option maxHeartbeats 2000000
/-! HpAugF: o.f += k, k a number that is written down. -/
namespace HP
open PySem L2
variable [LamT] {β : Bs} {κ : Pk}
section
variable {X : Cx} {J : L2.St → Prop}
/-- the change of an instance's number -/
def augF (Cn n : Str) (i0 k : Int) : Cont → Option (Cont × D)
  | .ins c ns vs => match lookF ns vs n with
    | some (.int j) => if c = Cn ∧ ns.length < 100 ∧ j = i0 then some (.ins c (HP.putF ns vs n (.int (i0 + k))).1 (HP.putF ns vs n (.int (i0 + k))).2, .non) else none
    | _ => none
  | _ => none
end
end HP

set_option maxHeartbeats 2000000
/-! HpLc: list comprehensions of one clause. -/
namespace HP
open PySem L2
variable [LamT] {β : Bs} {κ : Pk}

section
variable {K : PySem.W.Frag} {F F' : Hp} {M M' : List Addr} {P P' : Hp} {σD σD' : Slots} {s s' : Store} {σ σ' : St} {H H' : Hp} {vs : List Nat}
theorem Rel.wipe1 (R : Rel K β F M P σD s σ H) (n : Nat) : Rel K β F M P (σD.set n .unb) s (σ.set n none) H := by
  have R1 := R.unbind n
  refine ⟨R1.z, R1.tb, R1.sF, R1.sP, R1.mlen, R1.mem, R1.nd, R1.fp, by rw [List.length_set, List.length_set]; exact R.slen, fun j sl hj => ?_, fun j k c1 c2 b h1 h2 h3 h4 => ?_⟩
  · rcases getElem?_set_cases hj with ⟨rfl, rfl⟩ | ⟨hne, hj⟩
    · exact .unb
    · rw [List.getElem?_set_ne hne]
      exact R.slot j sl hj
  · rcases getElem?_set_cases h1 with ⟨_, e⟩ | ⟨n1, h1⟩
    · cases e
    · rcases getElem?_set_cases h2 with ⟨_, e⟩ | ⟨n2, h2⟩
      · cases e
      · rw [List.getElem?_set_ne n1] at h3
        rw [List.getElem?_set_ne n2] at h4
        exact R.dist j k c1 c2 b h1 h2 h3 h4
theorem Rel.wipe (R : Rel K β F M P σD s σ H) : ∀ vs : List Nat, Rel K β F M P (wipeS σD vs) s (L2.wipe σ vs) H
  | [] => R
  | v :: vs => (R.wipe vs).wipe1 v
theorem wipeS_out {i : Nat} : ∀ {vs : List Nat}, i ∉ vs → (wipeS σD vs)[i]? = σD[i]?
  | [], _ => rfl
  | v :: vs, h => by
    simp only [List.mem_cons, not_or] at h
    rw [wipeS, List.getElem?_set_ne (Ne.symm h.1), wipeS_out h.2]
theorem wipeS_len : ∀ vs : List Nat, (wipeS σD vs).length = σD.length
  | [] => rfl
  | v :: vs => by rw [wipeS, List.length_set, wipeS_len vs]
theorem backS_len {σ0 : Slots} : ∀ vs : List Nat, (backS σ0 σD vs).length = σD.length
  | [] => rfl
  | v :: vs => by rw [backS, List.length_set, backS_len vs]
theorem backS_out {σ0 : Slots} {i : Nat} : ∀ {vs : List Nat}, i ∉ vs → (backS σ0 σD vs)[i]? = σD[i]?
  | [], _ => rfl
  | v :: vs, h => by
    simp only [List.mem_cons, not_or] at h
    rw [backS, List.getElem?_set_ne (Ne.symm h.1), backS_out h.2]
theorem backS_in {σ0 : Slots} {i : Nat} {sl : Slot} : ∀ {vs : List Nat}, i ∈ vs → (backS σ0 σD vs)[i]? = some sl → sl = Slot.keep σ0[i]?
  | v :: vs, hm, h => by
    rw [backS] at h
    rcases getElem?_set_cases h with ⟨rfl, e⟩ | ⟨hne, h⟩
    · exact e
    · rcases List.mem_cons.mp hm with rfl | hm
      · exact absurd rfl hne
      · exact backS_in hm h
/-- behind a comprehension -/
theorem Rel.behind {σ0 : Slots} {s0 : Store} {H0 : Hp} (R0 : Rel K β F M P' σ0 s0 σ H0) (R : Rel K β F' M' P (wipeS σD vs) s (L2.wipe σ vs) H) (sf : Same F F') (ex : Ext M M') : Rel K β F' M' P (backS σ0 σD vs) s σ H := by
  refine ⟨R.z, R.tb, R.sF, R.sP, R.mlen, R.mem, R.nd, R.fp, ?_, fun j sl hj => ?_, fun j k c1 c2 b h1 h2 h3 h4 => ?_⟩
  · rw [backS_len, ← wipeS_len vs, R.slen, wipe_length]
  · by_cases hm : j ∈ vs
    · have e := backS_in hm hj
      subst e
      cases hs : σ0[j]? with
      | none => exact .unb
      | some sl =>
        cases sl with
        | unb => exact .unb
        | own c => exact .unb
        | val d =>
          obtain ⟨v, hv, r⟩ := (R0.slot j _ hs).vv
          exact .val hv (r.mono sf ex)
    · rw [backS_out hm, ← wipeS_out hm] at hj
      have r := R.slot j sl hj
      rw [wipe_out hm] at r
      exact r
  · have nin : ∀ {j : Nat} {c : Cont}, (backS σ0 σD vs)[j]? = some (.own c) → j ∉ vs ∧ (wipeS σD vs)[j]? = some (.own c) := fun {j c} h => by
      by_cases hm : j ∈ vs
      · have e := backS_in hm h
        cases hs : σ0[j]? with
        | none => rw [hs] at e; cases e
        | some sl => rw [hs] at e; cases sl <;> cases e
      · exact ⟨hm, by rw [wipeS_out hm, ← backS_out hm]; exact h⟩
    obtain ⟨m1, g1⟩ := nin h1
    obtain ⟨m2, g2⟩ := nin h2
    exact R.dist j k c1 c2 b g1 g2 (by rw [wipe_out m1]; exact h3) (by rw [wipe_out m2]; exact h4)
theorem wipe_in {σ : St} {j : Nat} : ∀ {vs : List Nat}, j ∈ vs → (L2.wipe σ vs)[j]? = σ[j]?.map fun _ => none
  | v :: vs, h => by
    unfold L2.wipe
    by_cases e : v = j
    · subst e
      rw [List.getElem?_set_self']
      by_cases m : v ∈ vs
      · rw [wipe_in m]
        cases σ[v]? <;> rfl
      · rw [wipe_out m]
        cases σ[v]? <;> rfl
    · rw [List.getElem?_set_ne e]
      exact wipe_in ((List.mem_cons.mp h).resolve_left fun q => e q.symm)
theorem wipe_set {σ : St} {n : Nat} {v : Option V} {vs : List Nat} (h : n ∈ vs) : L2.wipe (σ.set n v) vs = L2.wipe σ vs := by
  refine List.ext_getElem? fun j => ?_
  by_cases m : j ∈ vs
  · rw [wipe_in m, wipe_in m]
    by_cases e : n = j
    · subst e
      rw [List.getElem?_set_self']
      cases σ[n]? <;> rfl
    · rw [List.getElem?_set_ne e]
  · have hne : n ≠ j := fun e => m (e ▸ h)
    rw [wipe_out m, wipe_out m, List.getElem?_set_ne hne]
theorem wipe_idem {σ : St} {vs : List Nat} : L2.wipe (L2.wipe σ vs) vs = L2.wipe σ vs := by
  refine List.ext_getElem? fun j => ?_
  by_cases m : j ∈ vs
  · rw [wipe_in m, wipe_in m]
    cases σ[j]? <;> rfl
  · rw [wipe_out m]
end

/-- what a block may bind: its own names alone -/
def JB (σ : St) (vs : List Nat) : St → Prop := fun σ2 => L2.wipe σ2 vs = L2.wipe σ vs
theorem JB.set {σ : St} {vs : List Nat} {n : Nat} (h : n ∈ vs) : JSet (JB σ vs) n := fun σ2 v q => by
  unfold JB at q ⊢
  rw [wipe_set h, q]
section
variable {X : Cx} {a b c tg iter elt : Expr} {ie ia ib ic : E} {pos : Pos} {es : List Expr} {is : Es} {it : HP.It} {t : Tg}
/-- a clause's tests -/
def SIf (X : Cx) (κ : Pk) (ifs : List Expr) (is : Es) : Prop := PTs X ifs (tTt X κ fun σ s K _ => (ws is).ifs σ s K)
theorem sif_nil : SIf X κ [] .nil := ⟨fun pins s σ H Q I ⟨F, M, P, σD, st, K, R, h, hK⟩ => pts_nil.run pins s σ H Q I (by
  rw [ws.eq_1] at h
  exact hK _ _ _ F M H h (.refl F) (.refl M) R)⟩
theorem sif_one (h1 : SEx X κ.no a ia) : SIf X κ [a] (.cons ia .nil) := ⟨fun pins s σ H Q I ⟨F, M, P, σD, st, K, R, h, hK⟩ => (pts_one h1.t).run pins s σ H Q I (by
  rw [ws.eq_2] at h
  refine ⟨F, M, P, σD, st, _, R, h, fun b σ1 s1 F1 M1 H1 k sf ex R1 => ?_⟩
  rw [ws.eq_1] at k
  cases b with
  | true =>
    rw [if_pos rfl] at k
    exact hK _ _ _ F1 M1 H1 k sf ex R1
  | false =>
    rw [if_neg Bool.false_ne_true] at k
    exact hK _ _ _ F1 M1 H1 k sf ex R1)⟩
/-- the context of a comprehension's block -/
abbrev blkX (X : Cx) (scope : Scope) (z : Shared) (G : Hp) (C : Addr) (cl : List (Str × Addr)) (fp : List Addr) : Cx := X.blk z G scope (compEnvC scope cl C X.env) fp
/-- the state of a comprehension's loop -/
def LcS (K : PySem.W.Frag) (β : Bs) (F1 : Hp) (M1 : List Addr) (P : Hp) (vs : List Nat) (σ : St) (D : Addr) (k : List HP.D → Slots → Store → Prop) (H : Hp) : Prop :=
  ∃ F' M' σD s acc zs, Same F1 F' ∧ Ext M1 M' ∧ P D = none ∧ RVs K F' M' acc zs ∧ Rel K β F' M' (upd P D (.lst zs)) (wipeS σD vs) s (L2.wipe σ vs) H ∧ k acc σD s
/-- one turn of a comprehension's loop -/
def lcF (t : Tg) (is : Es) (ie : E) (vs : List Nat) : HP.D → Acc → Slots → Store → (Acc → Slots → Store → Prop) → Prop := fun x a σ s k => wTg t x (wipeS σ vs) s fun σ s => (ws is).ifs σ s fun c σ s =>
  if c then (w ie).v σ s (fun o σ s => if a.1.length < big then k (a.1 ++ [o.frz], []) σ s else False) noX else k a σ s
theorem lc_key {bb : Bool} {vs : List Nat} : ∀ (σ : St) (H : Hp) (Q : VK), tE X κ (fun σ s K x => wCs (.one t it is) vs σ s ([], []) (fun acc σ s k => (w ie).v σ s (fun o σ s => if acc.1.length < big then k (acc.1 ++ [o.frz], []) σ s else False) noX) (fun acc σ' s => K (.own (.lst acc.1)) (backS σ σ' vs) s) x) σ H Q →
      tLc (tIt X κ bb it) (fun v σ2 H2 Q2 => tTg X κ (JB σ2 vs) bb t v σ2 H2 fun σ3 H3 => JB σ2 vs σ3 ∧ Q2 σ3 H3) (tTt X κ fun σ s K _ => (ws is).ifs σ s K) (tE X κ.no (w ie).v) vs σ H Q := fun σ H Q ⟨F, M, P, σD, s, K, R, h, hK⟩ => by
  rw [wCs] at h
  refine ⟨F, M, P, σD, s, _, R, h, fun items σ1 s1 F1 M1 H1 It k sf1 e1 R1 hI => fun D hD => ?_⟩
  have qD := R1.off hD
  refine ⟨fun i m H => m = items.length - i ∧ i ≤ items.length ∧ LcS X.K κ.b F1 M1 P vs σ D (fun acc σD' s' => wLoop (lcF t is ie vs) (items.drop i) (acc, []) σD' s' fun acc σ' s => K (.own (.lst acc.1)) (backS σD σ' vs) s) H,
    ⟨items.length, by omega, by omega, F1, M1, σ1, s1, [], [], .refl F1, .refl M1, qD.p, .nil, (R1.guard hD).wipe vs, by rw [List.drop_zero]; exact k⟩, fun i m H2 ⟨hm, hi, F', M', σD', s', acc, zs, sf, ex, hP, hr, R', k⟩ => ?_⟩
  have hit := hI _ F' M' _ _ s' _ H2 sf ex R' i
  have hz : H2 D = some (.lst zs) := R'.sP D _ upd_same
  cases hd : items[i]? with
  | none =>
    have hl : items.drop i = [] := by
      rw [List.getElem?_eq_none_iff] at hd
      exact List.drop_eq_nil_of_le hd
    rw [hl] at k
    simp only [wLoop] at k
    have R2 := Rel.behind R R' (sf1.trans sf) (e1.trans ex)
    exact .inl ⟨hit.2 hd, hK _ _ _ F' M' H2 _ k (sf1.trans sf) (e1.trans ex) (R2.less (same_updP hP) R.z.p) ⟨D, rfl, .lst hz hr, R2.kept_off upd_same hP⟩⟩
  | some d =>
    have hlt := (List.getElem?_eq_some_iff.mp hd).1
    have hl : items.drop i = d :: items.drop (i + 1) := by
      rw [List.drop_eq_getElem_cons hlt, (List.getElem?_eq_some_iff.mp hd).2]
    rw [hl] at k
    simp only [wLoop] at k
    obtain ⟨hgo, hy⟩ := hit.1 d hd
    refine .inr ⟨hgo, LcS X.K κ.b F1 M1 P vs σ D (fun acc σD' s' => wLoop (lcF t is ie vs) (items.drop (i + 1)) (acc, []) σD' s' fun acc σ' s => K (.own (.lst acc.1)) (backS σD σ' vs) s),
      fun H' h => ⟨items.length - (i + 1), by omega, rfl, by omega, h⟩, fun x H' hx => ?_⟩
    obtain ⟨F'', sf'', R'', rx⟩ := hy x H' hx
    refine ⟨F'', M', _, _, s', d, _, R'', rfl, rx, k, fun σ2 s2 F2 M2 τ2 H2 k2 sf2 e2 j2 R2 => ⟨j2, ?_⟩⟩
    have j3 : L2.wipe τ2 vs = L2.wipe σ vs := (show L2.wipe τ2 vs = L2.wipe (L2.wipe σ vs) vs from j2).trans wipe_idem
    refine ⟨j3.trans wipe_idem.symm |>.trans wipe_idem, ⟨F2, M2, _, σ2, s2, _, R2, k2, fun b σ3 s3 F3 M3 H3 k3 sf3 e3 R3 => ?_⟩⟩
    have gA : Same F1 F3 := sf.trans (sf''.trans (sf2.trans sf3))
    have gB : Ext M1 M3 := ex.trans (e2.trans e3)
    have hr3 := hr.mono (sf''.trans (sf2.trans sf3)) (e2.trans e3)
    cases b with
    | false =>
      rw [if_neg Bool.false_ne_true] at k3
      dsimp only
      rw [if_neg Bool.false_ne_true]
      exact ⟨F3, M3, σ3, s3, acc, zs, gA, gB, hP, hr3, by rw [← j3]; exact R3.wipe vs, k3⟩
    | true =>
      rw [if_pos rfl] at k3
      dsimp only
      rw [if_pos rfl]
      refine ⟨F3, M3, _, σ3, s3, _, R3, k3, fun o σ4 s4 F4 M4 H4 v k4 sf4 e4 R4 q4 => ?_⟩
      split at k4 <;> try (exact k4.elim)
      rename_i hz4
      obtain ⟨F5, sf5, R5, rv⟩ := R4.frz q4
      have hr5 := hr3.mono (sf4.trans sf5) e4
      have hD4 : H4 D = some (.lst zs) := R5.sP D _ upd_same
      refine ⟨zs, hD4, by rw [← hr5.length, ← big_eq]; exact hz4, F5, M4, σ4, s4, acc ++ [o.frz], zs ++ [v], gA.trans (sf4.trans sf5), gB.trans e4, hP, hr5.append (.cons rv .nil), ?_, k4⟩
      rw [← j3]
      have q5 := R5.kept_off upd_same hP
      have R6 := (R5.less (same_updP hP) R.z.p).updOff (o := .lst (zs ++ [v])) q5 (nt_at hD4 nofun)
      exact (R6.guardOff q5 upd_same nofun).wipe vs
theorem se_lc {bb : Bool} {ifs : List Expr} {scope : Scope} {own : List (Str × Nat)} (hc : X.calm = true) (hN : X.N.Nodup) (hi : SIt X κ bb tg iter it) (ok : BlkOk X.N X.env.scope scope own)
    (hg : ∀ z G C cl fp J, (∀ n ∈ own.map (·.2), JSet J n) → STg (blkX X scope z G C cl fp) κ J bb tg t) (ht : ∀ z G C cl fp, SIf (blkX X scope z G C cl fp) κ ifs is) (he : ∀ z G C cl fp, SEx (blkX X scope z G C cl fp) κ.no elt ie)
    (hs : ∀ x, foldedSetIterable iter X.env x = pure x) (hte : TruE X (.ListComp elt [⟨tg, iter, ifs, 0⟩] scope pos)) : SEx X κ (.ListComp elt [⟨tg, iter, ifs, 0⟩] scope pos) (.lc (own.map (·.2)) ie (.one t it is)) := by
  refine sex_dft (w.eq_29 _ ie _) (fun _ _ _ _ _ => rfl) hte (pe_lc (g := fun v σ2 H2 Q2 => tTg X κ (JB σ2 (own.map (·.2))) bb t v σ2 H2 fun σ3 H3 => JB σ2 (own.map (·.2)) σ3 ∧ Q2 σ3 H3) (tt := tTt X κ fun σ s K _ => (ws is).ifs σ s K) (te := tE X κ.no (w ie).v) hc hN hi ok (fun z G C cl fp => ⟨fun pins z2 σ2 H2 v u Q I r q => ?_⟩) (fun z G C cl fp => ht z G C cl fp) (fun z G C cl fp => (he z G C cl fp).v) hs) lc_key
  exact (hg z G C cl fp (JB σ2 (own.map (·.2))) fun n hn => JB.set hn).run pins z2 σ2 H2 v u Q I r (by
    obtain ⟨F, M, P, σD, s, d, K, R, j, rv, h, hK⟩ := q
    exact ⟨F, M, P, σD, s, d, K, R, j, rv, h, fun a b c d e f k l m n o => (hK a b c d e f k l m n o).2⟩)
/-- name = [..] -/
theorem st_setLc {bb : Bool} {ifs : List Expr} {scope : Scope} {own : List (Str × Nat)} {n : Nat} {y : Str} {py spos : Pos} {J : St → Prop} (hJ : JSet J n) (hc : X.calm = true) (hN : X.N.Nodup) (hy : X.N[n]? = some y) (hyl : X.env.scope.names.lookup y = some .local)
    (hsw : swapsWith (.ListComp elt [⟨tg, iter, ifs, 0⟩] scope pos) (some (.Name y py)) spos.line X.env = pure true) (hi : SIt X κ bb tg iter it) (ok : BlkOk X.N X.env.scope scope own)
    (hg : ∀ z G C cl fp J, (∀ n ∈ own.map (·.2), JSet J n) → STg (blkX X scope z G C cl fp) κ J bb tg t) (ht : ∀ z G C cl fp, SIf (blkX X scope z G C cl fp) κ ifs is) (he : ∀ z G C cl fp, SEx (blkX X scope z G C cl fp) κ.no elt ie)
    (hs : ∀ x, foldedSetIterable iter X.env x = pure x) : SSt X κ J (.Assign [.Name y py] (.ListComp elt [⟨tg, iter, ifs, 0⟩] scope pos) spos) (.asg (.name n) (.lc (own.map (·.2)) ie (.one t it is))) := by
  refine psImp (ps_setLc (g := fun v σ2 H2 Q2 => tTg X κ (JB σ2 (own.map (·.2))) bb t v σ2 H2 fun σ3 H3 => JB σ2 (own.map (·.2)) σ3 ∧ Q2 σ3 H3) (tt := tTt X κ fun σ s K _ => (ws is).ifs σ s K) (te := tE X κ.no (w ie).v) hc hN hy hyl hsw hi ok (fun z G C cl fp => ⟨fun pins z2 σ2 H2 v u Q I r q => ?_⟩) (fun z G C cl fp => ht z G C cl fp) (fun z G C cl fp => (he z G C cl fp).v) hs) fun D σ H ⟨F, M, P, σD, s, Pt, R, j, h, hE⟩ => ?_
  · exact (hg z G C cl fp (JB σ2 (own.map (·.2))) fun n hn => JB.set hn).run pins z2 σ2 H2 v u Q I r (by
      obtain ⟨F, M, P, σD, s, d, K, R, j, rv, h, hK⟩ := q
      exact ⟨F, M, P, σD, s, d, K, R, j, rv, h, fun a b c d e f k l m n o => (hK a b c d e f k l m n o).2⟩)
  · rw [wS, hE.ex] at h
    rw [wE, w.eq_29] at h
    dsimp only [dft] at h
    exact lc_key σ H _ ⟨F, M, P, σD, s, _, R, h, fun o σ1 s1 F1 M1 H1 v k sf ex R1 q => hE.nx _ _ F1 M1 _ H1 k sf ex (hJ _ _ j) (R1.put n q)⟩
/-- name = [..], a thing of the store from then on -/
theorem st_setLcA {bb : Bool} {ifs : List Expr} {scope : Scope} {own : List (Str × Nat)} {n : Nat} {y : Str} {py spos : Pos} {J : St → Prop} (hJ : JSet J n) (hc : X.calm = true) (hN : X.N.Nodup) (hy : X.N[n]? = some y) (hyl : X.env.scope.names.lookup y = some .local)
    (hsw : swapsWith (.ListComp elt [⟨tg, iter, ifs, 0⟩] scope pos) (some (.Name y py)) spos.line X.env = pure true) (hi : SIt X κ bb tg iter it) (ok : BlkOk X.N X.env.scope scope own)
    (hg : ∀ z G C cl fp J, (∀ n ∈ own.map (·.2), JSet J n) → STg (blkX X scope z G C cl fp) κ J bb tg t) (ht : ∀ z G C cl fp, SIf (blkX X scope z G C cl fp) κ ifs is) (he : ∀ z G C cl fp, SEx (blkX X scope z G C cl fp) κ.no elt ie)
    (hs : ∀ x, foldedSetIterable iter X.env x = pure x) : SSt X κ J (.Assign [.Name y py] (.ListComp elt [⟨tg, iter, ifs, 0⟩] scope pos) spos) (.asg (.name n) (.alloc (.lc (own.map (·.2)) ie (.one t it is)))) := by
  refine psImp (ps_setLc (g := fun v σ2 H2 Q2 => tTg X κ (JB σ2 (own.map (·.2))) bb t v σ2 H2 fun σ3 H3 => JB σ2 (own.map (·.2)) σ3 ∧ Q2 σ3 H3) (tt := tTt X κ fun σ s K _ => (ws is).ifs σ s K) (te := tE X κ.no (w ie).v) hc hN hy hyl hsw hi ok (fun z G C cl fp => ⟨fun pins z2 σ2 H2 v u Q I r q => ?_⟩) (fun z G C cl fp => ht z G C cl fp) (fun z G C cl fp => (he z G C cl fp).v) hs) fun D σ H ⟨F, M, P, σD, s, Pt, R, j, h, hE⟩ => ?_
  · exact (hg z G C cl fp (JB σ2 (own.map (·.2))) fun n hn => JB.set hn).run pins z2 σ2 H2 v u Q I r (by
      obtain ⟨F, M, P, σD, s, d, K, R, j, rv, h, hK⟩ := q
      exact ⟨F, M, P, σD, s, d, K, R, j, rv, h, fun a b c d e f k l m n o => (hK a b c d e f k l m n o).2⟩)
  · rw [wS, hE.ex] at h
    rw [wE, w.eq_23] at h
    dsimp only [dft] at h
    rw [w.eq_29] at h
    dsimp only [dft] at h
    refine lc_key σ H _ ⟨F, M, P, σD, s, (fun o σ s => match o with | .own c => Pt.nx (σ.set n (Out.val (.ref s.length)).slot) (s ++ [c]) | .val _ => False), R, h, fun o σ1 s1 F1 M1 H1 v k sf ex R1 q => ?_⟩
    cases o with
    | val d => exact k.elim
    | own c =>
      obtain ⟨a, rfl, r, qo⟩ := q
      obtain ⟨R2, rv⟩ := R1.alloc r qo
      exact hE.nx _ _ F1 _ _ H1 k sf (ex.trans ⟨[a], rfl⟩) (hJ _ _ j) (R2.put (o := .val (.ref s1.length)) n rv)
end
end HP

set_option maxHeartbeats 2000000
/-! HpLc2: list comprehensions of two clauses. -/
namespace HP
open PySem L2
variable [LamT] {β : Bs} {κ : Pk}
section
variable {X : Cx} {a b c tg iter elt tg1 iter1 : Expr} {ie ia ib ic : E} {pos : Pos} {es : List Expr} {is is1 : Es} {it it1 : HP.It} {t t1 : Tg}
/-- one turn of the outer loop -/
def lcF2 (t : Tg) (is : Es) (vs : List Nat) (t1 : Tg) (it1 : HP.It) (is1 : Es) (ie : E) (vs1 : List Nat) : HP.D → Acc → Slots → Store → (Acc → Slots → Store → Prop) → Prop := fun x a σ s k => wTg t x (wipeS σ vs) s fun σ s => (ws is).ifs σ s fun c σ s =>
  if c then wIt it1 σ s (fun items σ s => wLoop (lcF t1 is1 ie vs1) items a σ s k) noX else k a σ s
end
end HP

set_option maxHeartbeats 2000000
/-! HpLcN: list comprehensions of any number of clauses. -/
namespace HP
open PySem L2 PySem.Spec
open PyProof.Rows hiding St
variable [LamT] {β : Bs} {κ : Pk}

/-- nothing is raised -/
abbrev wpF {α : Type} (M : Model) (A : Around) (m : Sem α) (Q : α → Shared → Prop) (s : Shared) : Prop := wpAny M A m Q (fun _ _ => False) s
theorem wpF.to {α : Type} {M : Model} {A : Around} {m : Sem α} {Q Q' : α → Shared → Prop} {E : Value → Shared → Prop} {s : Shared} (h : wpF M A m Q s) (f : ∀ a s, Q a s → Q' a s) : wpAny M A m Q' E s := wpAny_mono h f fun _ _ => False.elim

section
variable {M : Model} {A : Around} {R : Result → Shared → Prop} {s : Shared} {elt tg iter : Expr} {ifs : List Expr} {gens : List Comprehension} {scope : Scope} {pos : Pos} {it acc : Value} {env : Env} {k : Nat}
/-- what a turn does behind its tests: the loop of the clause at k, or the append behind the last -/
def NextDo (M : Model) (A : Around) (elt : Expr) (gens : List Comprehension) (scope : Scope) (pos : Pos) (acc : Value) (env : Env) (k : Nat) (Q : Shared → Prop) (s : Shared) : Prop :=
  match gens[k]? with
  | some g => wpF M A (eval g.iter env) (fun x s1 => wpF M A (pyIter x) (fun i s2 => codeAny M A (.compStart (.ListComp elt gens scope pos) k i acc env) (fun r s3 => match r with
    | .ok _ => Q s3
    | .error _ => False) s2) s1) s
  | none => wpF M A (eval elt env) (fun x s1 => wpF M A (call (.builtin "list.append") [acc, x]) (fun _ s2 => Q s2) s1) s
def testsOf (ifs : List Expr) (env : Env) : Sem Bool := forIn ifs true fun c r => if r = true then do let ok ← isTrue c env (eval c env); pure (ForInStep.yield ok) else pure (ForInStep.yield r)
/-- a turn of the clause's loop -/
def TurnDo (M : Model) (A : Around) (elt : Expr) (gens : List Comprehension) (scope : Scope) (pos : Pos) (acc : Value) (env : Env) (k : Nat) (tg : Expr) (ifs : List Expr) (it : Value) (Z Q : Shared → Prop) (s : Shared) : Prop :=
  wpF M A (pyNext it) (fun r s1 => match r with
    | none => Z s1
    | some v => wpF M A (letOwnedTupleGo tg it v) (fun _ s2 => wpF M A (assign tg env v) (fun _ s3 => wpF M A (testsOf ifs env) (fun ok s4 => if ok = true then NextDo M A elt gens scope pos acc env (k + 1) Q s4 else Q s4) s3) s2) s1) s
end
section
variable {prog : Program} {w : World} {A : Around} {R : Result → Shared → Prop} {s : Shared} {elt tg iter : Expr} {ifs : List Expr} {gens : List Comprehension} {scope : Scope} {pos : Pos} {it acc : Value} {env : Env} {k : Nat}
end

/-- a clause, with what is told of it; vs: the names that it and the clauses behind it bind -/
structure Clz where
  tg : Expr
  iter : Expr
  ifs : List Expr
  wi : TI
  g : TG
  tt : TT
  vs : List Nat
def Clz.gen (c : Clz) : Comprehension := ⟨c.tg, c.iter, c.ifs, 0⟩
/-- the loop of a clause whose items come by J -/
def tBody (cont : L2.St → Hp → (Hp → Prop) → Prop) (c : Clz) (σ : L2.St) (J : L2.It) (H1 : Hp) (Nx : Hp → Prop) : Prop :=
  ∃ W : Nat → Nat → Hp → Prop, (∃ m, W 0 m H1) ∧ ∀ i m H, W i m H → (J.stop i H ∧ Nx H) ∨ (J.go i H ∧ ∃ N1 : Hp → Prop, (∀ H', N1 H' → ∃ m', m' < m ∧ W (i + 1) m' H') ∧
    ∀ x H', J.yld i H x H' → c.g x (L2.wipe σ c.vs) H' fun σ2 H2 => L2.wipe σ2 c.vs = L2.wipe σ c.vs ∧ c.tt σ2 H2 fun b H3 => if b = true then cont σ2 H3 N1 else N1 H3)
def tIn (te : TE) (D : Addr) : List Clz → L2.St → Hp → (Hp → Prop) → Prop
  | [], σ, H, Nx => te σ H fun y H' => ∃ acc, H' D = some (.lst acc) ∧ acc.length < sizeLine ∧ Nx (upd H' D (.lst (acc ++ [y])))
  | c :: r, σ, H, Nx => c.wi σ H fun J H1 => tBody (tIn te D r) c σ J H1 Nx
/-- [elt for .. for .. ..] -/
def tLcN (te : TE) (c : Clz) (r : List Clz) : TE := fun σ H Q => c.wi σ H fun J H1 => ∀ D, H1 D = none → tBody (tIn te D r) c σ J (upd H1 D (.lst [])) (Q (.ref D))
def vsOf : List Clz → List Nat
  | [] => []
  | c :: _ => c.vs
/-- what is known of τ is known of ρ -/
def Kn (τ ρ : L2.St) : Prop := τ.length = ρ.length ∧ ∀ (j : Nat) v, τ[j]? = some (some v) → ρ[j]? = some (some v)
theorem Kn.trans {a b c : L2.St} (h : Kn a b) (k : Kn b c) : Kn a c := ⟨h.1.trans k.1, fun j v e => k.2 j v (h.2 j v e)⟩
theorem Kn.refl (σ : L2.St) : Kn σ σ := ⟨rfl, fun _ _ e => e⟩
theorem Kn.less {σ : L2.St} {vs us : List Nat} (h : ∀ i ∈ us, i ∈ vs) : Kn (L2.wipe σ vs) (L2.wipe σ us) := ⟨by rw [wipe_length, wipe_length], fun j v e => by
  obtain ⟨e1, e2⟩ := wipe_some e
  rw [wipe_out fun z => e2 (h j z)]
  exact e1⟩
section
variable {Y : Cx} {elt : Expr} {gens : List Comprehension} {scope : Scope} {pos : Pos} {D : Addr}
/-- what one clause's turn, or all behind it, brings about -/
def Inner (Y : Cx) (elt : Expr) (gens : List Comprehension) (scope : Scope) (pos : Pos) (D : Addr) (k : Nat) (vs : List Nat) (cont : L2.St → Hp → (Hp → Prop) → Prop) : Prop :=
  ∀ (pins : List (Addr × Obj)) (σ : L2.St) (H : Hp) (s : Shared) (Nx : Hp → Prop), Inv Y pins σ H s → cont σ H Nx →
    NextDo (model Y.prog Y.w) Y.A elt gens scope pos (.ref D) Y.env k (fun s' => ∃ ρ H', Inv Y pins ρ H' s' ∧ Kn (L2.wipe σ vs) ρ ∧ Nx H') s
theorem NextDo.mono {M : Model} {A : Around} {acc : Value} {env : Env} {k : Nat} {Q Q' : Shared → Prop} {s : Shared} (h : NextDo M A elt gens scope pos acc env k Q s) (f : ∀ s, Q s → Q' s) : NextDo M A elt gens scope pos acc env k Q' s := by
  unfold NextDo at h ⊢
  split at h
  · exact wpF.to h fun x s1 h1 => wpF.to h1 fun i s2 h2 => codeAny_mono h2 fun r s3 h3 => by
      cases r with
      | ok _ => exact f _ h3
      | error _ => exact h3
  · exact wpF.to h fun x s1 h1 => wpF.to h1 fun _ s2 h2 => f _ h2
theorem wpF.of {α : Type} {M : Model} {A : Around} {m : Sem α} {Q : α → Shared → Prop} {s : Shared} {E : Value → Shared → Prop} (hx : ∀ x s, ¬ E x s) (h : wpAny M A m Q E s) : wpF M A m Q s := wpAny_mono h (fun _ _ q => q) fun x s e => hx x s e
end
section
variable {X : Cx} {elt : Expr} {scope : Scope} {pos pos' : Pos} {c : Clz} {r : List Clz} {te : TE} {own : List (Str × Nat)}
/-- what is asked of a clause inside the block -/
structure ClOk (Y : Cx) (d : Clz) : Prop where
  i : PI Y d.tg d.iter d.wi
  g : PG Y d.tg d.g
  t : PTs Y d.ifs d.tt
  f : ∀ x, foldedSetIterable d.iter Y.env x = pure x
structure BlkN (X : Cx) (elt : Expr) (scope : Scope) (c : Clz) (r : List Clz) (te : TE) : Prop where
  gO : ∀ z G C cl fp, PG (blkX X scope z G C cl fp) c.tg c.g
  tO : ∀ z G C cl fp, PTs (blkX X scope z G C cl fp) c.ifs c.tt
  eO : ∀ z G C cl fp, PE (blkX X scope z G C cl fp) elt te
  rO : ∀ z G C cl fp, ∀ d ∈ r, ClOk (blkX X scope z G C cl fp) d
  pO : (c :: r).Pairwise fun c d => ∀ i ∈ d.vs, i ∈ c.vs
end
/-! ### by the small language -/
section
variable {X : Cx}
/-- a turn of a clause's loop, fIn behind its tests -/
def lpF (t : Tg) (is : Es) (vs : List Nat) (fIn : Acc → Slots → Store → (Acc → Slots → Store → Prop) → Prop) : HP.D → Acc → Slots → Store → (Acc → Slots → Store → Prop) → Prop :=
  fun x a σ s k => wTg t x (wipeS σ vs) s fun σ s => (ws is).ifs σ s fun c σ s => if c then fIn a σ s k else k a σ s
def lpEmit (ie : E) : Acc → Slots → Store → (Acc → Slots → Store → Prop) → Prop := fun a σ s k => (w ie).v σ s (fun o σ s => if a.1.length < big then k (a.1 ++ [o.frz], []) σ s else False) noX
def lpNext (x : QX) (t : Tg) (it : HP.It) (is : Es) (vs : List Nat) (fIn : Acc → Slots → Store → (Acc → Slots → Store → Prop) → Prop) : Acc → Slots → Store → (Acc → Slots → Store → Prop) → Prop :=
  fun a σ s k => wIt it σ s (fun items σ s => wLoop (lpF t is vs fIn) items a σ s k) x
def gT (X : Cx) (κ : Pk) (vs : List Nat) (bb : Bool) (t : Tg) : TG := fun v σ2 H2 Q2 => tTg X κ (JB σ2 vs) bb t v σ2 H2 fun σ3 H3 => JB σ2 vs σ3 ∧ Q2 σ3 H3
def InKey (X : Cx) (κ : Pk) (D : Addr) (P : Hp) (vs : List Nat) (fIn : Acc → Slots → Store → (Acc → Slots → Store → Prop) → Prop) (cont : L2.St → Hp → (Hp → Prop) → Prop) : Prop :=
  ∀ (F : Hp) (M : List Addr) (σD : Slots) (s : Store) (acc : List HP.D) (zs : List V) (τ : L2.St) (H : Hp) (k : Acc → Slots → Store → Prop) (Nx : Hp → Prop), RVs X.K F M acc zs → Rel X.K κ.b F M (upd P D (.lst zs)) σD s τ H → fIn (acc, []) σD s k →
    (∀ (F' : Hp) (M' : List Addr) (σD' : Slots) (s' : Store) (acc' : List HP.D) (zs' : List V) (H' : Hp), Same F F' → Ext M M' → RVs X.K F' M' acc' zs' → Rel X.K κ.b F' M' (upd P D (.lst zs')) (wipeS σD' vs) s' (L2.wipe τ vs) H' → k (acc', []) σD' s' → Nx H') → cont τ H Nx
variable {elt tg iter tg1 iter1 tg2 iter2 : Expr} {ie : E} {pos : Pos} {is is1 is2 : Es} {it it1 it2 : HP.It} {t t1 t2 : Tg}
end
end HP

set_option maxHeartbeats 2000000
/-! HpDc: dict comprehensions of any number of clauses, keys nested tuples. -/
namespace HP
open PySem L2 PySem.Spec
open PyProof.Rows hiding St
variable [LamT] {β : Bs} {κ : Pk}
section
variable {M : Model} {A : Around} {R : Result → Shared → Prop} {s : Shared} {kx vx tg iter : Expr} {ifs : List Expr} {gens : List Comprehension} {scope : Scope} {pos : Pos} {it : Value} {D : Addr} {env : Env} {k : Nat}
/-- what a turn does behind its tests: the loop of the clause at k, or the append behind the last -/
def NextDoD (M : Model) (A : Around) (kx vx : Expr) (gens : List Comprehension) (scope : Scope) (pos : Pos) (D : Addr) (env : Env) (k : Nat) (Q : Shared → Prop) (s : Shared) : Prop :=
  match gens[k]? with
  | some g => wpF M A (eval g.iter env) (fun x s1 => wpF M A (pyIter x) (fun i s2 => codeAny M A (.compStart (.DictComp kx vx gens scope pos) k i (.ref D) env) (fun r s3 => match r with
    | .ok _ => Q s3
    | .error _ => False) s2) s1) s
  | none => wpF M A (eval kx env) (fun x s1 => wpF M A (eval vx env) (fun y s2 => wpF M A (dictSet D x y) (fun _ s3 => Q s3) s2) s1) s
/-- a turn of the clause's loop -/
def TurnDoD (M : Model) (A : Around) (kx vx : Expr) (gens : List Comprehension) (scope : Scope) (pos : Pos) (D : Addr) (env : Env) (k : Nat) (tg : Expr) (ifs : List Expr) (it : Value) (Z Q : Shared → Prop) (s : Shared) : Prop :=
  wpF M A (pyNext it) (fun r s1 => match r with
    | none => Z s1
    | some v => wpF M A (letOwnedTupleGo tg it v) (fun _ s2 => wpF M A (assign tg env v) (fun _ s3 => wpF M A (testsOf ifs env) (fun ok s4 => if ok = true then NextDoD M A kx vx gens scope pos D env (k + 1) Q s4 else Q s4) s3) s2) s1) s
end
section
variable {prog : Program} {w : World} {A : Around} {R : Result → Shared → Prop} {s : Shared} {kx vx tg iter : Expr} {ifs : List Expr} {gens : List Comprehension} {scope : Scope} {pos : Pos} {it : Value} {D : Addr} {env : Env} {k : Nat}
end

/-- what is asked where a pair is stored -/
def DcSt (K : PySem.W.Frag) (D : Addr) (y z : V) (H : Hp) (Nx : Hp → Prop) : Prop := ∃ (F : Hp) (M : List Addr) (b : Addr) (xs : List Ent) (ob : Obj) (ks : List HP.D) (d : HP.D) (k : NK), y = .ref b ∧ Same F H ∧ H D = some (tabO D xs ob) ∧ nks ks = some (xs.map (·.1)) ∧ ks.all tkey = true ∧ RVs K F M ks (xs.map fun x => .ref x.2.1) ∧ (xs.map (·.1)).Nodup ∧
  tkey d = true ∧ nk d = some k ∧ RV K F M d (.ref b) ∧ xs.length < 1000000 ∧ ∀ ob, Nx (upd H D (tabO D (tput xs k b z) ob))
def tInD (K : PySem.W.Frag) (tk tv : TE) (D : Addr) : List Clz → L2.St → Hp → (Hp → Prop) → Prop
  | [], σ, H, Nx => tk σ H fun y H1 => tv σ H1 fun z H2 => DcSt K D y z H2 Nx
  | c :: r, σ, H, Nx => c.wi σ H fun J H1 => tBody (tInD K tk tv D r) c σ J H1 Nx
/-- {k: v for .. for ..} -/
def tDcN (K : PySem.W.Frag) (tk tv : TE) (c : Clz) (r : List Clz) : TE := fun σ H Q => c.wi σ H fun J H1 => ∀ D, H1 D = none → tBody (tInD K tk tv D r) c σ J (upd H1 D (tabO D [] dict0)) (Q (.ref D))
section
variable {Y : Cx} {kx vx : Expr} {gens : List Comprehension} {scope : Scope} {pos : Pos} {D : Addr}
/-- what one clause's turn, or all behind it, brings about -/
def InnerD (Y : Cx) (kx vx : Expr) (gens : List Comprehension) (scope : Scope) (pos : Pos) (D : Addr) (k : Nat) (vs : List Nat) (cont : L2.St → Hp → (Hp → Prop) → Prop) : Prop :=
  ∀ (pins : List (Addr × Obj)) (σ : L2.St) (H : Hp) (s : Shared) (Nx : Hp → Prop), Inv Y pins σ H s → cont σ H Nx →
    NextDoD (model Y.prog Y.w) Y.A kx vx gens scope pos D Y.env k (fun s' => ∃ ρ H', Inv Y pins ρ H' s' ∧ Kn (L2.wipe σ vs) ρ ∧ Nx H') s
theorem NextDoD.mono {M : Model} {A : Around} {env : Env} {k : Nat} {Q Q' : Shared → Prop} {s : Shared} (h : NextDoD M A kx vx gens scope pos D env k Q s) (f : ∀ s, Q s → Q' s) : NextDoD M A kx vx gens scope pos D env k Q' s := by
  unfold NextDoD at h ⊢
  split at h
  · exact wpF.to h fun x s1 h1 => wpF.to h1 fun i s2 h2 => codeAny_mono h2 fun r s3 h3 => by
      cases r with
      | ok _ => exact f _ h3
      | error _ => exact h3
  · exact wpF.to h fun x s1 h1 => wpF.to h1 fun _ s2 h2 => wpF.to h2 fun _ s3 h3 => f _ h3
end
section
variable {X : Cx} {kx vx : Expr} {scope : Scope} {pos pos' : Pos} {c : Clz} {r : List Clz} {tk tv : TE} {own : List (Str × Nat)}
structure BlkD (X : Cx) (kx vx : Expr) (scope : Scope) (c : Clz) (r : List Clz) (tk tv : TE) : Prop where
  gO : ∀ z G C cl fp, PG (blkX X scope z G C cl fp) c.tg c.g
  tO : ∀ z G C cl fp, PTs (blkX X scope z G C cl fp) c.ifs c.tt
  kO : ∀ z G C cl fp, PE (blkX X scope z G C cl fp) kx tk
  vO : ∀ z G C cl fp, PE (blkX X scope z G C cl fp) vx tv
  rO : ∀ z G C cl fp, ∀ d ∈ r, ClOk (blkX X scope z G C cl fp) d
  pO : (c :: r).Pairwise fun c d => ∀ i ∈ d.vs, i ∈ c.vs
end
section
variable {X : Cx} {kx vx : Expr} {scope : Scope} {pos : Pos} {c : Clz} {r : List Clz} {tk tv : TE} {own : List (Str × Nat)}
end
/-! ### by the small language -/
/-- a dict so far -/
structure TabR (K : PySem.W.Frag) (F : Hp) (M : List Addr) (acc : Acc) (xs : List Ent) : Prop where
  n : nks acc.1 = some (xs.map (·.1))
  t : acc.1.all tkey = true
  r : RVs K F M acc.1 (xs.map fun x => .ref x.2.1)
  d : (xs.map (·.1)).Nodup
  v : RVs K F M acc.2 (xs.map (·.2.2))
theorem TabR.mono {K : PySem.W.Frag} {F F' : Hp} {M M' : List Addr} {acc : Acc} {xs : List Ent} (h : TabR K F M acc xs) (s : Same F F') (e : Ext M M') : TabR K F' M' acc xs := ⟨h.n, h.t, h.r.mono s e, h.d, h.v.mono s e⟩
def lpEmitD (ik iv : E) : Acc → Slots → Store → (Acc → Slots → Store → Prop) → Prop := fun a σ s k => (w ik).v σ s (fun x σ s => (w iv).v σ s (fun y σ s => if tkey x.frz && decide (a.1.length < 1000000) then k (putT a.1 a.2 x.frz y.frz) σ s else False) noX) noX
section
variable {X : Cx}
def InKeyD (X : Cx) (κ : Pk) (D : Addr) (P : Hp) (vs : List Nat) (fIn : Acc → Slots → Store → (Acc → Slots → Store → Prop) → Prop) (cont : L2.St → Hp → (Hp → Prop) → Prop) : Prop :=
  ∀ (F : Hp) (M : List Addr) (σD : Slots) (s : Store) (acc : Acc) (zs : List Ent) (zo : Obj) (τ : L2.St) (H : Hp) (k : Acc → Slots → Store → Prop) (Nx : Hp → Prop), TabR X.K F M acc zs → Rel X.K κ.b F M (upd P D (tabO D zs zo)) σD s τ H → fIn acc σD s k →
    (∀ (F' : Hp) (M' : List Addr) (σD' : Slots) (s' : Store) (acc' : Acc) (zs' : List Ent) (zo' : Obj) (H' : Hp), Same F F' → Ext M M' → TabR X.K F' M' acc' zs' → Rel X.K κ.b F' M' (upd P D (tabO D zs' zo')) (wipeS σD' vs) s' (L2.wipe τ vs) H' → k acc' σD' s' → Nx H') → cont τ H Nx
/-- the state of a comprehension's loop -/
def LcSD (K : PySem.W.Frag) (F1 : Hp) (M1 : List Addr) (P : Hp) (vs : List Nat) (σ : L2.St) (D : Addr) (k : Acc → Slots → Store → Prop) (H : Hp) : Prop :=
  ∃ F' M' σD s acc zs zo, Same F1 F' ∧ Ext M1 M' ∧ P D = none ∧ TabR K F' M' acc zs ∧ Rel K β F' M' (upd P D (tabO D zs zo)) (wipeS σD vs) s (L2.wipe σ vs) H ∧ k acc σD s
variable {kx vx tg iter tg1 iter1 : Expr} {ik iv : E} {pos : Pos} {is is1 : Es} {it it1 : HP.It} {t t1 : Tg}
end
end HP

set_option maxHeartbeats 2000000
/-! HpDef: a def keeps the promise of its functional semantics. -/
namespace HP
open PySem L2
open PyProof.Rows (envOfC)
variable [LamT] {β : Bs} {κ : Pk}

section
variable {P : Program} {w : World} {K : PySem.W.Frag} {mg : Str → Option Value} {base : Heap} {k : Nat} {f : Addr} {fd : FuncData} {x qual : Str} {params : Arguments} {body : List Stmt} {scope : Scope} {N ps : List Str} {b : Ss}
/-- the context of a body -/
structure Good (X : Cx) (k : Nat) : Prop where
  room : Room k X.A
  still : Still X.A
  calm : X.calm = true
  nd : X.N.Nodup
theorem Good.hu {X : Cx} (g : Good X k) : X.A.units + 64 < cLine := by
  have := g.room.un
  omega
theorem Good.hu0 {X : Cx} (g : Good X k) : X.A.units < cLine := by
  have := g.room.un
  omega
theorem Good.blk {X : Cx} (g : Good X k) (sc : Scope) (z : Shared) (G : Hp) (C : Addr) (cl : List (Str × Addr)) (fp : List Addr) : Good (blkX X sc z G C cl fp) k := ⟨g.room, g.still, g.calm, g.nd⟩
/-- entering a body -/
theorem rel_start {F : Hp} {M : List Addr} {P0 : Hp} {s : Store} {H : Hp} {ds : List D} {vs : List V} {n : Nat} (R : Rel K β F M P0 [] s [] H) (r : RVs K F M ds vs) : Rel K β F M P0 (ds.map .val ++ List.replicate n .unb) s (vs.map some ++ List.replicate n none) H := by
  refine ⟨R.z, R.tb, R.sF, R.sP, R.mlen, R.mem, R.nd, R.fp, by simp [r.length], fun i sl h => ?_, fun i j c1 c2 a h1 h2 h3 h4 => ?_⟩
  · by_cases hi : i < ds.length
    · rw [List.getElem?_append_left (by simpa using hi), List.getElem?_map] at h
      cases hd : ds[i]? with
      | none => rw [hd] at h; cases h
      | some d =>
        rw [hd] at h
        cases h
        obtain ⟨v, hv, rv⟩ := r.get hd
        refine .val (x := v) ?_ rv
        rw [List.getElem?_append_left (by rw [List.length_map, ← r.length]; exact hi), List.getElem?_map, hv]
        rfl
    · rw [List.getElem?_append_right (by simpa using hi)] at h
      rw [List.getElem?_replicate] at h
      split at h <;> cases h
      exact .unb
  · exfalso
    by_cases hi : i < ds.length
    · rw [List.getElem?_append_left (by simpa using hi), List.getElem?_map] at h1
      cases hd : ds[i]? with
      | none => rw [hd] at h1; cases h1
      | some d => rw [hd] at h1; cases h1
    · rw [List.getElem?_append_right (by simpa using hi), List.getElem?_replicate] at h1
      split at h1 <;> cases h1
theorem Rel.drop {F : Hp} {M : List Addr} {P0 : Hp} {σD : Slots} {s : Store} {σ : St} {H : Hp} (R : Rel K β F M P0 σD s σ H) : Rel K β F M P0 [] s [] H := ⟨R.z, R.tb, R.sF, R.sP, R.mlen, R.mem, R.nd, R.fp, rfl, fun i sl h => by simp at h, fun i j c c' a h => by simp at h⟩
theorem OutR.drop {F : Hp} {M : List Addr} {P0 : Hp} {σD : Slots} {σ : St} {H : Hp} {o : Out} {v : V} (h : OutR K F M P0 σD σ H o v) : OutR K F M P0 [] [] H o v := by
  cases o with
  | val d => exact h
  | own c =>
    obtain ⟨a, rfl, r, q⟩ := h
    exact ⟨a, rfl, r, q.f, q.p, q.m, fun i c h => by simp at h⟩
theorem start_eq {N : List Str} {vs : List V} {n m : Nat} (h1 : vs.length = n) (h2 : N.length = m) : L2.start N vs = vs.map some ++ List.replicate (m - n) none := by
  unfold L2.start
  rw [h1, h2]
/-- THE RULE: a def of the text -/
theorem fnG_of {n m : Nat} (Fd : FunD K x qual params body scope [] [] f fd) (S : FnScope N ps scope) (hn : ps.length = n) (hm : N.length = m)
    (hb : ∀ (cdv : Value) (B : Around) (out : List Env) (z : Shared) (G : Hp) (Z : XK) (κ : Pk) [PkOk (cxOf (L2.CX P w) P w K mg base N qual scope f cdv B out z G Z) κ], Good (cxOf (L2.CX P w) P w K mg base N qual scope f cdv B out z G Z) k → PassesOwn (model P w) (cxOf (L2.CX P w) P w K mg base N qual scope f cdv B out z G Z).A (cxOf (L2.CX P w) P w K mg base N qual scope f cdv B out z G Z).env (cxOf (L2.CX P w) P w K mg base N qual scope f cdv B out z G Z).xe →
      SSs (cxOf (L2.CX P w) P w K mg base N qual scope f cdv B out z G Z) κ (fun _ => True) body b) :
    FnA P w K mg base (L2.CX P w) (k + 1) f fd ps (spG K (mkFn n m b)) := by
  obtain ⟨oc, od, dV, kV, doc, pm, an, cdv, ct, osl, rfl, lk, hcd, _, _⟩ := Fd.ex
  refine fnA_of lk hcd S (fun xs G Q Z h => ?_) fun B out z G xs Q Z hr hs h => ?_
  · obtain ⟨F, M, P0, s, Kq, Zq, ds, R, r, ⟨hl, _⟩, _⟩ := h
    rw [← r.length, hl, hn]
  · obtain ⟨F, M, P0, s, Kq, Zq, ds, R, r, ⟨hl, hg⟩, hK, hZ⟩ := h
    have ok : PkOk (cxOf (L2.CX P w) P w K mg base N qual scope f cdv B out z G Z) ⟨⟨F, M, P0⟩, fun e _ s => Zq e s⟩ := ⟨fun e σD s' F' M' P' σ' H' cls d hz R' hE =>
      W0.of (takes_of (E := Z) rfl rfl rfl rfl) (hZ e s' F' M' H' cls d hz R'.z.f R'.z.m (R'.less R'.z.p (.refl P0)).drop hE)⟩
    refine ⟨_, hb cdv B out z G Z ⟨⟨F, M, P0⟩, fun e _ s => Zq e s⟩ ⟨hr, hs, rfl, S.nd⟩ (passes_of rfl), F, M, P0, _, s, _, ?_, trivial, hg, ?_⟩
    · rw [start_eq (r.length.symm.trans hl) hm]
      exact rel_start R r
    · exact ⟨fun σD' s' F' M' σ' H' k sf ex _ R' => hK _ s' F' M' H' _ k sf ex R'.drop .non, fun _ _ _ _ _ _ k => k.elim, fun _ _ _ _ _ _ k => k.elim, fun o σD' s' F' M' σ' H' v k sf ex R' q => hK o s' F' M' H' v k sf ex R'.drop q.drop, rfl⟩
end
end HP

set_option maxHeartbeats 2000000
/-! HpHot: a def that is called while an exception is handled, and that raises none. -/
namespace HP
open PySem L2
open PyProof.Rows (envOfC)
variable [LamT] {β : Bs} {κ : Pk}
abbrev RoomQ := L2H.RoomH
/-- what such a def keeps -/
structure FnQ (P : Program) (w : World) (K : PySem.W.Frag) (mg : Str → Option Value) (base : Heap) (k : Nat) (f : Addr) (fd : FuncData) (ps : List Str) (sp : Sp) : Prop where
  len : ∀ xs G Q Z, sp xs G Q Z → xs.length = ps.length
  go : ∀ (B : Around) (out : List Env) (z : Shared) (G : Hp) (args : Args) (ys : List Value) (xs : List V) (Q : VK), RoomQ k B → Env0 P w K mg base B out z G →
    BindsTo z fd args (ps.zip ys) → Vals xs ys → sp xs G Q E0 → codeAny (model P w) B (.call (.ref f) args) (fun r z' => match r with | .ok (.ret u) => L2.CE out P w G z Q u z' | _ => False) z
theorem FnQ.mono {P : Program} {w : World} {K : PySem.W.Frag} {mg : Str → Option Value} {base : Heap} {j k : Nat} {f : Addr} {fd : FuncData} {ps : List Str} {sp : Sp} (F : FnQ P w K mg base j f fd ps sp) (h : j ≤ k) : FnQ P w K mg base k f fd ps sp :=
  ⟨F.len, fun B out z G args ys xs Q r => F.go B out z G args ys xs Q (r.mono h)⟩
/-- the context of its body -/
def cxQ (P : Program) (w : World) (K : PySem.W.Frag) (mg : Str → Option Value) (base : Heap) (N : List Str) (qual : Str) (scope : Scope) (f : Addr) (cd : Value) (A : Around) (outer : List Env) (s : Shared) (H : Hp) : Cx :=
  { cxOf (L2.CX P w) P w K mg base N qual scope f cd A outer s H E0 with calm := false, xe := fun _ _ => False }
structure GoodQ (X : Cx) (k : Nat) : Prop where
  room : RoomQ k X.A
  nd : X.N.Nodup
section
variable {P : Program} {w : World} {K : PySem.W.Frag} {mg : Str → Option Value} {base : Heap} {k : Nat} {f : Addr} {fd : FuncData} {x qual : Str} {params : Arguments} {body : List Stmt} {scope : Scope} {N ps : List Str} {b : Ss}
end
section
variable {X : Cx} {k : Nat} {f : Addr} {fd : FuncData} {ps : List Str} {sp : Sp} {x : Str} {p pos : Pos} {a : Expr} {es : List Expr} {is : Es} {g : Fn} {t : TA}
theorem FnQ.wp {pins : List (Addr × Obj)} {σ : St} {G : Hp} {z : Shared} {Q : VK} {us : List Value} {ws : List Value} {zs : List V} (F : FnQ X.prog X.w X.K X.mg X.base k f fd ps sp) (hr : RoomQ k X.A)
    (J : Inv X pins σ G z) (hb : (ws.length = ps.length) → BindsTo z fd ⟨us, []⟩ (ps.zip ws)) (r : Vals zs ws) (h : sp zs G Q E0) :
    wpAny (model X.prog X.w) X.A (PySem.call (.ref f) us) (EP X pins σ Q) X.xe z := by
  have hl : ws.length = ps.length := r.length ▸ F.len _ _ _ _ h
  refine wpAny_call (codeAny_mono (F.go X.A X.stack z G ⟨us, []⟩ ws zs Q hr J.env0 (hb hl) r h) fun r z' q => ?_)
  match r, q with
  | .error e, q => exact q.elim
  | .ok (.ret u), q => exact J.after q
  | .ok .next, q => exact q.elim
  | .ok .brk, q => exact q.elim
  | .ok .cont, q => exact q.elim
end
end HP

set_option maxHeartbeats 2000000
/-! HpIsi: isinstance. -/
namespace HP
open PySem L2
variable [LamT] {β : Bs} {κ : Pk}

def clV (K : PySem.W.Frag) : Cl → V
  | .int => .ty "int"
  | .bool => .ty "bool"
  | .str => .ty "str"
  | .tuple => .ty "tuple"
  | .list => .ty "list"
  | .dict => .ty "dict"
  | .own c => .ref (He.ga K c)
def clU (K : PySem.W.Frag) : Cl → Value
  | .int => .type "int"
  | .bool => .type "bool"
  | .str => .type "str"
  | .tuple => .type "tuple"
  | .list => .type "list"
  | .dict => .type "dict"
  | .own c => .ref (He.ga K c)
structure IsiF (all : List Str) (K : PySem.W.Frag) (c : Str) : Prop where
  fro : ∀ n ∈ names7, PySem.W.kitOne K (.type n) (.ref (He.ga K c)) = some false
  to : ∀ n ∈ names7, PySem.W.kitOne K (.ref (He.ga K c)) (.type n) = some false
  own : ∀ c' ∈ all, PySem.W.kitOne K (.ref (He.ga K c')) (.ref (He.ga K c)) = some (decide (c' = c))
  cl : Cls K (He.ga K c)
  ty : ∀ {H : Hp} {a dx : Addr} {fs : List (Str × V)}, H a = some (.ins (He.ga K c) dx fs) → TyOf K H (.ref a) (.ref (He.ga K c))
/-- TyX, and dicts whose keys are tuples -/
def TyY (K : PySem.W.Frag) (H : Hp) (x : V) (t : Value) : Prop := TyX K H x t ∨ ∃ a xs o, x = .ref a ∧ H a = some (tabO a xs o) ∧ t = .type "dict"
def rIsiY (K : PySem.W.Frag) : List V → Hp → VK → Prop := fun xs H Q => ∃ (x c : V) (t u : Value) (b : Bool), xs = [x, c] ∧ ClsV c u ∧ TyY K H x t ∧ PySem.W.kitOne K t u = some b ∧ Q (.bl b) H
def rIsiYT (K : PySem.W.Frag) : List V → Hp → VK → Prop := fun xs H Q => ∃ (x : V) (tp : Addr) (cs : List V) (t : Value) (us : List Value) (b : Bool), xs = [x, .ref tp] ∧ H tp = some (.tup cs) ∧ Paired ClsV cs us ∧ TyY K H x t ∧ PySem.W.kitAny K t us = some b ∧ Q (.bl b) H
/-- the type of a value -/
theorem tyx_ofX {K : PySem.W.Frag} {F : Hp} {M : List Addr} {H : Hp} {d : D} {x : V} {n : String} (sF : Same F H) (r : RVt K F M H d x) (h : tyN d = some n) (ht : ¬ ∃ ks vs, d = .tab ks vs) : TyX K H x (.type n) := by
  cases d <;> simp only [tyN, Option.some.injEq] at h <;> try (cases h; done)
  all_goals first | (exact absurd ⟨_, _, rfl⟩ ht) | subst h
  · obtain rfl := r.non
    exact .base .non
  · obtain rfl := r.bl
    exact .base (.bl _)
  · obtain rfl := r.int
    exact .base (.int _)
  · obtain rfl := r.str
    exact .base (.str _)
  · obtain ⟨a, vs, rfl, h1, h2, h3⟩ := r.tup sF
    rcases h1 with (h1 | ⟨o, h1⟩) | ⟨o, its, k, h1, h2, _⟩
    · exact .base (.tup h1)
    · exact .fTuple h1
    · exact .kTuple h1 h2
  · obtain ⟨a, vs, rfl, h1, h3⟩ := r.lst sF
    exact .base (.lst h1)
  · obtain ⟨a, kvs, rfl, h1, _⟩ := r.dct sF
    exact .base (.dK h1)
section
variable {X : Cx} {a T : Expr} {ia : E} {pos p : Pos} {all : List Str}
/-- a class as an expression -/
def SCl (X : Cx) (T : Expr) (c : Cl) : Prop := PE X T (tC (clV X.K c))
end
end HP

set_option maxHeartbeats 2000000
/-! HpSort0: tuples of which some are empty can be sorted, too. -/
namespace HP
open PySem PySem.Calls PyProof.Rows PySem.W PySem.SeqAt
/-- all are tuples with an item at least, or none is a tuple or None, or all are tuples -/
def SortableT (ds : List PyData) : Prop := Sortable ds ∨ ∀ d, d ∈ ds → ∃ l, d = .tuple l
section
variable {prog : Program} {w : World} {A : Around} {E : Value → Shared → Prop} {s : Shared}
end
end HP

set_option maxHeartbeats 2000000
/-! HpOps5: max, min, sorted of plain data. -/
namespace HP
open PySem L2 PySem.W
variable [LamT] {β : Bs} {κ : Pk}

theorem relGetV {xs : List V} {us : List Value} (h : Vals xs us) : ∀ {i : Nat} {u : Value}, us[i]? = some u → ∃ x, xs[i]? = some x ∧ RelV x u := by
  induction h with
  | nil => intro i u e; simp at e
  | @cons x v xs us r _ ih =>
    intro i u e
    cases i with
    | zero =>
      simp at e
      subst e
      exact ⟨x, rfl, r⟩
    | succ i => exact ih (by simpa using e)
theorem sortable_ok {xs : List D} (h : sortable xs = true) : (∀ x ∈ xs, x.plain = true ∧ x.dep ≤ 60 ∧ x.py ≠ .none) ∧ (∀ x ∈ xs, ∀ y ∈ xs, alike x.py y.py = true) ∧ (SortableT (xs.map D.py)) := by
  unfold sortable at h
  simp only [Bool.and_eq_true, List.all_eq_true, Bool.or_eq_true] at h
  obtain ⟨h, h2⟩ := h
  refine ⟨fun x hx => ?_, fun x hx y hy => (h x hx).2 y hy, ?_⟩
  · obtain ⟨⟨h1, h3⟩, _⟩ := h x hx
    obtain ⟨p, d⟩ := D.ok_plain h1
    refine ⟨p, d, ?_⟩
    cases x <;> simp_all [D.py, D.plain, notNon]
  · rcases h2 with (h2 | h2) | h2
    · refine .inl (.inl fun d hd => ?_)
      obtain ⟨x, hx, rfl⟩ := List.mem_map.mp hd
      have := h2 x hx
      cases x <;> simp [tupNe] at this
      rename_i l
      cases l with
      | nil => simp [tupNe] at this
      | cons y ys => exact ⟨y.py, pys ys, by simp only [D.py, pys]⟩
    · refine .inl (.inr fun d hd => ?_)
      obtain ⟨x, hx, rfl⟩ := List.mem_map.mp hd
      obtain ⟨⟨h1, h3⟩, _⟩ := h x hx
      have p := (D.ok_plain h1).1
      have t := h2 x hx
      refine ⟨by cases x <;> simp_all [D.py, D.plain, notNon], fun l e => ?_⟩
      cases x <;> simp_all [D.py, D.plain, isTup]
    · refine .inr fun d hd => ?_
      obtain ⟨x, hx, rfl⟩ := List.mem_map.mp hd
      have t := h2 x hx
      cases x <;> simp [isTup] at t
      rename_i l
      exact ⟨pys l, by simp only [D.py]⟩
theorem depths_le : ∀ {xs : List D}, (∀ x ∈ xs, x.plain = true ∧ x.dep ≤ 60 ∧ x.py ≠ .none) → PyData.depthAll (pys xs) ≤ 60
  | [], _ => by simp [pys, PyData.depthAll]
  | x :: xs, h => by
    obtain ⟨p, d, _⟩ := h x (List.mem_cons_self ..)
    have ih := depths_le fun y hy => h y (List.mem_cons_of_mem _ hy)
    simp only [pys, PyData.depthAll, py_dep x p]
    omega
theorem plains_of : ∀ {xs : List D}, (∀ x ∈ xs, x.plain = true) → plains xs = true
  | [], _ => rfl
  | x :: xs, h => by
    simp only [plains, h x (List.mem_cons_self ..), plains_of fun y hy => h y (List.mem_cons_of_mem _ hy), Bool.and_self]
theorem minL_py : ∀ (xs : List D) (x : D), PySem.W.minD x.py (pys xs) = (minL x xs).py ∧ (minL x xs = x ∨ minL x xs ∈ xs)
  | [], x => ⟨rfl, .inl rfl⟩
  | y :: ys, x => by
    have e : minL x (y :: ys) = minL (if ltD y x then y else x) ys := rfl
    have e2 : PySem.W.minD x.py (pys (y :: ys)) = PySem.W.minD (if ltD y x then y else x).py (pys ys) := by
      have hq : dataLt y.py x.py = ltD y x := rfl
      simp only [pys, PySem.W.minD, List.foldl_cons, hq]
      cases ltD y x <;> rfl
    obtain ⟨h1, h2⟩ := minL_py ys (if ltD y x then y else x)
    rw [e, e2]
    refine ⟨h1, ?_⟩
    rcases h2 with h2 | h2
    · rw [h2]
      split
      · exact .inr (List.mem_cons_self ..)
      · exact .inl rfl
    · exact .inr (List.mem_cons_of_mem _ h2)
theorem alikeAll_of {xs : List D} (h : sortable xs = true) : AlikeAll (pys xs) := by
  obtain ⟨h1, h2, _⟩ := sortable_ok h
  rw [pys_map]
  refine ⟨fun a ha b hb => ?_, fun a ha => ?_⟩
  · obtain ⟨x, hx, rfl⟩ := List.mem_map.mp ha
    obtain ⟨y, hy, rfl⟩ := List.mem_map.mp hb
    exact h2 x hx y hy
  · obtain ⟨x, hx, rfl⟩ := List.mem_map.mp ha
    exact (h1 x hx).2.2

section
variable {X : Cx}
/-- one item of a list that reads as the wanted one -/
theorem pick_item {pins : List (Addr × Obj)} {σ : St} {H F : Hp} {M : List Addr} {s : Shared} {ds : List D} {vs : List V} {its : List Value} {i : Nat} {u : Value} {h' : Heap} {m : D} {bs : List Addr} (I : Inv X pins σ H s) (sF : Same F H) (rs : RVs X.K F M ds vs) (rv : Vals vs its)
    (hi : its[i]? = some u) (hp : ∀ x ∈ ds, x.plain = true) (hm : m ∈ ds) (r : Reads h' u m.py bs) (k : ∀ b o, s.heap.get? b = some o → h'.get? b = some o) : ∃ v, RelV v u ∧ RV X.K F M m v := by
  obtain ⟨v, hv, rel⟩ := relGetV rv hi
  obtain ⟨d, hd, q⟩ := rs.getV hv
  have hdm := List.mem_of_getElem? hd
  obtain ⟨as, r1⟩ := RV.reads I sF d v u (hp d hdm) q rel
  have r2 := PyProof.Rows.Reads.keeps k r1
  have e := (r2.unique _ _ r).1
  have e2 := py_inj d m (hp d hdm) (hp m hm) e
  subst e2
  exact ⟨v, rel, q⟩
theorem cr_minL (hc : X.calm = true) (hu : X.A.units + 64 < cLine) : CallR X (.builtin "min") (rcD X.K fun ds => match ds with | [.lst (x :: xs)] => if sortable (x :: xs) then some (.val (minL x xs)) else none | _ => none) := by
  intro pins s σ H xs us Q I r h
  obtain ⟨F, M, ds, sF, hx, h⟩ := h
  replace h := optK_ex h
  obtain ⟨o, ho, h⟩ := h
  dsimp only at ho
  split at ho <;> try (cases ho; done)
  split at ho <;> cases ho
  rename_i x xs hs
  obtain ⟨v, rfl, hv⟩ := hx.one
  obtain ⟨a, vs, rfl, h1, h3⟩ := hv.lst sF
  obtain ⟨u, rfl, ru⟩ := vals1 r
  cases (show u = Value.ref a from ru)
  obtain ⟨z, its, n, rv, hl, hg⟩ := I.lstM h1
  obtain ⟨k1, k2, _⟩ := sortable_ok hs
  obtain ⟨as, rd⟩ := RVs.reads I sF _ _ its (plains_of fun y hy => (k1 y hy).1) h3 rv
  have hd := depths_le k1
  refine PySem.W.min_list_data (x := x.py) (xs := pys xs) (I.ok.hd hc) ⟨_, hg, rfl, _, rfl⟩ (by simpa [pys] using rd) (by have := alikeAll_of hs; simpa only [pys] using this) (by simp only [pys] at hd; omega) fun i u h' tk bs hi q k => ?_
  obtain ⟨e, hm⟩ := minL_py xs x
  rw [e] at q
  obtain ⟨v, rel, q2⟩ := pick_item (m := minL x xs) I sF h3 rv (by simpa using hi) (fun y hy => (k1 y hy).1) (by rcases hm with hm | hm; rw [hm]; exact List.mem_cons_self ..; exact List.mem_cons_of_mem _ hm) q k
  exact ⟨v, H, I.kept k, rel, h _ _ (.old q2)⟩
end

/-! ### sorted, of a list or a tuple -/
section
variable {X : Cx}
end
end HP

set_option maxHeartbeats 4000000
/-! HpSet: len(set(texts)). -/
namespace HP
open PySem L2
variable [LamT] {β : Bs} {κ : Pk}

section
open PyProof.Rows PySem.W
variable {prog : Program} {w : World} {A : Around} {R : Result → Shared → Prop} {it : Addr} {fp wr : List Addr} {G : Array GenState → Array GenState → Prop} {n : Nat} {Pv : Nat → Value → Prop} {Sv : Nat → Shared → Prop}
/-- the set at p holds the first i texts -/
abbrev Hold (prog : Program) (w : World) (h : Heap) (p : Addr) (ss : List Str) (i : Nat) : Prop := h.SetOf (PySem.strKind prog w) p (fun k => (nubS [] (ss.take i)).contains k) (nubS [] (ss.take i)).length
end
section
open PySem.W PyProof.Rows
open AutoSeq1 (wpAny_loadPart')
variable {prog : Program} {w : World} {A : Around} {E : Value → Shared → Prop} {s : Shared}
/-- a new set -/
abbrev set0 (led : Bool) : Obj := { cls := .type "set", dict := none, data := .set #[] 0 (.fresh 0 0 led) }
set_option maxHeartbeats 8000000 in
end
end HP

set_option maxHeartbeats 4000000
/-! HpSet3: set(x), x a list of texts. -/
namespace HP
open PySem L2
open PyProof.Rows PySem.W
variable [LamT] {β : Bs} {κ : Pk}
open PySem.W PyProof.Rows
open AutoSeq1 (wpAny_loadPart')
section
variable {prog : Program} {w : World} {A : Around} {R : Result → Shared → Prop} {it : Addr} {fp wr : List Addr} {G : Array GenState → Array GenState → Prop} {n : Nat} {Pv : Nat → Value → Prop} {Sv : Nat → Shared → Prop}
variable {prog : Program} {w : World} {A : Around} {E : Value → Shared → Prop} {s : Shared}
set_option maxHeartbeats 8000000 in
end
end HP

set_option maxHeartbeats 2000000
/-! HpSet2: len(set(x)), x a tuple of texts. -/
namespace HP
open PySem L2
variable [LamT] {β : Bs} {κ : Pk}
section
variable {X : Cx} {a : Expr} {ia : E} {p p2 q pos : Pos}
end
end HP

set_option maxHeartbeats 2000000
/-! HpOps6: max, min, dict as one rule each. -/
namespace HP
open PySem L2
variable [LamT] {β : Bs} {κ : Pk}
section
variable {X : Cx}
theorem cr_minD (hc : X.calm = true) (hu : X.A.units + 64 < cLine) : CallR X (.builtin "min") (rcD X.K (biSem .min)) := by
  intro pins s σ H xs us Q I r h
  obtain ⟨F, M, ds, sF, hx, h⟩ := h
  replace h := optK_ex h
  obtain ⟨o, ho, h⟩ := h
  unfold biSem at ho
  split at ho <;> try (cases ‹Bi.min = _›; done)
  · cases ho
    exact cr_min2 hc pins s σ H xs us Q I r ⟨F, M, _, sF, hx, h⟩
  · split at ho <;> cases ho
    rename_i hs
    refine cr_minL hc hu pins s σ H xs us Q I r ⟨F, M, _, sF, hx, ?_⟩
    dsimp only
    rw [if_pos hs]
    exact h
  · cases ho
end
end HP

set_option maxHeartbeats 2000000
/-! HpKd: a module's dict from texts to numbers, never changed: D.get(k, x). -/
namespace HP
open PySem L2 PySem.Spec
variable [LamT] {β : Bs} {κ : Pk}
def entW : DictEntry → Option (Int × Str × Int)
  | ⟨h, .str x _, .int n _⟩ => some (h, x, n)
  | _ => none
def entsW : List DictEntry → Option (List (Int × Str × Int))
  | [] => some []
  | e :: es => match entW e with
    | some p => match entsW es with
      | some ps => some (p :: ps)
      | none => none
    | none => none
/-- what is seen of a module's dict -/
def seenD (K : PySem.W.Frag) (x : Str) : Option (List (Int × Str × Int)) := match He.ga K x == sysModules with
  | true => none
  | false => match K.lookup (He.ga K x) with
    | some (Obj.mk (.type T) none (.dict es _) sl) => match decide (T = "dict") && Nat.beq sl.size 0 with
      | true => entsW es.toList
      | false => none
    | _ => none
def kvD (kvs : List (Str × Int)) : List (Key × V) := kvs.map fun p => (.inr p.1, .int p.2)
/-- the dict at a -/
def KdAt (P : Program) (w : World) (K : PySem.W.Frag) (a : Addr) (kvs : List (Str × Int)) : Prop := (a == sysModules) = false ∧ ∃ o es ep vs, K.lookup a = some o ∧ o.ExactDict ∧ o.data = .dict es ep ∧ KeysOf (mixKind P w) es ∧ Pairs (mixKind P w) es.toList vs ∧ (vs.map (·.1)).Nodup ∧ KV (kvD kvs) vs
theorem entsW_ok {P : Program} {w : World} : ∀ {es : List DictEntry} {kvs : List (Str × Int)}, entsW es = some (kvs.map fun p => (hashStr w p.1, p.1, p.2)) →
    ∃ vs : List (Key × Value), (∀ e ∈ es, ∃ k, (mixKind P w).is k e.key = true ∧ e.hash = (mixKind P w).hash k) ∧ Pairs (mixKind P w) es vs ∧ vs.map (·.1) = kvs.map (fun p => .inr p.1) ∧ KV (kvD kvs) vs
  | [], kvs, h => by
    cases kvs with
    | nil => exact ⟨[], fun e he => (by cases he), .nil, rfl, by unfold KV kvD; exact .nil⟩
    | cons p r => simp [entsW] at h
  | e :: es, kvs, h => by
    unfold entsW at h
    cases he : entW e with
    | none => rw [he] at h; cases h
    | some q =>
      rw [he] at h
      cases hs : entsW es with
      | none => rw [hs] at h; cases h
      | some ps =>
        rw [hs] at h
        cases kvs with
        | nil => simp at h
        | cons p r =>
          simp only [List.map_cons, Option.some.injEq, List.cons.injEq] at h
          obtain ⟨rfl, rfl⟩ := h
          obtain ⟨vs, h1, h2, h3, h4⟩ := entsW_ok (P := P) hs
          unfold entW at he
          split at he <;> try (cases he; done)
          rename_i hh x t n t'
          simp only [Option.some.injEq, Prod.mk.injEq] at he
          obtain ⟨rfl, rfl, rfl⟩ := he
          refine ⟨(.inr p.1, .int p.2 t') :: vs, fun e he => ?_, .cons ?_ rfl h2, by simp [h3], by unfold KV kvD at h4 ⊢; exact .cons ⟨rfl, ⟨t', rfl⟩⟩ h4⟩
          · rcases List.mem_cons.mp he with rfl | he
            · exact ⟨.inr p.1, (kV_is (k := .inr p.1) ⟨t, rfl⟩), rfl⟩
            · exact h1 e he
          · exact kV_is (k := .inr p.1) ⟨t, rfl⟩
theorem seenD_ok {P : Program} {w : World} {K : PySem.W.Frag} {c : Cd} (h : seenD K c.1 = c.due w) (hn : (c.2.map (·.1)).Nodup) : KdAt P w K (He.ga K c.1) c.2 := by
  unfold seenD Cd.due at h
  split at h
  · cases h
  rename_i hs
  split at h
  · rename_i T es ep sl hk
    split at h
    · rename_i hb
      obtain ⟨hT, hz⟩ := Bool.and_eq_true_iff.mp hb
      have hT := of_decide_eq_true hT
      subst hT
      have hz : sl.size = 0 := Nat.eq_of_beq_eq_true hz
      obtain ⟨vs, h1, h2, h3, h4⟩ := entsW_ok (P := P) h
      refine ⟨hs, _, es, ep, vs, hk, ⟨rfl, rfl, Array.eq_empty_of_size_eq_zero hz⟩, rfl, fun e he => h1 e (Array.mem_toList_iff.mpr he), h2, ?_, h4⟩
      rw [h3]
      exact List.pairwise_map.mpr ((List.pairwise_map.mp hn).imp fun h z => h (Sum.inr.inj z))
    · cases h
  · cases h
section
variable {X : Cx} {e1 e2 : Expr} {is : Es} {x : Str} {p0 apos pos : Pos} {a : Addr} {kvs : List (Str × Int)} {t : TA}
def rKd (kvs : List (Str × Int)) : List V → Hp → VK → Prop := fun xs H Q => ∃ k : Key, (xs = [kV k] ∧ Q ((valV (kvD kvs) k).getD .non) H) ∨ ∃ d : V, xs = [kV k, d] ∧ Q ((valV (kvD kvs) k).getD d) H
end
end HP

set_option maxHeartbeats 2000000
/-! HpCon: a module's constants. -/
namespace HP
open PySem L2
variable [LamT] {β : Bs} {κ : Pk}
section
variable {X : Cx} {x : Str} {pos : Pos}
/-- the module's name x is a tuple of these, its object without a dict -/
def tupX (K : PySem.W.Frag) (x : Str) (vs : List He.Dv) : Bool := He.tupB K x vs && (match K.lookup (He.ga K x) with
  | some o => o.dict.isNone
  | none => false)
end
end HP

set_option maxHeartbeats 2000000
/-! HpProp: a property that hands back a field. -/
namespace HP
open PySem L2
variable [LamT] {β : Bs} {κ : Pk}
section
variable {X : Cx} {a : Expr} {ia : E} {pos : Pos} {k : Nat} {fd : FuncData} {gad pr : Addr}
end
end HP

set_option maxHeartbeats 4000000
/-! HpEnd: the law's own call, where nothing is being printed. -/
namespace HP
open PySem L2 PySem.Spec
open PyProof.Rows hiding St
variable [LamT] {β : Bs} {κ : Pk}

end HP

set_option maxHeartbeats 2000000
/-! HpHead: what the head tells: facts by names, any further test, each def by the place where it stands. -/
namespace HP
open PySem L2
variable [LamT] {β : Bs} {κ : Pk}

/-- a def by another name x of the module -/
abbrev dAli (x y : Str) (st : Stmt) : Df := ⟨fun K => He.ga K x, y, y, st, false⟩
abbrev dMeth (C m q : Str) (st : Stmt) : Df := ⟨fun K => He.ma K (He.ga K C) m, m, q, st, false⟩
/-- the property f of the class C: where it stands, where its getter does -/
def propAt (C f : Str) (K : PySem.W.Frag) : Addr := He.ma K (He.ga K C) f
def getAt (C f : Str) (K : PySem.W.Frag) : Addr := match PySem.W.recIn K (propAt C f K) "property" with
  | some (.ref g :: _) => g
  | _ => 0
abbrev dGet (C f q : Str) (st : Stmt) : Df := ⟨getAt C f, f, q, st, false⟩
abbrev FnS (K : PySem.W.Frag) (x q : Str) (st : Stmt) (f : Addr) (fd : FuncData) : Prop := FunD K x q (defArgs st) (defBody st) (defScope st) [] [] f fd
theorem Df.funD {K : PySem.W.Frag} {d : Df} (hs : d.sup = false) (e : seenF K (d.ad K) = d.due) (c : d.good K = true) : ∃ fd, FnS K d.name d.qual d.st (d.ad K) fd := by
  unfold Df.good at c
  obtain ⟨kp, c⟩ := He.ba c
  unfold seenF at e
  generalize hq : K.lookup (d.ad K) = z at c e
  cases z with
  | none => cases c
  | some ob =>
    obtain ⟨u1, u2, dt, u3⟩ := ob
    cases dt <;> try (cases c; done)
    rename_i fd
    cases fd
    unfold Df.due at e
    simp only [Option.some.injEq, Prod.mk.injEq] at e
    obtain ⟨g1, g2, g3, g4, g5, g6, g7, g8⟩ := e
    rw [hs, if_neg Bool.false_ne_true, List.map_eq_nil_iff] at g7
    subst g1 g2 g3 g4 g5 g6 g7 g8
    dsimp only at c
    obtain ⟨c1, c2⟩ := He.ba c
    obtain ⟨c2, c3⟩ := He.ba c2
    exact ⟨_, ⟨_, _, _, _, _, _, _, _, _, _, rfl, hq, c1, He.dflB_ok c2, He.kwdB_ok c3⟩, kp⟩
/-- an __init__ that says super() -/
theorem Df.supD {K : PySem.W.Frag} {d : Df} (hs : d.sup = true) (e : seenF K (d.ad K) = d.due) (c : d.good K = true) : ∃ (oc kV doc pm cdv ct : Value) (od an : Option Addr) (osl : Array (Option Value)) (cc : Addr),
    K.lookup (d.ad K) = some ⟨oc, od, .func (PySem.W.ksFn d.name d.qual (defArgs d.st) (defBody d.st) (defScope d.st) .none kV doc pm an cdv ct cc), osl⟩ ∧ PySem.W.codeIn K cdv d.qual = true := by
  unfold Df.good at c
  obtain ⟨kp, c⟩ := He.ba c
  unfold seenF at e
  generalize hq : K.lookup (d.ad K) = z at c e
  cases z with
  | none => cases c
  | some ob =>
    obtain ⟨u1, u2, dt, u3⟩ := ob
    cases dt <;> try (cases c; done)
    rename_i fd
    cases fd
    unfold Df.due at e
    simp only [Option.some.injEq, Prod.mk.injEq] at e
    obtain ⟨g1, g2, g3, g4, g5, g6, g7, g8⟩ := e
    rw [hs, if_pos rfl] at g7
    obtain ⟨p, rest, g9, g10, g11⟩ := List.map_eq_cons_iff.mp g7
    rw [List.map_eq_nil_iff] at g11
    obtain ⟨p1, cc⟩ := p
    subst g1 g2 g3 g4 g5 g6 g8 g9 g11
    cases g10
    dsimp only at c
    obtain ⟨c1, c2⟩ := He.ba c
    obtain ⟨c2, c3⟩ := He.ba c2
    rcases He.dflB_ok c2 with ⟨_, hd⟩ | ⟨hd, _⟩
    · subst hd
      exact ⟨_, _, _, _, _, _, _, _, _, cc, rfl, c1⟩
    · exact absurd rfl hd
/-- a property: its test -/
def propB (C f : Str) (K : PySem.W.Frag) : Bool := He.eqO (PySem.W.findIn K (.ref (He.ga K C)) f) (some (some (.ref (propAt C f K)))) &&
  (He.eqO (PySem.W.specialIn K (.ref (propAt C f K)) "__get__") (some (some (.builtin "property.__get__"))) && (decide (PySem.W.takesIn K (.ref (propAt C f K)) = some true) &&
    match PySem.W.recIn K (propAt C f K) "property" with
    | some (.ref _ :: _) => true
    | _ => false))
section
variable {fa : List He.Fa} {xb : PySem.W.Frag → Bool} {fs : List Df} {K : PySem.W.Frag} {mg : Str → Option Value} {base : Heap}
/-- where a walk stands: the part of the heap that the head tells of -/
structure Tx (fa : List He.Fa) (xb : PySem.W.Frag → Bool) (fs : List Df) (K : PySem.W.Frag) (mg : Str → Option Value) (base : Heap) : Prop where
  X : K.In base
  G : base.Ns mainGlobals mg
  c : SaysX fa xb fs K
/-- .. and its tables -/
structure Tl (fa : List He.Fa) (xb : PySem.W.Frag → Bool) (fs : List Df) (K : PySem.W.Frag) (mg : Str → Option Value) (base : Heap) : Prop extends Tx fa xb fs K mg base where
  tb : ∀ p ∈ LamT.cs K, LamX.TabB base mg p.1 p.2.1
  tu : tabU (LamT.cs K) = true
theorem Tx.fact (T : Tx fa xb fs K mg base) (i : Nat) {f : He.Fa} (h : fa[i]? = some f) : f.ok K = true :=
  List.all_eq_true.mp (He.ba (congrArg Prod.fst T.c)).1 f (List.mem_of_getElem? h)
theorem Tx.ex (T : Tx fa xb fs K mg base) : xb K = true := (He.ba (He.ba (congrArg Prod.fst T.c)).2).1
theorem Tx.fn (T : Tx fa xb fs K mg base) (i : Nat) {d : Df} (h : fs[i]? = some d) (hs : d.sup = false := by rfl) : ∃ fd, FnS K d.name d.qual d.st (d.ad K) fd := by
  have c2 : (fs.all fun d => d.good K) = true := (He.ba (He.ba (congrArg Prod.fst T.c)).2).2
  have e : (fs.map fun d => seenF K (d.ad K))[i]? = (fs.map Df.due)[i]? := congrArg (fun l : List FnW => l[i]?) (congrArg Prod.snd T.c)
  rw [List.getElem?_map, List.getElem?_map, h] at e
  exact Df.funD hs (Option.some.inj e) (List.all_eq_true.mp c2 d (List.mem_of_getElem? h))
theorem Tx.sup (T : Tx fa xb fs K mg base) (i : Nat) {d : Df} (h : fs[i]? = some d) (hs : d.sup = true := by rfl) : ∃ (oc kV doc pm cdv ct : Value) (od an : Option Addr) (osl : Array (Option Value)) (cc : Addr),
    K.lookup (d.ad K) = some ⟨oc, od, .func (PySem.W.ksFn d.name d.qual (defArgs d.st) (defBody d.st) (defScope d.st) .none kV doc pm an cdv ct cc), osl⟩ ∧ PySem.W.codeIn K cdv d.qual = true := by
  have c2 : (fs.all fun d => d.good K) = true := (He.ba (He.ba (congrArg Prod.fst T.c)).2).2
  have e : (fs.map fun d => seenF K (d.ad K))[i]? = (fs.map Df.due)[i]? := congrArg (fun l : List FnW => l[i]?) (congrArg Prod.snd T.c)
  rw [List.getElem?_map, List.getElem?_map, h] at e
  exact Df.supD hs (Option.some.inj e) (List.all_eq_true.mp c2 d (List.mem_of_getElem? h))
theorem Tx.glo (T : Tx fa xb fs K mg base) {x : Str} (i : Nat) (h : fa[i]? = some (.glo x)) : mg x = some (.ref (He.ga K x)) := He.glo_ok T.X T.G (T.fact i h)
theorem Tx.free (T : Tx fa xb fs K mg base) {x : Str} (i : Nat) (h : fa[i]? = some (.free x)) : mg x = none := He.free_ok T.X T.G (T.fact i h)
theorem Tx.int (T : Tx fa xb fs K mg base) {x : Str} {n : Int} (i : Nat) (h : fa[i]? = some (.int x n)) : ∃ t, mg x = some (.int n t) := He.int_ok T.X T.G (T.fact i h)
theorem Tx.str (T : Tx fa xb fs K mg base) {x z : Str} (i : Nat) (h : fa[i]? = some (.str x z)) : ∃ t, mg x = some (.str z t) := He.str_ok T.X T.G (T.fact i h)
end
end HP

set_option maxHeartbeats 2000000
/-! HpHeadD: what the head tells, where the module has dicts from texts to numbers. -/
namespace HP
open PySem L2
variable [LamT] {β : Bs} {κ : Pk}
abbrev SeenTD : Type := SeenT × List (Option (List (Int × Str × Int)))
def obKD (g : Addr → Option Obj) (fa : List He.Fa) (ex : PySem.W.Frag → Bool) (fn : List Df) (dc : List Cd) (K : PySem.W.Frag) : SeenTD := (obK g fa ex fn K, dc.map fun c => seenD K c.1)
def obD (n : Nat) (fa : List He.Fa) (ex : PySem.W.Frag → Bool) (fn : List Df) (dc : List Cd) (g : Addr → Option Obj) : SeenTD := obKD g fa ex fn dc (He.frT g (sysModules :: cStatics :: asBits g n))
def hookD (n : Nat) (fa : List He.Fa) (ex : PySem.W.Frag → Bool) (fn : List Df) (dc : List Cd) : PySem.W.Hook :=
  { α := SeenTD
    obs := fun z => obD n fa ex fn dc z.heap.get?
    val := fun w => ((true, dueX fn), dc.map (Cd.due w))
    says := fun w hp => ∃ K : PySem.W.Frag, PySem.W.Frag.In K hp ∧ SaysX fa ex fn K ∧ TabsX K hp ∧ tabU (LamT.cs K) = true ∧ dc.map (fun c => seenD K c.1) = dc.map (Cd.due w)
    of := fun w z r => by
      have r0 : obK z.heap.get? fa ex fn (He.frT z.heap.get? (sysModules :: cStatics :: asBits z.heap.get? n)) = (true, dueX fn) := congrArg (fun z : SeenTD => z.1) r
      have rd : dc.map (fun c => seenD (He.frT z.heap.get? (sysModules :: cStatics :: asBits z.heap.get? n)) c.1) = dc.map (Cd.due w) := congrArg (fun z : SeenTD => z.2) r
      have r1 : (tabG z.heap.get? (He.frT z.heap.get? (sysModules :: cStatics :: asBits z.heap.get? n)) && tabU (LamT.cs (He.frT z.heap.get? (sysModules :: cStatics :: asBits z.heap.get? n)))) = true := congrArg (fun z : SeenT => z.1) r0
      obtain ⟨r1, r2⟩ := He.ba r1
      have key : ∀ p ∈ LamT.cs (He.frT z.heap.get? (sysModules :: cStatics :: asBits z.heap.get? n)), PySem.W.codeHdIn (He.frT z.heap.get? (sysModules :: cStatics :: asBits z.heap.get? n)) p.1 p.2.1 = true ∧ ∃ o, z.heap.get? p.2.1 = some o ∧ He.emptyTab o = true := fun p hp => by
        obtain ⟨h3, h4⟩ := He.ba (List.all_eq_true.mp r1 p hp)
        refine ⟨h3, ?_⟩
        cases q : z.heap.get? p.2.1 with
        | none => rw [q] at h4; cases h4
        | some o =>
          rw [q] at h4
          exact ⟨o, rfl, h4⟩
      exact ⟨_, He.frT_in, congrArg (fun z : SeenT => z.2) r0, ⟨fun p hp => PySem.W.codeHd_of_K He.frT_in (key p hp).1, fun p hp => let ⟨_, o, q, e⟩ := key p hp; He.frT_none q e, fun p hp => let ⟨_, o, q, e⟩ := key p hp; by rw [q, He.emptyTab_eq e]⟩, r2, rd⟩
    keeps := fun _ _ _ ⟨K, h1, h2, h3, h4⟩ r => ⟨K, PySem.W.Frag.In.keeps h1 r, h2, ⟨fun p hp => (h3.hd p hp).keeps r, h3.out, fun p hp => r _ _ (h3.empty p hp)⟩, h4⟩ }
/-- .. and the module's dicts -/
structure TlD (w : World) (fa : List He.Fa) (xb : PySem.W.Frag → Bool) (fs : List Df) (dc : List Cd) (K : PySem.W.Frag) (mg : Str → Option Value) (base : Heap) : Prop extends Tl fa xb fs K mg base where
  dd : dc.map (fun c => seenD K c.1) = dc.map (Cd.due w)
theorem TlD.kd {P : Program} {w : World} {fa : List He.Fa} {xb : PySem.W.Frag → Bool} {fs : List Df} {dc : List Cd} {K : PySem.W.Frag} {mg : Str → Option Value} {base : Heap} (T : TlD w fa xb fs dc K mg base) (i : Nat) {c : Cd} (h : dc[i]? = some c) (hn : (c.2.map (·.1)).Nodup) : KdAt P w K (He.ga K c.1) c.2 := by
  have e := congrArg (fun l : List (Option (List (Int × Str × Int))) => l[i]?) T.dd
  simp only [List.getElem?_map, h, Option.map_some] at e
  exact seenD_ok (Option.some.inj e) hn
end HP

set_option maxHeartbeats 2000000
/-! HpGen: the rules as the generator names them. -/
namespace HP
open PySem L2
variable [LamT] {β : Bs} {κ : Pk}

/-- the names that are seen -/
def visB (sc : Scope) (x : Str) : Bool := match sc.names.lookup x with
  | some .local => true
  | some .cell => true
  | some .free => true
  | _ => false
theorem vis_of {sc : Scope} {x : Str} (h : visB sc x = true) : Vis sc x := by
  unfold visB at h
  split at h
  · exact .inl (by assumption)
  · exact .inr (.inl (by assumption))
  · exact .inr (.inr (by assumption))
  · cases h

/-- the function at f -/
def FdAt (K : PySem.W.Frag) (f : Addr) (fd : FuncData) : Prop := ∃ u d sl, K.lookup f = some (Obj.mk u d (.func fd) sl)
theorem fdAt_of {K : PySem.W.Frag} {x q : Str} {st : Stmt} {f : Addr} {fd : FuncData} (h : FnS K x q st f fd) : FdAt K f fd := by
  obtain ⟨u, d, _, _, _, _, _, _, _, sl, _, e, _⟩ := h.ex
  exact ⟨u, d, sl, e⟩
theorem FdAt.uniq {K : PySem.W.Frag} {f : Addr} {fd fd' : FuncData} (h : FdAt K f fd) (h' : FdAt K f fd') : fd' = fd := by
  obtain ⟨_, _, _, e⟩ := h
  obtain ⟨_, _, _, e'⟩ := h'
  cases e.symm.trans e'
  rfl
/-- a def and its promise -/
structure OkG (P : Program) (w : World) (K : PySem.W.Frag) (mg : Str → Option Value) (base : Heap) (k : Nat) (f : Addr) (ps : List Str) (sp : Sp) : Prop where
  ex : ∃ fd, FnA P w K mg base (L2.CX P w) k f fd ps sp ∧ Binds K fd ps [] ∧ FdAt K f fd
  kp : PySem.W.keepIn K (.ref f) = true
/-- the row of a def's parameters: as many as are given -/
def ArgsOk (st : Stmt) (x q : Str) (ps : List Str) : Prop := ∀ (kV doc pm : Value) (an : Option Addr) (cdv ct : Value) (us : List Value), us.length = ps.length →
  bindArgs (PySem.W.fnOf x q (defArgs st) (defBody st) (defScope st) .none kV doc pm an cdv ct) ⟨us, []⟩ = pure (ps.zip us)
section
variable {P : Program} {w : World} {K : PySem.W.Frag} {mg : Str → Option Value} {base : Heap} {k : Nat} {f : Addr} {x qual : Str} {st : Stmt} {N ps : List Str} {b : Ss}
theorem okG_of {n m : Nat} (h : ∃ fd, FnS K x qual st f fd) (ha : ArgsOk st x qual ps) (S : FnScope N ps (defScope st)) (hn : ps.length = n) (hm : N.length = m)
    (hb : ∀ (cdv : Value) (B : Around) (out : List Env) (z : Shared) (G : Hp) (Z : XK) (κ : Pk) [PkOk (cxOf (L2.CX P w) P w K mg base N qual (defScope st) f cdv B out z G Z) κ], Good (cxOf (L2.CX P w) P w K mg base N qual (defScope st) f cdv B out z G Z) k → PassesOwn (model P w) (cxOf (L2.CX P w) P w K mg base N qual (defScope st) f cdv B out z G Z).A (cxOf (L2.CX P w) P w K mg base N qual (defScope st) f cdv B out z G Z).env (cxOf (L2.CX P w) P w K mg base N qual (defScope st) f cdv B out z G Z).xe →
      SSs (cxOf (L2.CX P w) P w K mg base N qual (defScope st) f cdv B out z G Z) κ (fun _ => True) (defBody st) b) : OkG P w K mg base (k + 1) f ps (spG K (mkFn n m b)) := by
  obtain ⟨fd, F⟩ := h
  exact ⟨⟨fd, fnG_of F S hn hm hb, FunD.bindsN F ha, fdAt_of F⟩, F.kp⟩
end
theorem jT {i : Nat} : JSet (fun _ => True) i := fun _ _ _ => trivial

section
variable {X : Cx} {e a b c : Expr} {i ia ib ic : E} {pos p : Pos} {es : List Expr} {is : Es} {x : Str} {k j : Nat} {f : Addr} {ps : List Str} {g : Fn}
theorem se_v {n : Nat} (hN : X.N[n]? = some x) (hv : visB X.env.scope x = true) (hd : (x == ("__debug__" : Str)) = false) (hcd : (x == ("__classdict__" : Str)) = false) : SEx X κ (.Name x pos) (.var n) := se_var hN (vis_of hv) hd hcd
theorem pe_v {n : Nat} (hN : X.N[n]? = some x) (hv : visB X.env.scope x = true) (hd : (x == ("__debug__" : Str)) = false) (hcd : (x == ("__classdict__" : Str)) = false) : PE X (.Name x pos) (tVar n) := pe_var hN (vis_of hv) hd hcd
/-- plain values by names -/
inductive DvR : D → He.Dv → Prop
  | non : DvR .non .non
  | bl (b : Bool) : DvR (.bl b) (.bl b)
  | int (i : Int) : DvR (.int i) (.int i)
  | str (z : Str) : DvR (.str z) (.str z)
inductive DvsR : List D → List He.Dv → Prop
  | nil : DvsR [] []
  | cons {d : D} {v : He.Dv} {ds : List D} {vs : List He.Dv} : DvR d v → DvsR ds vs → DvsR (d :: ds) (v :: vs)
theorem DvR.rv {d : D} {v : He.Dv} {K : PySem.W.Frag} {F : Hp} {M : List Addr} (h : DvR d v) : RV K F M d (v.v K) := by
  cases h with
  | non => exact .non
  | bl b => exact .bl b
  | int i => exact .int i
  | str z => exact .str z
theorem DvsR.rv {K : PySem.W.Frag} {F : Hp} {M : List Addr} : ∀ {ds : List D} {vs : List He.Dv}, DvsR ds vs → RVs K F M ds (vs.map (He.Dv.v K))
  | _, _, .nil => .nil
  | _, _, .cons h t => .cons h.rv t.rv
/-! ### calls -/
theorem se_cG [PkOk X κ] (O : OkG X.prog X.w X.K X.mg X.base j f ps (spG X.K g)) (G : Good X k) (hj : j ≤ k) (hm : X.mg x = some (.ref f)) (hg : Gl X x) (hdb : (x == ("__debug__" : Str)) = false)
    (he : starEach (a :: es) X.env = (false, eval a X.env) :: starEach es X.env) (hpl : (backTo pos (starEach es X.env)).any (·.1) = false) (ht : TruE X (.Call (.Name x p) (a :: es) [] pos)) (ha : SAs X κ (a :: es) is) :
    SEx X κ (.Call (.Name x p) (a :: es) [] pos) (.call g is) := by
  obtain ⟨fd, F, hb, _⟩ := O.ex
  exact se_call F (G.room.mono hj) G.still hg hm O.kp hb hdb he hpl ht ha
/-! ### isinstance -/
def isOwn (all : List Str) : Cl → Bool
  | .own s => all.contains s
  | _ => true
/-! ### {} and dict() -/
/-! ### a def that is never called -/
def gDead : Fn := fun _ _ _ _ => False
/-! ### the end -/
theorem rvs_ints {K : PySem.W.Frag} {F : Hp} {M : List Addr} : ∀ ns : List Int, RVs K F M (ns.map D.int) (ns.map V.int)
  | [] => .nil
  | n :: ns => .cons (.int n) (rvs_ints ns)
/-- all but the tables -/
def noTbl (H : Hp) : Hp := fun b => match H b with
  | some (.tbl _) => none
  | x => x
theorem noTbl_at {H : Hp} {b : Addr} {o : HO} (h : H b = some o) (hn : ∀ ps, o ≠ .tbl ps) : noTbl H b = some o := by
  unfold noTbl
  rw [h]
  cases o <;> first | rfl | exact absurd rfl (hn _)
theorem noTbl_same {H : Hp} : Same (noTbl H) H := fun a o h => by
  unfold noTbl at h
  split at h
  · cases h
  · exact h
theorem end_sp {K : PySem.W.Frag} {H : Hp} {a : Addr} {ns : List Int} {g : Fn} {Z : XK} (hp : g [.scr (ns.map .int)] [] (fun o _ => o = .val (.bl true)) (fun _ _ => False)) (hT : ∀ p ∈ LamT.cs K, H p.2.1 = some (.tbl #[])) (hS : SqL K H a (ns.map V.int)) :
    spG K g [.ref a] H (fun v _ => v = .bl true) Z := by
  have hS' : SqL K (noTbl H) a (ns.map V.int) := by
    rcases hS with (h | ⟨o, h⟩) | h
    · exact .inl (.inl (noTbl_at h (fun ps z => by cases z)))
    · exact .inl (.inr ⟨o, noTbl_at h (fun ps z => by cases z)⟩)
    · exact .inr h
  refine ⟨noTbl H, [], (fun _ => none), [], _, _, _, ?_, .cons (.scr hS' (rvs_ints ns)) .nil, hp, fun o s' F' M' H' v ho _ _ _ q => ?_, fun _ _ _ _ _ _ _ hz => hz.elim⟩
  · refine ⟨.here, fun p hp => ?_, noTbl_same, (fun a o h => by cases h), rfl, (fun n a c h _ => by simp at h), by simp, (fun a o h => by cases h), rfl, (fun i sl h => by simp at h), (fun i j c c' a h => by simp at h)⟩
    obtain ⟨q, hq, rfl⟩ := List.mem_map.mp hp
    have e := hT q hq
    refine ⟨by unfold noTbl; rw [e], rfl, #[], e, True.intro, fun pos cv hc => ?_⟩
    have z : codeAmong pos [] = some cv := hc
    simp [codeAmong] at z
  · subst ho
    cases (show RV K F' M' (.bl true) v from q)
    rfl

end
end HP

set_option maxHeartbeats 2000000
/-! HpHotG: such defs, as they are printed. -/
namespace HP
open PySem L2
open PyProof.Rows (envOfC)
variable [LamT] {β : Bs} {κ : Pk}
structure OkQ (P : Program) (w : World) (K : PySem.W.Frag) (mg : Str → Option Value) (base : Heap) (k : Nat) (f : Addr) (ps : List Str) (sp : Sp) : Prop where
  ex : ∃ fd, FnQ P w K mg base k f fd ps sp ∧ Binds K fd ps []
  kp : PySem.W.keepIn K (.ref f) = true
section
variable {P : Program} {w : World} {K : PySem.W.Frag} {mg : Str → Option Value} {base : Heap} {k : Nat} {f : Addr} {x qual : Str} {st : Stmt} {N ps : List Str} {b : Ss}
end
/-- the context of a suite -/
structure GoodU (X : Cx) (k : Nat) : Prop where
  room : RoomQ k X.A
  nd : X.N.Nodup
section
variable {X : Cx} {j k : Nat} {f : Addr} {ps : List Str} {x : Str} {p pos : Pos} {a : Expr} {es : List Expr} {is : Es} {g : Fn}
theorem GoodU.hu (g : GoodU X k) : X.A.units + 64 < cLine := by
  have := g.room.un
  omega
theorem GoodU.hu0 (g : GoodU X k) : X.A.units < cLine := by
  have := g.room.un
  omega
end
end HP

set_option maxHeartbeats 2000000
/-! HpMore: repr; calls by names alone. -/
namespace HP
open PySem L2 PySem.Spec
variable [LamT] {β : Bs} {κ : Pk}

/-! ### repr -/
section
variable {X : Cx} {pins : List (Addr × Obj)} {σ : St} {H : Hp} {s : Shared} {M : List Addr}
theorem keys_read {h : Heap} : ∀ {es : List DictEntry} {kvs : List (Key × V)} {vs : List (Key × Value)}, KV kvs vs → Pairs (mixKind X.prog X.w) es vs →
    ReadsAll h (es.map (·.key)) (pysR ((kvs.map (·.1)).map keyD)) [] ∧ Vals (kvs.map (·.2)) (es.map (·.val))
  | _, _, _, .nil, .nil => ⟨by simp only [List.map_nil, pysR]; exact .nil, .nil⟩
  | _, _, _, .cons (a := (k, v)) ⟨e, r⟩ t, .cons hk hv p => by
    obtain ⟨h1, h2⟩ := keys_read (h := h) t p
    dsimp only at e r
    subst e
    simp only [List.map_cons, pysR]
    refine ⟨?_, .cons (by rw [hv]; exact r) h2⟩
    rcases keyIs_shape hk with ⟨i, t, e1, e⟩ | ⟨x, t, e1, e⟩
    · rw [e, e1]
      exact .cons (as := []) (.int i t) h1
    · rw [e, e1]
      exact .cons (as := []) (.str x t) h1
theorem paired_keyV {w : World} {xs : List Ent} {ys : List (NK × Addr × Value)} (p : Paired TR xs ys) : Vals (xs.map fun x => V.ref x.2.1) ((ys.map fun y => (⟨y.1.hash w, .ref y.2.1, y.2.2⟩ : DictEntry)).map (·.key)) := by
  induction p with
  | nil => exact .nil
  | cons a t ih => exact .cons (congrArg Value.ref a.2.1.symm) ih
theorem paired_valV {w : World} {xs : List Ent} {ys : List (NK × Addr × Value)} (p : Paired TR xs ys) : Vals (xs.map (·.2.2)) ((ys.map fun y => (⟨y.1.hash w, .ref y.2.1, y.2.2⟩ : DictEntry)).map (·.val)) := by
  induction p with
  | nil => exact .nil
  | cons a t ih => exact .cons a.2.2 ih
mutual
/-- such data is read off the heap, all lists and dicts of it being tracked -/
theorem RV.readsR (I : Inv X pins σ H s) : ∀ (d : D) (v : V) (u : Value), d.plainR = true → RV X.K H M d v → RelV v u → ∃ as, Reads s.heap u d.pyR as ∧ ∀ b ∈ as, H b ≠ none
  | .non, _, _, _, .non, r => by cases r; exact ⟨[], .none, nofun⟩
  | .bl b, _, _, _, .bl _, r => by cases r; exact ⟨[], .bool b, nofun⟩
  | .int i, _, _, _, .int _, r => by obtain ⟨t, rfl⟩ := r; exact ⟨[], .int i t, nofun⟩
  | .str x, _, _, _, .str _, r => by obtain ⟨t, rfl⟩ := r; exact ⟨[], .str x t, nofun⟩
  | .tup xs, _, _, h, .tup q rs, r => by
    cases r
    obtain ⟨its, rv, ⟨o, ho, hc, n, hd⟩, _⟩ := I.tuple q.sqT
    obtain ⟨as, ra, na⟩ := RVs.readsR I xs _ its (by simpa [D.plainR] using h) rs rv
    simp only [D.pyR]
    exact ⟨_, .tuple ho hc hd (by simpa using ra), na⟩
  | .lst xs, _, _, h, .lst q rs, r => by
    cases r
    obtain ⟨_, its, n, rv, ho⟩ := I.hok _ _ q
    obtain ⟨as, ra, na⟩ := RVs.readsR I xs _ its (by simpa [D.plainR] using h) rs rv
    simp only [D.pyR]
    refine ⟨_, .list ho rfl rfl (by simpa using ra), fun b hb => ?_⟩
    rcases List.mem_cons.mp hb with rfl | hb
    · rw [q]; nofun
    · exact na b hb
  | .dct ks vs, _, _, h, .dct (kvs := kvs) q hk _ rs, r => by
    cases r
    obtain ⟨_, _, ws, kv, o, es, ep, ho, he, hd, _, hp, _⟩ := I.hok _ _ q
    obtain ⟨rk, rv⟩ := keys_read (X := X) (h := s.heap) kv hp
    obtain ⟨bs, rb, nb⟩ := RVs.readsR I vs _ _ (by simpa [D.plainR] using h) rs rv
    have hk' : ks = (kvs.map (·.1)).map keyD := by rw [hk, List.map_map]; rfl
    have hl : (pysR ks).length = (pysR vs).length := by
      have e1 : ∀ l : List D, (pysR l).length = l.length := fun l => by
        induction l with
        | nil => simp only [pysR, List.length_nil]
        | cons x l ih => simp only [pysR, List.length_cons, ih]
      rw [e1, e1, rs.length, hk, List.length_map, List.length_map]
    simp only [D.pyR]
    refine ⟨_, .dict (as := []) (bs := bs) ho he.1 hd ?_ ?_, fun b hb => ?_⟩
    · rw [List.map_fst_zip (by omega), hk']
      exact rk
    · rw [List.map_snd_zip (by omega)]
      exact rb
    · simp only [List.nil_append, List.cons_append, List.mem_cons] at hb
      rcases hb with rfl | hb
      · rw [q]; nofun
      · exact nb b hb
  | .tab ks vs, _, _, h, .tab (xs := xs) q _ _ rk _ rs, r => by
    cases r
    simp only [D.plainR, Bool.and_eq_true] at h
    obtain ⟨_, _, ys, o, es, ep, p, ho, he, hd, hes⟩ := Inv.tab I q
    have hes := hes X.w
    have vk : Vals (xs.map fun x => V.ref x.2.1) (es.toList.map (·.key)) := hes ▸ paired_keyV p
    have vv : Vals (xs.map (·.2.2)) (es.toList.map (·.val)) := hes ▸ paired_valV p
    obtain ⟨as, ra, na⟩ := RVs.readsR I ks _ _ h.1 rk vk
    obtain ⟨bs, rb, nb⟩ := RVs.readsR I vs _ _ h.2 rs vv
    have hl : (pysR ks).length = (pysR vs).length := by
      have e1 : ∀ l : List D, (pysR l).length = l.length := fun l => by
        induction l with
        | nil => simp only [pysR, List.length_nil]
        | cons x l ih => simp only [pysR, List.length_cons, ih]
      rw [e1, e1, rk.length, rs.length, List.length_map, List.length_map]
    simp only [D.pyR]
    refine ⟨_, .dict (as := as) (bs := bs) ho he.1 hd ?_ ?_, fun b hb => ?_⟩
    · rw [List.map_fst_zip (by omega)]
      exact ra
    · rw [List.map_snd_zip (by omega)]
      exact rb
    · simp only [List.cons_append, List.mem_cons, List.mem_append] at hb
      rcases hb with rfl | hb | hb
      · rw [q]; nofun
      · exact na b hb
      · exact nb b hb
theorem RVs.readsR (I : Inv X pins σ H s) : ∀ (ds : List D) (vs : List V) (us : List Value), plainsR ds = true → RVs X.K H M ds vs → Vals vs us → ∃ as, ReadsAll s.heap us (pysR ds) as ∧ ∀ b ∈ as, H b ≠ none
  | [], _, _, _, .nil, .nil => ⟨[], by simp only [pysR]; exact .nil, nofun⟩
  | x :: xs, _, _, h, .cons a b, .cons p q => by
    simp only [plainsR, Bool.and_eq_true] at h
    obtain ⟨as, r1, n1⟩ := RV.readsR I x _ _ h.1 a p
    obtain ⟨bs, r2, n2⟩ := RVs.readsR I xs _ _ h.2 b q
    simp only [pysR]
    exact ⟨_, .cons r1 r2, fun b hb => (List.mem_append.mp hb).elim (n1 b) (n2 b)⟩
end
end
section
variable {X : Cx}
theorem cr_repr (hs : Still X.A) (hu : X.A.units + 64 < cLine) (hm : (X.K.lookup sysModules).isSome = true) : CallR X (.builtin "repr") (rcD X.K (biSem .repr)) := by
  intro pins s σ H xs us Q I r h
  obtain ⟨F, M, ds, sF, hx, h⟩ := h
  replace h := optK_ex h
  obtain ⟨o, ho, h⟩ := h
  unfold biSem at ho
  split at ho <;> try (cases ‹Bi.repr = _›; done)
  · rename_i d _
    obtain ⟨t, ht, rfl⟩ := Option.map_eq_some_iff.mp ho
    unfold reprSem at ht
    split at ht <;> cases ht
    rename_i hz
    simp only [Bool.and_eq_true, decide_eq_true_eq] at hz
    obtain ⟨⟨⟨hp, hd⟩, h2⟩, h3⟩ := hz
    rw [big_eq] at h3
    obtain ⟨v, rfl, hv⟩ := hx.one
    obtain ⟨u, rfl, ru⟩ := vals1 r
    obtain ⟨as, rd, na⟩ := RV.readsR I d v u hp (hv.rv sF) ru
    have hsm : sysModules ∉ as := fun z => by
      obtain ⟨o, ho⟩ := Option.isSome_iff_exists.mp hm
      exact na _ z (I.bs _ _ (I.ok.mod.kin _ _ ho)).2
    have fin : ∀ {a : Addr}, u = .ref a → wpAny (model X.prog X.w) X.A (PySem.call (.builtin "repr") [u]) (EP X pins σ Q) X.xe s := fun {a} e => by
      subst e
      exact repr_of_reads' rd h2 (fun _ => hsm) hs (by omega) (fun _ _ e => e) (fun h' u tk hk => ⟨V.str d.pyR.shown, H, I.kept hk, ⟨u, rfl⟩, h _ _ (.old (.str _))⟩) h3
    cases d <;> try (simp only [D.plainR, Bool.false_eq_true] at hp; done)
    · obtain rfl := hv.non
      obtain rfl : u = Value.none := ru
      exact PySem.P.repr_of_none ⟨V.str (PyData.shown (D.pyR .non)), H, I.tok _, ⟨_, rfl⟩, h _ _ (.old (.str _))⟩
    · obtain rfl := hv.bl
      rename_i b
      obtain rfl : u = Value.bool b := ru
      exact PySem.P.repr_of_bool ⟨V.str (PyData.shown (D.pyR (.bl b))), H, I.tok _, ⟨_, rfl⟩, h _ _ (.old (.str _))⟩
    · obtain rfl := hv.int
      obtain ⟨t, rfl⟩ := ru
      refine PySem.P.repr_of_int (by simpa only [D.pyR, PyData.showable, decide_eq_true_eq] using h2) ⟨V.str _, H, I.tok _, ⟨_, rfl⟩, h _ _ (.old (.str _))⟩
    · obtain rfl := hv.str
      obtain ⟨t, rfl⟩ := ru
      exact PySem.P.repr_of_str ⟨V.str _, H, I.tok _, ⟨_, rfl⟩, h _ _ (.old (.str _))⟩ (by simpa only [D.pyR, PyData.shown] using h3)
    · obtain ⟨a, vs, rfl, _⟩ := hv.tup sF
      exact fin (show u = Value.ref a from ru)
    · obtain ⟨a, vs, rfl, _⟩ := hv.lst sF
      exact fin (show u = Value.ref a from ru)
    · obtain ⟨a, rfl⟩ : ∃ a, v = .ref a := by
        cases hv.rv sF
        exact ⟨_, rfl⟩
      exact fin (show u = Value.ref a from ru)
    · obtain ⟨a, rfl⟩ : ∃ a, v = .ref a := by
        cases hv.rv sF
        exact ⟨_, rfl⟩
      exact fin (show u = Value.ref a from ru)
  · cases ho
end

/-! ### calls by names alone -/
def pickV (vs : List V) (perm : List Nat) : List V := perm.map fun i => vs.getD i .non
def pickU (vs : List Value) (perm : List Nat) : List Value := perm.map fun i => vs.getD i .none
def ArgsKw (st : Stmt) (x q : Str) (ps ks : List Str) (perm : List Nat) : Prop := ∀ (kV doc pm : Value) (an : Option Addr) (cdv ct : Value) (ws : List Value), ws.length = ks.length →
  bindArgs (PySem.W.fnOf x q (defArgs st) (defBody st) (defScope st) .none kV doc pm an cdv ct) ⟨[], ks.zip ws⟩ = pure (ps.zip (pickU ws perm))
section
variable {X : Cx} {a : Expr} {ia : E} {is : Es} {p pos kpos : Pos} {x qual : Str} {k j : Nat} {f : Addr} {ps ks : List Str} {perm : List Nat} {g : Fn} {kws : List Keyword} {nm : Option Str} {st : Stmt}
/-- the values of keywords -/
def SK (X : Cx) (κ : Pk) (kws : List Keyword) (is : Es) : Prop := PK X kws (tVals X κ (ws is).vals)
theorem sk_nil : SK X κ [] .nil := ⟨fun pos pins s σ H Q I h => pk_nil.run pos pins s σ H Q I (by
  obtain ⟨F, M, P, σD, s, K, R, h, hK⟩ := h
  rw [ws.eq_1] at h
  exact hK _ _ _ F M H _ h (.refl F) (.refl M) R .nil)⟩
theorem sk_cons (ha : SEx X κ a ia) (hr : SK X κ kws is) : SK X κ (⟨nm, a, kpos⟩ :: kws) (.cons ia is) := ⟨fun pos pins s σ H Q I h => (pk_cons ha.v hr).run pos pins s σ H Q I (by
  obtain ⟨F, M, P, σD, s, K, R, h, hK⟩ := h
  rw [ws.eq_2] at h
  refine ⟨F, M, P, σD, s, _, R, h, fun o σ1 s1 F1 M1 H1 v1 k sf1 e1 R1 q => ?_⟩
  obtain ⟨F', sf', R', rv⟩ := R1.frz q
  refine ⟨F', M1, P, σ1, s1, _, R', k, fun ds σ2 s2 F2 M2 H2 vs k2 sf2 e2 R2 q2 => ?_⟩
  exact hK _ _ _ F2 M2 H2 _ k2 (sf1.trans (sf'.trans sf2)) (e1.trans e2) R2 (.cons (rv.mono sf2 e2) q2))⟩
end

/-! ### *x, list(range(..)), x[::-1] -/
section
variable {X : Cx} {a b e : Expr} {ia ib ie : E} {es : List Expr} {is : Es} {p p2 p3 pos pos2 sp : Pos}
end
end HP

set_option maxHeartbeats 2000000
/-! HpMore2: isinstance of two classes; dict(x). -/
namespace HP
open PySem L2 PySem.Spec
open PyProof.Rows hiding St
variable [LamT] {β : Bs} {κ : Pk}
section
variable {X : Cx} {a T1 T2 : Expr} {ia : E} {pos p p2 : Pos} {all : List Str} {kt}
end
/-! ### dict(x) -/
end HP

set_option maxHeartbeats 2000000
/-! HpKw: makers and methods called by names alone. -/
namespace HP
open PySem L2 PySem.Spec
variable [LamT] {β : Bs} {κ : Pk}

/-- the arguments, named, in the parameters' order -/
def ArgsKwS (st : Stmt) (x q : Str) (ps ks : List Str) (perm : List Nat) : Prop := ∀ (kV doc pm : Value) (an : Option Addr) (cdv ct self : Value) (ws : List Value), ws.length = ks.length →
  bindArgs (PySem.W.fnOf x q (defArgs st) (defBody st) (defScope st) .none kV doc pm an cdv ct) ⟨[self], ks.zip ws⟩ = pure (ps.zip (self :: pickU ws perm))
section
variable {X : Cx} {is : Es} {p pos : Pos} {x qual nm Cn : Str} {k j : Nat} {f C : Addr} {fd : FuncData} {sp : Sp} {tk : TA} {Z : XK} {ps ks : List Str} {perm : List Nat} {g : Fn} {kws : List Keyword} {st : Stmt}
end
end HP

set_option maxHeartbeats 2000000
/-! HpTab4: dicts whose keys are nested tuples: walked, asked by get; tuple(range(..)). -/
namespace HP
open PySem L2 PySem.Spec
open PyProof.Rows hiding St
variable [LamT] {β : Bs} {κ : Pk}
/-- the keys of a dict whose object is known -/
def ItX (d : Addr) (xs : List Ent) (o : Obj) : L2.It :=
  ⟨fun i H => H d = some (tabO d xs o) ∧ i < xs.length, fun i H v H' => H' = H ∧ ∃ x, xs[i]? = some x ∧ v = .ref x.2.1, fun i H => H d = some (tabO d xs o) ∧ xs.length ≤ i⟩
section
variable {X : Cx} {pins : List (Addr × Obj)} {σ : L2.St} {H : Hp} {s : Shared} {d : Addr} {o : Obj} {xs : List Ent}
end
section
variable {P : Program} {w : World} {K : PySem.W.Frag} {tg : Expr} {d : Addr} {o : Obj} {es : Array DictEntry} {ep : Nat} {xs : List Ent}
end
section
variable {X : Cx} {tg iter e a b : Expr} {ie ia ib : E} {pos : Pos}
/-! ### t.get(k), t.get(k, d) -/
def rTget (K : PySem.W.Frag) : V → List V → Hp → VK → Prop := fun x xs H Q => ∃ F M d ds, Same F H ∧ RVt K F M H d x ∧ RVs K F M ds xs ∧ optK (tgetSem d ds) fun r => ∀ v, RV K F M r v → Q v H
section
variable {o : Expr} {es : List Expr} {is : Es} {io : E} {apos cpos : Pos} {to : TE} {t : TA}
end
end
/-! ### tuple(range(..)) -/
section
variable {X : Cx} {a : Expr} {ia : E} {p p2 pos pos2 : Pos}
end
end HP

set_option maxHeartbeats 2000000
/-! HpTab5: dict([((..), ..), ..]): keys nested tuples; list(d.values()). -/
namespace HP
open PySem L2 PySem.Spec
open PyProof.Rows hiding St
variable [LamT] {β : Bs} {κ : Pk}
section
variable {X : Cx} {pins : List (Addr × Obj)} {σ : L2.St} {H : Hp} {s : Shared} {F : Hp} {M : List Addr}
end
end HP

set_option maxHeartbeats 4000000
/-! HpSet4: sorted(set(x)), x a tuple or a list of ints. -/
namespace HP
open PySem L2
open PyProof.Rows PySem.W
variable [LamT] {β : Bs} {κ : Pk}
open PySem.W PyProof.Rows
open AutoSeq1 (wpAny_loadPart')
/-! ### plain -/
def nubI : List Int → List Int → List Int
  | acc, [] => acc
  | acc, x :: xs => if acc.contains x then nubI acc xs else nubI (acc ++ [x]) xs
def sortI (l : List Int) : List Int := l.mergeSort fun a b => decide (a ≤ b)
section
variable {prog : Program} {w : World} {A : Around} {E : Value → Shared → Prop} {s : Shared}
set_option maxHeartbeats 8000000 in
end
section
variable {X : Cx} {a : Expr} {ia : E} {p p2 q pos : Pos}
end
end HP

set_option maxHeartbeats 4000000
/-! HpSet5: sorted(set(xs)), xs a long list of few numbers. -/
namespace HP
open PySem L2
variable [LamT] {β : Bs} {κ : Pk}
section
variable {X : Cx} {a : Expr} {ia : E} {p p2 q pos : Pos}
end
end HP

set_option maxHeartbeats 2000000
/-! HpGet: properties that hand back a field, by names. -/
namespace HP
open PySem L2
variable [LamT] {β : Bs} {κ : Pk}
structure GetG (P : Program) (w : World) (K : PySem.W.Frag) (mg : Str → Option Value) (base : Heap) (C n fo : Str) : Prop where
  cls : Cls K (He.ga K C)
  prop : PropOf K (He.ga K C) n (propAt C n K) (getAt C n K)
  fn : ∃ fd, FnOk P w K mg base (L2.CX P w) 1 (getAt C n K) fd ["self"] (getSp (He.ga K C) fo) ∧ Binds K fd ["self"] []
def isGet (fo : Str) : List Stmt → Bool
  | [.Return (some (.Attribute (.Name x _) f _)) _] => decide (x = ("self" : Str)) && decide (f = fo)
  | _ => false
end HP

set_option maxHeartbeats 2000000
/-! HpKeep: try .. except X as n: m = n; the exception is kept. -/
namespace HP
open PySem L2 PySem.Spec
open PyProof.Rows hiding St
/-- what stands where an exception is kept -/
def ExK (oe : Obj) : HO := .frz oe (.ext fun _ => True)
section
variable {X : Cx} {pins : List (Addr × Obj)} {σ : St} {H : Hp} {s : Shared}
end
/-- what the clause wishes: slot i the clause's name, slot m the name that keeps it -/
def wKeep (K : PySem.W.Frag) (c : Value) (i m : Nat) (Wout : WX) (D : Ends) : WX := fun cls d σ H =>
  ∃ b, PySem.W.exmOne K cls c = some b ∧ (b = true → ∀ a oe, H a = none → Zc cls d oe → (∃ vs, oe.data = .fields vs) → D.nx (((σ.set i (some (.ref a))).set m (some (.ref a))).set i none) (upd H a (ExK oe))) ∧ (b = false → Wout cls d σ H)
/-- the suite m = n -/
def tKp (i m : Nat) : TS := fun D σ H => ∃ v, σ[i]? = some (some v) ∧ D.nx (σ.set m (some v)) H
section
variable {X : Cx} {x n : Str} {c : Value} {i m : Nat} {body suite : List Stmt} {b₀ : Stmt} {np pos pos' : Pos} {tb : WX → TS} {Wout : WX}
end
end HP

set_option maxHeartbeats 2000000
/-! HpKeepN: try .. except X as n: suite; the exception is tracked in the suite. -/
namespace HP
open PySem L2 PySem.Spec
open PyProof.Rows hiding St
/-- behind the suite the clause's name is gone -/
def goneD (i : Nat) (D : Ends) : Ends := { nx := fun σ H => D.nx (σ.set i none) H, bk := fun σ H => D.bk (σ.set i none) H, ct := fun σ H => D.ct (σ.set i none) H, rt := D.rt }
/-- what the clause wishes -/
def wAsT (K : PySem.W.Frag) (c : Value) (i : Nat) (ts : TS) (Wout : WX) (D : Ends) : WX := fun cls d σ H =>
  ∃ b, PySem.W.exmOne K cls c = some b ∧ (b = true → ∀ a oe, H a = none → Zc cls d oe → (∃ vs, oe.data = .fields vs) → ts (goneD i D) (σ.set i (some (.ref a))) (upd H a (ExK oe))) ∧ (b = false → Wout cls d σ H)
section
variable {X : Cx} {pins : List (Addr × Obj)} {σ : St} {H : Hp} {s : Shared}
end
section
variable {X : Cx} {x n : Str} {c : Value} {i : Nat} {body suite : List Stmt} {b₀ : Stmt} {np pos pos' : Pos} {tb : WX → TS} {ts : TS} {Wout : WX}
end
end HP

set_option maxHeartbeats 4000000
/-! HpSup: an own exception class over ValueError whose __init__ says super().__init__(part); self.f = part. -/
namespace HP
open PySem PySem.W PySem.Calls PyProof.Rows PySem.Spec

abbrev supCall (f : Str) (p0 p1 p2 p3 p4 : Pos) : Expr := .Call (.Attribute (.Call (.Name "super" p0) [] [] p1) "__init__" p2) [.Name f p3] [] p4
abbrev supBody (f : Str) (p0 p1 p2 p3 p4 p5 p6 p7 p8 p9 : Pos) : List Stmt := [.Expr (supCall f p0 p1 p2 p3 p4) p5, .Assign [.Attribute (.Name "self" p6) f p7] (.Name f p8) p9]
/-- the arguments of __init__: by position, or the second one by name -/
def argsK (k : Bool) (f : Str) (e v : Value) : Args := if k then ⟨[e], [(f, v)]⟩ else ⟨[e, v], []⟩
/-- how super().__init__(f) is looked at -/
def SupEv (f : Str) (p0 p1 p2 p3 p4 : Pos) (env : Env) : Prop := ∃ pl : Sem Bool, eval (supCall f p0 p1 p2 p3 p4) env = (do
  let ov ← attributeBase (.Call (.Name "super" p0) [] [] p1) "__init__" env (eval (.Call (.Name "super" p0) [] [] p1) env)
  standAt p2.atName
  let (g, first) ← holding [ov] (getMethod ov "__init__" pl)
  callWith p4 g first (backTo p4 (starEach [.Name f p3] env)) [])
/-- what is known of the class C and of its __init__ -/
structure SupC (P : Program) (K : Frag) (C : Addr) (f : Str) : Prop where
  ox : L2.OexC K C
  no : findIn K (.ref C) f = some none
  sup : ks_superIn K C C "__init__" = some (some (.builtin "ValueError.__init__"))
  third : nsIn K cStatics "thirdparty.any" = some none
  ve : subIn K (.ref C) (.type "ValueError") = some true
  slf : mroIn K C (.ref C) = some true
  top : (P.main.scope.names.lookup ("super" : Str)).isSome = false
  fn : ∃ (fI cda cc : Addr) (qual : Str) (params : Arguments) (p0 p1 p2 p3 p4 p5 p6 p7 p8 p9 : Pos) (scope : Scope) (dV kV doc pm ct oc ccl cl : Value) (an od cdd cld : Option Addr) (osl ccs csl : Array (Option Value)) (vs : Array Value) (file : Str) (tf : Tok),
    findIn K (.ref C) "__init__" = some (some (.ref fI)) ∧ typeIn K (.ref fI) = some (.type "function") ∧
    K.lookup fI = some ⟨oc, od, .func (ksFn "__init__" qual params
      (supBody f p0 p1 p2 p3 p4 p5 p6 p7 p8 p9) scope dV kV doc pm an (.ref cda) ct cc), osl⟩ ∧
    codeIn K (.ref cda) qual = true ∧ K.lookup cda = some ⟨ccl, cdd, .fields vs, ccs⟩ ∧ vs[2]? = some (.str file tf) ∧ ((P.main.file : Str) == file) = true ∧ K.lookup cc = some ⟨cl, cld, .cell (some (.ref C)), csl⟩ ∧
    (params.posonlyargs ++ params.args).head?.map (·.arg) = some "self" ∧
    (scope.kind = .function ∧ scope.isCoroutine = false ∧ scope.isGenerator = false ∧ scope.names.lookup ("super" : Str) = some .globalImplicit ∧ scope.names.lookup ("__class__" : Str) = some .free ∧ scope.names.lookup ("self" : Str) = some .local ∧
      scope.names.lookup f = some .local ∧ ∀ x ∈ scope.names, x.2 ≠ .cell) ∧
    (f == ("__debug__" : Str)) = false ∧ (f == ("self" : Str)) = false ∧
    (∀ L : Addr, SupEv f p0 p1 p2 p3 p4 (callEnv (ksFn "__init__" qual params (supBody f p0 p1 p2 p3 p4 p5 p6 p7 p8 p9) scope dV kV doc pm an (.ref cda) ct cc) L fI)) ∧
    (∀ L : Addr, swapsWith (.Name f p8) (some (.Attribute (.Name "self" p6) f p7)) p9.line (callEnv (ksFn "__init__" qual params (supBody f p0 p1 p2 p3 p4 p5 p6 p7 p8 p9) scope dV kV doc pm an (.ref cda) ct cc) L fI) = pure false) ∧
    (∀ L : Addr, swapsWith (supCall f p0 p1 p2 p3 p4) none p5.line (callEnv (ksFn "__init__" qual params (supBody f p0 p1 p2 p3 p4 p5 p6 p7 p8 p9) scope dV kV doc pm an (.ref cda) ct cc) L fI) = pure false) ∧
    ∀ (k : Bool) (s : Shared) (e v : Value), BindsTo s (ksFn "__init__" qual params
      (supBody f p0 p1 p2 p3 p4 p5 p6 p7 p8 p9) scope dV kV doc pm an (.ref cda) ct cc) (argsK k f e v) [("self", e), (f, v)]

section
variable {prog : Program} {w : World} {A : Around} {E : Value → Shared → Prop} {h : Heap} {g : Array GenState} {d : Drawn} {t : Nat} {os : OsState} {K : Frag} {C : Addr}
/-- the bound ValueError.__init__ called -/
theorem sup_call_mw {u e t0 : Addr} {rest : List Value} {Q : Value → Shared → Prop} (T : L2.OexC K C) (X : K.In h) (he : h.get? e = some (HandSPX.excO C t0)) (hu : h.get? u = some (kxs_mw "ValueError.__init__" e)) (hrest : rest.length ≤ sizeLine)
    (hq : ∀ h' t1, (∀ b o, b ≠ e → h.get? b = some o → h'.get? b = some o) → h'.get? e = some (HandSPX.excO C t1) → Q .none ⟨h', g, d, t, os⟩) :
    wpAny (model prog w) A (call (.ref u) rest) Q E ⟨h, g, d, t, os⟩ := by
  obtain ⟨nm, q, N, bs, bm, sn, sub, ab, col, dd, k0, k1, k2, k3, k5, hC, hbm⟩ := T.cls
  refine wpAny_call (codeAny_of_tree ?_)
  show wpAny _ A.in1 (callAny (.ref u) ⟨rest, []⟩) _ _ _
  simp only [callAny]
  refine wpAny_bind (wpAny_load hu ?_)
  simp only [kxs_mw, show (Value.type "method-wrapper" == Value.type "method" || Value.type "method-wrapper" == Value.type "builtin_function_or_method" || Value.type "method-wrapper" == Value.type "method-wrapper") = true by decide, if_true]
  refine W.KFB.if_so (by decide) ?_
  refine wpAny_bind (check_bound_init F.excBase_ValueError.toExcCallFacts (X _ _ hC) he rfl ?_)
  refine wpAny_bind (wpAny_pure (wpAny_pure ?_))
  refine ⟨plainId_quiet F.excBase_ValueError.init.plain _, codeAny_builtin F.excBase_ValueError.initEntry ?_⟩
  exact exc_init_tree (cls := .ref C) (t0 := t0) (dv := none) (c2 := .none) (c3 := .none) (b4 := .bool false) he hrest fun h' k e' _ => hq h' _ k e'

/-- the __init__ runs -/
theorem sup_init (k : Bool) {s : Shared} {fld : Str} {mg mb : Str → Option Value} {e t0 : Addr} {v : Value} {R : Result → Shared → Prop} (S : SupC prog K C fld) (hroom : A.depth < recursionLimit) (X : K.In s.heap)
    (hg : s.heap.Ns mainGlobals mg) (hm : mg "super" = none) (hb : s.heap.Ns builtinsNs mb) (hbb : mb "super" = bootBuiltins "super") (lim : s.heap.NoLimit) (he : s.heap.get? e = some (HandSPX.excO C t0)) (hKe : K.lookup e = none) {fI : Addr} (hfI : findIn K (.ref C) "__init__" = some (some (.ref fI)))
    (hq : ∀ h' tk' dx t1, (∀ b o, b ≠ e → s.heap.get? b = some o → h'.get? b = some o) → s.heap.objs.size ≤ dx → dx ≠ e → h'.get? e = some { cls := .ref C, dict := some dx, data := .fields #[.ref t1, .none, .none, .none, .bool false, .none] } →
      h'.Ns1 dx (fun y => if y = fld then some v else none) → R (.ok (.ret .none)) { s with heap := h', toks := tk' }) :
    codeAny (model prog w) A (.call (.ref fI) (argsK k fld (.ref e) v)) R s := by
  obtain ⟨fI', cda, cc, qual, params, p0, p1, p2, p3, p4, p5, p6, p7, p8, p9, scope, dV, kV, doc, pm, ct, oc, ccl, cl, an, od, cdd, cld, osl, ccs, csl, vs, file, tf, e1, e2, lk, hcd, lc, hvs, hfile, lcell, hpar, ⟨hk, hco, hgen, n1, n2, n3, n4, ncell⟩, fd1, fd2, hev, hsw1, hsw2, hbind⟩ := S.fn
  obtain rfl : fI = fI' := by
    rw [hfI] at e1
    injection e1 with e1
    injection e1 with e1
    injection e1
  obtain ⟨nm, q, N, bs, bm, sn, sub, ab, col, dd, k0, k1, k2, k3, k5, hC, hbm⟩ := S.ox.cls
  obtain ⟨ar, hpa, har⟩ : ∃ ar : Arg, (params.posonlyargs ++ params.args).head? = some ar ∧ ar.arg = "self" := by
    cases hp : (params.posonlyargs ++ params.args).head? with
    | none => rw [hp] at hpar; cases hpar
    | some ar => rw [hp] at hpar; exact ⟨ar, rfl, Option.some.inj hpar⟩
  refine ks_codeAny_call_defAt hroom (X _ _ lk) rfl lim (codeRec_of X hcd) rfl (hbind k _ _ _) ncell (fun y hy => ?_) (fun h₁ hns kk => ?_) hco hgen hk
  · rcases List.mem_cons.mp hy with rfl | hy
    · exact n3
    · cases List.mem_singleton.mp hy
      exact n4
  have hv : ([(("self" : Str), Value.ref e), (fld, v)].reverse.lookup fld) = some v := by simp
  have hse : ([(("self" : Str), Value.ref e), (fld, v)].reverse.lookup ("self" : Str)) = some (Value.ref e) := by
    have : (("self" : Str) == fld) = false := by
      rw [beq_eq_false_iff_ne] at fd2 ⊢
      exact fun z => fd2 z.symm
    simp [List.lookup, this]
  have X1 : K.In h₁ := X.keeps kk
  have he1 := kk _ _ he
  obtain ⟨h0, g, d, t, os⟩ := s
  have hlk : (model prog w).prog = prog := rfl
  refine ks_wpAt_execs_cons (ks_wpAt_Expr_any ?_ (by unfold interactive; simp [callEnv, newEnv, hk]) (hsw2 _))
  obtain ⟨pl, ev⟩ := hev h0.objs.size
  refine ks_wpAt_MethodCall (ks_wpAt_super_base n1 n2 (by decide) rfl (X1 _ _ lk) rfl hpa rfl (X1 _ _ lc) rfl hvs hfile S.top ?_) ev
  have clsD : clsIn K C = some { name := nm, bases := bs, mro := .ref C :: bm, ns := N, qualname := q, hasDict := true, slotNames := sn, subclasses := sub, abstract := ab, collection := col, hasDel := false } := by unfold clsIn; rw [hC] <;> rfl
  refine ks_loadName_global hk n1 (loadGlobal_builtin (hg.keeps kk) hm (hb.keeps kk) (hbb.trans PyProof.Rows.Boot.«super») ⟨rfl, ?_⟩)
  refine wpAny_loadName_free hk n2 rfl ⟨_, X1 _ _ lcell, rfl⟩ ?_
  rw [har]
  refine wpAny_loadName_local hk n3 hns hse ?_
  refine ks_wpAny_isType_cls (X1 _ _ hC) rfl ⟨rfl, ?_⟩
  refine ks_wpAny_call_super (X1 _ _ hC) rfl he1 rfl (fun c z => by cases z) (looks_mroIn X1 S.slf) (fun h2 hso k2 => ?_)
  have X2 : K.In h2 := X1.keeps k2
  have he2 := k2 _ _ he1
  have hxC : e ≠ C := fun z => by
    have q := X _ _ hC
    rw [← z, he] at q
    cases q
  have I2 : InstAt h2 e (HandSPX.excO C t0) C none := ⟨he2, rfl, rfl, trivial⟩
  have hsup : alongIn K "__init__" ((((Value.ref C :: bm).dropWhile (· != .ref C))).drop 1) = some (some (.builtin "ValueError.__init__")) := by
    have q := S.sup
    unfold ks_superIn at q
    rw [clsD] at q
    exact q
  refine kxs_getMethod kxs_ValueError hso (looks_opaque X2 S.third) (l₀ := .ref C :: bm) ((looks_clsIn X2 clsD).andThen .now) rfl X2 hsup (I2.type.andThen (looks_subIn X2 S.ve)) hxC (by decide) ?_
  have k3 : ∀ b o, h2.get? b = some o → (h2.push (kxs_mw "ValueError.__init__" e)).get? b = some o := fun b o q => Heap.get?_push_of_some _ q
  have hu : (h2.push (kxs_mw "ValueError.__init__" e)).get? h2.objs.size = some (kxs_mw "ValueError.__init__" e) := Heap.get?_push_at rfl rfl
  have hns3 : (h2.push (kxs_mw "ValueError.__init__" e)).Ns h0.objs.size (fun x => [(("self" : Str), Value.ref e), (fld, v)].reverse.lookup x) := (hns.keeps k2).keeps k3
  refine kxs_callWith (i := "ValueError.__init__") (x := e) rfl ?_
  show wpAny _ _ (evalArgs (.ref h2.objs.size) true ((false, eval (.Name fld p3) _) :: backTo p4 (starEach [] _)) []) _ _ _
  refine evalArgs_plain (spliced_cons (wpAny_Name (wpAny_loadName_local hk n4 hns3 hv (spliced_nil ⟨hu, ?_⟩)) fd1))
  have X3 := X2.keeps k3
  refine sup_call_mw S.ox X3 (k3 _ _ he2) hu (by show 1 ≤ sizeLine; rw [sizeLine_eq]; omega) (fun h4 t1 k4 e4 => ?_)
  have neL : h0.objs.size ≠ e := Nat.ne_of_gt (Heap.lt_size he)
  obtain ⟨oL, esL, epL, hL, rL⟩ := hns3
  have hns4 : h4.Ns h0.objs.size (fun x => [(("self" : Str), Value.ref e), (fld, v)].reverse.lookup x) := ⟨oL, esL, epL, k4 _ _ neL hL, rL⟩
  have X4 : K.In h4 := fun b o q => k4 b o (fun z => by
    rw [z, hKe] at q
    cases q) (X3 b o q)
  refine ks_wpAt_execs_cons (ks_wpAt_Assign_Attr (wpAt_of_wpAny (wpAny_Name (wpAny_loadName_local hk n4 hns4 hv (wpAny_Name (wpAny_loadName_local hk n3 hns4 hse ?_) (by decide))) fd1)) (hsw1 _))
  refine set_plain X4 (ox := HandSPX.excO C t1) (od := none) ⟨e4, rfl, rfl, trivial⟩ S.ox.sa ?_
  refine HandSPX.exc_osa X4 e4 clsD (show HandSPX.refsVE (.ref C :: bm) = true from hbm) rfl S.no (fun h' tk' dx k5 dn dne hx hn => ?_)
  refine wpAt_of_wpAny (wpAny_execs_nil ?_)
  have ltL : h0.objs.size < h4.objs.size := Heap.lt_size (k4 _ _ neL hL)
  exact hq h' tk' dx t1 (fun b o hbe hb => k5 b o hbe (k4 b o hbe (k3 _ _ (k2 _ _ (kk _ _ hb))))) (Nat.le_trans (Nat.le_of_lt ltL) dn) dne hx hn
end
section
open L2
variable {X : Cx} {e : Expr} {es : List Expr} {ta : TA} {f x : Str} {C : Addr} {p pos : Pos}
/-- C(e): a new exception whose field f is e's value -/
theorem pmk_sup (S : SupC X.prog X.K C f) (hr : Room 1 X.A) (hg : Gl X x) (hm : X.mg x = some (.ref C)) (hsm : X.mg "super" = none) (ha : PA X [e] ta)
    (hdb : (x == ("__debug__" : Str)) = false) (he : starEach [e] X.env = (false, eval e X.env) :: starEach [] X.env) :
    PMk X (.Call (.Name x p) [e] [] pos) (fun σ H Q => ta σ H fun vs H1 => ∃ v, vs = [v] ∧ ∀ dd, H1 dd = none → Q (.ref C) (some dd) (upd H1 dd (.xd [(f, v)]))) := by
  intro pins s σ H Q I h
  have T := S.ox
  obtain ⟨nm, q, N, bs, bm, sn, sub, ab, col, dd, k0, k1, k2, k3, k5, hC, hbm⟩ := T.cls
  obtain ⟨fI, cda, cc, qual, params, p0, p1, p2, p3, p4, p5, p6, p7, p8, p9, scope, dV, kV, doc, pm, ct, oc, ccl, cl, an, od, cdd, cld, osl, ccs, csl, vs, file, tf, iC, tI, _⟩ := S.fn
  refine wpAny_Call_Name_kw (ld_glob I hg hm ?_ hdb)
  refine PySem.W.callWith_K (h₀ := X.base) I.ok.mod.kin T.kC (thn (ha.run pos pins s σ H _ I h) fun us s1 ⟨vs, H1, I1, r1, v, ev, q1⟩ => ⟨I1.kIn, ?_⟩) he rfl
  subst ev
  cases r1 with
  | @cons _ u _ us' ru rn =>
  cases rn
  show wpAny _ _ (call (.ref C) [u]) _ _ _
  have I1' := I1
  obtain ⟨hp, g, dr, tk, os⟩ := s1
  have kk : ∀ b o, hp.get? b = some o → ((hp.push (PySem.W.kdv_tup [u])).push (PySem.HandSPX.excO C hp.objs.size)).get? b = some o := fun b o e => Heap.get?_push_of_some _ (Heap.get?_push_of_some _ e)
  have hget : ((hp.push (PySem.W.kdv_tup [u])).push (PySem.HandSPX.excO C hp.objs.size)).get? (hp.objs.size + 1) = some (PySem.HandSPX.excO C hp.objs.size) := by heap_get
  have hKe : X.K.lookup (hp.objs.size + 1) = none := by
    cases z : X.K.lookup (hp.objs.size + 1) with
    | none => rfl
    | some o => exact absurd (Heap.lt_size (I1.kIn _ _ z)) (by show ¬ hp.objs.size + 1 < hp.objs.size; omega)
  obtain ⟨mb, hb, hbb⟩ := I1.ok.mod.blt
  have md := I1.ok.mod
  refine wpAny_call (PySem.HandSPX.call_own F.excBase_ValueError (fun Y => PySem.HandSPX.refsVE_contains Y bm hbm) (I1.kIn _ _ hC) (PySem.W.looks_findIn I1.kIn iC) (fun self => PySem.W.bind_fn I1.kIn self tI) (by show 1 ≤ sizeLine; rw [sizeLine_eq]; omega)
    (sup_init false (s := ⟨(hp.push (PySem.W.kdv_tup [u])).push (PySem.HandSPX.excO C hp.objs.size), g, dr, tk, os⟩) (mg := X.mg) (mb := mb) (e := hp.objs.size + 1) (t0 := hp.objs.size) S ?_ (I1.kIn.keeps kk) ?_ hsm ?_ (hbb _ (by decide)) ?_ hget hKe iC fun h' tk' dx t1 k dn dne hx hn => ?_))
  · exact (hr.make C [u] []).depth
  · exact (md.glob.keeps I1.bk).keeps kk
  · exact (hb.keeps I1.bk).keeps kk
  · exact (md.nolimit.keeps I1.bk).keeps kk
  · obtain ⟨G, g1', g2'⟩ := restrict h' fun b => decide (b ≠ hp.objs.size + 1)
    have gk : ∀ b, b ≠ hp.objs.size + 1 → G.get? b = h'.get? b := fun b hb => g1' b (decide_eq_true hb)
    have ge : G.get? (hp.objs.size + 1) = none := g2' _ (by simp)
    have gs : ∀ b o, G.get? b = some o → h'.get? b = some o := fun b o z => by
      by_cases hba : b = hp.objs.size + 1
      · rw [hba, ge] at z
        cases z
      · exact (gk b hba).symm.trans z
    have dn' : hp.objs.size ≤ dx := by
      have z1 : hp.objs.size + 1 < ((hp.push (PySem.W.kdv_tup [u])).push (PySem.HandSPX.excO C hp.objs.size)).objs.size := Heap.lt_size hget
      have z2 : ((hp.push (PySem.W.kdv_tup [u])).push (PySem.HandSPX.excO C hp.objs.size)).objs.size ≤ dx := dn
      omega
    have hd0 : hp.get? dx = none := by
      cases z : hp.get? dx with
      | none => rfl
      | some o => exact absurd (Heap.lt_size z) (Nat.not_lt.mpr dn')
    have hdn : H1 dx = none := I1.hok.fresh dn'
    have J : Inv X pins σ (upd H1 dx (.xd [(f, v)])) ⟨G, g, dr, tk', os⟩ := I1.laidN (t' := tk') (h' := G) (fun b o z => by
        have hba : b ≠ hp.objs.size + 1 := Nat.ne_of_lt (Nat.lt_succ_of_lt (Heap.lt_size z))
        rw [gk b hba]
        exact k b o hba (kk b o z)) hd0 hdn (by
      have hn2 : G.Ns1 dx (fun y => if y = f then some u else none) := hn.at fun o z => (gk dx dne).trans z
      exact ⟨_, hn2, relO_put (fs := []) ru fun _ => True.intro⟩)
    refine ⟨rfl, hp.objs.size + 1, _, _, ⟨G, g, dr, tk', os⟩, _, .ref C, some dx, rfl, J, gs, ge, hx, ⟨rfl, rfl⟩, rfl, rfl, ?_, rfl, I1.bare, raises_own T.exC T.tyC, q1 dx hdn⟩
    rw [upd_ne (Ne.symm dne)]
    exact I1.hok.fresh (Nat.le_succ _)
end
end HP

set_option maxHeartbeats 2000000
/-! HpThrow: raise, try, what is asked of a kept exception. -/
namespace HP
open PySem L2
variable [LamT] {β : Bs} {κ : Pk}

structure ExcF (all : List Str) (K : PySem.W.Frag) (c : Str) : Prop where
  fro : ∀ n ∈ names7, PySem.W.kitOne K (.type n) (.ref (He.ga K c)) = some false
  kit : ∀ c' ∈ all, PySem.W.kitOne K (.ref (He.ga K c')) (.ref (He.ga K c)) = some (isSub c' c)
  exm : ∀ c' ∈ all, PySem.W.exmOne K (.ref (He.ga K c')) (.ref (He.ga K c)) = some (isSub c' c)
  ve : PySem.W.kitOne K (.ref (He.ga K c)) (.type "ValueError") = some true
  cl : (PySem.W.clsIn K (He.ga K c)).isSome = true
  xf : XfC K (He.ga K c)
  kx : ∀ (x : Addr) (ox : Obj) (od : Option Obj), PySem.W.KitX K (.ref x) (.ref (He.ga K c)) (fun h => PySem.W.InstAt h x ox (He.ga K c) od)
  ty : PySem.W.typeIn K (.ref (He.ga K c)) = some (.type "type")
  kp : PySem.W.keepIn K (.ref (He.ga K c)) = true
  tx : excFld c = none → PySem.W.excIn K (He.ga K c) veBm "ValueError.__new__" = true
  fd : ∀ f, excFld c = some f → PySem.W.findIn K (.ref (He.ga K c)) f = some none
theorem excB_ok {all : List Str} {K : PySem.W.Frag} (h : excB all K = true) : ∀ c ∈ all, ExcF all K c := fun c hc => by
  unfold excB at h
  have q := List.all_eq_true.mp h c hc
  simp only [Bool.and_eq_true] at q
  obtain ⟨⟨⟨⟨⟨⟨⟨⟨⟨⟨⟨q1, q2⟩, q3⟩, q4⟩, q5⟩, q6⟩, q7⟩, q8⟩, q9⟩, q10⟩, q11⟩, q12⟩ := q
  have xf := xfB_ok q5
  refine ⟨fun n hn => of_decide_eq_true (List.all_eq_true.mp q1 n hn), fun c' hc' => ?_, fun c' hc' => ?_, of_decide_eq_true q3, q4, xf, fun x ox od => ?_, of_decide_eq_true q10, q11, fun e => ?_, fun f e => ?_⟩
  · have := List.all_eq_true.mp q2 c' hc'
    simp only [Bool.and_eq_true, decide_eq_true_eq] at this
    exact this.1
  · have := List.all_eq_true.mp q2 c' hc'
    simp only [Bool.and_eq_true, decide_eq_true_eq] at this
    exact this.2
  · exact PySem.W.kitx_exc q4 xf.ga xf.gg xf.exC (He.eqO_ok q6) (He.eqO_ok q7) (of_decide_eq_true q8) (of_decide_eq_true q9)
  · rw [e] at q12
    exact q12
  · rw [e] at q12
    exact of_decide_eq_true q12
theorem ExcF.raises {X : Cx} {all : List Str} {c : Str} (E : ExcF all X.K c) : Raises X (.ref (He.ga X.K c)) := raises_own E.xf.exC E.ty

section
variable {X : Cx} {J : St → Prop} {e a : Expr} {ie ia : E} {pos p p2 p3 : Pos} {st : Stmt} {all : List Str} {x c : Str}
/-- what is never come to -/
abbrev sDead : S := .asg (.tup []) (.lit .non)
end
/-! ### what is asked of a kept exception -/
section
variable {X : Cx} {all : List Str}
/-- an exception that is kept at a -/
def KeptE (K : PySem.W.Frag) (H : Hp) (a : Addr) (D : Addr) (oe : Obj) : Prop := (∃ w, H a = some (.frz oe w)) ∧ oe.cls = .ref D ∧ (∃ fv, oe.data = .fields fv) ∧ (oe.dict = none ∨ ∃ dd fs, oe.dict = some dd ∧ H dd = some (.xd fs))
theorem KeptE.inst {K : PySem.W.Frag} {H : Hp} {a D : Addr} {oe : Obj} (h : KeptE K H a D oe) {pins : List (Addr × Obj)} {σ : St} {s : Shared} (I : Inv X pins σ H s) : ∃ od, PySem.W.InstAt s.heap a oe D od := by
  obtain ⟨⟨w, h1⟩, h2, ⟨fv, h3⟩, h4⟩ := h
  have ha := (I.hok a _ h1).1
  have hn : PySem.W.notCls oe = true := by
    unfold PySem.W.notCls
    rw [h3] <;> rfl
  rcases h4 with h4 | ⟨dd, fs, h4, h5⟩
  · exact ⟨none, ha, h2, hn, by rw [h4]; trivial⟩
  · obtain ⟨mA, ⟨od, es, ep, ho, _⟩, _⟩ := (show ObjOk X.prog X.w H s.heap dd (.xd fs) from I.hok dd _ h5)
    exact ⟨some od, ha, h2, hn, by rw [h4]; exact ho⟩
def rIsX (K : PySem.W.Frag) : List V → Hp → VK → Prop := fun xs H Q => ∃ (x c : V) (t u : Value) (b : Bool), xs = [x, c] ∧ (∀ v, RelV c v → v = u) ∧ PySem.W.kitOne K t u = some b ∧ Q (.bl b) H ∧
  (TyX K H x t ∨ ∃ a oe D, x = .ref a ∧ t = .ref D ∧ KeptE K H a D oe ∧ ∀ od, PySem.W.KitX K (.ref a) (.ref D) (fun h => PySem.W.InstAt h a oe D od))
theorem call_isX : CallR X (.builtin "isinstance") (rIsX X.K) := by
  intro pins s σ H xs us Q I r h
  obtain ⟨x, c, t, u, b, rfl, k, e, q, ty⟩ := h
  obtain ⟨u1, u2, rfl, r1, r2⟩ := vals2 r
  have e2 := k _ r2
  subst e2
  rcases ty with ty | ⟨a, oe, D, rfl, rfl, hk, hz⟩
  · obtain ⟨P, Z, p, hx⟩ := kit_of I r1 ty
    exact PySem.W.kia_one Z I.kIn p e hx fun tk => ⟨.bl b, H, I.tok tk, rfl, q⟩
  · cases (show u1 = Value.ref a from r1)
    obtain ⟨od, J⟩ := hk.inst I
    exact PySem.W.kia_one (hz od) I.kIn J e (fun z => nomatch z) fun tk => ⟨.bl b, H, I.tok tk, rfl, q⟩
/-- an exception class by its name -/
def excU (K : PySem.W.Frag) (t : Str) : Value := if t = "ValueError" then .type "ValueError" else .ref (He.ga K t)
def SCx (X : Cx) (T : Expr) (t : Str) : Prop := ∃ c : V, PE X T (tC c) ∧ ∀ v, RelV c v → v = excU X.K t
theorem scx_own {x : Str} {pos : Pos} (hg : Gl X x) (hm : X.mg x = some (.ref (He.ga X.K x))) (hd : (x == ("__debug__" : Str)) = false) (hv : x ≠ "ValueError") : SCx X (.Name x pos) x :=
  ⟨.ref (He.ga X.K x), pe_glob hg hm rfl hd, fun v h => by
    rw [excU, if_neg hv]
    exact h⟩
theorem kept_of {K : PySem.W.Frag} {F : Hp} {M : List Addr} {H : Hp} {c : Str} {vs : List D} {v : V} (sF : Same F H) (h : RVt K F M H (.exc c vs) v) : ∃ a oe, v = .ref a ∧ KeptE K H a (He.ga K c) oe := by
  rcases h with h | ⟨c, a, e, _⟩
  · cases h with
    | exc h1 h2 h3 h4 h5 => exact ⟨_, _, rfl, ⟨_, sF _ _ h1⟩, h2, h3, .inl h5⟩
    | excf h1 h2 h3 h4 h5 h6 h7 => exact ⟨_, _, rfl, ⟨_, sF _ _ h1⟩, h2, h3, .inr ⟨_, _, h5, sF _ _ h6⟩⟩
    | excm h1 h2 h3 h4 h5 h6 h7 => exact ⟨_, _, rfl, ⟨_, sF _ _ h1⟩, h2, h3.imp fun _ q => q.1, .inl h5⟩
  · cases c <;> cases e
variable {a T : Expr} {ia : E} {pos p : Pos} {t : Str}
theorem se_isx (E : ∀ c ∈ all, ExcF all X.K c) (ht : t = "ValueError" ∨ t ∈ all) (hg : Gl X "isinstance") (hm : X.mg "isinstance" = none) (he : starEach [a, T] X.env = (false, eval a X.env) :: starEach [T] X.env) (he2 : starEach [T] X.env = (false, eval T X.env) :: starEach [] X.env)
    (hpl : (backTo pos (starEach [T] X.env)).any (·.1) = false) (htr : TruE X (.Call (.Name "isinstance" p) [a, T] [] pos)) (ha : SEx X κ a ia) (hT : SCx X T t) : SEx X κ (.Call (.Name "isinstance" p) [a, T] [] pos) (.isx all t ia) := by
  obtain ⟨c, hT, hcv⟩ := hT
  have hp := pe_callB (pos := pos) (p := p) (X := X) call_isX hg hm (by decide +kernel) (pa_cons ha.o (pa_cons hT pa_nil he2) he) (by decide) (by decide) he hpl
  have rd : ∀ σ H (Q : VK) (B : Bool → Hp → Prop), (∀ k H', B k H' → Q (.bl k) H') → tTt X κ (fun σ s K x => asOp ia (w ia).v σ s (fun y σ s => optK (vres σ s y) fun y => optK (isxSem all t y) fun r => K r σ s) x) σ H B →
      tCB (rIsX X.K) (tCons (tOd X κ ia (w ia).v) (tCons (tC c) tNil)) σ H Q := fun σ H Q B hB ⟨F, M, P, σD, s, K, R, h, hK⟩ => by
    refine ⟨F, M, P, σD, s, _, R, h, fun x σ1 s1 F1 M1 H1 vx k1 sf1 e1 R1 ox => ?_⟩
    obtain ⟨d, hd, k1⟩ := optK_ex k1
    obtain ⟨b, hb, k1⟩ := optK_ex k1
    have fin := hB _ _ (hK _ _ _ F1 M1 H1 k1 sf1 e1 R1)
    have rt := R1.res ox hd
    by_cases hi : ∃ c vs, d = .exc c vs
    · obtain ⟨c', vs, rfl⟩ := hi
      simp only [isxSem] at hb
      split at hb <;> cases hb
      rename_i hc
      have hc' : c' ∈ all := by simpa using hc
      obtain ⟨a0, oe, rfl, hk⟩ := kept_of R1.sF rt
      refine ⟨_, c, .ref (He.ga X.K c'), excU X.K t, _, rfl, hcv, ?_, fin, .inr ⟨a0, oe, _, rfl, rfl, hk, fun od => (E c' hc').kx a0 oe od⟩⟩
      by_cases hv : t = "ValueError"
      · subst hv
        rw [excU, if_pos rfl, (E c' hc').ve]
        simp [isSub]
      · rw [excU, if_neg hv]
        exact (E t (ht.resolve_left hv)).kit c' hc'
    · have nt : ¬ ∃ ks vs, d = .tab ks vs := by
        rintro ⟨ks, vs, rfl⟩
        cases hb
      have h2 : (if (tyN d).isSome then some false else none) = some b := by
        cases d <;> first | exact hb | exact absurd ⟨_, _, rfl⟩ hi | exact absurd ⟨_, _, rfl⟩ nt
      split at h2 <;> cases h2
      rename_i hn
      obtain ⟨n, hn⟩ := Option.isSome_iff_exists.mp hn
      refine ⟨vx, c, .type n, excU X.K t, false, rfl, hcv, ?_, fin, .inl (tyx_ofX R1.sF rt hn nt)⟩
      by_cases hv : t = "ValueError"
      · subst hv
        rw [excU, if_pos rfl]
        cases d <;> simp only [tyN, Option.some.injEq] at hn <;> first
          | (subst hn; exact kit_ty (r := false) (by decide +kernel))
          | cases hn
      · rw [excU, if_neg hv]
        exact (E t (ht.resolve_left hv)).fro n (by cases d <;> simp only [tyN, Option.some.injEq] at hn <;> first | (subst hn; decide) | cases hn)
  refine sex_ofT (w.eq_35 all t ia) (fun _ _ _ _ _ => rfl) hp (ptImp (pt_val hp htr) fun σ H Q q => ?_) rd
  exact q
/-- e.f of a kept exception -/
theorem se_xfld {n : Str} (E : ∀ c ∈ all, ExcF all X.K c) (hb : attributeBase a n X.env (eval a X.env) = eval a X.env) (ha : SEx X κ a ia) : SEx X κ (.Attribute a n pos) (.xfld all ia n) := by
  have hp : PE X (.Attribute a n pos) (tE X κ (w (.xfld all ia n)).v) := by
    refine ⟨fun pins s σ H Q I h => ?_⟩
    rw [w.eq_36] at h
    dsimp only [dft] at h
    obtain ⟨F, M, P, σD, s0, K, R, h, hK⟩ := h
    refine attr_of hb (thn (ha.o.run pins s σ H (fun v H1 => ∃ (dd : Addr) (v' : V) (a0 : Addr) (oe : Obj) (C : Addr), v = .ref a0 ∧ KeptE X.K H1 a0 C oe ∧ oe.dict = some dd ∧ H1 dd = some (.xd [(n, v')]) ∧ XfC X.K C ∧ PySem.W.findIn X.K (.ref C) n = some none ∧ Q v' H1) I
      ⟨F, M, P, σD, s0, _, R, h, fun x σ1 s1 F1 M1 H1 vx k1 sf1 e1 R1 ox => ?_⟩) fun u s1 hh => ?_)
    · obtain ⟨d, hd, k1⟩ := optK_ex k1
      obtain ⟨r, hr, k2⟩ := optK_ex k1
      clear k1
      have rt := R1.res ox hd
      cases d <;> simp only [xfldSem] at hr <;> try (cases hr; done)
      rename_i c vs
      cases vs with
      | nil => cases hr
      | cons v0 vs =>
        cases vs with
        | cons _ _ => cases hr
        | nil =>
          simp only at hr
          split at hr <;> cases hr
          rename_i hcn
          simp only [Bool.and_eq_true, decide_eq_true_eq, List.contains_iff_mem] at hcn
          obtain ⟨hc, hf⟩ := hcn
          rcases rt with rt | ⟨c2, a2, e2, _⟩
          · cases rt with
            | excm h1 h2 h3 h4 h5 h6 h7 =>
              rw [hf] at h4
              cases h4
            | excf h1 h2 h3 h4 h5 h6 h7 =>
              rw [hf] at h4
              cases h4
              exact ⟨_, _, _, _, _, rfl, ⟨⟨_, R1.sF _ _ h1⟩, h2, h3, .inr ⟨_, _, h5, R1.sF _ _ h6⟩⟩, h5, R1.sF _ _ h6, (E c hc).xf, (E c hc).fd _ hf, hK _ _ _ F1 M1 H1 _ k2 sf1 e1 R1 h7⟩
          · cases c2 <;> cases e2
    · obtain ⟨v, H1, I1, r1, dd, v', a0, oe, C, rfl, hk, hdd, hxd, T, hno, q⟩ := hh
      cases (show u = Value.ref a0 from r1)
      obtain ⟨⟨w0, h1⟩, h2, ⟨fv, h3⟩, _⟩ := hk
      have ha0 := (I1.hok a0 _ h1).1
      obtain ⟨mA, hns, hr⟩ := (show ObjOk X.prog X.w H1 s1.heap dd (.xd [(n, v')]) from I1.hok dd _ hxd)
      obtain ⟨od, ho, hl⟩ := lookIn_ns hns
      obtain ⟨u, hu, ru⟩ := RelO.some_of (v := v') (o := mA n) (by
        have z := hr n
        simp only [List.lookup, beq_self_eq_true] at z
        exact z)
      have J : PySem.W.InstAt s1.heap a0 oe C (some od) := ⟨ha0, h2, by unfold PySem.W.notCls; rw [h3] <;> rfl, by rw [hdd]; exact ho⟩
      exact HandSPX.exc_get I1.kIn J T.ga T.gg T.exC (PySem.W.findObj_own T.hdC hno rfl (by rw [hl, hu])) (handed_of ru) ⟨v', H1, I1.tok _, ru, q⟩
  refine sex_dft (w.eq_36 all ia n) (fun _ _ _ _ _ => rfl) (fun _ => rfl) hp fun σ H Q h => ?_
  rw [w.eq_36]
  exact h
end
/-! ### try -/
section
variable {X : Cx} {J : St → Prop} {all : List Str} {x : Str} {body suite : List Stmt} {b₀ : Stmt} {ib ih : Ss} {np pos pos' : Pos} {k : Nat}
theorem Rel.rebase {K : PySem.W.Frag} {β' : Bs} {F : Hp} {M : List Addr} {P : Hp} {σD : Slots} {s : Store} {σ : St} {H : Hp} (R : Rel K β F M P σD s σ H) (z : β'.Le F M P) : Rel K β' F M P σD s σ H := ⟨z, R.tb, R.sF, R.sP, R.mlen, R.mem, R.nd, R.fp, R.slen, R.slot, R.dist⟩
theorem Bs.Le.on {F F' : Hp} {M M' : List Addr} {P P' : Hp} (h : β.Le F M P) (h' : Bs.Le ⟨F, M, P⟩ F' M' P') : β.Le F' M' P' := ⟨h.f.trans h'.f, h.m.trans h'.m, h.p.trans h'.p⟩
/-- the wish W is told by κ' -/
def PkW (K : PySem.W.Frag) (W : WX) (κ' : Pk) : Prop := ∀ (e : Exc) (σD : Slots) (s : Store) (F : Hp) (M : List Addr) (P : Hp) (σ : St) (H : Hp) (cls : Value) (d : Option Addr), κ'.qx e σD s → Rel K κ'.b F M P σD s σ H → ExcR K F M e cls d → W cls d σ H
theorem EndsR.wish {F : Hp} {M : List Addr} {P : Hp} {Pt : Post} {D : Ends} {F0 : Hp} {M0 : List Addr} {P0 : Hp} {q : QX} (hE : EndsR X κ J F M P Pt D) (z : κ.b.Le F0 M0 P0) : EndsR X ⟨⟨F0, M0, P0⟩, q⟩ J F M P { Pt with ex := q } D :=
  ⟨fun a b c d e f k l m n o => hE.nx a b c d e f k l m n (o.rebase (z.on o.z)), fun a b c d e f k l m n o => hE.bk a b c d e f k l m n (o.rebase (z.on o.z)), fun a b c d e f k l m n o => hE.ct a b c d e f k l m n (o.rebase (z.on o.z)),
    fun a b c d e f g v k l m n o => hE.rt a b c d e f g v k l m (n.rebase (z.on n.z)) o, rfl⟩
end
end HP

set_option maxHeartbeats 2000000
/-! HpTryN: try: body / except x as n: suite, where the suite asks of n. -/
namespace HP
open PySem L2
variable [LamT] {β : Bs} {κ : Pk}
section
variable {X : Cx} {J : St → Prop} {all : List Str} {x : Str} {body suite : List Stmt} {b₀ : Stmt} {ib ih : Ss} {np pos pos' : Pos} {k : Nat}
theorem EndsR.gone {F : Hp} {M : List Addr} {P : Hp} {Pt : Post} {D : Ends} (n : Nat) (hJ : ∀ σ, J σ) (hE : EndsR X κ J F M P Pt D) :
    EndsR X κ.no J F M P { nx := fun σ s => Pt.nx (σ.set n .unb) s, bk := fun σ s => Pt.bk (σ.set n .unb) s, ct := fun σ s => Pt.ct (σ.set n .unb) s, rt := Pt.rt, ex := noX } (goneD n D) :=
  ⟨fun _ _ _ _ _ _ k l m _ o => hE.nx _ _ _ _ _ _ k l m (hJ _) (o.wipe1 n), fun _ _ _ _ _ _ k l m _ o => hE.bk _ _ _ _ _ _ k l m (hJ _) (o.wipe1 n), fun _ _ _ _ _ _ k l m _ o => hE.ct _ _ _ _ _ _ k l m (hJ _) (o.wipe1 n), hE.rt, rfl⟩
end
end HP

set_option maxHeartbeats 2000000
/-! HpSupF: what the head tells of an exception class with an own __init__. -/
namespace HP
open PySem L2

abbrev supScope (f : Str) : Scope := { kind := .function, names := [("self", .local), (f, .local), ("__class__", .free), ("super", .globalImplicit)], isGenerator := false, isCoroutine := false, more := [] }
abbrev supArgs (f : Str) (q1 q2 : Pos) : Arguments := { posonlyargs := [], args := [{ arg := "self", annotation := none, pos := q1 }, { arg := f, annotation := none, pos := q2 }], vararg := none, kwonlyargs := [], kw_defaults := [], kwarg := none, defaults := [] }
theorem supEv {f : Str} (hf : f = "part" ∨ f = "at" ∨ f = "name" ∨ f = "line") (qual : Str) (q1 q2 p0 p1 p2 p3 p4 p5 p6 p7 p8 p9 : Pos) (hp : (p2.endLine == p4.line) = true) (kV doc pm cdv ct : Value) (an : Option Addr) (cc L fI : Addr) :
    SupEv f p0 p1 p2 p3 p4 (callEnv (PySem.W.ksFn "__init__" qual (supArgs f q1 q2) (supBody f p0 p1 p2 p3 p4 p5 p6 p7 p8 p9) (supScope f) .none kV doc pm an cdv ct cc) L fI) ∧
    swapsWith (.Name f p8) (some (.Attribute (.Name "self" p6) f p7)) p9.line (callEnv (PySem.W.ksFn "__init__" qual (supArgs f q1 q2) (supBody f p0 p1 p2 p3 p4 p5 p6 p7 p8 p9) (supScope f) .none kV doc pm an cdv ct cc) L fI) = pure false ∧
    swapsWith (supCall f p0 p1 p2 p3 p4) none p5.line (callEnv (PySem.W.ksFn "__init__" qual (supArgs f q1 q2) (supBody f p0 p1 p2 p3 p4 p5 p6 p7 p8 p9) (supScope f) .none kV doc pm an cdv ct cc) L fI) = pure false := by
  refine ⟨⟨do return (← importBound (.Call (.Name "super" p0) [] [] p1) (callEnv (PySem.W.ksFn "__init__" qual (supArgs f q1 q2) (supBody f p0 p1 p2 p3 p4 p5 p6 p7 p8 p9) (supScope f) .none kV doc pm an cdv ct cc) L fI)).getD true, ?_⟩, ?_, ?_⟩
  · rw [PySem.arm_eval_Call]
    unfold methodCall methodCallPos
    rw [hp]
    rcases hf with rfl | rfl | rfl | rfl <;> rfl
  · rcases hf with rfl | rfl | rfl | rfl <;> rfl
  · rcases hf with rfl | rfl | rfl | rfl <;> rfl
theorem supBind (k : Bool) {f : Str} (hf : f = "part" ∨ f = "at" ∨ f = "name" ∨ f = "line") (qual : Str) (q1 q2 : Pos) (body : List Stmt) (kV doc pm cdv ct : Value) (an : Option Addr) (cc : Addr) (e v : Value) :
    bindArgs (PySem.W.ksFn "__init__" qual (supArgs f q1 q2) body (supScope f) .none kV doc pm an cdv ct cc) (argsK k f e v) = pure [(("self" : Str), e), (f, v)] := by
  cases k <;> rcases hf with rfl | rfl | rfl | rfl <;> rfl
theorem supC_of {P : Program} {K : PySem.W.Frag} {c f qual : Str} {params : Arguments} {body : List Stmt} {scope : Scope} (hf : f = "part" ∨ f = "at" ∨ f = "name" ∨ f = "line") (hB : supB P.main.file c f K = true) (htop : (P.main.scope.names.lookup ("super" : Str)).isSome = false)
    (hfn : ∃ (oc kV doc pm cdv ct : Value) (od an : Option Addr) (osl : Array (Option Value)) (cc : Addr),
      K.lookup (He.ma K (He.ga K c) "__init__") = some ⟨oc, od, .func (PySem.W.ksFn "__init__" qual params body scope .none kV doc pm an cdv ct cc), osl⟩ ∧ PySem.W.codeIn K cdv qual = true)
    (hp : ∃ q1 q2, params = supArgs f q1 q2) (hs : scope = supScope f) (hb : ∃ p0 p1 p2 p3 p4 p5 p6 p7 p8 p9, body = supBody f p0 p1 p2 p3 p4 p5 p6 p7 p8 p9 ∧ (p2.endLine == p4.line) = true) : SupC P K (He.ga K c) f := by
  obtain ⟨oc, kV, doc, pm, cdv, ct, od, an, osl, cc, lk, hcd⟩ := hfn
  obtain ⟨q1, q2, rfl⟩ := hp
  obtain ⟨p0, p1, p2, p3, p4, p5, p6, p7, p8, p9, rfl, hpe⟩ := hb
  subst hs
  unfold supB at hB
  rw [lk] at hB
  simp only [Bool.and_eq_true] at hB
  obtain ⟨⟨⟨⟨⟨⟨⟨⟨⟨⟨⟨⟨b1, b2, b3⟩, b4⟩, b5⟩, b6⟩, b7⟩, b8⟩, b9⟩, b10⟩, b11⟩, b12⟩, b13⟩, b14⟩ := hB
  refine ⟨⟨?_, He.eqO_ok b4, of_decide_eq_true b5, of_decide_eq_true b6, b7⟩, He.eqO_ok b8, He.eqO_ok b9, He.eqO_ok b10, of_decide_eq_true b11, of_decide_eq_true b12, htop, ?_⟩
  · split at b1
    · rename_i dd cd sl ho
      split at b1
      · rename_i C' bm k0 k1 k2 k3 n k5 hm hs
        simp only [Bool.and_eq_true, beq_iff_eq, Bool.not_eq_true'] at b1
        obtain ⟨⟨⟨⟨rfl, rfl⟩, hdel⟩, hdict⟩, hve⟩ := b1
        obtain ⟨nm, bs, mro, ns, qn, hd, sn, sub, ab, col, del⟩ := cd
        dsimp only at hm hdel hdict
        subst hm hdel hdict
        have hsl : sl = #[k0, k1, k2, k3, some (.builtin "ValueError.__new__"), k5] := by
          obtain ⟨l⟩ := sl
          simp only at hs
          rw [hs]
        subst hsl
        exact ⟨nm, qn, ns, bs, bm, sn, sub, ab, col, dd, k0, k1, k2, k3, k5, ho, hve⟩
      · cases b1
    · cases b1
  · cases cdv <;> try (cases b2; done)
    rename_i cda
    dsimp only at b2 b3
    split at b2
    · rename_i u1 u2 vs u3 hv
      split at b2
      · rename_i fl tf hfl
        split at b3
        · rename_i u6 u7 D u8 hD
          have hDe : D = He.ga K c := beq_iff_eq.mp b3
          subst hDe
          refine ⟨_, cda, cc, qual, supArgs f q1 q2, p0, p1, p2, p3, p4, p5, p6, p7, p8, p9, supScope f, .none, kV, doc, pm, ct, oc, _, _, an, od, _, _, osl, _, _, vs, fl, tf, He.eqO_ok b13, of_decide_eq_true b14, lk, hcd, hv, hfl, b2, hD, rfl, ?_, ?_, ?_, fun L => (supEv hf qual q1 q2 p0 p1 p2 p3 p4 p5 p6 p7 p8 p9 hpe kV doc pm _ ct an cc L _).1,
            fun L => (supEv hf qual q1 q2 p0 p1 p2 p3 p4 p5 p6 p7 p8 p9 hpe kV doc pm _ ct an cc L _).2.1, fun L => (supEv hf qual q1 q2 p0 p1 p2 p3 p4 p5 p6 p7 p8 p9 hpe kV doc pm _ ct an cc L _).2.2, fun k s e v => .of_eq (supBind k hf qual q1 q2 _ kV doc pm _ ct an cc e v)⟩
          · rcases hf with rfl | rfl | rfl | rfl <;> exact ⟨rfl, rfl, rfl, rfl, rfl, rfl, rfl, by decide⟩
          · rcases hf with rfl | rfl | rfl | rfl <;> rfl
          · rcases hf with rfl | rfl | rfl | rfl <;> rfl
        · cases b3
      · cases b2
    · cases b2
theorem exm_mem {all : List Str} {x : Str} (h : all.contains x = true) : x ∈ all := by simpa using h
section
variable [LamT] {X : Cx} {J : St → Prop} {k : Nat} {pos p1 p2 p3 : Pos}
theorem scx_ve (hg : Gl X "ValueError") (hm : X.mg "ValueError" = none) : SCx X (.Name "ValueError" pos) "ValueError" :=
  ⟨.ty "ValueError", pe_bltn hg hm (by decide +kernel) rfl (by decide) (by decide), fun v h => by
    rw [excU, if_pos rfl]
    exact h⟩
theorem Good.tr (g : Good X k) (pn : List (Addr × Obj)) (xe : Value → Shared → Prop) : Good (X.tr pn xe) k := ⟨g.room, g.still, g.calm, g.nd⟩
end
end HP

set_option maxHeartbeats 2000000
/-! HpLam: lambdas without parameters: handed to a def, called there, handed on. -/
namespace HP
open PySem L2
open LamX (CodeO TabB LamS lamEnv lamCx)
open PyProof.Rows (envOfC)
variable [LamT] {β : Bs} {κ : Pk}

/-! ### slots that are frozen, slots that are shown -/
theorem frzS_get (ks : List Nat) : ∀ (σ : Slots) (j i : Nat), (frzS ks j σ)[i]? = (σ[i]?).map fun sl => if ks.contains (j + i) then sl.froze else sl
  | [], j, i => by simp [frzS]
  | sl :: σ, j, 0 => by simp [frzS]
  | sl :: σ, j, i + 1 => by
    simp only [frzS, List.getElem?_cons_succ]
    rw [frzS_get ks σ (j + 1) i, show j + 1 + i = j + (i + 1) by omega]
section
variable {K : PySem.W.Frag} {F F' : Hp} {M M' : List Addr} {P P' : Hp} {σD : Slots} {s s' : Store} {σ : St} {H H' : Hp}
theorem Rel.frzN (R : Rel K β F M P σD s σ H) (ks : List Nat) : ∀ n : Nat, ∃ F' σ', Same F F' ∧ Rel K β F' M P σ' s σ H ∧ ∀ i : Nat, σ'[i]? = (σD[i]?).map fun sl => if (ks.contains i && decide (i < n)) = true then sl.froze else sl
  | 0 => ⟨F, σD, .refl F, R, fun i => by simp⟩
  | n + 1 => by
    obtain ⟨F', σ', sf, R', h⟩ := Rel.frzN R ks n
    have hn : σ'[n]? = σD[n]? := by
      rw [h n]
      cases σD[n]? <;> simp
    by_cases hk : ks.contains n = true
    · by_cases ho : ∃ c, σ'[n]? = some (.own c)
      · obtain ⟨c, ho⟩ := ho
        obtain ⟨F2, a, sf2, ha, R2, rv⟩ := R'.freezeSlot ho
        refine ⟨F2, _, sf.trans sf2, R2, fun i => ?_⟩
        by_cases hi : i = n
        · subst hi
          rw [List.getElem?_set_self', ho, ← hn, ho]
          show some _ = some (if (ks.contains i && decide (i < i + 1)) = true then _ else _)
          rw [hk, if_pos (by simp)]
          rfl
        · rw [List.getElem?_set_ne (Ne.symm hi), h i]
          have e : decide (i < n) = decide (i < n + 1) := by
            rw [decide_eq_decide]
            omega
          rw [e]
      · refine ⟨F', σ', sf, R', fun i => ?_⟩
        by_cases hi : i = n
        · subst hi
          rw [hn] at ho ⊢
          cases hs : σD[i]? with
          | none => rfl
          | some sl =>
            cases sl with
            | own c => exact absurd ⟨c, hs⟩ ho
            | unb => simp [Slot.froze]
            | val d => simp [Slot.froze]
        · rw [h i]
          have e : decide (i < n) = decide (i < n + 1) := by
            rw [decide_eq_decide]
            omega
          rw [e]
    · refine ⟨F', σ', sf, R', fun i => ?_⟩
      by_cases hi : i = n
      · subst hi
        rw [hn]
        have hk' : ks.contains i = false := by simpa using hk
        cases σD[i]? with
        | none => rfl
        | some y =>
          show some _ = some (if (ks.contains i && decide (i < i + 1)) = true then _ else _)
          rw [hk', if_neg (by simp)]
      · rw [h i]
        have e : decide (i < n) = decide (i < n + 1) := by
          rw [decide_eq_decide]
          omega
        rw [e]
theorem Rel.frzS (R : Rel K β F M P σD s σ H) (ks : List Nat) : ∃ F', Same F F' ∧ Rel K β F' M P (frzS ks 0 σD) s σ H := by
  obtain ⟨F', σ', sf, R', h⟩ := R.frzN ks σD.length
  refine ⟨F', sf, ?_⟩
  have e : σ' = HP.frzS ks 0 σD := List.ext_getElem? fun i => by
    rw [h i, frzS_get]
    by_cases hi : i < σD.length
    · simp [hi]
    · rw [List.getElem?_eq_none (by omega)]
      rfl
  rw [← e]
  exact R'
end

/-! ### the lambda is made -/
section
variable {X : Cx} {pins : List (Addr × Obj)} {σ : St} {H : Hp} {s : Shared}
/-- the table's state behind the making -/
def MadeH (F : Hp) (H : Hp) (Pt c' : Addr) (q : Str) (H1 : Hp) : Prop := (H1 = H ∧ F c' = some (CodeO c' q)) ∨ ∃ ps more : Array Value, H Pt = some (.tbl ps) ∧ H c' = none ∧ H1 = upd (upd H Pt (.tbl (ps ++ more))) c' (CodeO c' q) ∧ TriplesOk (ps ++ more).toList ∧
  ∀ (pos : Pos) (cv : Value), codeAmong pos (ps ++ more).toList = some cv → codeAmong pos ps.toList = some cv ∨ cv = .ref c'
end
/-! ### what is known of a lambda that was handed on -/
/-- what is wanted behind a call -/
def Posts (K : PySem.W.Frag) (F : Hp) (M : List Addr) (P : Hp) (Kq : Out → Store → Prop) (Zq : Exc → Store → Prop) (Q : VK) (Z : XK) : Prop :=
  (∀ o s' F' M' H' v, Kq o s' → Same F F' → Ext M M' → Rel K ⟨F, M, P⟩ F' M' P [] s' [] H' → OutR K F' M' P [] [] H' o v → Q v H') ∧
  ∀ e s' F' M' H' cls d, Zq e s' → Same F F' → Ext M M' → Rel K ⟨F, M, P⟩ F' M' P [] s' [] H' → ExcR K F' M' e cls d → Z cls d H'
structure Acts (P : Program) (w : World) (K : PySem.W.Frag) (mg : Str → Option Value) (base : Heap) (k : Nat) (fr : List Addr) (H0 : Hp) (h0 : Heap) (F0 : Hp) (M0 : List Addr) (a : Addr) (q : Fn) : Prop where
  at_ : ∀ (G : Hp) (h : Heap), Un fr [] H0 G h0 h → HOk P w G h → PySem.W.FnAt a h
  run : ∀ (A : Around) (outer : List Env) (z : Shared) (G : Hp) (F : Hp) (M : List Addr) (Pz : Hp) (s : Store) (Kq : Out → Store → Prop) (Zq : Exc → Store → Prop) (Q : VK) (Z : XK), Room k A → Still A → Env0 P w K mg base A outer z G → Un fr [] H0 G h0 z.heap →
    Same F0 F → Ext M0 M → Rel K ⟨F, M, Pz⟩ F M Pz [] s [] G → q [] s Kq Zq → Posts K F M Pz Kq Zq Q Z → codeAny (model P w) A (.call (.ref a) ⟨[], []⟩) (L2.CR (L2.CX P w) outer P w G z Q Z) z
/-- in a def's body -/
abbrev ActX (X : Cx) (κ : Pk) (k : Nat) (a : Addr) (q : Fn) : Prop := Acts X.prog X.w X.K X.mg X.base k (frs X.outer) X.H_0 X.s_0.heap κ.b.F0 κ.b.M0 a q
theorem ActX.to {X : Cx} {κ κ' : Pk} {k : Nat} {a : Addr} {q : Fn} (A : ActX X κ k a q) (z : κ.b.Le κ'.b.F0 κ'.b.M0 κ'.b.P0) (pn : List (Addr × Obj)) (xe : Value → Shared → Prop) : ActX (X.tr pn xe) κ' k a q :=
  ⟨A.at_, fun A' outer s G F M Pz st Kq Zq Q Z r h e0 u sf ex R hq hP => A.run A' outer s G F M Pz st Kq Zq Q Z r h e0 u (z.f.trans sf) (z.m.trans ex) R hq hP⟩
theorem Un.nest {fr : List Addr} {L : Addr} {H0 H1 H2 : Hp} {h0 h1 h2 : Heap} (u : Un fr [] H0 H1 h0 h1) (v : Un (L :: fr) [] H1 H2 h1 h2) (hL : h0.get? L = none) : Un fr [] H0 H2 h0 h2 where
  keep := fun b o e n h1' h2' => v.keep b o (u.keep b o e n h1' h2') (u.free b o e n h2') (fun z => by
    rcases List.mem_cons.mp z with rfl | z
    · rw [hL] at e; cases e
    · exact h1' z) h2'
  slot := fun b o e n hb hx => by
    obtain ⟨sl, q⟩ := u.slot b o e n hb hx
    obtain ⟨sl2, q2⟩ := v.slot b _ q (u.free b o e n hx) (List.mem_cons_of_mem _ hb) hx
    exact ⟨sl2, q2⟩
  free := fun b o e n hx => by
    obtain ⟨sl, q⟩ := u.any e n hx
    exact v.free b _ q (u.free b o e n hx) hx
  there := fun b o e hx => by
    obtain ⟨o', q⟩ := u.there b o e hx
    exact v.there b o' q hx
  tups := fun b xs e => v.tups b xs (u.tups b xs e)
  frzs := fun b o w e => v.frzs b o w (u.frzs b o w e)
  tbls := fun b ps e => by
    obtain ⟨m, q⟩ := u.tbls b ps e
    obtain ⟨m2, q2⟩ := v.tbls b _ q
    exact ⟨m ++ m2, by rw [q2, Array.append_assoc]⟩
section
variable {X : Cx} {pins : List (Addr × Obj)} {σ : St} {H : Hp} {s : Shared} {k kt kb i : Nat} {a f : Addr} {q : Fn} {g : Addr → Fn → Fn} {fd : FuncData} {x y p : Str} {p0 p1 p2 pos lpos : Pos}
theorem base_un (hex : X.ex = []) (I : Inv X pins σ H s) : Un (frs X.outer) [] X.H_0 H X.s_0.heap s.heap := by
  have := I.base
  rw [hex] at this
  exact this
theorem Acts.at {F0 : Hp} {M0 : List Addr} (A : Acts X.prog X.w X.K X.mg X.base k (frs X.outer) X.H_0 X.s_0.heap F0 M0 a q) (hex : X.ex = []) (I : Inv X pins σ H s) : PySem.W.FnAt a s.heap := A.at_ _ _ (base_un hex I) I.hok
/-- handed on to a callee -/
theorem Acts.on {F0 F1 : Hp} {M0 M1 : List Addr} (A : Acts X.prog X.w X.K X.mg X.base k (frs X.outer) X.H_0 X.s_0.heap F0 M0 a q) (hex : X.ex = []) (hs : X.stack = X.env :: X.outer) (hf : X.env.frame = some X.env.locals) (I : Inv X pins σ H s) (sf : Same F0 F1) (ex : Ext M0 M1) :
    Acts X.prog X.w X.K X.mg X.base k (frs X.stack) H s.heap F1 M1 a q := by
  have un := base_un hex I
  have fE : frs X.stack = X.env.locals :: frs X.outer := by
    rw [hs]
    unfold frs
    rw [List.filterMap_cons, hf]
  have hL : X.s_0.heap.get? X.env.locals = none := by
    cases e : X.s_0.heap.get? X.env.locals with
    | none => rfl
    | some o => exact absurd (Heap.lt_size e) (Nat.not_lt.mpr I.ok.above)
  refine ⟨fun G h u hk => ?_, fun A' outer z G F M Pz s Kq Zq Q Z r st e0 u sf' ex' R h hP => ?_⟩
  · rw [fE] at u
    exact A.at_ G h (Un.nest un u hL) hk
  · rw [fE] at u
    exact A.run A' outer z G F M Pz s Kq Zq Q Z r st e0 (Un.nest un u hL) (sf.trans sf') (ex.trans ex') R h hP
/-- a def that takes such a lambda: its promise -/
structure OkT (P : Program) (w : World) (K : PySem.W.Frag) (mg : Str → Option Value) (base : Heap) (k kt : Nat) (f : Addr) (fd : FuncData) (p : Str) (g : Addr → Fn → Fn) : Prop where
  go : ∀ (B : Around) (out : List Env) (z : Shared) (G : Hp) (args : Args) (a : Addr) (q : Fn) (F : Hp) (M : List Addr) (Pz : Hp) (s : Store) (Kq : Out → Store → Prop) (Zq : Exc → Store → Prop) (Q : VK) (Z : XK), Room k B → Still B → Env0 P w K mg base B out z G →
    BindsTo z fd args [(p, .ref a)] → Rel K ⟨F, M, Pz⟩ F M Pz [] s [] G → Acts P w K mg base kt (frs out) G z.heap F M a q → g a q [.lam a] s Kq Zq → Posts K F M Pz Kq Zq Q Z → codeAny (model P w) B (.call (.ref f) args) (L2.CR (L2.CX P w) out P w G z Q Z) z
theorem OkT.mono {P : Program} {w : World} {K : PySem.W.Frag} {mg : Str → Option Value} {base : Heap} {j : Nat} (C : OkT P w K mg base j kt f fd p g) (h : j ≤ k) : OkT P w K mg base k kt f fd p g :=
  ⟨fun B out z G args a q F M Pz s Kq Zq Q Z r => C.go B out z G args a q F M Pz s Kq Zq Q Z (r.mono h)⟩
/-- what is known of a lambda of this text -/
structure LamOk (X : Cx) (κ : Pk) (j : Nat) (params : Arguments) (body : Expr) (scope : Scope) (e : E) : Prop where
  L : LamS X.env.scope scope
  hdef : defaultsOf params X.env = ([], [])
  bind : ∀ (q : Str) (cl : List (Str × Addr)) (pm cv ctv : Value), bindArgs (PySem.W.kla_fn "<lambda>" q params body scope cl pm cv ctv) ⟨[], []⟩ = pure []
  body : ∀ (A : Around) (outer : List Env) (z : Shared) (G : Hp) (Z : XK) (f c' : Addr) (κ' : Pk) [PkOk (lamCx X A outer z G Z scope f c') κ'], Room j (A.deeper (lamEnv X scope z.heap.objs.size f c')) → Still A → SEx (lamCx X A outer z G Z scope f c') κ' body e
/-- the maker's code object and its table -/
structure LamA (X : Cx) (c Pt : Addr) : Prop where
  tb : TabB X.base X.mg c Pt
  code : X.env.code = .ref c
  mem : (Pt, X.env.qual ++ "<lambda>") ∈ LamT.T X.K
  uq : ∀ p ∈ LamT.T X.K, p.1 = Pt → p.2 = X.env.qual ++ "<lambda>"
/-! ### lambdas that are kept -/
/-- the lambdas of a def -/
inductive LamsOk (X : Cx) (κ : Pk) (k : Nat) : List LamSyn → Es → Prop
  | nil : LamsOk X κ k [] .nil
  | cons {y : LamSyn} {ys : List LamSyn} {e : E} {es : Es} : y.q = X.env.qual ++ "<lambda>" → LamOk X κ k y.params y.body y.scope e → LamsOk X κ k ys es → LamsOk X κ k (y :: ys) (.cons e es)
theorem LamsOk.get {ys : List LamSyn} {es : Es} {y : LamSyn} : ∀ {j : Nat}, LamsOk X κ k ys es → ys[j]? = some y → ∃ e, y.q = X.env.qual ++ "<lambda>" ∧ LamOk X κ k y.params y.body y.scope e ∧ wN es j = (w e).v
  | 0, .cons q o _, h => by
    simp at h
    subst h
    exact ⟨_, q, o, by rw [wN]⟩
  | j + 1, .cons _ _ r, h => by
    obtain ⟨e, q, o, z⟩ := LamsOk.get r (by simpa using h)
    exact ⟨e, q, o, by rw [wN]; exact z⟩
  | _, .nil, h => by simp at h
end
end HP

set_option maxHeartbeats 2000000
/-! HpGenL: the rules of lambdas as the generator names them. -/
namespace HP
open PySem L2
open LamX (TabB LamS lamEnv lamCx)
open PyProof.Rows (envOfC)
variable [LamT] {β : Bs} {κ : Pk}

/-- the code object of the function at f -/
def codeAt (K : PySem.W.Frag) (f : Addr) : Addr := match K.lookup f with
  | some (Obj.mk _ _ (.func fd) _) => (match fd.code with
    | .ref c => c
    | _ => 0)
  | _ => 0
/-- a maker of lambdas: its code object, its table, the lambdas' name -/
abbrev lamAt (K : PySem.W.Frag) (f : Addr) (q : Str) : Addr × Addr × Str := (codeAt K f, He.tabOf K (codeAt K f), (q ++ (".<locals>." : Str)) ++ "<lambda>")
section
variable {P : Program} {w : World} {K : PySem.W.Frag} {mg : Str → Option Value} {base : Heap} {k kt : Nat} {f : Addr} {x qual p : Str} {st : Stmt} {N ps : List Str}
/-- a def that takes a lambda, and its promise -/
structure OkTG (P : Program) (w : World) (K : PySem.W.Frag) (mg : Str → Option Value) (base : Heap) (k kt : Nat) (f : Addr) (p : Str) (g : Addr → Fn → Fn) : Prop where
  ex : ∃ fd, OkT P w K mg base k kt f fd p g ∧ Binds K fd [p] []
  kp : PySem.W.keepIn K (.ref f) = true
end
section
variable {X : Cx} {k j kt i : Nat} {a f c Pt : Addr} {q : Fn} {g : Addr → Fn → Fn} {x y p : Str} {p0 p1 p2 pos lpos : Pos} {params : Arguments} {body : Expr} {scope : Scope} {e : E} {ks : List Nat}
theorem Good.lam (g : Good X k) {A : Around} {out : List Env} {z : Shared} {G : Hp} {Z : XK} {f c' : Addr} (r : Room j (A.deeper (lamEnv X scope z.heap.objs.size f c'))) (s : Still A) : Good (lamCx X A out z G Z scope f c') j := ⟨r, s, rfl, g.nd⟩
theorem LamA.tr (h : LamA X c Pt) (pn : List (Addr × Obj)) (xe : Value → Shared → Prop) : LamA (X.tr pn xe) c Pt := ⟨h.tb, h.code, h.mem, h.uq⟩
end
end HP

set_option maxHeartbeats 2000000
/-! HpLcA: kept lambdas called within a comprehension. -/
namespace HP
open PySem L2 PySem.Spec
open PyProof.Rows hiding St
variable [LamT] {β : Bs} {κ : Pk}
/-- what is known where a block begins: the def's own state -/
def BlkI (X : Cx) (pins : List (Addr × Obj)) (σ : St) (s : Shared) (H : Hp) (fp : List Addr) : Prop := Inv X pins σ H s ∧ ∀ b ∈ fp, FpOk X pins H b ∧ b < s.heap.objs.size
section
variable {X : Cx} {pins : List (Addr × Obj)} {σ : St} {H : Hp} {s : Shared}
end
/-- what is known of the lambdas that the def around keeps, in a block of it -/
def CloActs (X : Cx) (β : Bs) (k : Nat) (L : List (Str × Addr)) (ys : List LamSyn) (q : Nat → Fn) : Prop :=
  ∀ (pins : List (Addr × Obj)) (s : Shared) (σ : St) (H F : Hp) (M : List Addr) (P : Hp) (σD : Slots) (s0 : Store) (a0 : Addr) (o : Obj) (u : HO) (i : Nat) (yy : LamSyn), Inv X pins σ H s → Rel X.K β F M P σD s0 σ H → F a0 = some (.frz o u) → CloO F L yy o → ys[i]? = some yy →
    Acts X.prog X.w X.K X.mg X.base k (frs X.stack) H s.heap F M a0 (q i)
section
variable {X : Cx} {pins : List (Addr × Obj)} {σ : St} {H : Hp} {s : Shared} {k kt i : Nat} {a f : Addr} {g : Addr → Fn → Fn} {fd : FuncData} {x y p : Str} {p0 p1 p2 pos lpos : Pos}
/-- the i-th of these, in these names -/
abbrev thkF (es : Es) (τ : Slots) (i : Nat) : Fn := fun _ s Q Z => wN es i τ s (fun o _ s => Q o s) (fun x _ s => Z x s)
end
end HP

set_option maxHeartbeats 2000000
/-! HpLcR: list comprehensions over a name that may stand for a list of the store; each turn asks that this list is as it was. -/
namespace HP
open PySem L2
variable [LamT] {β : Bs} {κ : Pk}
/-- the iterator hands out the items, where what d stands for is xs -/
def ItV (K : PySem.W.Frag) (J : L2.It) (F : Hp) (M : List Addr) (d : D) (xs : List D) : Prop := ∀ (β : Bs) F' M' P σD s σ H, Same F F' → Ext M M' → Rel K β F' M' P σD s σ H → walkOf (view s d) = some xs → ∀ i : Nat,
  (∀ d, xs[i]? = some d → J.go i H ∧ ∀ x H', J.yld i H x H' → ∃ F'', Same F' F'' ∧ Rel K β F'' M' P σD s σ H' ∧ RVb false K F'' M' d x) ∧ (xs[i]? = none → J.stop i H)
def tIv (X : Cx) (κ : Pk) (a : E) : TI := fun σ H R => ∃ F M P σD s Kt, Rel X.K κ.b F M P σD s σ H ∧ asOp a (w a).v σD s Kt κ.qx ∧
  ∀ x σ2 s2 F2 M2 H2, Kt x σ2 s2 → Same F F2 → Ext M M2 → Rel X.K κ.b F2 M2 P σ2 s2 σ H2 → ∃ d xs, x = .val d ∧ walkOf (view s2 d) = some xs ∧ ∀ J, ItV X.K J F2 M2 d xs → R J H2
section
variable {X : Cx} {J : St → Prop} {F F' : Hp} {M M' : List Addr} {P : Hp} {a b c tg iter elt : Expr} {ie ia ib ic : E} {pos : Pos} {es : List Expr} {is : Es} {t : Tg}
/-- a turn -/
def lcFr (d : D) (zs : List D) (t : Tg) (is : Es) (ie : E) (vs : List Nat) : D → Acc → Slots → Store → (Acc → Slots → Store → Prop) → Prop := fun x a σ s k => walkOf (view s d) = some zs ∧ lcF t is ie vs x a σ s k
end
end HP

set_option maxHeartbeats 2000000
/-! HpVals: list(d.values()) of dicts whose keys are nested tuples. -/
namespace HP
open PySem L2 PySem.Spec
open PyProof.Rows hiding St
variable [LamT] {β : Bs} {κ : Pk}
section
variable {X : Cx} {o : Expr} {io : E} {p apos cpos pos : Pos} {to : TE}
/-- what a dict's values are -/
def ValsAt (H : Hp) (a : Addr) (ws : List V) : Prop := (∃ xs ob, H a = some (tabO a xs ob) ∧ ws = xs.map fun x => x.2.2) ∨ ∃ kvs : List (Key × V), H a = some (.dK kvs) ∧ ws = kvs.map (·.2)
end
end HP

set_option maxHeartbeats 4000000
/-! HpSetD: sorted({..}), a display of ints. -/
namespace HP
open PySem L2
open PyProof.Rows (envOfC)
variable [LamT] {β : Bs} {κ : Pk}
/-- the set of ints at a, as a tracked thing -/
def IntSetO (w : World) (a : Addr) (S : Int → Bool) (n : Nat) : HO := .ext fun h => SetR w h a S n
section
variable {prog : Program} {w : World} {A : Around} {E : Value → Shared → Prop} {s : Shared}
end
section
variable {X : Cx}
inductive SLs (X : Cx) (κ : Pk) : List Expr → Es → Prop
  | nil : SLs X κ [] .nil
  | cons {a : Expr} {es : List Expr} {ia : E} {is : Es} : SEx X κ a ia → SLs X κ es is → SLs X κ (a :: es) (.cons ia is)
end
section
variable {P : Program} {w : World} {K : PySem.W.Frag} {mg : Str → Option Value} {base : Heap} {k : Nat} {f : Addr} {x qual : Str} {st : Stmt} {N ps : List Str}
end
end HP

set_option maxHeartbeats 4000000
/-! HpZip: dict(zip(a, b)), a and b lists or tuples, the keys texts or ints. -/
namespace HP
open PySem L2 PySem.Spec
open PyProof.Rows hiding St
variable [LamT] {β : Bs} {κ : Pk}
section
variable {P : Program} {w : World} {A : Around} {E : Value → Shared → Prop} {m : Shared} {zz TI TO T p1 p2 : Addr} {f1 f2 : List Addr} {k1 k2 j : Nat} {V1 V2 : Nat → Value → Prop} {Z1 Z2 : Nat → Heap → Prop}
/-- next of a zip whose last tuple is still held: a new tuple is made -/
theorem zipD_more {ow : Bool} {oT : Obj} {G : Value → Shared → Prop} (S : ZipSep2 zz TI TO p1 p2 f1 f2) (D1 : Draws P w A p1 f1 k1 V1 Z1) (D2 : Draws P w A p2 f2 k2 V2 Z2)
    (hzz : IsZipHeld m.heap zz TI TO T ow) (gT : m.heap.get? T = some oT) (gI : IsTupOf2 m.heap TI (.ref p1) (.ref p2)) (z1 : Z1 j m.heap) (z2 : Z2 j m.heap) (l1 : j < k1) (l2 : j < k2)
    (hG : ∀ x1 x2 h' tk, V1 j x1 → V2 j x2 → IsZipHeld h' zz TI TO T true → Z1 (j + 1) h' → Z2 (j + 1) h' → IsTupOf2 h' m.heap.objs.size x1 x2 → h'.objs.size = m.heap.objs.size + 1 →
      (∀ c o, c ≠ zz → c ≠ p1 → c ≠ p2 → m.heap.get? c = some o → h'.get? c = some o) → G (.ref m.heap.objs.size) { m with heap := h', toks := tk }) :
    wpAny (model P w) A (Builtin.«zip.__next__» ⟨[.ref zz], []⟩) (fun fin s' => ∃ v, fin = .done (.ret v) ∧ G v s') E m := by
  obtain ⟨hp0, gn, dr, tk0, sy⟩ := m
  show wpAny _ _ (field (.ref zz) 2 >>= _) _ _ _
  refine wpAny_bind (wpAny_field hzz rfl (x := .bool false) rfl ?_)
  show wpAny _ _ (field (.ref zz) 3 >>= _) _ _ _
  refine wpAny_bind (wpAny_field hzz rfl (x := .ref TI) rfl ?_)
  refine wpAny_bind (wpAny_seqItems gI rfl ?_)
  show wpAny _ _ (Builtin.SmallTypes.ownedTupleIsFree (.ref zz) >>= _) _ _ _
  refine wpAny_bind (wpAny_tupleHeld_zip hzz gT fun q0 hz0 b0 => ?_)
  replace b0 : Heap.SameBut zz hp0 q0 := b0
  simp only [Bool.false_eq_true, if_false]
  refine wpAny_bind ?_
  rw [← Array.forIn_toList]
  simp only [List.forIn_cons, List.forIn_nil]
  refine wpAny_bind (wpAny_bind (wpAny_holding ?_))
  show wpAny _ _ (Builtin.SmallTypes.nextOf (.ref p1) >>= _) _ _ ⟨q0, gn, dr, tk0, sy⟩
  refine wpAny_bind (D1.item j _ _ _ l1 (D1.over z1 b0 S.zf1) fun x1 q1 t1 hx1 y1 b1 => wpAny_pure ?_)
  replace b1 : Heap.SameBut p1 q0 q1 := b1
  refine wpAny_pure ?_
  refine wpAny_bind (wpAny_bind (wpAny_holding ?_))
  show wpAny _ _ (Builtin.SmallTypes.nextOf (.ref p2) >>= _) _ _ ⟨q1, gn, dr, t1, sy⟩
  refine wpAny_bind (D2.item j _ _ _ l2 (D2.over (D2.over z2 b0 S.zf2) b1 S.sep1_2) fun x2 q2 t2 hx2 y2 b2 => wpAny_pure ?_)
  replace b2 : Heap.SameBut p2 q1 q2 := b2
  refine wpAny_pure (wpAny_pure ?_)
  show wpAny _ _ (newTuple [x1, x2] >>= _) _ _ ⟨q2, gn, dr, t2, sy⟩
  refine wpAny_bind (wpAny_newTuple ?_)
  have es : q2.objs.size = hp0.objs.size := by rw [b2.1, b1.1, b0.1]
  have hz2 : IsZipHeld q2 zz TI TO T true := b2.extBut _ _ S.zi2 (b1.extBut _ _ S.zi1 hz0)
  have up : ∀ c o, c ≠ zz → c ≠ p1 → c ≠ p2 → hp0.get? c = some o → q2.get? c = some o := fun c o n0 n1 n2 e => b2.extBut _ _ n2 (b1.extBut _ _ n1 (b0.extBut _ _ n0 e))
  refine wpAny_pure ⟨_, rfl, ?_⟩
  show G (.ref q2.objs.size) ⟨q2.push { cls := .type "tuple", data := .seq #[x1, x2] }, gn, dr, t2, sy⟩
  have ht : IsTupOf2 (q2.push { cls := .type "tuple", data := .seq #[x1, x2] }) q2.objs.size x1 x2 := Heap.get?_push_size _ rfl
  have hs3 : (q2.push { cls := .type "tuple", data := .seq #[x1, x2] }).objs.size = q2.objs.size + 1 := Heap.size_push ..
  have pu : ∀ b o, q2.get? b = some o → (q2.push { cls := .type "tuple", data := .seq #[x1, x2] }).get? b = some o := fun b o e => Heap.get?_push_of_some _ e
  rw [es] at ht hs3 ⊢
  exact hG x1 x2 _ t2 hx1 hx2 (pu _ _ hz2) (D1.frame _ _ _ (D1.over y1 b2 S.sep2_1) fun b _ o e => pu b o e) (D2.frame _ _ _ y2 fun b _ o e => pu b o e) ht hs3 fun c o n0 n1 n2 e => pu c o (up c o n0 n1 n2 e)
theorem zipD_over {ow : Bool} {oT : Obj} {G : PySem.Fin → Shared → Prop} (S : ZipSep2 zz TI TO p1 p2 f1 f2) (D1 : Draws P w A p1 f1 k1 V1 Z1) (D2 : Draws P w A p2 f2 k2 V2 Z2)
    (hzz : IsZipHeld m.heap zz TI TO T ow) (gT : m.heap.get? T = some oT) (gI : IsTupOf2 m.heap TI (.ref p1) (.ref p2)) (z1 : Z1 j m.heap) (z2 : Z2 j m.heap) (l1 : j ≤ k1) (l2 : j ≤ k2) (hend : j = k1 ∨ j = k2)
    (hE : ∀ h' tk e, (∀ c o, c ≠ zz → c ≠ p1 → c ≠ p2 → m.heap.get? c = some o → h'.get? c = some o) → (∃ o, h'.get? e = some o ∧ o.cls = .type "StopIteration") → E (.ref e) { m with heap := h', toks := tk }) :
    wpAny (model P w) A (Builtin.«zip.__next__» ⟨[.ref zz], []⟩) G E m := by
  obtain ⟨hp0, gn, dr, tk0, sy⟩ := m
  show wpAny _ _ (field (.ref zz) 2 >>= _) _ _ _
  refine wpAny_bind (wpAny_field hzz rfl (x := .bool false) rfl ?_)
  show wpAny _ _ (field (.ref zz) 3 >>= _) _ _ _
  refine wpAny_bind (wpAny_field hzz rfl (x := .ref TI) rfl ?_)
  refine wpAny_bind (wpAny_seqItems gI rfl ?_)
  show wpAny _ _ (Builtin.SmallTypes.ownedTupleIsFree (.ref zz) >>= _) _ _ _
  refine wpAny_bind (wpAny_tupleHeld_zip hzz gT fun q0 hz0 b0 => ?_)
  replace b0 : Heap.SameBut zz hp0 q0 := b0
  simp only [Bool.false_eq_true, if_false]
  refine wpAny_bind ?_
  rw [← Array.forIn_toList]
  simp only [List.forIn_cons, List.forIn_nil]
  refine wpAny_bind (wpAny_bind (wpAny_holding ?_))
  show wpAny _ _ (Builtin.SmallTypes.nextOf (.ref p1) >>= _) _ _ ⟨q0, gn, dr, tk0, sy⟩
  by_cases q : j < k1
  · refine wpAny_bind (D1.item j _ _ _ q (D1.over z1 b0 S.zf1) fun x1 q1 t1 hx1 y1 b1 => wpAny_pure ?_)
    replace b1 : Heap.SameBut p1 q0 q1 := b1
    have e2 : j = k2 := by omega
    refine wpAny_pure ?_
    refine wpAny_bind (wpAny_bind (wpAny_holding ?_))
    show wpAny _ _ (Builtin.SmallTypes.nextOf (.ref p2) >>= _) _ _ ⟨q1, gn, dr, t1, sy⟩
    refine wpAny_bind (D2.done ⟨q1, gn, dr, t1, sy⟩ _ _ (by rw [← e2]; exact D2.over (D2.over z2 b0 S.zf2) b1 S.sep1_2) fun q2 e hq he => ?_)
    exact hE q2 t1 e (fun c o n0 n1 n2 x => hq _ _ n2 (b1.extBut _ _ n1 (b0.extBut _ _ n0 x))) he
  · have e1 : j = k1 := by omega
    refine wpAny_bind (D1.done ⟨q0, gn, dr, tk0, sy⟩ _ _ (by rw [← e1]; exact D1.over z1 b0 S.zf1) fun q2 e hq he => ?_)
    exact hE q2 tk0 e (fun c o n0 n1 n2 x => hq _ _ n1 (b0.extBut _ _ n0 x)) he
theorem next_zipD_more {ow : Bool} {oT : Obj} {G : Option Value → Shared → Prop} (S : ZipSep2 zz TI TO p1 p2 f1 f2) (D1 : Draws P w A.in1 p1 f1 k1 V1 Z1) (D2 : Draws P w A.in1 p2 f2 k2 V2 Z2)
    (hzz : IsZipHeld m.heap zz TI TO T ow) (gT : m.heap.get? T = some oT) (gI : IsTupOf2 m.heap TI (.ref p1) (.ref p2)) (z1 : Z1 j m.heap) (z2 : Z2 j m.heap) (l1 : j < k1) (l2 : j < k2)
    (hG : ∀ x1 x2 h' tk, V1 j x1 → V2 j x2 → IsZipHeld h' zz TI TO T true → Z1 (j + 1) h' → Z2 (j + 1) h' → IsTupOf2 h' m.heap.objs.size x1 x2 → h'.objs.size = m.heap.objs.size + 1 →
      (∀ c o, c ≠ zz → c ≠ p1 → c ≠ p2 → m.heap.get? c = some o → h'.get? c = some o) → G (some (.ref m.heap.objs.size)) { m with heap := h', toks := tk }) :
    wpAny (model P w) A (pyNext (.ref zz)) G E m := by
  have ty : m.TypeIs (.ref zz) "zip" := ⟨_, hzz, rfl⟩
  unfold pyNext
  refine wpAny_bind (wpAny_attempt (wpAny_callSpecial?_slot (name := Str.ofString "__next__") ty F.slot_zip_next ?_))
  exact wpAny_call_entry F.slot_zip_next ty F.entry_zip_next (zipD_more S D1 D2 hzz gT gI z1 z2 l1 l2 fun x1 x2 h' tk y1 y2 a b c d e g => wpAny_pure (hG x1 x2 h' tk y1 y2 a b c d e g)) (F.args_zip_next_1 _)
theorem next_zipD_over {ow : Bool} {oT : Obj} {G : Option Value → Shared → Prop} (S : ZipSep2 zz TI TO p1 p2 f1 f2) (D1 : Draws P w A.in1 p1 f1 k1 V1 Z1) (D2 : Draws P w A.in1 p2 f2 k2 V2 Z2)
    (hzz : IsZipHeld m.heap zz TI TO T ow) (gT : m.heap.get? T = some oT) (gI : IsTupOf2 m.heap TI (.ref p1) (.ref p2)) (z1 : Z1 j m.heap) (z2 : Z2 j m.heap) (l1 : j ≤ k1) (l2 : j ≤ k2) (hend : j = k1 ∨ j = k2)
    (hG : ∀ h' tk, (∀ c o, c ≠ zz → c ≠ p1 → c ≠ p2 → m.heap.get? c = some o → h'.get? c = some o) → G none { m with heap := h', toks := tk }) :
    wpAny (model P w) A (pyNext (.ref zz)) G E m := by
  have ty : m.TypeIs (.ref zz) "zip" := ⟨_, hzz, rfl⟩
  unfold pyNext
  refine wpAny_bind (wpAny_attempt (wpAny_callSpecial?_slot (name := Str.ofString "__next__") ty F.slot_zip_next ?_))
  refine wpAny_call_entry F.slot_zip_next ty F.entry_zip_next (zipD_over S D1 D2 hzz gT gI z1 z2 l1 l2 hend fun h' tk e hk he => ?_) (F.args_zip_next_1 _)
  obtain ⟨oe, h1, h2⟩ := he
  refine wpAny_bind (wpAny_isInstance (T := "StopIteration") (b := true) ⟨oe, h1, h2⟩ isSubtype_stop ?_)
  exact wpAny_pure (hG _ _ hk)
/-- where a walk over what stands at fp begins -/
structure Seat (P : Program) (w : World) (it : Addr) (fp : List Addr) (n : Nat) (V : Nat → Value → Prop) (Z : Nat → Heap → Prop) : Prop where
  d : ∀ A : Around, A.handled = none → Draws P w A it fp n V Z
  there : ∀ h, Z 0 h → ∀ b ∈ fp, ∃ o, h.get? b = some o
  stay : ∀ h h', Z 0 h → (∀ b o, h.get? b = some o → h'.get? b = some o) → Z 0 h'
theorem PairArg.zipD (S : ZipSep2 zz TI TO p1 p2 f1 f2) (D1 : Seat P w p1 f1 k1 V1 Z1) (D2 : Seat P w p2 f2 k2 V2 Z2) :
    PairArg P w "zip" zz (zz :: TI :: TO :: (f1 ++ f2)) [zz, TO, p1, p2] (min k1 k2) (fun i a b => V1 i a ∧ V2 i b)
      (fun h => IsZip h zz TI TO .none ∧ IsTupOf2 h TI (.ref p1) (.ref p2) ∧ (∃ a b, IsTupOf2 h TO a b) ∧ Z1 0 h ∧ Z2 0 h) where
  type := fun s ok => ⟨_, ok.1, rfl⟩
  notDict := by decide
  keep := fun h h' ok up => by
    obtain ⟨a, b, ⟨x, y, c⟩, d1, d2⟩ := ok
    exact ⟨up _ _ a, up _ _ b, ⟨x, y, up _ _ c⟩, D1.stay _ _ d1 up, D2.stay _ _ d2 up⟩
  there := fun h ok b hb => by
    obtain ⟨a, c, ⟨x, y, d⟩, d1, d2⟩ := ok
    simp only [List.mem_cons, List.mem_append] at hb
    rcases hb with rfl | rfl | rfl | hb | hb
    · exact ⟨_, a⟩
    · exact ⟨_, c⟩
    · exact ⟨_, d⟩
    · exact D1.there h d1 b hb
    · exact D2.there h d2 b hb
  sub := fun b hb => by
    simp only [List.mem_cons, List.not_mem_nil, or_false] at hb
    simp only [List.mem_cons, List.mem_append]
    rcases hb with rfl | rfl | rfl | rfl
    · exact .inl rfl
    · exact .inr (.inr (.inl rfl))
    · exact .inr (.inr (.inr (.inl S.mem1)))
    · exact .inr (.inr (.inr (.inr S.mem2)))
  noKeys := fun A s Q E hA ok h => getAttrOr_miss_zip ok.1 rfl rfl rfl zip_no_keys (by decide +kernel) hA h
  iter := fun A s d Q E hA ok hd hdf h => by
    obtain ⟨hz, hTI, ⟨a, b, hTO⟩, s1, s2⟩ := ok
    simp only [List.mem_cons, List.mem_append, not_or] at hdf
    obtain ⟨dz, dTI, dTO, df1, df2⟩ := hdf
    have E1 := D1.d A.in1 hA
    have E2 := D2.d A.in1 hA
    refine wpAny_pyIter_zip hz (h zz [zz, TO, p1, p2] (fun i h => IsTupOf2 h TI (.ref p1) (.ref p2) ∧ Z1 i h ∧ Z2 i h ∧
      ((IsZip h zz TI TO .none ∧ ∃ a b, IsTupOf2 h TO a b) ∨ ∃ T ow oT, IsZipHeld h zz TI TO T ow ∧ h.get? T = some oT ∧ T ≠ zz ∧ T ≠ p1 ∧ T ≠ p2 ∧ T ≠ d)) s.heap s.toks ?_
      ⟨hTI, s1, s2, .inl ⟨hz, a, b, hTO⟩⟩ (fun _ _ e => e) fun b hb => .inl hb)
    refine ⟨fun hm => ?_, fun i h₁ h₂ st up => ?_, fun i s₁ Q₁ E₁ hi st hds hQ => ?_, fun s₁ Q₁ E₁ st hQ => ?_⟩
    · simp only [List.mem_cons, List.not_mem_nil, or_false] at hm
      rcases hm with e | e | e | e
      · exact dz e
      · exact dTO e
      · exact df1 (e ▸ S.mem1)
      · exact df2 (e ▸ S.mem2)
    · obtain ⟨c1, c2, c3, c4⟩ := st
      refine ⟨up _ _ (Ne.symm dTI) c1, E1.frame _ _ _ c2 fun b hb o e => up b o (fun q => df1 (q ▸ hb)) e, E2.frame _ _ _ c3 fun b hb o e => up b o (fun q => df2 (q ▸ hb)) e, ?_⟩
      rcases c4 with ⟨c4, x, y, c5⟩ | ⟨T, ow, oT, c4, c5, n1, n2, n3, n4⟩
      · exact .inl ⟨up _ _ (Ne.symm dz) c4, x, y, up _ _ (Ne.symm dTO) c5⟩
      · exact .inr ⟨T, ow, oT, up _ _ (Ne.symm dz) c4, up _ _ n4 c5, n1, n2, n3, n4⟩
    · obtain ⟨c1, c2, c3, c4⟩ := st
      have i1 : i < k1 := by omega
      have i2 : i < k2 := by omega
      have lt : ∀ {c o}, s₁.heap.get? c = some o → s₁.heap.objs.size ≠ c := fun e => Nat.ne_of_gt (Heap.lt_size e)
      have n1 : s₁.heap.objs.size ≠ p1 := by obtain ⟨_, e⟩ := E1.live _ _ c2; exact lt e
      have n2 : s₁.heap.objs.size ≠ p2 := by obtain ⟨_, e⟩ := E2.live _ _ c3; exact lt e
      rcases c4 with ⟨c4, x, y, c5⟩ | ⟨T, ow, oT, c4, c5, r1, r2, r3, r4⟩
      · refine wpAny_pyNext_zipD2_item S E1 E2 c4 c1 c5 c2 c3 i1 i2 fun x1 x2 h' tk y1 y2 b1 b2 d1 d2 b5 b6 hk => ?_
        exact hQ s₁.heap.objs.size _ _ h' tk ⟨y1, y2⟩ (.inl ⟨_, b5, rfl, _, rfl⟩)
          ⟨hk _ _ S.TIz S.TITO S.TIi1 S.TIi2 c1, d1, d2, .inr ⟨s₁.heap.objs.size, false, _, b1, b5, lt c4, n1, n2, Nat.ne_of_gt hds⟩⟩
          fun c o hc e => hk c o (fun q => hc (by simp [q])) (fun q => hc (by simp [q])) (fun q => hc (by simp [q])) (fun q => hc (by simp [q])) e
      · refine next_zipD_more S E1 E2 c4 c5 c1 c2 c3 i1 i2 fun x1 x2 h' tk y1 y2 b1 d1 d2 b5 b6 hk => ?_
        exact hQ s₁.heap.objs.size _ _ h' tk ⟨y1, y2⟩ (.inl ⟨_, b5, rfl, _, rfl⟩)
          ⟨hk _ _ S.TIz S.TIi1 S.TIi2 c1, d1, d2, .inr ⟨T, true, oT, b1, hk _ _ r1 r2 r3 c5, r1, r2, r3, r4⟩⟩
          fun c o hc e => hk c o (fun q => hc (by simp [q])) (fun q => hc (by simp [q])) (fun q => hc (by simp [q])) e
    · obtain ⟨c1, c2, c3, c4⟩ := st
      rcases c4 with ⟨c4, x, y, c5⟩ | ⟨T, ow, oT, c4, c5, r1, r2, r3, r4⟩
      · exact wpAny_pyNext_zipD2_end S E1 E2 c4 c1 c5 c2 c3 (by omega) (by omega) (by omega) fun h' tk hk => hQ h' tk fun c o hc e => hk c o (fun q => hc (by simp [q])) (fun q => hc (by simp [q])) (fun q => hc (by simp [q])) (fun q => hc (by simp [q])) e
      · exact next_zipD_over S E1 E2 c4 c5 c1 c2 c3 (by omega) (by omega) (by omega) fun h' tk hk => hQ h' tk fun c o hc e => hk c o (fun q => hc (by simp [q])) (fun q => hc (by simp [q])) (fun q => hc (by simp [q])) e
end
section
variable {X : Cx} {pins : List (Addr × Obj)} {σ : L2.St} {H : Hp} {s : Shared} {F : Hp} {M : List Addr}
end
section
variable {X : Cx} {a b : Expr} {ia ib : E} {p p2 q pos : Pos}
end
end HP

set_option maxHeartbeats 4000000
/-! HpZipL: dict(list(zip(a, b))), a and b lists or tuples, the keys texts or ints. -/
namespace HP
open PySem L2 PySem.Spec
open PyProof.Rows hiding St
variable [LamT] {β : Bs} {κ : Pk}
section
variable {P : Program} {w : World} {A : Around} {E : Value → Shared → Prop} {s : Shared} {zz TI TO p1 p2 S : Addr} {f1 f2 : List Addr} {k1 k2 : Nat} {V1 V2 : Nat → Value → Prop} {Z1 Z2 : Nat → Heap → Prop}
/-- a zip of which some tuples are out, while at S a list is being filled -/
def ZlSt (zz TI TO p1 p2 S : Addr) (Z1 Z2 : Nat → Heap → Prop) (i : Nat) (h : Heap) : Prop :=
  IsTupOf2 h TI (.ref p1) (.ref p2) ∧ Z1 i h ∧ Z2 i h ∧ ((IsZip h zz TI TO .none ∧ ∃ a b, IsTupOf2 h TO a b) ∨ ∃ T ow oT, IsZipHeld h zz TI TO T ow ∧ h.get? T = some oT ∧ T ≠ zz ∧ T ≠ p1 ∧ T ≠ p2 ∧ T ≠ S)
structure ZlSep (zz TI TO p1 p2 S : Addr) (f1 f2 : List Addr) : Prop where
  sep : ZipSep2 zz TI TO p1 p2 f1 f2
  z : zz < S
  i : TI < S
  o : TO < S
  a : ∀ b ∈ f1, b < S
  b : ∀ b ∈ f2, b < S
theorem ZlSt.keep {i : Nat} {h h' : Heap} (X : ZlSep zz TI TO p1 p2 S f1 f2) (D1 : Draws P w A.in1 p1 f1 k1 V1 Z1) (D2 : Draws P w A.in1 p2 f2 k2 V2 Z2) (st : ZlSt zz TI TO p1 p2 S Z1 Z2 i h)
    (up : ∀ b o, b ≠ S → h.get? b = some o → h'.get? b = some o) : ZlSt zz TI TO p1 p2 S Z1 Z2 i h' := by
  obtain ⟨c1, c2, c3, c4⟩ := st
  refine ⟨up _ _ (Nat.ne_of_lt X.i) c1, D1.frame _ _ _ c2 fun b hb o e => up b o (Nat.ne_of_lt (X.a b hb)) e, D2.frame _ _ _ c3 fun b hb o e => up b o (Nat.ne_of_lt (X.b b hb)) e, ?_⟩
  rcases c4 with ⟨c4, x, y, c5⟩ | ⟨T, ow, oT, c4, c5, n1, n2, n3, n4⟩
  · exact .inl ⟨up _ _ (Nat.ne_of_lt X.z) c4, x, y, up _ _ (Nat.ne_of_lt X.o) c5⟩
  · exact .inr ⟨T, ow, oT, up _ _ (Nat.ne_of_lt X.z) c4, up _ _ n4 c5, n1, n2, n3, n4⟩
structure ZlG (V1 V2 : Nat → Value → Prop) (lo : Addr) (h : Heap) (as : List Addr) : Prop where
  above : ∀ a ∈ as, lo < a
  pairs : ∀ (j : Nat) (a : Addr), as[j]? = some a → ∃ x y, V1 j x ∧ V2 j y ∧ IsTupOf2 h a x y
end
section
variable {X : Cx} {a b : Expr} {ia ib : E} {p p2 p3 q q2 pos : Pos}
end
end HP

/-! HpDead: a statement that is never met. -/
namespace HP
open PySem L2
variable [LamT] {κ : Pk}
section
variable {X : Cx} {J : St → Prop}
end
end HP

set_option maxHeartbeats 2000000
/-! HpEqo: == and != by a class's own __eq__. -/
namespace HP
open PySem L2 PySem.Spec
open PyProof.Rows hiding St
variable [LamT] {β : Bs} {κ : Pk}
/-- what != asks of a class -/
def neB (C : Str) (K : PySem.W.Frag) : Bool := decide (PySem.W.findIn K (.ref (He.ga K C)) "__ne__" = some (some (.builtin "object.__ne__"))) && decide (PySem.W.mroIn K (He.ga K C) (.type "object") = some true)
section
variable {X : Cx} {k : Nat} {f : Addr} {fd : FuncData} {ps : List Str} {sp : Sp} {A : Around}
/-- a def that runs somewhere below the running body -/
theorem FnA.below {pins : List (Addr × Obj)} {σ : St} {H : Hp} {s : Shared} {Q : VK} {us : List Value} {zs : List V} (F : FnA X.prog X.w X.K X.mg X.base (L2.CX X.prog X.w) k f fd ps sp) (hr : Room k A) (hs : Still A) (e0 : Env0 X.prog X.w X.K X.mg X.base A X.stack s H)
    (I : Inv X pins σ H s) (hb : Binds X.K fd ps []) (r : Vals zs us) (h : sp zs H Q E0) : wpAny (model X.prog X.w) A (PySem.call (.ref f) us) (EP X pins σ Q) X.xe s := by
  have hl : us.length = ps.length := r.length ▸ F.len _ _ _ _ h
  have hbb := hb s us I.kIn (by rw [List.append_nil]; exact hl)
  rw [List.append_nil] at hbb
  refine wpAny_call (codeAny_mono (F.go A X.stack s H ⟨us, []⟩ us zs Q E0 hr hs e0 hbb r h) fun r z q => ?_)
  match r, q with
  | .error e, q => exact (no_cx q).elim
  | .ok (.ret u), q => exact I.after q
  | .ok .next, q => exact q.elim
  | .ok .brk, q => exact q.elim
  | .ok .cont, q => exact q.elim
/-- x == y, x an instance of the class at C with an own == at f -/
def rOwnEq (K : PySem.W.Frag) (C : Addr) (sp : Sp) (n : Bool) : R2 := fun x y H Q => ∃ a dx fs tb, x = .ref a ∧ H a = some (.ins C dx fs) ∧ TyX K H y tb ∧ PySem.W.notFirst K C tb = true ∧ sp [x, y] H (fun z H' => ∃ b, z = .bl b ∧ Q (.bl (if n then !b else b)) H') E0
end
section
variable {X : Cx} {j k : Nat} {f : Addr} {ps all : List Str} {g : Fn} {a b : Expr} {ia ib : E} {pos : Pos}
end
end HP

set_option maxHeartbeats 2000000
/-! HpPrP: properties with a body of their own. -/
namespace HP
open PySem L2
variable [LamT] {β : Bs} {κ : Pk}
structure GetP (K : PySem.W.Frag) (C n : Str) : Prop where
  cls : Cls K (He.ga K C)
  prop : PropOf K (He.ga K C) n (propAt C n K) (getAt C n K)
section
variable {X : Cx} {k : Nat} {g : Addr} {fd : FuncData} {sp : Sp}
end
end HP

set_option maxHeartbeats 2000000
/-! HpMkxK: an own exception class with an own __init__ called with its field by name. -/
namespace PySem
namespace HandSPX
open Builtin Builtin.ObjectAttr
section
variable {prog : Program} {w : World} {A : Around} {E : Value → Shared → Prop} {R : Result → Shared → Prop} {h : Heap} {g : Array GenState} {d : Drawn} {t : Nat} {os : OsState}
variable {nm q : Str} {C N : Addr} {bs bm bmB : List Value} {hdct : Bool} {sn : List Str} {sub : List Value} {ab : Bool} {col : Option Bool} {dd : Option Addr} {k0 k1 k2 k3 k5 : Option Value} {B newId initId : String}
theorem check_new_kw {M : Model} (F : ExcBaseFacts B newId initId bmB) (hT : ∀ X : String, bm.contains (.type X) = bmB.contains (.type X)) {f : Str} {v : Value} {Q : Unit → Shared → Prop}
    (hC : h.get? C = some (excClassObj nm q C N bs bm hdct sn sub ab col dd k0 k1 k2 k3 k5 newId)) (hq : Q () ⟨h, g, d, t, os⟩) : wpAny M A (checkBuiltinCall newId ⟨[.ref C], [(f, v)]⟩) Q E ⟨h, g, d, t, os⟩ := by
  have hcont : (Value.ref C :: bm).contains (.type B) = true := by rw [List.contains_cons, hT, F.hasB, Bool.or_true]
  have hstar := F.noStar
  simp only [checkBuiltinCall, F.newKind, F.newSplit, F.newRow]
  repeat (first | refine wpAny_loadPart_at hC ?_ | (refine wpAny_isSubtype_exc hC ?_; rw [hcont]) | refine wpAny_staticBase_exc hC ?_ | refine wpAny_madeBy_exc hC ?_ | simp only [bne_self_eq_false, Bool.false_eq_true, if_false] | wp_step)
  exact hq
theorem new_kw (F : ExcBaseFacts B newId initId bmB) (hT : ∀ X : String, bm.contains (.type X) = bmB.contains (.type X)) {f : Str} {v : Value}
    (hC : h.get? C = some (excClassObj nm q C N bs bm hdct sn sub ab col dd k0 k1 k2 k3 k5 newId))
    (hq : R (.ok (.ret (.ref (h.objs.size + 1)))) ⟨(h.push (W.kdv_tup [])).push (excO C h.objs.size), g, d, t, os⟩) :
    codeAny (model prog w) A (.builtin newId ⟨[.ref C], [(f, v)]⟩) R ⟨h, g, d, t, os⟩ := by
  have hends := F.ends
  have hcB : (Value.ref C :: bm).contains (.type B) = true := by rw [List.contains_cons, hT, F.hasB, Bool.or_true]
  have hcA : (Value.ref C :: bm).contains (.type "AttributeError") = false := by rw [List.contains_cons, hT, F.noAttr]; rfl
  have hcN : (Value.ref C :: bm).contains (.type "NameError") = false := by rw [List.contains_cons, hT, F.noName]; rfl
  refine codeAny_builtinAt F.entry ?_
  unfold Builtin.«BaseException.__new__»
  refine wpAt_bind ?_
  show wpAt _ _ _ (stack >>= _) _ _ _
  refine wpAt_bind (wpAt_stack fun p below => wpAt_of_wpAny ?_)
  wp_walk
  refine wpAt_of_wpAny ?_
  rw [F.owner]
  repeat (first | with_reducible refine wpAny_madeHere_exc F.canon hC ?_ | with_reducible refine wpAny_loadPart_at hC ?_ | (with_reducible refine wpAny_isSubtype_exc hC ?_; first | rw [hcB] | rw [hcA] | rw [hcN]) | wp_step)
  show R _ _
  rw [Heap.size_push]
  exact hq
theorem type_call_kw (F : ExcBaseFacts B newId initId bmB) (hT : ∀ X : String, bm.contains (.type X) = bmB.contains (.type X)) {f : Str} {v : Value} {fI : Addr} {Q : Fin → Shared → Prop}
    (hC : h.get? C = some (excClassObj nm q C N bs bm hdct sn sub ab col dd k0 k1 k2 k3 k5 newId))
    (hi : W.Looks (model prog w) h (typeLookup (.ref C) "__init__") (some (.ref fI))) (hb : ∀ self, W.Looks (model prog w) h (bindSpecial (.ref fI) self) (.ref fI, [self]))
    (hq : codeAny (model prog w) A (.call (.ref fI) ⟨[.ref (h.objs.size + 1)], [(f, v)]⟩)
      (fun r s' => match r with | .ok (.ret v) => v = .none ∧ Q (.done (.ret (.ref (h.objs.size + 1)))) s' | .ok _ => False | .error e => E e s')
      ⟨(h.push (W.kdv_tup [])).push (excO C h.objs.size), g, d, t, os⟩) :
    wpAny (model prog w) A (Builtin.«type.__call__» ⟨[.ref C], [(f, v)]⟩) Q E ⟨h, g, d, t, os⟩ := by
  repeat (first | with_reducible refine wpAny_loadPart_at hC ?_ | with_reducible refine wpAny_madeBy_exc hC ?_ | wp_step)
  refine codeAny_call_builtin_code (Code.quiet_builtin _ F.quiet) (check_new_kw F hT hC ?_)
  refine new_kw F hT hC ?_
  show wpAny _ _ _ _ _ _
  have k : ∀ b o, h.get? b = some o → ((h.push (W.kdv_tup [])).push (excO C h.objs.size)).get? b = some o := fun b o e => Heap.get?_push_of_some _ (Heap.get?_push_of_some _ e)
  have hC₁ := k _ _ hC
  have hget : ((h.push (W.kdv_tup [])).push (excO C h.objs.size)).get? (h.objs.size + 1) = some (excO C h.objs.size) := by heap_get
  have hcC : (Value.ref C :: bm).contains (.ref C) = true := by simp
  have i1 := hi.keeps k
  have b1 := (hb (.ref (h.objs.size + 1))).keeps k
  unfold isInstance
  repeat (first | with_reducible refine wpAny_loadPart_at hget ?_ | (with_reducible refine wpAny_isSubtype_exc hC₁ ?_; rw [hcC]) | wp_step)
  show wpAny _ _ (typeLookup (.ref C) _) _ _ _
  refine i1.at ?_
  refine wpAny_holding (wpAny_bind (b1.at ?_))
  refine wpAny_bind (wpAny_call (codeAny_mono hq fun r s' z => ?_))
  rcases r with e | (v | _ | _ | _) <;> first | exact z | exact z.elim | skip
  obtain ⟨rfl, z⟩ := z
  first
    | exact wpAny_pure (wpAny_pure z)
    | (wp_walk; exact z)
theorem call_kw (F : ExcBaseFacts B newId initId bmB) (hT : ∀ X : String, bm.contains (.type X) = bmB.contains (.type X)) {f : Str} {v : Value} {fI : Addr}
    (hC : h.get? C = some (excClassObj nm q C N bs bm hdct sn sub ab col dd k0 k1 k2 k3 k5 newId))
    (hi : W.Looks (model prog w) h (typeLookup (.ref C) "__init__") (some (.ref fI))) (hb : ∀ self, W.Looks (model prog w) h (bindSpecial (.ref fI) self) (.ref fI, [self]))
    (hq : codeAny (model prog w) (A.under (.builtin "type.__call__" ⟨[.ref C], [(f, v)]⟩)) (.call (.ref fI) ⟨[.ref (h.objs.size + 1)], [(f, v)]⟩) (W.InitBack (h.objs.size + 1) R)
      ⟨(h.push (W.kdv_tup [])).push (excO C h.objs.size), g, d, t, os⟩) :
    codeAny (model prog w) A (.call (.ref C) ⟨[], [(f, v)]⟩) R ⟨h, g, d, t, os⟩ := by
  have f1 := tc_lookup
  have f2 := tc_bind (.ref C)
  have hTy : (⟨h, g, d, t, os⟩ : Shared).TypeIs (.ref C) "type" := ⟨_, hC, rfl⟩
  refine codeAny_of_tree ?_
  show wpAny _ _ (callAny (.ref C) _) _ _ _
  repeat (any_goals (first | assumption | with_reducible refine wpAny_loadPart_at hC ?_ | wp_step))
  refine ⟨rfl, ?_⟩
  refine codeAny_call_builtin_at (Code.quiet_builtin _ (by decide +kernel)) entry_typeCall (wpAny_check_type_call_sub hC (type_call_kw F hT hC hi hb ?_))
  refine codeAny_mono hq fun r s' z => ?_
  rcases r with e | (v | _ | _ | _) <;> exact z
end
end HandSPX
end PySem

set_option maxHeartbeats 2000000
/-! HpMkx: own exceptions made as values; str() of one. -/
namespace HP
open PySem PySem.W L2 PySem.Spec
open PyProof.Rows hiding St
/-- an exception of the class c, made of one value -/
def mkxF (c : Str) : Fn := fun ds s Q _ => match ds with
  | [d] => Q (.val (.exc c [d])) s
  | _ => False
/-- str() of an exception that was made of a text -/
def xstrF (all : List Str) : Fn := fun ds s Q _ => match ds with
  | [.exc c [.str m]] => (all.contains c && decide (excFld c = none)) = true ∧ Q (.val (.str m)) s
  | _ => False
section
variable {X : Cx} {e : Expr} {te : TE} {x : Str} {p pos : Pos}
/-- what makes an exception gives a value -/
theorem pe_of_pmk {tm : St → Hp → XK → Prop} (he : PMk X e tm) : PE X e (fun σ H Q => tm σ H fun cls d H1 => ∀ a oe, H1 a = none → Zc cls d oe → (∃ vs, oe.data = .fields vs) → Q (.ref a) (upd H1 a (ExK oe))) := by
  refine ⟨fun pins s σ H Q I h => wpAny_mono (he pins s σ H _ I h) (fun u s1 hu => ?_) fun _ _ x => x⟩
  obtain ⟨a, oe, vs, sI, H', cls, d, rfl, J, k, hne, ha, hz, hd, h1, na, os, ag, r, q⟩ := hu
  have J2 : Inv X pins σ H' { s1 with heap := sI.heap } := ⟨J.ok, os.trans J.os, ag, J.base, J.loc, J.cell, J.free, J.freeC, J.pin, J.hok, J.len⟩
  exact ⟨.ref a, upd H' a (ExK oe), J2.laidN (h' := s1.heap) (t' := s1.toks) k hne na ⟨ha, trivial, ⟨oe, ha⟩, fun _ _ _ _ => trivial⟩, rfl, q a oe na hz ⟨vs, hd⟩⟩
/-- X(e), X without an own __init__: its args are known -/
theorem pe_mkT {C : Addr} (q : excIn X.K C veBm "ValueError.__new__" = true) (gC : X.mg x = some (.ref C)) (kC : keepIn X.K (.ref C) = true) (hg : Gl X x)
    (he : PE X e te) (hs : starEach [e] X.env = (false, eval e X.env) :: starEach [] X.env) (hdb : (x == ("__debug__" : Str)) = false) :
    PE X (.Call (.Name x p) [e] [] pos) (fun σ H Q => te σ H fun v H1 => ∀ a t oe, H1 t = none → upd H1 t (.tup [v]) a = none → oe.cls = .ref C → oe.dict = none → (∃ fv, oe.data = .fields fv ∧ fv[0]? = some (.ref t)) → Q (.ref a) (upd (upd H1 t (.tup [v])) a (ExK oe))) := by
  refine ⟨fun pins s σ H Q I h => ?_⟩
  refine wpAny_Call_Name_kw (ld_glob I hg gC ?_ hdb)
  refine callWith_K (h₀ := X.base) I.ok.mod.kin kC ?_ hs (by rfl)
  rw [hs]
  show wpAny _ _ (spliced ((false, eval e X.env) :: backTo pos (starEach [] X.env))) _ _ s
  refine Calls.spliced_cons (thn (he.run pins s σ H _ I h) fun u s1 ⟨v, H1, I1, r1, q1⟩ => ?_)
  refine Calls.spliced_nil ⟨I1.kIn, ?_⟩
  show wpAny _ _ (call (.ref C) [u]) _ _ _
  obtain ⟨bm, N, nm, qn, bs, hdct, sn, sub, ab, col, dd, k0, k1, k2, k3, k5, mN, hC, hN, hni, T⟩ := exc_obj I1.kIn q
  refine wpAny_call_exc_subT PySem.F.excBase_ValueError T hC hN hni (fun h' a hm => ?_) (by show 1 ≤ sizeLine; rw [sizeLine_eq]; omega)
  have hna : H1 a = none := I1.hok.gone hm.new
  obtain ⟨t, ht, hnt, htt⟩ := hm.there
  have hnt1 : H1 t = none := I1.hok.gone hnt
  have hat : a ≠ t := fun z => by
    subst z
    rw [ht] at htt
    injection htt with z
    injection z with z1 z2 z3
    cases z3
  obtain ⟨G, g1', g2'⟩ := restrict h' fun b => decide (b ≠ a)
  have gk : ∀ b, b ≠ a → G.get? b = h'.get? b := fun b hb => g1' b (decide_eq_true hb)
  have ge : G.get? a = none := g2' _ (by simp)
  have gs : ∀ b o, G.get? b = some o → h'.get? b = some o := fun b o z => by
    by_cases hba : b = a
    · rw [hba, ge] at z
      cases z
    · exact (gk b hba).symm.trans z
  have J1 : Inv X pins σ (upd H1 t (.tup [v])) { s1 with heap := G, toks := s1.toks } := I1.laidN (h' := G) (t' := s1.toks) (fun b o z => (gk b (fun e => by rw [e, hm.new] at z; cases z)).trans (hm.keeps b o z)) hnt hnt1
    ⟨by show 1 ≤ sizeLine; rw [sizeLine_eq]; omega, [u], .cons r1 .nil, ⟨_, (gk t (Ne.symm hat)).trans htt, rfl, _, rfl⟩⟩
  have hna2 : upd H1 t (.tup [v]) a = none := by rw [upd_ne hat]; exact hna
  have J2 := J1.laidN (h' := h') (t' := s1.toks) (a := a) (o := ExK _) gs ge hna2 ⟨ht, trivial, ⟨_, ht⟩, fun _ _ _ _ => trivial⟩
  exact ⟨.ref a, _, J2, rfl, q1 a t _ hnt1 hna2 rfl rfl ⟨_, rfl, rfl⟩⟩
end
section
variable {X : Cx} {κ : Pk} {all : List Str} {e : Expr} {ie : E} {p pos : Pos} {c f : Str}
variable [LamT]
theorem se_mkxI (S : SupC X.prog X.K (He.ga X.K c) f) (hf : excFld c = some f) (hr : Room 1 X.A) (hm : X.mg c = some (.ref (He.ga X.K c))) (hsm : X.mg "super" = none) (hg : Gl X c) (hdb : (c == ("__debug__" : Str)) = false)
    (he : starEach [e] X.env = (false, eval e X.env) :: starEach [] X.env) (htr : TruE X (.Call (.Name c p) [e] [] pos)) (ha : SEx X κ e ie) : SEx X κ (.Call (.Name c p) [e] [] pos) (.call (mkxF c) (.cons ie .nil)) := by
  refine sex_dft (w.eq_19 (mkxF c) (.cons ie .nil)) (fun _ _ _ _ _ => rfl) htr (pe_of_pmk (pmk_sup S hr hg hm hsm (pa_cons ha.v pa_nil he) hdb he)) fun σ H Q h => ?_
  obtain ⟨F, M, P, σD, s, K, R, h, hK⟩ := h
  refine ⟨F, M, P, σD, s, _, R, h, fun o σ1 s1 F1 M1 H1 v k sf ex R1 q => ⟨v, rfl, fun dd hdd a oe ha hz hd => ?_⟩⟩
  obtain ⟨F2, sf2, R2, rv⟩ := R1.frz q
  have qd := R2.off hdd
  have R3 := (R2.junk (o := .xd [(f, v)]) hdd).freeze qd upd_same nofun
  have sf3 : Same F2 (upd F2 dd (.xd [(f, v)])) := same_upd qd.f
  have qa := R3.off ha
  have R4 := (R3.junk (o := ExK oe) ha).freeze qa upd_same nofun
  have sf4 : Same (upd F2 dd (.xd [(f, v)])) (upd (upd F2 dd (.xd [(f, v)])) a (ExK oe)) := same_upd qa.f
  exact hK (.val (.exc c [o.frz])) σ1 s1 _ M1 _ _ k (sf.trans (sf2.trans (sf3.trans sf4))) ex R4 (.excf upd_same hz.1 hd hf hz.2 (sf4 _ _ upd_same) (rv.mono (sf3.trans sf4) (.refl M1)))
theorem se_mkxT (E : ∀ c ∈ all, ExcF all X.K c) (hc : c ∈ all) (hf : excFld c = none) (hm : X.mg c = some (.ref (He.ga X.K c))) (hg : Gl X c) (hdb : (c == ("__debug__" : Str)) = false)
    (he : starEach [e] X.env = (false, eval e X.env) :: starEach [] X.env) (htr : TruE X (.Call (.Name c p) [e] [] pos)) (ha : SEx X κ e ie) : SEx X κ (.Call (.Name c p) [e] [] pos) (.call (mkxF c) (.cons ie .nil)) := by
  refine sex_dft (w.eq_19 (mkxF c) (.cons ie .nil)) (fun _ _ _ _ _ => rfl) htr (pe_mkT ((E c hc).tx hf) hm (E c hc).kp hg ha.v he hdb) fun σ H Q h => ?_
  obtain ⟨F, M, P, σD, s, K, R, h, hK⟩ := h
  refine ⟨F, M, P, σD, s, _, R, h, fun o σ1 s1 F1 M1 H1 v k sf ex R1 q => fun a t oe hnt hna hcl hdi hd => ?_⟩
  obtain ⟨F2, sf2, R2, rv⟩ := R1.frz q
  have qd := R2.off hnt
  have R3 := (R2.junk (o := .tup [v]) hnt).freeze qd upd_same nofun
  have sf3 : Same F2 (upd F2 t (.tup [v])) := same_upd qd.f
  have qa := R3.off hna
  have R4 := (R3.junk (o := ExK oe) hna).freeze qa upd_same nofun
  have sf4 : Same (upd F2 t (.tup [v])) (upd (upd F2 t (.tup [v])) a (ExK oe)) := same_upd qa.f
  exact hK (.val (.exc c [o.frz])) σ1 s1 _ M1 _ _ k (sf.trans (sf2.trans (sf3.trans sf4))) ex R4 (.excm upd_same hcl hd hf hdi (sf4 _ _ upd_same) (rv.mono (sf3.trans sf4) (.refl M1)))
end
section
variable {X : Cx} {e : Expr} {x f : Str} {C : Addr} {p pos : Pos} {kws : List Keyword} {tk : TA}
/-- C(f = e): a new exception whose field f is e's value -/
theorem pmk_supK (S : SupC X.prog X.K C f) (hr : Room 1 X.A) (hg : Gl X x) (hm : X.mg x = some (.ref C)) (hsm : X.mg "super" = none) (hkw : PK X kws tk) (hall : (backToKw pos (keywordEach kws X.env)).all (·.1.isSome) = true)
    (hks : (backToKw pos (keywordEach kws X.env)).filterMap (·.1) = [f]) (hdb : (x == ("__debug__" : Str)) = false) (hpl : ((backTo pos (starEach [] X.env)).any (·.1) || (backToKw pos (keywordEach kws X.env)).any (·.1.isNone)) = false) :
    PMk X (.Call (.Name x p) [] kws pos) (fun σ H Q => tk σ H fun vs H1 => ∃ v, vs = [v] ∧ ∀ dd, H1 dd = none → Q (.ref C) (some dd) (upd H1 dd (.xd [(f, v)]))) := by
  intro pins s σ H Q I h
  have T := S.ox
  obtain ⟨nm, q, N, bs, bm, sn, sub, ab, col, dd, k0, k1, k2, k3, k5, hC, hbm⟩ := T.cls
  obtain ⟨fI, cda, cc, qual, params, p0, p1, p2, p3, p4, p5, p6, p7, p8, p9, scope, dV, kV, doc, pm, ct, oc, ccl, cl, an, od, cdd, cld, osl, ccs, csl, vs, file, tf, iC, tI, _⟩ := S.fn
  refine wpAny_Call_Name_kw (ld_glob I hg hm ?_ hdb)
  refine callWith_KW0 (h₀ := X.base) I.ok.mod.kin T.kC hall (thn (hkw.run pos pins s σ H _ I h) fun us s1 ⟨vs, H1, I1, r1, v, ev, q1⟩ => ⟨I1.kIn, ?_⟩) hpl
  subst ev
  cases r1 with
  | @cons _ u _ us' ru rn =>
  cases rn
  rw [hks]
  show wpAny _ _ (call (.ref C) [] [(f, u)]) _ _ _
  obtain ⟨hp, g, dr, tk, os⟩ := s1
  have kk : ∀ b o, hp.get? b = some o → ((hp.push (kdv_tup [])).push (HandSPX.excO C hp.objs.size)).get? b = some o := fun b o e => Heap.get?_push_of_some _ (Heap.get?_push_of_some _ e)
  have hget : ((hp.push (kdv_tup [])).push (HandSPX.excO C hp.objs.size)).get? (hp.objs.size + 1) = some (HandSPX.excO C hp.objs.size) := by heap_get
  have hKe : X.K.lookup (hp.objs.size + 1) = none := by
    cases z : X.K.lookup (hp.objs.size + 1) with
    | none => rfl
    | some o => exact absurd (Heap.lt_size (I1.kIn _ _ z)) (by show ¬ hp.objs.size + 1 < hp.objs.size; omega)
  obtain ⟨mb, hb, hbb⟩ := I1.ok.mod.blt
  have md := I1.ok.mod
  refine wpAny_call (HandSPX.call_kw F.excBase_ValueError (fun Y => HandSPX.refsVE_contains Y bm hbm) (I1.kIn _ _ hC) (looks_findIn I1.kIn iC) (fun self => bind_fn I1.kIn self tI)
    (sup_init true (s := ⟨(hp.push (kdv_tup [])).push (HandSPX.excO C hp.objs.size), g, dr, tk, os⟩) (mg := X.mg) (mb := mb) (e := hp.objs.size + 1) (t0 := hp.objs.size) S ?_ (I1.kIn.keeps kk) ?_ hsm ?_ (hbb _ (by decide)) ?_ hget hKe iC fun h' tk' dx t1 k dn dne hx hn => ?_))
  · exact (hr.make C [] [(f, u)]).depth
  · exact (md.glob.keeps I1.bk).keeps kk
  · exact (hb.keeps I1.bk).keeps kk
  · exact (md.nolimit.keeps I1.bk).keeps kk
  · obtain ⟨G, g1', g2'⟩ := restrict h' fun b => decide (b ≠ hp.objs.size + 1)
    have gk : ∀ b, b ≠ hp.objs.size + 1 → G.get? b = h'.get? b := fun b hb => g1' b (decide_eq_true hb)
    have ge : G.get? (hp.objs.size + 1) = none := g2' _ (by simp)
    have gs : ∀ b o, G.get? b = some o → h'.get? b = some o := fun b o z => by
      by_cases hba : b = hp.objs.size + 1
      · rw [hba, ge] at z
        cases z
      · exact (gk b hba).symm.trans z
    have dn' : hp.objs.size ≤ dx := by
      have z1 : hp.objs.size + 1 < ((hp.push (kdv_tup [])).push (HandSPX.excO C hp.objs.size)).objs.size := Heap.lt_size hget
      have z2 : ((hp.push (kdv_tup [])).push (HandSPX.excO C hp.objs.size)).objs.size ≤ dx := dn
      omega
    have hd0 : hp.get? dx = none := by
      cases z : hp.get? dx with
      | none => rfl
      | some o => exact absurd (Heap.lt_size z) (Nat.not_lt.mpr dn')
    have hdn : H1 dx = none := I1.hok.fresh dn'
    have J : Inv X pins σ (upd H1 dx (.xd [(f, v)])) ⟨G, g, dr, tk', os⟩ := I1.laidN (t' := tk') (h' := G) (fun b o z => by
        have hba : b ≠ hp.objs.size + 1 := Nat.ne_of_lt (Nat.lt_succ_of_lt (Heap.lt_size z))
        rw [gk b hba]
        exact k b o hba (kk b o z)) hd0 hdn (by
      have hn2 : G.Ns1 dx (fun y => if y = f then some u else none) := hn.at fun o z => (gk dx dne).trans z
      exact ⟨_, hn2, relO_put (fs := []) ru fun _ => True.intro⟩)
    refine ⟨rfl, hp.objs.size + 1, _, _, ⟨G, g, dr, tk', os⟩, _, .ref C, some dx, rfl, J, gs, ge, hx, ⟨rfl, rfl⟩, rfl, rfl, ?_, rfl, I1.bare, raises_own T.exC T.tyC, q1 dx hdn⟩
    rw [upd_ne (Ne.symm dne)]
    exact I1.hok.fresh (Nat.le_succ _)
end
section
variable {X : Cx} {κ : Pk} {all : List Str} {e : Expr} {ie : E} {p pos : Pos} {c f : Str} {kws : List Keyword}
variable [LamT]
theorem se_mkxK (S : SupC X.prog X.K (He.ga X.K c) f) (hf : excFld c = some f) (hr : Room 1 X.A) (hm : X.mg c = some (.ref (He.ga X.K c))) (hsm : X.mg "super" = none) (hg : Gl X c) (hdb : (c == ("__debug__" : Str)) = false)
    (hall : (backToKw pos (keywordEach kws X.env)).all (·.1.isSome) = true) (hks : (backToKw pos (keywordEach kws X.env)).filterMap (·.1) = [f])
    (hpl : ((backTo pos (starEach [] X.env)).any (·.1) || (backToKw pos (keywordEach kws X.env)).any (·.1.isNone)) = false) (htr : TruE X (.Call (.Name c p) [] kws pos)) (ha : SK X κ kws (.cons ie .nil)) : SEx X κ (.Call (.Name c p) [] kws pos) (.call (mkxF c) (.cons ie .nil)) := by
  refine sex_dft (w.eq_19 (mkxF c) (.cons ie .nil)) (fun _ _ _ _ _ => rfl) htr (pe_of_pmk (pmk_supK S hr hg hm hsm ha hall hks hdb hpl)) fun σ H Q h => ?_
  obtain ⟨F, M, P, σD, s, K, R, h, hK⟩ := h
  refine ⟨F, M, P, σD, s, _, R, h, fun ds σ1 s1 F1 M1 H1 vs k sf ex R1 q => ?_⟩
  have k' := k
  unfold mkxF at k'
  cases q with
  | nil => exact k'.elim
  | @cons d ds v vs rv rn =>
    cases rn with
    | cons _ _ => exact k'.elim
    | nil =>
      refine ⟨v, rfl, fun dd hdd a oe ha hz hd => ?_⟩
      have qd := R1.off hdd
      have R3 := (R1.junk (o := .xd [(f, v)]) hdd).freeze qd upd_same nofun
      have sf3 : Same F1 (upd F1 dd (.xd [(f, v)])) := same_upd qd.f
      have qa := R3.off ha
      have R4 := (R3.junk (o := ExK oe) ha).freeze qa upd_same nofun
      have sf4 : Same (upd F1 dd (.xd [(f, v)])) (upd (upd F1 dd (.xd [(f, v)])) a (ExK oe)) := same_upd qa.f
      exact hK (.val (.exc c [d])) σ1 s1 _ M1 _ _ k' (sf.trans (sf3.trans sf4)) ex R4 (.excf upd_same hz.1 hd hf hz.2 (sf4 _ _ upd_same) (rv.mono (sf3.trans sf4) (.refl M1)))
end
/-! ### str() -/
def rXStr (K : Frag) : List V → Hp → VK → Prop := fun xs H Q => ∃ (a t : Addr) (oe : Obj) (C : Addr) (m : Str), xs = [.ref a] ∧ (∃ w, H a = some (.frz oe w)) ∧ oe.cls = .ref C ∧ (∃ fv, oe.data = .fields fv ∧ fv[0]? = some (.ref t)) ∧ H t = some (.tup [.str m]) ∧
  findIn K (.ref C) "__str__" = some (some (.builtin "BaseException.__str__")) ∧ subIn K (.ref C) (.type "BaseException") = some true ∧ Q (.str m) H
theorem call_xstr {X : Cx} (hu : X.A.units + 64 < cLine) : CallR X (.type "str") (rXStr X.K) := by
  intro pins s σ H xs us Q I r h
  obtain ⟨a, t, oe, C, m, rfl, ⟨w0, h1⟩, h2, ⟨fv, h3, h4⟩, h5, hs, hB, q⟩ := h
  obtain ⟨u1, rfl, r1⟩ := vals1 r
  cases (show u1 = Value.ref a from r1)
  obtain ⟨its, hv, htup, _⟩ := I.tuple (xs := [.str m]) (SqT.of h5)
  obtain ⟨w', rfl, rw'⟩ := vals1 hv
  obtain ⟨tk, rfl⟩ : ∃ tk, w' = .str m tk := rw'
  obtain ⟨o, ho, hcl, n, hdat⟩ := htup
  have ha := (I.hok a _ h1).1
  exact PySem.P.str_of_C_one (by omega) ⟨I.kIn, oe, fv, ha, h2, h3, h4⟩ ⟨o, n, ho, hcl, hdat⟩ hs hB ⟨.str m, H, I, ⟨tk, rfl⟩, q⟩
section
variable {X : Cx} {κ : Pk} {all : List Str} {e : Expr} {ie : E} {p pos : Pos}
variable [LamT]
theorem se_xstr (hu : X.A.units + 64 < cLine) (hB : xstrB all X.K = true) (hg : Gl X "str") (hm : X.mg "str" = none) (he : starEach [e] X.env = (false, eval e X.env) :: starEach [] X.env)
    (hpl : (backTo pos (starEach [] X.env)).any (·.1) = false) (htr : TruE X (.Call (.Name "str" p) [e] [] pos)) (ha : SEx X κ e ie) : SEx X κ (.Call (.Name "str" p) [e] [] pos) (.call (xstrF all) (.cons ie .nil)) := by
  refine sex_dft (w.eq_19 (xstrF all) (.cons ie .nil)) (fun _ _ _ _ _ => rfl) htr (pe_callTy (call_xstr hu) hg hm (by decide +kernel) (pa_cons ha.v pa_nil he) (by decide) (by decide) he hpl) fun σ H Q h => ?_
  obtain ⟨F, M, P, σD, s, K, R, h, hK⟩ := h
  refine ⟨F, M, P, σD, s, _, R, h, fun o σ1 s1 F1 M1 H1 v k sf ex R1 q => ?_⟩
  obtain ⟨F2, sf2, R2, rv⟩ := R1.frz q
  unfold xstrF at k
  have k' : ∃ c m, o.frz = .exc c [.str m] ∧ (all.contains c && decide (excFld c = none)) = true ∧ K (.val (.str m)) σ1 s1 := by
    rw [ws.eq_1] at k
    dsimp only at k
    split at k
    · rename_i c m e
      injection e with e _
      exact ⟨c, m, e, k.1, k.2⟩
    · exact k.elim
  obtain ⟨c, m, e1, e2, e3⟩ := k'
  rw [e1] at rv
  simp only [Bool.and_eq_true, decide_eq_true_eq, List.contains_iff_mem] at e2
  have hb := List.all_eq_true.mp hB c e2.1
  simp only [Bool.and_eq_true] at hb
  cases rv with
  | excf h1 h2 h3 h4 h5 h6 h7 =>
    rw [e2.2] at h4
    cases h4
  | excm h1 h2 h3 h4 h5 h6 h7 =>
    cases h7
    exact ⟨_, _, _, _, m, rfl, ⟨_, R2.sF _ _ h1⟩, h2, h3, R2.sF _ _ h6, He.eqO_ok hb.1, of_decide_eq_true hb.2, hK (.val (.str m)) σ1 s1 F2 M1 H1 _ e3 (sf.trans sf2) ex R2 (.str m)⟩
end
end HP

set_option maxHeartbeats 4000000
namespace HP
open PySem L2
def b__law_marks : Ss := .cons (.asg (.name 1) (.lst (.cons (.isx allX "BadRecord" (.var 0)) (.cons (.isx allX "BadRule" (.var 0)) (.cons (.isx allX "BadDeed" (.var 0)) .nil))))) (.cons (.asg (.name 1) (.bin .add (.var 1) (.lst (.cons (.isx allX "BadHouse" (.var 0)) (.cons (.isx allX "BadRow" (.var 0)) (.cons (.isx allX "BadRecords" (.var 0)) .nil)))))) (.cons (.asg (.name 1) (.bin .add (.var 1) (.lst (.cons (.isx allX "BadBounds" (.var 0)) (.cons (.isx allX "BadWish" (.var 0)) (.cons (.isx allX "BadNumber" (.var 0)) .nil)))))) (.cons (.asg (.name 1) (.bin .add (.var 1) (.lst (.cons (.isx allX "BadChoice" (.var 0)) (.cons (.isx allX "NoDevice" (.var 0)) (.cons (.isx allX "NothingDone" (.var 0)) .nil)))))) (.cons (.ret (.bin .add (.var 1) (.lst (.cons (.isx allX "BadJournal" (.var 0)) (.cons (.isx allX "BadText" (.var 0)) .nil))))) .nil))))
def g__law_marks : Fn := mkFn 1 2 b__law_marks
-- _law_plain: 0=_law_page 1=_law_some
def b__law_plain : Ss := .cons (.asg (.name 1) (.lst (.cons (.tup (.cons (.lit (.int 0)) (.cons (.call (mkxF "BadRecord") (.cons (.var 0) .nil)) .nil))) (.cons (.tup (.cons (.lit (.int 2)) (.cons (.call (mkxF "BadDeed") (.cons (.var 0) .nil)) .nil))) (.cons (.tup (.cons (.lit (.int 6)) (.cons (.call (mkxF "BadBounds") (.cons (.var 0) .nil)) .nil))) (.cons (.tup (.cons (.lit (.int 8)) (.cons (.call (mkxF "BadNumber") (.cons (.var 0) .nil)) .nil))) .nil)))))) (.cons (.ret (.bin .add (.var 1) (.lst (.cons (.tup (.cons (.lit (.int 9)) (.cons (.call (mkxF "BadChoice") (.cons (.var 0) .nil)) .nil))) (.cons (.tup (.cons (.lit (.int 11)) (.cons (.call (mkxF "NothingDone") (.cons (.var 0) .nil)) .nil))) (.cons (.tup (.cons (.lit (.int 99)) (.cons (.call (mkxF "PlaceError") (.cons (.var 0) .nil)) .nil))) .nil)))))) .nil)
def g__law_plain : Fn := mkFn 1 2 b__law_plain
-- _law_blend: 0=_law_draw 1=_law_turn 2=_law_found 3=_law_prime 4=_law_blend_here 5=_law_cell
def l__law_blend_1 : Ss := .cons (.asg (.name 4) (.bin .mod (.bi .int (.cons (.bin .add (.bin .mul (.var 4) (.lit (.int 48271))) (.var 5)) .nil)) (.var 3))) .nil
def l__law_blend_2 : Ss := .cons (.asg (.name 4) (.bin .mod (.bi .int (.cons (.bin .add (.bin .mul (.var 1) (.lit (.int 69621))) (.bin .fdiv (.var 3) (.lit (.int 7)))) .nil)) (.var 3))) (.cons (.for_ (.name 5) (.seq (.ix (.var 0) (.lit (.str "cells")))) l__law_blend_1) (.cons (.asg (.name 2) (.bin .add (.bin .mul (.var 2) (.lit (.int 2147483647))) (.bin .mod (.bi .int (.cons (.bin .pow (.var 4) (.lit (.int 5))) .nil)) (.var 3)))) .nil))
def b__law_blend : Ss := .cons (.asg (.name 1) (.bin .add (.ix (.var 0) (.lit (.str "turn"))) (.lit (.int 1)))) (.cons (.setix (.var 0) (.lit (.str "turn")) (.var 1)) (.cons (.asg (.name 2) (.lit (.int 0))) (.cons (.for_ (.name 3) (.seq (.lst (.cons (.lit (.int 2147483629)) (.cons (.lit (.int 2147483587)) (.cons (.lit (.int 2147483579)) (.cons (.lit (.int 2147483563)) .nil)))))) l__law_blend_2) (.cons (.ret (.var 2)) .nil))))
def g__law_blend : Fn := mkFn 1 6 b__law_blend
-- _law_begin: 0=_law_script 1=_law_great 2=_law_cell
def b__law_begin : Ss := .cons (.asg (.name 1) (.alloc (.lc [2] (.bin .sub (.bi .abs (.cons (.var 2) .nil)) (.bin .pow (.lit (.int 10)) (.lit (.int 18)))) (.one (.name 2) (.seq (.var 0)) (.cons (.cmp .ge (.bi .abs (.cons (.var 2) .nil)) (.bin .pow (.lit (.int 10)) (.lit (.int 18)))) .nil))))) (.cons (.ret (.alloc (.dct (.cons (.lit (.str "great")) (.cons (.var 1) (.cons (.lit (.str "rest")) (.cons (.lit (.int 0)) (.cons (.lit (.str "cells")) (.cons (.lc [2] (.bi .abs (.cons (.var 2) .nil)) (.one (.name 2) (.seq (.var 0)) .nil)) (.cons (.lit (.str "turn")) (.cons (.lit (.int 0)) .nil))))))))))) .nil)
def g__law_begin : Fn := mkFn 1 3 b__law_begin
-- _law_alone: 0=_law_error 1=_law_place 2=_law_due 3=_law_k
def b__law_alone : Ss := .cons (.asg (.name 2) (.lc [3] (.cmp .eq (.var 3) (.var 1)) (.one (.name 3) (.rng1 (.lit (.int 14))) .nil))) (.cons (.ret (.and_ (.cmp .eq (.call g__law_marks (.cons (.var 0) .nil)) (.var 2)) (.and_ (.isx allX "PlaceError" (.var 0)) (.isx allX "ValueError" (.var 0))))) .nil)
def g__law_alone : Fn := mkFn 2 4 b__law_alone
-- _law_with_fields: 0=_law_item 1=_law_some 2=_law_done 3=_law_k 4=_law_error
def b__law_with_fields : Ss := .cons (.asg (.name 1) (.lst (.cons (.call (mkxF "BadRule") (.cons (.var 0) .nil)) (.cons (.call (mkxF "BadRule") (.cons (.var 0) .nil)) (.cons (.call (mkxF "BadHouse") (.cons (.var 0) .nil)) (.cons (.call (mkxF "BadHouse") (.cons (.var 0) .nil)) .nil)))))) (.cons (.asg (.name 2) (.lc [3, 4] (.tup (.cons (.ix (.lst (.cons (.lit (.int 1)) (.cons (.lit (.int 3)) .nil))) (.bin .fdiv (.var 3) (.lit (.int 2)))) (.cons (.var 4) (.cons (.xfld allX (.var 4) "part") .nil)))) (.one (.tup [.name 3, .name 4]) (.enum (.var 1) .nil) .nil))) (.cons (.asg (.name 1) (.lst (.cons (.call (mkxF "BadRow") (.cons (.var 0) .nil)) (.cons (.call (mkxF "BadRow") (.cons (.var 0) .nil)) (.cons (.call (mkxF "BadRecords") (.cons (.var 0) .nil)) (.cons (.call (mkxF "BadRecords") (.cons (.var 0) .nil)) (.cons (.call (mkxF "BadWish") (.cons (.var 0) .nil)) (.cons (.call (mkxF "BadWish") (.cons (.var 0) .nil)) .nil)))))))) (.cons (.asg (.name 1) (.bin .add (.var 1) (.lst (.cons (.call (mkxF "BadJournal") (.cons (.var 0) .nil)) (.cons (.call (mkxF "BadJournal") (.cons (.var 0) .nil)) .nil))))) (.cons (.asg (.name 2) (.bin .add (.var 2) (.lc [3, 4] (.tup (.cons (.ix (.lst (.cons (.lit (.int 4)) (.cons (.lit (.int 5)) (.cons (.lit (.int 7)) (.cons (.lit (.int 12)) .nil))))) (.bin .fdiv (.var 3) (.lit (.int 2)))) (.cons (.var 4) (.cons (.xfld allX (.var 4) "at") .nil)))) (.one (.tup [.name 3, .name 4]) (.enum (.var 1) .nil) .nil)))) (.cons (.asg (.name 2) (.bin .add (.var 2) (.lc [4] (.tup (.cons (.lit (.int 10)) (.cons (.var 4) (.cons (.xfld allX (.var 4) "name") .nil)))) (.one (.name 4) (.seq (.lst (.cons (.call (mkxF "NoDevice") (.cons (.var 0) .nil)) (.cons (.call (mkxF "NoDevice") (.cons (.var 0) .nil)) .nil)))) .nil)))) (.cons (.ret (.bin .add (.var 2) (.lc [4] (.tup (.cons (.lit (.int 13)) (.cons (.var 4) (.cons (.xfld allX (.var 4) "line") .nil)))) (.one (.name 4) (.seq (.lst (.cons (.call (mkxF "BadText") (.cons (.var 0) .nil)) (.cons (.call (mkxF "BadText") (.cons (.var 0) .nil)) .nil)))) .nil)))) .nil))))))
def g__law_with_fields : Fn := mkFn 1 5 b__law_with_fields
-- _law_take: 0=_law_draw 1=_law_many 2=_law_found
def b__law_take : Ss := .cons (.ife (.and_ (.cmp .eq (.ix (.var 0) (.lit (.str "rest"))) (.lit (.int 0))) (.cmp .ne (.ix (.var 0) (.lit (.str "great"))) (.lst .nil))) (.cons (.setix (.var 0) (.lit (.str "rest")) (.mm .pop (.ix (.var 0) (.lit (.str "great"))) (.cons (.lit (.int 0)) .nil))) .nil) .nil) (.cons (.ife (.cmp .eq (.ix (.var 0) (.lit (.str "rest"))) (.lit (.int 0))) (.cons (.setix (.var 0) (.lit (.str "rest")) (.call g__law_blend (.cons (.var 0) .nil))) .nil) .nil) (.cons (.asg (.name 2) (.bin .mod (.bi .int (.cons (.ix (.var 0) (.lit (.str "rest"))) .nil)) (.var 1))) (.cons (.setix (.var 0) (.lit (.str "rest")) (.bin .fdiv (.ix (.var 0) (.lit (.str "rest"))) (.var 1))) (.cons (.ret (.var 2)) .nil))))
def g__law_take : Fn := mkFn 2 3 b__law_take
-- _law_pick: 0=_law_draw 1=_law_some
def b__law_pick : Ss := .cons (.ret (.ix (.var 1) (.call g__law_take (.cons (.var 0) (.cons (.bi .len (.cons (.var 1) .nil)) .nil))))) .nil
def g__law_pick : Fn := mkFn 2 2 b__law_pick
-- law: 0=_law_script 1=_law_draw 2=_law_turn 3=_law_page 4=_law_item 5=_law_place 6=_law_error 7=_law_field 8=_law_ground
def l_law_1 : Ss := .cons (.ife (.or_ (.cmp .ne (.call (xstrF allX) (.cons (.var 6) .nil)) (.var 3)) (.and_ (.cmp .lt (.var 5) (.lit (.int 14))) (.not_ (.call g__law_alone (.cons (.var 6) (.cons (.var 5) .nil)))))) (.cons (.ret (.lit (.bl false))) .nil) .nil) .nil
def l_law_2 : Ss := .cons (.ife (.or_ (.not_ (.call g__law_alone (.cons (.var 6) (.cons (.var 5) .nil)))) (.cmp .ne (.bi .repr (.cons (.var 7) .nil)) (.bi .repr (.cons (.var 4) .nil)))) (.cons (.ret (.lit (.bl false))) .nil) .nil) .nil
def l_law_3 : Ss := .cons (.asg (.name 3) (.call g__law_pick (.cons (.var 1) (.cons (.lst (.cons (.lit (.str "")) (.cons (.lit (.str "a")) (.cons (.lit (.str "no record")) (.cons (.lit (.str "come a 0")) .nil))))) .nil)))) (.cons (.asg (.name 4) (.call g__law_pick (.cons (.var 1) (.cons (.lst (.cons (.lit (.int 0)) (.cons (.lit (.int 1)) (.cons (.lit .non) (.cons (.lit (.str "order")) (.cons (.lit (.str "a")) (.cons (.tup (.cons (.lit (.int 1)) (.cons (.lit .non) .nil))) (.cons (.tup (.cons (.tup (.cons (.lit (.int 0)) (.cons (.lit (.bl true)) .nil))) .nil)) (.cons (.lst (.cons (.lit (.int 3)) .nil)) (.cons (.bin .pow (.lit (.int 10)) (.lit (.int 12))) .nil)))))))))) .nil)))) (.cons (.for_ (.tup [.name 5, .name 6]) (.seq (.call g__law_plain (.cons (.var 3) .nil))) l_law_1) (.cons (.for_ (.tup [.name 5, .name 6, .name 7]) (.seq (.call g__law_with_fields (.cons (.var 4) .nil))) l_law_2) (.cons (.asg (.name 8) (.call (mkxF "PlaceError") (.cons (.var 3) .nil))) (.cons (.ife (.or_ (.cmp .ne (.call g__law_marks (.cons (.var 8) .nil)) (.bin .mul (.lst (.cons (.lit (.bl false)) .nil)) (.lit (.int 14)))) (.not_ (.isx allX "ValueError" (.var 8)))) (.cons (.ret (.lit (.bl false))) .nil) .nil) .nil)))))
def b_law : Ss := .cons (.asg (.name 1) (.call g__law_begin (.cons (.var 0) .nil))) (.cons (.for_ (.name 2) (.rng1 (.bin .add (.lit (.int 1)) (.bi .min (.cons (.bi .len (.cons (.var 0) .nil)) (.cons (.lit (.int 3)) .nil))))) l_law_3) (.cons (.ret (.lit (.bl true))) .nil))
def g_law : Fn := mkFn 1 9 b_law
end HP

set_option maxHeartbeats 0
namespace HP
open PySem L2
abbrev Tt (K : PySem.W.Frag) (mg : Str → Option Value) (base : Heap) : Prop := Tl fa exB fnl K mg base
theorem Tl.exs {K : PySem.W.Frag} {mg : Str → Option Value} {base : Heap} (T : Tt K mg base) (i : Nat) {b : PySem.W.Frag → Bool} (h : HP.exs[i]? = some b) : b K = true := List.all_eq_true.mp T.ex b (List.mem_of_getElem? h)
end HP
namespace HP
open PySem L2
end HP

set_option maxHeartbeats 2000000
/-! HpStep: the functional semantics as equations that go on from the front alone: what is wanted behind is held (Hd), so that simp leaves it as it is. Printed by stepgen.py. -/
namespace HP
open PySem PySem.W

/-- held: simp (dsimp := false) does not look into it -/
structure Hd {b : Sort _} (k : b) : Type where
  mk ::
def optH {α : Type} (o : Option α) (k : α → Prop) (_ : Hd k := ⟨⟩) : Prop := optK o k
theorem optH_s {α : Type} (a : α) (k : α → Prop) (h : Hd k) : optH (some a) k h = k a := rfl
def iteH (b : Bool) (x y : Prop) (_ : Hd x := ⟨⟩) (_ : Hd y := ⟨⟩) : Prop := if b = true then x else y
theorem iteH_t (x y : Prop) (h : Hd x) (h2 : Hd y) : iteH true x y h h2 = x := if_pos rfl
theorem iteH_f (x y : Prop) (h : Hd x) (h2 : Hd y) : iteH false x y h h2 = y := if_neg Bool.false_ne_true
def andH (p q : Prop) (_ : Hd q := ⟨⟩) : Prop := p ∧ q
theorem andH_t (q : Prop) (h : Hd q) : andH True q h = q := by simp [andH]
def onSlot (o : Option Slot) (kv : D → Prop) (ko : Cont → Prop) (_ : Hd kv := ⟨⟩) (_ : Hd ko := ⟨⟩) : Prop := match o with
  | some (.val d) => kv d
  | some (.own c) => ko c
  | _ => False
theorem onSlot_v (d : D) (kv : D → Prop) (ko : Cont → Prop) (h : Hd kv) (h2 : Hd ko) : onSlot (some (.val d)) kv ko h h2 = kv d := rfl
theorem onSlot_o (c : Cont) (kv : D → Prop) (ko : Cont → Prop) (h : Hd kv) (h2 : Hd ko) : onSlot (some (.own c)) kv ko h h2 = ko c := rfl
def onInt (d : D) (k : Int → Prop) (_ : Hd k := ⟨⟩) : Prop := match d with
  | .int i => k i
  | _ => False
theorem onInt_i (i : Int) (k : Int → Prop) (h : Hd k) : onInt (.int i) k h = k i := rfl
def onBl (o : Out) (k : Bool → Prop) (_ : Hd k := ⟨⟩) : Prop := match o with
  | .val (.bl b) => k b
  | _ => False
theorem onBl_b (b : Bool) (k : Bool → Prop) (h : Hd k) : onBl (.val (.bl b)) k h = k b := rfl
def onOwn (o : Out) (k : Cont → Prop) (_ : Hd k := ⟨⟩) : Prop := match o with
  | .own c => k c
  | .val _ => False
theorem onOwn_o (c : Cont) (k : Cont → Prop) (h : Hd k) : onOwn (.own c) k h = k c := rfl
def onTup (d : D) (k : List D → Prop) (_ : Hd k := ⟨⟩) : Prop := match d with
  | .tup xs => k xs
  | .lst xs => k xs
  | _ => False
theorem onTup_l (xs : List D) (k : List D → Prop) (h : Hd k) : onTup (.lst xs) k h = k xs := rfl
theorem onTup_t (xs : List D) (k : List D → Prop) (h : Hd k) : onTup (.tup xs) k h = k xs := rfl
def onCons (ds : List D) (k : D → List D → Prop) (_ : Hd k := ⟨⟩) : Prop := match ds with
  | [] => False
  | x :: xs => k x xs
theorem onCons_c (x : D) (xs : List D) (k : D → List D → Prop) (h : Hd k) : onCons (x :: xs) k h = k x xs := rfl
def onZip (ds : List D) (k : List D → Prop) (_ : Hd k := ⟨⟩) : Prop := match ds with
  | [.lst xs, .lst ys] => k (zipD xs ys)
  | [.tup xs, .tup ys] => k (zipD xs ys)
  | _ => False
theorem onZip_l (xs ys : List D) (k : List D → Prop) (h : Hd k) : onZip [.lst xs, .lst ys] k h = k (zipD xs ys) := rfl
theorem onZip_t (xs ys : List D) (k : List D → Prop) (h : Hd k) : onZip [.tup xs, .tup ys] k h = k (zipD xs ys) := rfl
def onDct (d : D) (k : List D → List D → Prop) (_ : Hd k := ⟨⟩) : Prop := match d with
  | .dct ks vs => k ks vs
  | _ => False
theorem onDct_d (ks vs : List D) (k : List D → List D → Prop) (h : Hd k) : onDct (.dct ks vs) k h = k ks vs := rfl
def onTab (d : D) (k : List D → List D → Prop) (_ : Hd k := ⟨⟩) : Prop := match d with
  | .tab ks vs => k ks vs
  | _ => False
theorem onTab_d (ks vs : List D) (k : List D → List D → Prop) (h : Hd k) : onTab (.tab ks vs) k h = k ks vs := rfl
def onFlat (τ : Slots) (o : Out) (k : Out → Prop) (_ : Hd k := ⟨⟩) : Prop := lentK τ o k
theorem onFlat_i (τ : Slots) (i : Int) (k : Out → Prop) (h : Hd k) : onFlat τ (.val (.int i)) k h = k (.val (.int i)) := by simp [onFlat, lentK, flatV]
theorem onFlat_b (τ : Slots) (i : Bool) (k : Out → Prop) (h : Hd k) : onFlat τ (.val (.bl i)) k h = k (.val (.bl i)) := by simp [onFlat, lentK, flatV]
theorem onFlat_s (τ : Slots) (i : Str) (k : Out → Prop) (h : Hd k) : onFlat τ (.val (.str i)) k h = k (.val (.str i)) := by simp [onFlat, lentK, flatV]
theorem onFlat_n (τ : Slots) (k : Out → Prop) (h : Hd k) : onFlat τ (.val .non) k h = k (.val .non) := by simp [onFlat, lentK, flatV]
theorem onFlat_l (τ : Slots) (xs : List D) (k : Out → Prop) (h : Hd k) : onFlat τ (.val (.lst xs)) k h = andH (τ.all Slot.noIL = true) (andH ((headI xs && (allInt xs).isSome) = true) (k (.own (.lst xs)))) := rfl
def onPair (d : D) (k : D → D → Prop) (_ : Hd k := ⟨⟩) : Prop := match d with
  | .tup [a, b] => k a b
  | _ => False
theorem onPair_p (a b : D) (k : D → D → Prop) (h : Hd k) : onPair (.tup [a, b]) k h = k a b := rfl
/-- a call that waits -/
def callH (g : Fn) (ds : List D) (s : Store) (Q : Out → Store → Prop) (X : Exc → Store → Prop) (_ : Hd Q := ⟨⟩) (_ : Hd X := ⟨⟩) : Prop := g ds s Q X
theorem vres_v (σ : Slots) (s : Store) (d : D) : vres σ s (.val d) = some (view s d) := rfl
/-- for each address: it is held until it is entered -/
def allH (k : Addr → Prop) (_ : Hd k := ⟨⟩) : Prop := ∀ a, k a
/-- what a lambda does when it is called -/
def thk (e : E) (τ : Slots) : Fn := fun _ s Q Z => (w e).v τ s (fun o _ s => Q o s) (fun x _ s => Z x s)
def thkN (es : Es) (j : Nat) (τ : Slots) : Fn := fun _ s Q Z => wN es j τ s (fun o _ s => Q o s) (fun x _ s => Z x s)
def onClo (d : D) (k : List (Str × Addr) → Nat → LamSyn → Prop) (_ : Hd k := ⟨⟩) : Prop := match d with
  | .clo L j y => k L j y
  | _ => False
theorem onClo_c (L : List (Str × Addr)) (j : Nat) (y : LamSyn) (k : List (Str × Addr) → Nat → LamSyn → Prop) (h : Hd k) : onClo (.clo L j y) k h = k L j y := rfl
def revSem : D → Option Out
  | .lst xs => some (.own (.lst xs.reverse))
  | .tup xs => some (.val (.tup xs.reverse))
  | _ => none
def fldSem (c n : Str) : D → Option D
  | .ins c' ns vs => if c' = c then lookF ns vs n else none
  | _ => none

/-! ### the words -/
def xE (e : E) (σ : Slots) (s : Store) (K : QO) (X : QX) (_ : Hd K := ⟨⟩) (_ : Hd X := ⟨⟩) : Prop := (w e).v σ s K X
def xT (e : E) (σ : Slots) (s : Store) (K : QB) (X : QX) (_ : Hd K := ⟨⟩) (_ : Hd X := ⟨⟩) : Prop := (w e).t σ s K X
def xA (e : E) (σ : Slots) (s : Store) (K : Opd → Slots → Store → Prop) (X : QX) (_ : Hd K := ⟨⟩) (_ : Hd X := ⟨⟩) : Prop := asOp e (w e).v σ s K X
def xV (es : Es) (σ : Slots) (s : Store) (K : List D → Slots → Store → Prop) (X : QX) (_ : Hd K := ⟨⟩) (_ : Hd X := ⟨⟩) : Prop := (ws es).vals σ s K X
def xO (es : Es) (σ : Slots) (s : Store) (K : List Opd → Slots → Store → Prop) (X : QX) (_ : Hd K := ⟨⟩) (_ : Hd X := ⟨⟩) : Prop := (ws es).opds σ s K X
def xU (es : Es) (σ : Slots) (s : Store) (K : List Out → Slots → Store → Prop) (X : QX) (_ : Hd K := ⟨⟩) (_ : Hd X := ⟨⟩) : Prop := (ws es).outs σ s K X
def xF (es : Es) (σ : Slots) (s : Store) (K : QB) (_ : Hd K := ⟨⟩) : Prop := (ws es).ifs σ s K
def xI (it : It) (σ : Slots) (s : Store) (K : List D → Slots → Store → Prop) (X : QX) (_ : Hd K := ⟨⟩) (_ : Hd X := ⟨⟩) : Prop := wIt it σ s K X
def xP (es : Es) (σ : Slots) (s : Store) (K : List (D × D) → Slots → Store → Prop) (X : QX) (_ : Hd K := ⟨⟩) (_ : Hd X := ⟨⟩) : Prop := wPs es σ s K X
def xN (es : Es) (σ : Slots) (s : Store) (K : Option Int → Slots → Store → Prop) (X : QX) (_ : Hd K := ⟨⟩) (_ : Hd X := ⟨⟩) : Prop := wO es σ s K X
/-- what is wanted but of going on -/
structure Rst where
  rt : Out → Store → Prop
  bk : QN
  ct : QN
  ex : QX
abbrev Rst.post (P : Rst) (N : QN) : Post := ⟨N, P.rt, P.bk, P.ct, P.ex⟩
/-- first a is brought to its form, then k goes on with it -/
def goH {α : Type} (a : α) (k : α → Prop) (_ : Hd k := ⟨⟩) : Prop := k a
theorem goH_go {α : Type} (a : α) (k : α → Prop) (h : Hd k) : goH a k h = k a := rfl
def xS (st : S) (σ : Slots) (s : Store) (N : QN) (P : Rst) (_ : Hd N := ⟨⟩) (_ : Hd P := ⟨⟩) : Prop := wS st σ s (P.post N)
def xB (st : Ss) (σ : Slots) (s : Store) (N : QN) (P : Rst) (_ : Hd N := ⟨⟩) (_ : Hd P := ⟨⟩) : Prop := wSs st σ s (P.post N)
def xG (t : Tg) (d : D) (σ : Slots) (s : Store) (K : QN) (_ : Hd K := ⟨⟩) : Prop := wTg t d σ s K
def xGs (ts : List Tg) (ds : List D) (σ : Slots) (s : Store) (K : QN) (_ : Hd K := ⟨⟩) : Prop := wTgs ts ds σ s K
/-- what a name or a reference stands for is changed -/
def upH (o : Opd) (σ : Slots) (s : Store) (f : Cont → Option (Cont × D)) (K : D → Slots → Store → Prop) (_ : Hd K := ⟨⟩) : Prop := upCont o σ s f K
theorem upH_s {i : Nat} {σ : Slots} {s : Store} {f : Cont → Option (Cont × D)} {K : D → Slots → Store → Prop} {h : Hd K} : upH (.slot i) σ s f K h = onSlot σ[i]? (fun _ => False) (fun c => optH (f c) fun p => goH (σ.set i (.own p.1)) fun σ => K p.2 σ s) := by
  simp only [upH, upCont, onSlot]
  cases e : σ[i]? with
  | none => rfl
  | some sl => cases sl <;> rfl
theorem upH_r {n : Nat} {σ : Slots} {s : Store} {f : Cont → Option (Cont × D)} {K : D → Slots → Store → Prop} {h : Hd K} : upH (.val (.ref n)) σ s f K h = optH s[n]? fun c => optH (f c) fun p => goH (s.set n p.1) fun s => K p.2 σ s := rfl
def loopH (t : Tg) (b : Ss) : List D → Slots → Store → (N : QN) → (P : Rst) → (_ : Hd N) → (_ : Hd P) → Prop
  | [], σ, s, N, P, _, _ => N σ s
  | x :: xs, σ, s, N, P, h, h2 => xG t x σ s fun σ s => xB b σ s (fun σ s => loopH t b xs σ s N P h h2) ⟨P.rt, N, fun σ s => loopH t b xs σ s N P h h2, P.ex⟩
def whH (c : E) (b : Ss) : Nat → Slots → Store → (N : QN) → (P : Rst) → (_ : Hd N) → (_ : Hd P) → Prop
  | 0, _, _, _, _, _, _ => False
  | n + 1, σ, s, N, P, h, h2 => xT c σ s (fun r σ s => iteH r (xB b σ s (fun σ s => whH c b n σ s N P h h2) ⟨P.rt, N, fun σ s => whH c b n σ s N P h h2, P.ex⟩) (N σ s)) P.ex
def lcH (vs : List Nat) (e : E) (t : Tg) (ifs : Es) : List D → List D → Slots → Store → (K : List D → Slots → Store → Prop) → (_ : Hd K) → Prop
  | [], acc, σ, s, K, _ => K acc σ s
  | x :: xs, acc, σ, s, K, h => goH (wipeS σ vs) fun σ => xG t x σ s fun σ s => xF ifs σ s fun c σ s => iteH c (xE e σ s (fun o σ s => iteH (decide (acc.length < big)) (lcH vs e t ifs xs (acc ++ [o.frz]) σ s K h) False) noX) (lcH vs e t ifs xs acc σ s K h)
def onOpV (x : Opd) (k : D → Prop) : Prop := match x with
  | .val d => k d
  | .slot _ => False
def lcRH (d : D) (zs : List D) (vs : List Nat) (e : E) (t : Tg) (ifs : Es) : List D → List D → Slots → Store → (K : List D → Slots → Store → Prop) → (_ : Hd K) → Prop
  | [], acc, σ, s, K, _ => andH (walkOf (view s d) = some zs) (K acc σ s)
  | x :: xs, acc, σ, s, K, h => andH (walkOf (view s d) = some zs) (goH (wipeS σ vs) fun σ => xG t x σ s fun σ s => xF ifs σ s fun c σ s => iteH c (xE e σ s (fun o σ s => iteH (decide (acc.length < big)) (lcRH d zs vs e t ifs xs (acc ++ [o.frz]) σ s K h) False) noX) (lcRH d zs vs e t ifs xs acc σ s K h))
theorem xA_lit (d : D) {σ : Slots} {s : Store} {K : Opd → Slots → Store → Prop} {X : QX} {h : Hd K} {h2 : Hd X} : xA (.lit d) σ s K X h h2 = xE (.lit d) σ s (fun o σ s => K (.val o.frz) σ s) X := rfl
theorem xA_bin (o : BinO) (a b : E) {σ : Slots} {s : Store} {K : Opd → Slots → Store → Prop} {X : QX} {h : Hd K} {h2 : Hd X} : xA (.bin o a b) σ s K X h h2 = xE (.bin o a b) σ s (fun o σ s => K (.val o.frz) σ s) X := rfl
theorem xA_neg (a : E) {σ : Slots} {s : Store} {K : Opd → Slots → Store → Prop} {X : QX} {h : Hd K} {h2 : Hd X} : xA (.neg a) σ s K X h h2 = xE (.neg a) σ s (fun o σ s => K (.val o.frz) σ s) X := rfl
theorem xA_cmp (o : CmpO) (a b : E) {σ : Slots} {s : Store} {K : Opd → Slots → Store → Prop} {X : QX} {h : Hd K} {h2 : Hd X} : xA (.cmp o a b) σ s K X h h2 = xE (.cmp o a b) σ s (fun o σ s => K (.val o.frz) σ s) X := rfl
theorem xA_chain (o p : CmpO) (a b c : E) {σ : Slots} {s : Store} {K : Opd → Slots → Store → Prop} {X : QX} {h : Hd K} {h2 : Hd X} : xA (.chain o p a b c) σ s K X h h2 = xE (.chain o p a b c) σ s (fun o σ s => K (.val o.frz) σ s) X := rfl
theorem xA_not_ (a : E) {σ : Slots} {s : Store} {K : Opd → Slots → Store → Prop} {X : QX} {h : Hd K} {h2 : Hd X} : xA (.not_ a) σ s K X h h2 = xE (.not_ a) σ s (fun o σ s => K (.val o.frz) σ s) X := rfl
theorem xA_and_ (a b : E) {σ : Slots} {s : Store} {K : Opd → Slots → Store → Prop} {X : QX} {h : Hd K} {h2 : Hd X} : xA (.and_ a b) σ s K X h h2 = xE (.and_ a b) σ s (fun o σ s => K (.val o.frz) σ s) X := rfl
theorem xA_or_ (a b : E) {σ : Slots} {s : Store} {K : Opd → Slots → Store → Prop} {X : QX} {h : Hd K} {h2 : Hd X} : xA (.or_ a b) σ s K X h h2 = xE (.or_ a b) σ s (fun o σ s => K (.val o.frz) σ s) X := rfl
theorem xA_ife (c a b : E) {σ : Slots} {s : Store} {K : Opd → Slots → Store → Prop} {X : QX} {h : Hd K} {h2 : Hd X} : xA (.ife c a b) σ s K X h h2 = xE (.ife c a b) σ s (fun o σ s => K (.val o.frz) σ s) X := rfl
theorem xA_tup (es : Es) {σ : Slots} {s : Store} {K : Opd → Slots → Store → Prop} {X : QX} {h : Hd K} {h2 : Hd X} : xA (.tup es) σ s K X h h2 = xE (.tup es) σ s (fun o σ s => K (.val o.frz) σ s) X := rfl
theorem xA_lst (es : Es) {σ : Slots} {s : Store} {K : Opd → Slots → Store → Prop} {X : QX} {h : Hd K} {h2 : Hd X} : xA (.lst es) σ s K X h h2 = xE (.lst es) σ s (fun o σ s => K (.val o.frz) σ s) X := rfl
theorem xA_dct (es : Es) {σ : Slots} {s : Store} {K : Opd → Slots → Store → Prop} {X : QX} {h : Hd K} {h2 : Hd X} : xA (.dct es) σ s K X h h2 = xE (.dct es) σ s (fun o σ s => K (.val o.frz) σ s) X := rfl
theorem xA_ix (a b : E) {σ : Slots} {s : Store} {K : Opd → Slots → Store → Prop} {X : QX} {h : Hd K} {h2 : Hd X} : xA (.ix a b) σ s K X h h2 = xE (.ix a b) σ s (fun o σ s => K (.val o.frz) σ s) X := rfl
theorem xA_sl (a : E) (lo hi : Es) {σ : Slots} {s : Store} {K : Opd → Slots → Store → Prop} {X : QX} {h : Hd K} {h2 : Hd X} : xA (.sl a lo hi) σ s K X h h2 = xE (.sl a lo hi) σ s (fun o σ s => K (.val o.frz) σ s) X := rfl
theorem xA_rev (a : E) {σ : Slots} {s : Store} {K : Opd → Slots → Store → Prop} {X : QX} {h : Hd K} {h2 : Hd X} : xA (.rev a) σ s K X h h2 = xE (.rev a) σ s (fun o σ s => K (.val o.frz) σ s) X := rfl
theorem xA_fld (c : Str) (a : E) (n : Str) {σ : Slots} {s : Store} {K : Opd → Slots → Store → Prop} {X : QX} {h : Hd K} {h2 : Hd X} : xA (.fld c a n) σ s K X h h2 = xE (.fld c a n) σ s (fun o σ s => K (.val o.frz) σ s) X := rfl
theorem xA_prop (c : Str) (g : Fn) (a : E) {σ : Slots} {s : Store} {K : Opd → Slots → Store → Prop} {X : QX} {h : Hd K} {h2 : Hd X} : xA (.prop c g a) σ s K X h h2 = xE (.prop c g a) σ s (fun o σ s => K (.val o.frz) σ s) X := rfl
theorem xA_call (g : Fn) (es : Es) {σ : Slots} {s : Store} {K : Opd → Slots → Store → Prop} {X : QX} {h : Hd K} {h2 : Hd X} : xA (.call g es) σ s K X h h2 = xE (.call g es) σ s (fun o σ s => K (.val o.frz) σ s) X := rfl
theorem xA_callp (g : Fn) (p : List Nat) (es : Es) {σ : Slots} {s : Store} {K : Opd → Slots → Store → Prop} {X : QX} {h : Hd K} {h2 : Hd X} : xA (.callp g p es) σ s K X h h2 = xE (.callp g p es) σ s (fun o σ s => K (.val o.frz) σ s) X := rfl
theorem xA_meth (c m : Str) (g : Fn) (o : E) (es : Es) {σ : Slots} {s : Store} {K : Opd → Slots → Store → Prop} {X : QX} {h : Hd K} {h2 : Hd X} : xA (.meth c m g o es) σ s K X h h2 = xE (.meth c m g o es) σ s (fun o σ s => K (.val o.frz) σ s) X := rfl
theorem xA_mk (c : Str) (g : Fn) (es : Es) {σ : Slots} {s : Store} {K : Opd → Slots → Store → Prop} {X : QX} {h : Hd K} {h2 : Hd X} : xA (.mk c g es) σ s K X h h2 = xE (.mk c g es) σ s (fun o σ s => K (.val o.frz) σ s) X := rfl
theorem xA_alloc (e : E) {σ : Slots} {s : Store} {K : Opd → Slots → Store → Prop} {X : QX} {h : Hd K} {h2 : Hd X} : xA (.alloc e) σ s K X h h2 = xE (.alloc e) σ s (fun o σ s => K (.val o.frz) σ s) X := rfl
theorem xA_bi (b : Bi) (es : Es) {σ : Slots} {s : Store} {K : Opd → Slots → Store → Prop} {X : QX} {h : Hd K} {h2 : Hd X} : xA (.bi b es) σ s K X h h2 = xE (.bi b es) σ s (fun o σ s => K (.val o.frz) σ s) X := rfl
theorem xA_isi (l : List Str) (cs : List Cl) (a : E) {σ : Slots} {s : Store} {K : Opd → Slots → Store → Prop} {X : QX} {h : Hd K} {h2 : Hd X} : xA (.isi l cs a) σ s K X h h2 = xE (.isi l cs a) σ s (fun o σ s => K (.val o.frz) σ s) X := rfl
theorem xA_rng (t : Bool) (es : Es) {σ : Slots} {s : Store} {K : Opd → Slots → Store → Prop} {X : QX} {h : Hd K} {h2 : Hd X} : xA (.rng t es) σ s K X h h2 = xE (.rng t es) σ s (fun o σ s => K (.val o.frz) σ s) X := rfl
theorem xA_bm (m : Bm) (o : E) (es : Es) {σ : Slots} {s : Store} {K : Opd → Slots → Store → Prop} {X : QX} {h : Hd K} {h2 : Hd X} : xA (.bm m o es) σ s K X h h2 = xE (.bm m o es) σ s (fun o σ s => K (.val o.frz) σ s) X := rfl
theorem xA_mm (m : Mm) (o : E) (es : Es) {σ : Slots} {s : Store} {K : Opd → Slots → Store → Prop} {X : QX} {h : Hd K} {h2 : Hd X} : xA (.mm m o es) σ s K X h h2 = xE (.mm m o es) σ s (fun o σ s => K (.val o.frz) σ s) X := rfl
theorem xA_lc (vs : List Nat) (e : E) (c : Cs) {σ : Slots} {s : Store} {K : Opd → Slots → Store → Prop} {X : QX} {h : Hd K} {h2 : Hd X} : xA (.lc vs e c) σ s K X h h2 = xE (.lc vs e c) σ s (fun o σ s => K (.val o.frz) σ s) X := rfl
theorem xA_dc (vs : List Nat) (a b : E) (c : Cs) {σ : Slots} {s : Store} {K : Opd → Slots → Store → Prop} {X : QX} {h : Hd K} {h2 : Hd X} : xA (.dc vs a b c) σ s K X h h2 = xE (.dc vs a b c) σ s (fun o σ s => K (.val o.frz) σ s) X := rfl
theorem xA_eqo (l : List Str) (n : Bool) (c : Str) (g : Fn) (a b : E) {σ : Slots} {s : Store} {K : Opd → Slots → Store → Prop} {X : QX} {h : Hd K} {h2 : Hd X} : xA (.eqo l n c g a b) σ s K X h h2 = xE (.eqo l n c g a b) σ s (fun o σ s => K (.val o.frz) σ s) X := rfl
theorem xA_tabd (es : Es) {σ : Slots} {s : Store} {K : Opd → Slots → Store → Prop} {X : QX} {h : Hd K} {h2 : Hd X} : xA (.tabd es) σ s K X h h2 = xE (.tabd es) σ s (fun o σ s => K (.val o.frz) σ s) X := rfl
theorem xA_tget (o : E) (es : Es) {σ : Slots} {s : Store} {K : Opd → Slots → Store → Prop} {X : QX} {h : Hd K} {h2 : Hd X} : xA (.tget o es) σ s K X h h2 = xE (.tget o es) σ s (fun o σ s => K (.val o.frz) σ s) X := rfl
theorem xA_borrow (ks : List Nat) (e : E) {σ : Slots} {s : Store} {K : Opd → Slots → Store → Prop} {X : QX} {h : Hd K} {h2 : Hd X} : xA (.borrow ks e) σ s K X h h2 = xE (.borrow ks e) σ s (fun o σ s => K (.val o.frz) σ s) X := rfl
theorem xA_isx (l : List Str) (t : Str) (a : E) {σ : Slots} {s : Store} {K : Opd → Slots → Store → Prop} {X : QX} {h : Hd K} {h2 : Hd X} : xA (.isx l t a) σ s K X h h2 = xE (.isx l t a) σ s (fun o σ s => K (.val o.frz) σ s) X := rfl
theorem xA_xfld (l : List Str) (a : E) (n : Str) {σ : Slots} {s : Store} {K : Opd → Slots → Store → Prop} {X : QX} {h : Hd K} {h2 : Hd X} : xA (.xfld l a n) σ s K X h h2 = xE (.xfld l a n) σ s (fun o σ s => K (.val o.frz) σ s) X := rfl
theorem xA_callT (g : Addr → Fn → Fn) (ks : List Nat) (e : E) {σ : Slots} {s : Store} {K : Opd → Slots → Store → Prop} {X : QX} {h : Hd K} {h2 : Hd X} : xA (.callT g ks e) σ s K X h h2 = xE (.callT g ks e) σ s (fun o σ s => K (.val o.frz) σ s) X := rfl
theorem xA_lamE (L : List (Str × Addr)) (j : Nat) (y : LamSyn) {σ : Slots} {s : Store} {K : Opd → Slots → Store → Prop} {X : QX} {h : Hd K} {h2 : Hd X} : xA (.lamE L j y) σ s K X h h2 = xE (.lamE L j y) σ s (fun o σ s => K (.val o.frz) σ s) X := rfl
theorem xA_app (g : Addr → Fn → Fn) (L : List (Str × Addr)) (ys : List LamSyn) (ks : List Nat) (es : Es) (a : E) {σ : Slots} {s : Store} {K : Opd → Slots → Store → Prop} {X : QX} {h : Hd K} {h2 : Hd X} : xA (.app g L ys ks es a) σ s K X h h2 = xE (.app g L ys ks es a) σ s (fun o σ s => K (.val o.frz) σ s) X := rfl
theorem xA_act (a : Addr) (f : Fn) (i : Nat) {σ : Slots} {s : Store} {K : Opd → Slots → Store → Prop} {X : QX} {h : Hd K} {h2 : Hd X} : xA (.act a f i) σ s K X h h2 = xE (.act a f i) σ s (fun o σ s => K (.val o.frz) σ s) X := rfl
theorem xA_callA (g : Addr → Fn → Fn) (a : Addr) (f : Fn) (i : Nat) {σ : Slots} {s : Store} {K : Opd → Slots → Store → Prop} {X : QX} {h : Hd K} {h2 : Hd X} : xA (.callA g a f i) σ s K X h h2 = xE (.callA g a f i) σ s (fun o σ s => K (.val o.frz) σ s) X := rfl
theorem xA_lcr (a : E) (vs : List Nat) (e : E) (t : Tg) (ifs : Es) {σ : Slots} {s : Store} {K : Opd → Slots → Store → Prop} {X : QX} {h : Hd K} {h2 : Hd X} : xA (.lcr a vs e t ifs) σ s K X h h2 = xE (.lcr a vs e t ifs) σ s (fun o σ s => K (.val o.frz) σ s) X := rfl
theorem xA_dyn (ks : List Nat) (es : Es) (f : (Nat → Fn) → E) {σ : Slots} {s : Store} {K : Opd → Slots → Store → Prop} {X : QX} {h : Hd K} {h2 : Hd X} : xA (.dyn ks es f) σ s K X h h2 = xE (.dyn ks es f) σ s (fun o σ s => K (.val o.frz) σ s) X := rfl
theorem xA_appQ (g : Addr → Fn → Fn) (L : List (Str × Addr)) (ys : List LamSyn) (q : Nat → Fn) (a : E) {σ : Slots} {s : Store} {K : Opd → Slots → Store → Prop} {X : QX} {h : Hd K} {h2 : Hd X} : xA (.appQ g L ys q a) σ s K X h h2 = xE (.appQ g L ys q a) σ s (fun o σ s => K (.val o.frz) σ s) X := rfl
theorem xA_var (i : Nat) {σ : Slots} {s : Store} {K : Opd → Slots → Store → Prop} {X : QX} {h : Hd K} {h2 : Hd X} : xA (.var i) σ s K X h h2 = onSlot σ[i]? (fun d => K (.val d) σ s) (fun _ => K (.slot i) σ s) := rfl
theorem xE_lit (d : D) {σ : Slots} {s : Store} {K : QO} {X : QX} {h : Hd K} {h2 : Hd X} : xE (.lit d) σ s K X h h2 = K (.val d) σ s := by
  unfold xE; rw [w.eq_1] <;> rfl
theorem xE_var (i : Nat) {σ : Slots} {s : Store} {K : QO} {X : QX} {h : Hd K} {h2 : Hd X} : xE (.var i) σ s K X h h2 = onSlot σ[i]? (fun d => K (.val d) σ s) (fun c => goH (σ.set i (.val c.frz)) fun σ => K (.val c.frz) σ s) := by
  unfold xE; rw [w.eq_2] <;> rfl
theorem xE_bin (o : BinO) (a b : E) {σ : Slots} {s : Store} {K : QO} {X : QX} {h : Hd K} {h2 : Hd X} : xE (.bin o a b) σ s K X h h2 = xA a σ s (fun x σ s => xA b σ s (fun y σ s => optH (vres σ s x) fun x => optH (vres σ s y) fun y => optH (binSem o x y) fun r => K r σ s) X) X := by
  unfold xE; rw [w.eq_3] <;> rfl
theorem xE_neg (a : E) {σ : Slots} {s : Store} {K : QO} {X : QX} {h : Hd K} {h2 : Hd X} : xE (.neg a) σ s K X h h2 = xA a σ s (fun x σ s => optH (vres σ s x) fun x => onInt x fun i => K (.val (.int (-i))) σ s) X := by
  unfold xE; rw [w.eq_4] <;> rfl
theorem xE_cmp (o : CmpO) (a b : E) {σ : Slots} {s : Store} {K : QO} {X : QX} {h : Hd K} {h2 : Hd X} : xE (.cmp o a b) σ s K X h h2 = xA a σ s (fun x σ s => xA b σ s (fun y σ s => optH (vres σ s x) fun x => optH (vres σ s y) fun y => optH (cmpSem o x y) fun r => K (.val (.bl r)) σ s) X) X := by
  unfold xE; rw [w.eq_5] <;> rfl
theorem xT_cmp (o : CmpO) (a b : E) {σ : Slots} {s : Store} {K : QB} {X : QX} {h : Hd K} {h2 : Hd X} : xT (.cmp o a b) σ s K X h h2 = xA a σ s (fun x σ s => xA b σ s (fun y σ s => optH (vres σ s x) fun x => optH (vres σ s y) fun y => optH (cmpSem o x y) fun r => K r σ s) X) X := by
  unfold xT; rw [w.eq_5] <;> rfl
theorem xE_chain (o p : CmpO) (a b c : E) {σ : Slots} {s : Store} {K : QO} {X : QX} {h : Hd K} {h2 : Hd X} : xE (.chain o p a b c) σ s K X h h2 = xA a σ s (fun x σ s => xA b σ s (fun y σ s => optH (vres σ s x) fun xd => optH (vres σ s y) fun yd => optH (cmpSem o xd yd) fun r => iteH r (xA c σ s (fun z σ s => optH (vres σ s y) fun yd => optH (vres σ s z) fun zd => optH (cmpSem p yd zd) fun r => K (.val (.bl r)) σ s) X) (K (.val (.bl false)) σ s)) X) X := by
  unfold xE; rw [w.eq_6] <;> rfl
theorem xT_chain (o p : CmpO) (a b c : E) {σ : Slots} {s : Store} {K : QB} {X : QX} {h : Hd K} {h2 : Hd X} : xT (.chain o p a b c) σ s K X h h2 = xA a σ s (fun x σ s => xA b σ s (fun y σ s => optH (vres σ s x) fun xd => optH (vres σ s y) fun yd => optH (cmpSem o xd yd) fun r => iteH r (xA c σ s (fun z σ s => optH (vres σ s y) fun yd => optH (vres σ s z) fun zd => optH (cmpSem p yd zd) fun r => K r σ s) X) (K false σ s)) X) X := by
  unfold xT; rw [w.eq_6] <;> rfl
theorem xE_not_ (a : E) {σ : Slots} {s : Store} {K : QO} {X : QX} {h : Hd K} {h2 : Hd X} : xE (.not_ a) σ s K X h h2 = xE a σ s (fun o σ s => onBl o fun b => K (.val (.bl (!b))) σ s) X := by
  unfold xE; rw [w.eq_7] <;> rfl
theorem xT_not_ (a : E) {σ : Slots} {s : Store} {K : QB} {X : QX} {h : Hd K} {h2 : Hd X} : xT (.not_ a) σ s K X h h2 = xT a σ s (fun b σ s => K (!b) σ s) X := by
  unfold xT; rw [w.eq_7] <;> rfl
theorem xE_and_ (a b : E) {σ : Slots} {s : Store} {K : QO} {X : QX} {h : Hd K} {h2 : Hd X} : xE (.and_ a b) σ s K X h h2 = xE a σ s (fun o σ s => onBl o fun c => iteH c (xE b σ s K X) (K (.val (.bl false)) σ s)) X := by
  unfold xE; rw [w.eq_8] <;> rfl
theorem xT_and_ (a b : E) {σ : Slots} {s : Store} {K : QB} {X : QX} {h : Hd K} {h2 : Hd X} : xT (.and_ a b) σ s K X h h2 = xT a σ s (fun c σ s => iteH c (xT b σ s K X) (K false σ s)) X := by
  unfold xT; rw [w.eq_8] <;> rfl
theorem xE_or_ (a b : E) {σ : Slots} {s : Store} {K : QO} {X : QX} {h : Hd K} {h2 : Hd X} : xE (.or_ a b) σ s K X h h2 = xE a σ s (fun o σ s => onBl o fun c => iteH c (K (.val (.bl true)) σ s) (xE b σ s K X)) X := by
  unfold xE; rw [w.eq_9] <;> rfl
theorem xT_or_ (a b : E) {σ : Slots} {s : Store} {K : QB} {X : QX} {h : Hd K} {h2 : Hd X} : xT (.or_ a b) σ s K X h h2 = xT a σ s (fun c σ s => iteH c (K true σ s) (xT b σ s K X)) X := by
  unfold xT; rw [w.eq_9] <;> rfl
theorem xE_ife (c a b : E) {σ : Slots} {s : Store} {K : QO} {X : QX} {h : Hd K} {h2 : Hd X} : xE (.ife c a b) σ s K X h h2 = xT c σ s (fun r σ s => iteH r (xE a σ s K X) (xE b σ s K X)) X := by
  unfold xE; rw [w.eq_10] <;> rfl
theorem xT_ife (c a b : E) {σ : Slots} {s : Store} {K : QB} {X : QX} {h : Hd K} {h2 : Hd X} : xT (.ife c a b) σ s K X h h2 = xT c σ s (fun r σ s => iteH r (xT a σ s K X) (xT b σ s K X)) X := by
  unfold xT; rw [w.eq_10] <;> rfl
theorem xE_tup (es : Es) {σ : Slots} {s : Store} {K : QO} {X : QX} {h : Hd K} {h2 : Hd X} : xE (.tup es) σ s K X h h2 = xV es σ s (fun ds σ s => iteH (decide (ds.length ≤ big)) (K (.val (.tup ds)) σ s) False) X := by
  unfold xE; rw [w.eq_11]; simp only [dft, iteH, decide_eq_true_eq, optH, xV, xP]
theorem xE_lst (es : Es) {σ : Slots} {s : Store} {K : QO} {X : QX} {h : Hd K} {h2 : Hd X} : xE (.lst es) σ s K X h h2 = xV es σ s (fun ds σ s => iteH (decide (ds.length ≤ big)) (K (.own (.lst ds)) σ s) False) X := by
  unfold xE; rw [w.eq_12]; simp only [dft, iteH, decide_eq_true_eq, optH, xV, xP]
theorem xE_tabd (es : Es) {σ : Slots} {s : Store} {K : QO} {X : QX} {h : Hd K} {h2 : Hd X} : xE (.tabd es) σ s K X h h2 = xP es σ s (fun ps σ s => iteH (decide (ps.length ≤ 15)) (optH (mergeT [] [] ps) fun p => K (.own (.tab p.1 p.2)) σ s) False) X := by
  unfold xE; rw [w.eq_32]; simp only [dft, iteH, decide_eq_true_eq, optH, xV, xP]
theorem xE_dct (es : Es) {σ : Slots} {s : Store} {K : QO} {X : QX} {h : Hd K} {h2 : Hd X} : xE (.dct es) σ s K X h h2 = xP es σ s (fun ps σ s => iteH (decide (ps.length ≤ 15)) (optH (mergeD [] [] ps) fun p => K (.own (.dct p.1 p.2)) σ s) False) X := by
  unfold xE; rw [w.eq_13]; simp only [dft, iteH, decide_eq_true_eq, optH, xV, xP]
theorem xE_ix (a b : E) {σ : Slots} {s : Store} {K : QO} {X : QX} {h : Hd K} {h2 : Hd X} : xE (.ix a b) σ s K X h h2 = xA a σ s (fun x σ s => xA b σ s (fun y σ s => optH (vres σ s x) fun x => optH (vres σ s y) fun y => optH (ixSem x y) fun r => K (.val r) σ s) X) X := by
  unfold xE; rw [w.eq_14] <;> rfl
theorem xE_sl (a : E) (lo hi : Es) {σ : Slots} {s : Store} {K : QO} {X : QX} {h : Hd K} {h2 : Hd X} : xE (.sl a lo hi) σ s K X h h2 = xA a σ s (fun x σ s => xN lo σ s (fun l σ s => xN hi σ s (fun h σ s => optH (vres σ s x) fun x => optH (slSem x l h) fun r => K r σ s) X) X) X := by
  unfold xE; rw [w.eq_15] <;> rfl
theorem xE_rev (a : E) {σ : Slots} {s : Store} {K : QO} {X : QX} {h : Hd K} {h2 : Hd X} : xE (.rev a) σ s K X h h2 = xA a σ s (fun x σ s => optH (vres σ s x) fun x => optH (revSem x) fun r => K r σ s) X := by
  unfold xE; rw [w.eq_16]; simp only [dft]
  refine congrArg (fun k => asOp a (w a).v σ s k X) (funext fun x => funext fun σ => funext fun s => congrArg (optK (vres σ s x)) (funext fun d => ?_))
  cases d <;> rfl
theorem xE_fld (c : Str) (a : E) (n : Str) {σ : Slots} {s : Store} {K : QO} {X : QX} {h : Hd K} {h2 : Hd X} : xE (.fld c a n) σ s K X h h2 = xA a σ s (fun x σ s => optH (vres σ s x) fun x => optH (fldSem c n x) fun r => K (.val r) σ s) X := by
  unfold xE; rw [w.eq_17]; simp only [dft]
  refine congrArg (fun k => asOp a (w a).v σ s k X) (funext fun x => funext fun σ => funext fun s => congrArg (optK (vres σ s x)) (funext fun d => ?_))
  cases d <;> try rfl
  simp only [optH, fldSem]
  split <;> rfl
theorem xE_call (g : Fn) (es : Es) {σ : Slots} {s : Store} {K : QO} {X : QX} {h : Hd K} {h2 : Hd X} : xE (.call g es) σ s K X h h2 = xV es σ s (fun ds σ s => callH g ds s (fun o s => K o σ s) fun e s => X e σ s) X := by
  unfold xE; rw [w.eq_19] <;> rfl
theorem xE_callp (g : Fn) (p : List Nat) (es : Es) {σ : Slots} {s : Store} {K : QO} {X : QX} {h : Hd K} {h2 : Hd X} : xE (.callp g p es) σ s K X h h2 = xV es σ s (fun ds σ s => iteH (decide (ds.length = p.length)) (callH g (pick ds p) s (fun o s => K o σ s) fun e s => X e σ s) False) X := by
  unfold xE; rw [w.eq_20]; simp only [dft, iteH, decide_eq_true_eq, xV, callH]
theorem xE_meth (c m : Str) (g : Fn) (o : E) (es : Es) {σ : Slots} {s : Store} {K : QO} {X : QX} {h : Hd K} {h2 : Hd X} : xE (.meth c m g o es) σ s K X h h2 = xE o σ s (fun x σ s => andH (isIns c (view s x.frz) = true) (andH (noField m (view s x.frz) = true) (xV es σ s (fun ds σ s => callH g (x.frz :: ds) s (fun o s => K o σ s) fun e s => X e σ s) X))) X := by
  unfold xE; rw [w.eq_21] <;> rfl
theorem xE_mk (c : Str) (g : Fn) (es : Es) {σ : Slots} {s : Store} {K : QO} {X : QX} {h : Hd K} {h2 : Hd X} : xE (.mk c g es) σ s K X h h2 = xV es σ s (fun ds σ s => callH g ds s (fun o s => K o σ s) fun e s => X e σ s) X := by
  unfold xE; rw [w.eq_22] <;> rfl
theorem xE_prop (c : Str) (g : Fn) (a : E) {σ : Slots} {s : Store} {K : QO} {X : QX} {h : Hd K} {h2 : Hd X} : xE (.prop c g a) σ s K X h h2 = xE a σ s (fun x σ s => andH (isIns c (view s x.frz) = true) (callH g [x.frz] s (fun o s => K o σ s) fun _ _ => False)) X := by
  unfold xE; rw [w.eq_18] <;> rfl
theorem xE_alloc (e : E) {σ : Slots} {s : Store} {K : QO} {X : QX} {h : Hd K} {h2 : Hd X} : xE (.alloc e) σ s K X h h2 = xE e σ s (fun o σ s => onOwn o fun c => goH (s ++ [c]) fun s2 => K (.val (.ref s.length)) σ s2) X := by
  unfold xE; rw [w.eq_23]; simp only [dft]
  refine congrArg (fun k => (w e).v σ s k X) (funext fun x => funext fun σ => funext fun s => ?_)
  cases x <;> rfl
theorem xE_bi (b : Bi) (es : Es) {σ : Slots} {s : Store} {K : QO} {X : QX} {h : Hd K} {h2 : Hd X} : xE (.bi b es) σ s K X h h2 = xO es σ s (fun xs σ s => optH (ress σ s xs) fun xs => optH (biSem b xs) fun r => K r σ s) X := by
  unfold xE; rw [w.eq_24] <;> rfl
theorem xE_isi (l : List Str) (cs : List Cl) (a : E) {σ : Slots} {s : Store} {K : QO} {X : QX} {h : Hd K} {h2 : Hd X} : xE (.isi l cs a) σ s K X h h2 = xA a σ s (fun x σ s => optH (vres σ s x) fun x => optH (isiSem l cs x) fun r => K (.val (.bl r)) σ s) X := by
  unfold xE; rw [w.eq_25] <;> rfl
theorem xT_isi (l : List Str) (cs : List Cl) (a : E) {σ : Slots} {s : Store} {K : QB} {X : QX} {h : Hd K} {h2 : Hd X} : xT (.isi l cs a) σ s K X h h2 = xA a σ s (fun x σ s => optH (vres σ s x) fun x => optH (isiSem l cs x) fun r => K r σ s) X := by
  unfold xT; rw [w.eq_25] <;> rfl
theorem xE_eqo (l : List Str) (n : Bool) (c : Str) (g : Fn) (a b : E) {σ : Slots} {s : Store} {K : QO} {X : QX} {h : Hd K} {h2 : Hd X} : xE (.eqo l n c g a b) σ s K X h h2 = xE a σ s (fun x σ s => xE b σ s (fun y σ s => andH (isIns c (view s x.frz) = true) (andH (eqTy l (view s y.frz) = true) (callH g [x.frz, y.frz] s (fun o s => onBl o fun r => K (.val (.bl (if n then !r else r))) σ s) fun _ _ => False))) X) X := by
  unfold xE; rw [w.eq_31] <;> rfl
theorem xT_eqo (l : List Str) (n : Bool) (c : Str) (g : Fn) (a b : E) {σ : Slots} {s : Store} {K : QB} {X : QX} {h : Hd K} {h2 : Hd X} : xT (.eqo l n c g a b) σ s K X h h2 = xE a σ s (fun x σ s => xE b σ s (fun y σ s => andH (isIns c (view s x.frz) = true) (andH (eqTy l (view s y.frz) = true) (callH g [x.frz, y.frz] s (fun o s => onBl o fun r => K (if n then !r else r) σ s) fun _ _ => False))) X) X := by
  unfold xT; rw [w.eq_31] <;> rfl
theorem xE_rng (t : Bool) (es : Es) {σ : Slots} {s : Store} {K : QO} {X : QX} {h : Hd K} {h2 : Hd X} : xE (.rng t es) σ s K X h h2 = xO es σ s (fun xs σ s => optH (ress σ s xs) fun xs => optH (rngSem xs) fun p => iteH (rngOk p.1 p.2) (K (if t then .val (.tup (rngD p.1 p.2)) else .own (.lst (rngD p.1 p.2))) σ s) False) X := by
  unfold xE; rw [w.eq_26] <;> rfl
theorem xE_bm (m : Bm) (o : E) (es : Es) {σ : Slots} {s : Store} {K : QO} {X : QX} {h : Hd K} {h2 : Hd X} : xE (.bm m o es) σ s K X h h2 = xA o σ s (fun x σ s => optH (vres σ s x) fun x0 => andH (Bm.ok m x0 = true) (xO es σ s (fun xs σ s => optH (vres σ s x) fun x => optH (ress σ s xs) fun xs => optH (bmSem m x xs) fun r => K r σ s) X)) X := by
  unfold xE; rw [w.eq_27] <;> rfl
theorem xE_tget (o : E) (es : Es) {σ : Slots} {s : Store} {K : QO} {X : QX} {h : Hd K} {h2 : Hd X} : xE (.tget o es) σ s K X h h2 = xA o σ s (fun x σ s => optH (vres σ s x) fun x0 => andH (isTab x0 = true) (xV es σ s (fun ds σ s => optH (vres σ s x) fun x => optH (tgetSem x ds) fun r => K (.val r) σ s) X)) X := by
  unfold xE; rw [w.eq_33] <;> rfl
theorem xE_borrow (ks : List Nat) (e : E) {σ : Slots} {s : Store} {K : QO} {X : QX} {h : Hd K} {h2 : Hd X} : xE (.borrow ks e) σ s K X h h2 = goH (hideS ks 0 σ) fun τ => andH (τ.all Slot.noRef = true) (xE e τ [] (fun o _ _ => onFlat τ o fun o => K o σ s) noX) := by
  unfold xE; rw [w.eq_34]; simp only [dft]
  rfl
theorem xE_isx (l : List Str) (t : Str) (a : E) {σ : Slots} {s : Store} {K : QO} {X : QX} {h : Hd K} {h2 : Hd X} : xE (.isx l t a) σ s K X h h2 = xA a σ s (fun x σ s => optH (vres σ s x) fun x => optH (isxSem l t x) fun r => K (.val (.bl r)) σ s) X := by
  unfold xE; rw [w.eq_35] <;> rfl
theorem xT_isx (l : List Str) (t : Str) (a : E) {σ : Slots} {s : Store} {K : QB} {X : QX} {h : Hd K} {h2 : Hd X} : xT (.isx l t a) σ s K X h h2 = xA a σ s (fun x σ s => optH (vres σ s x) fun x => optH (isxSem l t x) fun r => K r σ s) X := by
  unfold xT; rw [w.eq_35] <;> rfl
theorem xE_xfld (l : List Str) (a : E) (n : Str) {σ : Slots} {s : Store} {K : QO} {X : QX} {h : Hd K} {h2 : Hd X} : xE (.xfld l a n) σ s K X h h2 = xA a σ s (fun x σ s => optH (vres σ s x) fun x => optH (xfldSem l n x) fun r => K (.val r) σ s) X := by
  unfold xE; rw [w.eq_36] <;> rfl
theorem xE_callT (g : Addr → Fn → Fn) (ks : List Nat) (e : E) {σ : Slots} {s : Store} {K : QO} {X : QX} {h : Hd K} {h2 : Hd X} : xE (.callT g ks e) σ s K X h h2 = goH (frzS ks 0 σ) fun σ => goH (hideS ks 0 σ) fun τ => allH fun a => callH (g a (thk e τ)) [.lam a] s (fun o s => K o σ s) fun x s => X x σ s := by
  unfold xE; rw [w.eq_37] <;> rfl
theorem xE_act (a : Addr) (f : Fn) (i : Nat) {σ : Slots} {s : Store} {K : QO} {X : QX} {h : Hd K} {h2 : Hd X} : xE (.act a f i) σ s K X h h2 = andH (σ[i]? = some (.val (.lam a))) (callH f [] s (fun o s => K o σ s) fun x s => X x σ s) := by
  unfold xE; rw [w.eq_42] <;> rfl
theorem xE_callA (g : Addr → Fn → Fn) (a : Addr) (f : Fn) (i : Nat) {σ : Slots} {s : Store} {K : QO} {X : QX} {h : Hd K} {h2 : Hd X} : xE (.callA g a f i) σ s K X h h2 = andH (σ[i]? = some (.val (.lam a))) (callH (g a f) [.lam a] s (fun o s => K o σ s) fun x s => X x σ s) := by
  unfold xE; rw [w.eq_43] <;> rfl
theorem xE_lamE (L : List (Str × Addr)) (j : Nat) (y : LamSyn) {σ : Slots} {s : Store} {K : QO} {X : QX} {h : Hd K} {h2 : Hd X} : xE (.lamE L j y) σ s K X h h2 = K (.val (.clo L j y)) σ s := by
  unfold xE; rw [w.eq_38] <;> rfl
theorem xE_app (g : Addr → Fn → Fn) (L : List (Str × Addr)) (ys : List LamSyn) (ks : List Nat) (es : Es) (a : E) {σ : Slots} {s : Store} {K : QO} {X : QX} {h : Hd K} {h2 : Hd X} : xE (.app g L ys ks es a) σ s K X h h2 = xA a σ s (fun x σ s => optH (vres σ s x) fun x => onClo x fun L1 j y => andH (L1 = L) (andH (ys[j]? = some y) (goH (frzS ks 0 σ) fun σ => goH (hideS ks 0 σ) fun τ => allH fun a => callH (g a (thkN es j τ)) [.lam a] s (fun o s => K o σ s) fun x s => X x σ s))) X := by
  unfold xE; rw [w.eq_39]; simp only [dft]
  refine congrArg (fun k => asOp a (w a).v σ s k X) (funext fun x => funext fun σ => funext fun s => congrArg (optK (vres σ s x)) (funext fun d => ?_))
  cases d <;> rfl
theorem xE_dyn (ks : List Nat) (es : Es) (f : (Nat → Fn) → E) {σ : Slots} {s : Store} {K : QO} {X : QX} {h : Hd K} {h2 : Hd X} : xE (.dyn ks es f) σ s K X h h2 = goH (frzS ks 0 σ) fun σ => goH (hideS ks 0 σ) fun τ => xE (f fun j => thkN es j τ) σ s K X := by
  unfold xE; rw [w.eq_40] <;> rfl
theorem xE_appQ (g : Addr → Fn → Fn) (L : List (Str × Addr)) (ys : List LamSyn) (q : Nat → Fn) (a : E) {σ : Slots} {s : Store} {K : QO} {X : QX} {h : Hd K} {h2 : Hd X} : xE (.appQ g L ys q a) σ s K X h h2 = xA a σ s (fun x σ s => optH (vres σ s x) fun x => onClo x fun L1 j y => andH (L1 = L) (andH (ys[j]? = some y) (allH fun a => callH (g a (q j)) [.lam a] s (fun o s => K o σ s) fun x s => X x σ s))) X := by
  unfold xE; rw [w.eq_41]; simp only [dft]
  refine congrArg (fun k => asOp a (w a).v σ s k X) (funext fun x => funext fun σ => funext fun s => congrArg (optK (vres σ s x)) (funext fun d => ?_))
  cases d <;> rfl
theorem xE_mm (m : Mm) (o : E) (es : Es) {σ : Slots} {s : Store} {K : QO} {X : QX} {h : Hd K} {h2 : Hd X} : xE (.mm m o es) σ s K X h h2 = xA o σ s (fun x σ s => optH (vres σ s x) fun x0 => andH (isLst x0 = true) (xV es σ s (fun ds σ s => upH x σ s (fun c => mmSem m c ds) fun d σ s => K (.val d) σ s) X)) X := by
  unfold xE; rw [w.eq_28] <;> rfl
theorem xT_lit (d : D) {σ : Slots} {s : Store} {K : QB} {X : QX} {h : Hd K} {h2 : Hd X} : xT (.lit d) σ s K X h h2 = xE (.lit d) σ s (fun o σ s => optH (truth (view s o.frz)) fun c => K c σ s) X := by
  unfold xT xE; rw [w.eq_1] <;> rfl
theorem xT_bin (o : BinO) (a b : E) {σ : Slots} {s : Store} {K : QB} {X : QX} {h : Hd K} {h2 : Hd X} : xT (.bin o a b) σ s K X h h2 = xE (.bin o a b) σ s (fun o σ s => optH (truth (view s o.frz)) fun c => K c σ s) X := by
  unfold xT xE; rw [w.eq_3] <;> rfl
theorem xT_neg (a : E) {σ : Slots} {s : Store} {K : QB} {X : QX} {h : Hd K} {h2 : Hd X} : xT (.neg a) σ s K X h h2 = xE (.neg a) σ s (fun o σ s => optH (truth (view s o.frz)) fun c => K c σ s) X := by
  unfold xT xE; rw [w.eq_4] <;> rfl
theorem xT_tup (es : Es) {σ : Slots} {s : Store} {K : QB} {X : QX} {h : Hd K} {h2 : Hd X} : xT (.tup es) σ s K X h h2 = xE (.tup es) σ s (fun o σ s => optH (truth (view s o.frz)) fun c => K c σ s) X := by
  unfold xT xE; rw [w.eq_11] <;> rfl
theorem xT_lst (es : Es) {σ : Slots} {s : Store} {K : QB} {X : QX} {h : Hd K} {h2 : Hd X} : xT (.lst es) σ s K X h h2 = xE (.lst es) σ s (fun o σ s => optH (truth (view s o.frz)) fun c => K c σ s) X := by
  unfold xT xE; rw [w.eq_12] <;> rfl
theorem xT_dct (es : Es) {σ : Slots} {s : Store} {K : QB} {X : QX} {h : Hd K} {h2 : Hd X} : xT (.dct es) σ s K X h h2 = xE (.dct es) σ s (fun o σ s => optH (truth (view s o.frz)) fun c => K c σ s) X := by
  unfold xT xE; rw [w.eq_13] <;> rfl
theorem xT_ix (a b : E) {σ : Slots} {s : Store} {K : QB} {X : QX} {h : Hd K} {h2 : Hd X} : xT (.ix a b) σ s K X h h2 = xE (.ix a b) σ s (fun o σ s => optH (truth (view s o.frz)) fun c => K c σ s) X := by
  unfold xT xE; rw [w.eq_14] <;> rfl
theorem xT_sl (a : E) (lo hi : Es) {σ : Slots} {s : Store} {K : QB} {X : QX} {h : Hd K} {h2 : Hd X} : xT (.sl a lo hi) σ s K X h h2 = xE (.sl a lo hi) σ s (fun o σ s => optH (truth (view s o.frz)) fun c => K c σ s) X := by
  unfold xT xE; rw [w.eq_15] <;> rfl
theorem xT_rev (a : E) {σ : Slots} {s : Store} {K : QB} {X : QX} {h : Hd K} {h2 : Hd X} : xT (.rev a) σ s K X h h2 = xE (.rev a) σ s (fun o σ s => optH (truth (view s o.frz)) fun c => K c σ s) X := by
  unfold xT xE; rw [w.eq_16] <;> rfl
theorem xT_fld (c : Str) (a : E) (n : Str) {σ : Slots} {s : Store} {K : QB} {X : QX} {h : Hd K} {h2 : Hd X} : xT (.fld c a n) σ s K X h h2 = xE (.fld c a n) σ s (fun o σ s => optH (truth (view s o.frz)) fun c => K c σ s) X := by
  unfold xT xE; rw [w.eq_17] <;> rfl
theorem xT_prop (c : Str) (g : Fn) (a : E) {σ : Slots} {s : Store} {K : QB} {X : QX} {h : Hd K} {h2 : Hd X} : xT (.prop c g a) σ s K X h h2 = xE (.prop c g a) σ s (fun o σ s => optH (truth (view s o.frz)) fun c => K c σ s) X := by
  unfold xT xE; rw [w.eq_18] <;> rfl
theorem xT_call (g : Fn) (es : Es) {σ : Slots} {s : Store} {K : QB} {X : QX} {h : Hd K} {h2 : Hd X} : xT (.call g es) σ s K X h h2 = xE (.call g es) σ s (fun o σ s => optH (truth (view s o.frz)) fun c => K c σ s) X := by
  unfold xT xE; rw [w.eq_19] <;> rfl
theorem xT_callp (g : Fn) (p : List Nat) (es : Es) {σ : Slots} {s : Store} {K : QB} {X : QX} {h : Hd K} {h2 : Hd X} : xT (.callp g p es) σ s K X h h2 = xE (.callp g p es) σ s (fun o σ s => optH (truth (view s o.frz)) fun c => K c σ s) X := by
  unfold xT xE; rw [w.eq_20] <;> rfl
theorem xT_meth (c m : Str) (g : Fn) (o : E) (es : Es) {σ : Slots} {s : Store} {K : QB} {X : QX} {h : Hd K} {h2 : Hd X} : xT (.meth c m g o es) σ s K X h h2 = xE (.meth c m g o es) σ s (fun o σ s => optH (truth (view s o.frz)) fun c => K c σ s) X := by
  unfold xT xE; rw [w.eq_21] <;> rfl
theorem xT_mk (c : Str) (g : Fn) (es : Es) {σ : Slots} {s : Store} {K : QB} {X : QX} {h : Hd K} {h2 : Hd X} : xT (.mk c g es) σ s K X h h2 = xE (.mk c g es) σ s (fun o σ s => optH (truth (view s o.frz)) fun c => K c σ s) X := by
  unfold xT xE; rw [w.eq_22] <;> rfl
theorem xT_alloc (e : E) {σ : Slots} {s : Store} {K : QB} {X : QX} {h : Hd K} {h2 : Hd X} : xT (.alloc e) σ s K X h h2 = xE (.alloc e) σ s (fun o σ s => optH (truth (view s o.frz)) fun c => K c σ s) X := by
  unfold xT xE; rw [w.eq_23] <;> rfl
theorem xT_bi (b : Bi) (es : Es) {σ : Slots} {s : Store} {K : QB} {X : QX} {h : Hd K} {h2 : Hd X} : xT (.bi b es) σ s K X h h2 = xE (.bi b es) σ s (fun o σ s => optH (truth (view s o.frz)) fun c => K c σ s) X := by
  unfold xT xE; rw [w.eq_24] <;> rfl
theorem xT_rng (t : Bool) (es : Es) {σ : Slots} {s : Store} {K : QB} {X : QX} {h : Hd K} {h2 : Hd X} : xT (.rng t es) σ s K X h h2 = xE (.rng t es) σ s (fun o σ s => optH (truth (view s o.frz)) fun c => K c σ s) X := by
  unfold xT xE; rw [w.eq_26] <;> rfl
theorem xT_bm (m : Bm) (o : E) (es : Es) {σ : Slots} {s : Store} {K : QB} {X : QX} {h : Hd K} {h2 : Hd X} : xT (.bm m o es) σ s K X h h2 = xE (.bm m o es) σ s (fun o σ s => optH (truth (view s o.frz)) fun c => K c σ s) X := by
  unfold xT xE; rw [w.eq_27] <;> rfl
theorem xT_mm (m : Mm) (o : E) (es : Es) {σ : Slots} {s : Store} {K : QB} {X : QX} {h : Hd K} {h2 : Hd X} : xT (.mm m o es) σ s K X h h2 = xE (.mm m o es) σ s (fun o σ s => optH (truth (view s o.frz)) fun c => K c σ s) X := by
  unfold xT xE; rw [w.eq_28] <;> rfl
theorem xT_lc (vs : List Nat) (e : E) (c : Cs) {σ : Slots} {s : Store} {K : QB} {X : QX} {h : Hd K} {h2 : Hd X} : xT (.lc vs e c) σ s K X h h2 = xE (.lc vs e c) σ s (fun o σ s => optH (truth (view s o.frz)) fun c => K c σ s) X := by
  unfold xT xE; rw [w.eq_29] <;> rfl
theorem xT_dc (vs : List Nat) (a b : E) (c : Cs) {σ : Slots} {s : Store} {K : QB} {X : QX} {h : Hd K} {h2 : Hd X} : xT (.dc vs a b c) σ s K X h h2 = xE (.dc vs a b c) σ s (fun o σ s => optH (truth (view s o.frz)) fun c => K c σ s) X := by
  unfold xT xE; rw [w.eq_30] <;> rfl
theorem xT_tabd (es : Es) {σ : Slots} {s : Store} {K : QB} {X : QX} {h : Hd K} {h2 : Hd X} : xT (.tabd es) σ s K X h h2 = xE (.tabd es) σ s (fun o σ s => optH (truth (view s o.frz)) fun c => K c σ s) X := by
  unfold xT xE; rw [w.eq_32] <;> rfl
theorem xT_tget (o : E) (es : Es) {σ : Slots} {s : Store} {K : QB} {X : QX} {h : Hd K} {h2 : Hd X} : xT (.tget o es) σ s K X h h2 = xE (.tget o es) σ s (fun o σ s => optH (truth (view s o.frz)) fun c => K c σ s) X := by
  unfold xT xE; rw [w.eq_33] <;> rfl
theorem xT_borrow (ks : List Nat) (e : E) {σ : Slots} {s : Store} {K : QB} {X : QX} {h : Hd K} {h2 : Hd X} : xT (.borrow ks e) σ s K X h h2 = xE (.borrow ks e) σ s (fun o σ s => optH (truth (view s o.frz)) fun c => K c σ s) X := by
  unfold xT xE; rw [w.eq_34] <;> rfl
theorem xT_xfld (l : List Str) (a : E) (n : Str) {σ : Slots} {s : Store} {K : QB} {X : QX} {h : Hd K} {h2 : Hd X} : xT (.xfld l a n) σ s K X h h2 = xE (.xfld l a n) σ s (fun o σ s => optH (truth (view s o.frz)) fun c => K c σ s) X := by
  unfold xT xE; rw [w.eq_36] <;> rfl
theorem xT_callT (g : Addr → Fn → Fn) (ks : List Nat) (e : E) {σ : Slots} {s : Store} {K : QB} {X : QX} {h : Hd K} {h2 : Hd X} : xT (.callT g ks e) σ s K X h h2 = xE (.callT g ks e) σ s (fun o σ s => optH (truth (view s o.frz)) fun c => K c σ s) X := by
  unfold xT xE; rw [w.eq_37] <;> rfl
theorem xT_app (g : Addr → Fn → Fn) (L : List (Str × Addr)) (ys : List LamSyn) (ks : List Nat) (es : Es) (a : E) {σ : Slots} {s : Store} {K : QB} {X : QX} {h : Hd K} {h2 : Hd X} : xT (.app g L ys ks es a) σ s K X h h2 = xE (.app g L ys ks es a) σ s (fun o σ s => optH (truth (view s o.frz)) fun c => K c σ s) X := by
  unfold xT xE; rw [w.eq_39] <;> rfl
theorem xT_dyn (ks : List Nat) (es : Es) (f : (Nat → Fn) → E) {σ : Slots} {s : Store} {K : QB} {X : QX} {h : Hd K} {h2 : Hd X} : xT (.dyn ks es f) σ s K X h h2 = xE (.dyn ks es f) σ s (fun o σ s => optH (truth (view s o.frz)) fun c => K c σ s) X := by
  unfold xT xE; rw [w.eq_40] <;> rfl
theorem xT_appQ (g : Addr → Fn → Fn) (L : List (Str × Addr)) (ys : List LamSyn) (q : Nat → Fn) (a : E) {σ : Slots} {s : Store} {K : QB} {X : QX} {h : Hd K} {h2 : Hd X} : xT (.appQ g L ys q a) σ s K X h h2 = xE (.appQ g L ys q a) σ s (fun o σ s => optH (truth (view s o.frz)) fun c => K c σ s) X := by
  unfold xT xE; rw [w.eq_41] <;> rfl
theorem xT_act (a : Addr) (f : Fn) (i : Nat) {σ : Slots} {s : Store} {K : QB} {X : QX} {h : Hd K} {h2 : Hd X} : xT (.act a f i) σ s K X h h2 = xE (.act a f i) σ s (fun o σ s => optH (truth (view s o.frz)) fun c => K c σ s) X := by
  unfold xT xE; rw [w.eq_42] <;> rfl
theorem xT_callA (g : Addr → Fn → Fn) (a : Addr) (f : Fn) (i : Nat) {σ : Slots} {s : Store} {K : QB} {X : QX} {h : Hd K} {h2 : Hd X} : xT (.callA g a f i) σ s K X h h2 = xE (.callA g a f i) σ s (fun o σ s => optH (truth (view s o.frz)) fun c => K c σ s) X := by
  unfold xT xE; rw [w.eq_43] <;> rfl
theorem xT_lcr (a : E) (vs : List Nat) (e : E) (t : Tg) (ifs : Es) {σ : Slots} {s : Store} {K : QB} {X : QX} {h : Hd K} {h2 : Hd X} : xT (.lcr a vs e t ifs) σ s K X h h2 = xE (.lcr a vs e t ifs) σ s (fun o σ s => optH (truth (view s o.frz)) fun c => K c σ s) X := by
  unfold xT xE; rw [w.eq_44] <;> rfl
theorem xT_var (i : Nat) {σ : Slots} {s : Store} {K : QB} {X : QX} {h : Hd K} {h2 : Hd X} : xT (.var i) σ s K X h h2 = onSlot σ[i]? (fun d => optH (truth (view s d)) fun c => K c σ s) (fun c => optH (truth c.frz) fun b => K b σ s) := by
  unfold xT; rw [w.eq_2]; simp only [dft, asT, asOp, onSlot]
  cases e : σ[i]? with
  | none => rfl
  | some sl => cases sl <;> simp only [vres, e, Option.getD_some, Slot.look, optK_some] <;> rfl
theorem xV_nil {σ : Slots} {s : Store} {K : List D → Slots → Store → Prop} {X : QX} {h : Hd K} {h2 : Hd X} : xV .nil σ s K X h h2 = K [] σ s := by
  unfold xV; rw [ws.eq_1]
theorem xO_nil {σ : Slots} {s : Store} {K : List Opd → Slots → Store → Prop} {X : QX} {h : Hd K} {h2 : Hd X} : xO .nil σ s K X h h2 = K [] σ s := by
  unfold xO; rw [ws.eq_1]
theorem xU_nil {σ : Slots} {s : Store} {K : List Out → Slots → Store → Prop} {X : QX} {h : Hd K} {h2 : Hd X} : xU .nil σ s K X h h2 = K [] σ s := by
  unfold xU; rw [ws.eq_1]
theorem xV_cons (e : E) (es : Es) {σ : Slots} {s : Store} {K : List D → Slots → Store → Prop} {X : QX} {h : Hd K} {h2 : Hd X} : xV (.cons e es) σ s K X h h2 = xE e σ s (fun o σ s => xV es σ s (fun ds σ s => K (o.frz :: ds) σ s) X) X := by
  unfold xV; rw [ws.eq_2]; rfl
theorem xO_cons (e : E) (es : Es) {σ : Slots} {s : Store} {K : List Opd → Slots → Store → Prop} {X : QX} {h : Hd K} {h2 : Hd X} : xO (.cons e es) σ s K X h h2 = xA e σ s (fun o σ s => xO es σ s (fun ds σ s => K (o :: ds) σ s) X) X := by
  unfold xO; rw [ws.eq_2]; rfl
theorem xU_cons (e : E) (es : Es) {σ : Slots} {s : Store} {K : List Out → Slots → Store → Prop} {X : QX} {h : Hd K} {h2 : Hd X} : xU (.cons e es) σ s K X h h2 = xE e σ s (fun o σ s => xU es σ s (fun ds σ s => K (o :: ds) σ s) X) X := by
  unfold xU; rw [ws.eq_2]; rfl
theorem xV_star (e : E) (es : Es) {σ : Slots} {s : Store} {K : List D → Slots → Store → Prop} {X : QX} {h : Hd K} {h2 : Hd X} : xV (.star e es) σ s K X h h2 = xE e σ s (fun o σ s => optH (seqOf (view s o.frz)) fun xs => xV es σ s (fun ds σ s => K (xs ++ ds) σ s) X) X := by
  unfold xV; rw [ws.eq_3]; rfl
theorem xF_nil {σ : Slots} {s : Store} {K : QB} {h : Hd K} : xF .nil σ s K h = K true σ s := by
  unfold xF; rw [ws.eq_1]
theorem xF_cons (e : E) (es : Es) {σ : Slots} {s : Store} {K : QB} {h : Hd K} : xF (.cons e es) σ s K h = xT e σ s (fun c σ s => iteH c (xF es σ s K) (K false σ s)) noX := by
  unfold xF; rw [ws.eq_2]; rfl
theorem xF_one (e : E) {σ : Slots} {s : Store} {K : QB} {h : Hd K} : xF (.cons e .nil) σ s K h = xT e σ s K noX := by
  rw [xF_cons]
  refine congrArg (fun k => (w e).t σ s k noX) (funext fun c => funext fun σ => funext fun s => ?_)
  cases c with
  | true => rw [iteH_t, xF_nil]
  | false => rw [iteH_f]
theorem xP_nil {σ : Slots} {s : Store} {K : List (D × D) → Slots → Store → Prop} {X : QX} {h : Hd K} {h2 : Hd X} : xP .nil σ s K X h h2 = K [] σ s := by
  unfold xP; rw [wPs.eq_1]
theorem xP_cons (k v : E) (r : Es) {σ : Slots} {s : Store} {K : List (D × D) → Slots → Store → Prop} {X : QX} {h : Hd K} {h2 : Hd X} : xP (.cons k (.cons v r)) σ s K X h h2 = xE k σ s (fun x σ s => xE v σ s (fun y σ s => xP r σ s (fun ps σ s => K ((x.frz, y.frz) :: ps) σ s) X) X) X := by
  unfold xP; rw [wPs.eq_2]; rfl
theorem xN_nil {σ : Slots} {s : Store} {K : Option Int → Slots → Store → Prop} {X : QX} {h : Hd K} {h2 : Hd X} : xN .nil σ s K X h h2 = K none σ s := by
  unfold xN; rw [wO.eq_1]
theorem xN_cons (e : E) (r : Es) {σ : Slots} {s : Store} {K : Option Int → Slots → Store → Prop} {X : QX} {h : Hd K} {h2 : Hd X} : xN (.cons e r) σ s K X h h2 = xA e σ s (fun x σ s => optH (vres σ s x) fun x => onInt x fun i => K (some i) σ s) X := by
  unfold xN; rw [wO.eq_2]; rfl
theorem xI_seq (e : E) {σ : Slots} {s : Store} {K : List D → Slots → Store → Prop} {X : QX} {h : Hd K} {h2 : Hd X} : xI (.seq e) σ s K X h h2 = xE e σ s (fun o σ s => optH (walkOf o.frz) fun xs => K xs σ s) X := by
  unfold xI; rw [wIt.eq_1]; rfl
theorem xI_rng1 (a : E) {σ : Slots} {s : Store} {K : List D → Slots → Store → Prop} {X : QX} {h : Hd K} {h2 : Hd X} : xI (.rng1 a) σ s K X h h2 = xA a σ s (fun x σ s => optH (vres σ s x) fun x => onInt x fun n => iteH (rngOk 0 n) (K (upTo 0 n.toNat) σ s) False) X := by
  unfold xI; rw [wIt.eq_2]; rfl
theorem xI_rng2 (a b : E) {σ : Slots} {s : Store} {K : List D → Slots → Store → Prop} {X : QX} {h : Hd K} {h2 : Hd X} : xI (.rng2 a b) σ s K X h h2 = xA a σ s (fun x σ s => xA b σ s (fun y σ s => optH (vres σ s x) fun x => optH (vres σ s y) fun y => onInt x fun m => onInt y fun n => iteH (rngOk m n) (K (upTo m (n - m).toNat) σ s) False) X) X := by
  unfold xI; rw [wIt.eq_3]
  refine congrArg (fun k => asOp a (w a).v σ s k X) (funext fun x => funext fun σ => funext fun s => congrArg (fun k => asOp b (w b).v σ s k X) (funext fun y => funext fun σ => funext fun s => congrArg (optK (vres σ s x)) (funext fun d => congrArg (optK (vres σ s y)) (funext fun f => ?_))))
  cases d <;> cases f <;> rfl
theorem xI_enum0 (e : E) {σ : Slots} {s : Store} {K : List D → Slots → Store → Prop} {X : QX} {h : Hd K} {h2 : Hd X} : xI (.enum e .nil) σ s K X h h2 = xE e σ s (fun o σ s => optH (seqOf o.frz) fun xs => K (enumD 0 xs) σ s) X := by
  unfold xI; rw [wIt.eq_4]
  refine congrArg (fun k => (w e).v σ s k X) (funext fun x => funext fun σ => funext fun s => congrArg (optK _) (funext fun d => ?_))
  rw [ws.eq_1]; rfl
theorem xI_enum1 (e k : E) {σ : Slots} {s : Store} {K : List D → Slots → Store → Prop} {X : QX} {h : Hd K} {h2 : Hd X} : xI (.enum e (.cons k .nil)) σ s K X h h2 = xE e σ s (fun o σ s => optH (seqOf o.frz) fun xs => xA k σ s (fun y σ s => optH (vres σ s y) fun y => onInt y fun i => iteH (rngOk i i && isLst o.frz) (K (enumD i xs) σ s) False) X) X := by
  unfold xI; rw [wIt.eq_4]
  refine congrArg (fun k => (w e).v σ s k X) (funext fun x => funext fun σ => funext fun s => congrArg (optK _) (funext fun d => ?_))
  rw [ws.eq_2]
  dsimp only
  unfold xA
  refine congrArg (fun z => asOp k (w k).v σ s z X) (funext fun y => funext fun σ => funext fun s => ?_)
  rw [ws.eq_1]
  dsimp only
  simp only [ress, optH]
  cases vres σ s y with
  | none => rfl
  | some d => cases d <;> rfl
theorem xI_items (e : E) {σ : Slots} {s : Store} {K : List D → Slots → Store → Prop} {X : QX} {h : Hd K} {h2 : Hd X} : xI (.items e) σ s K X h h2 = xE e σ s (fun o σ s => onDct o.frz fun ks vs => K (zipD ks vs) σ s) X := by
  unfold xI; rw [wIt.eq_6]; rfl
theorem xI_tabk (e : E) {σ : Slots} {s : Store} {K : List D → Slots → Store → Prop} {X : QX} {h : Hd K} {h2 : Hd X} : xI (.tabk e) σ s K X h h2 = xE e σ s (fun o σ s => onTab o.frz fun ks _ => K ks σ s) X := by
  unfold xI; rw [wIt.eq_8]; rfl
theorem xI_zip (es : Es) {σ : Slots} {s : Store} {K : List D → Slots → Store → Prop} {X : QX} {h : Hd K} {h2 : Hd X} : xI (.zip es) σ s K X h h2 = xV es σ s (fun ds σ s => onZip ds fun xs => K xs σ s) X := by
  unfold xI; rw [wIt.eq_5]; rfl
theorem xB_nil {σ : Slots} {s : Store} {N : QN} {P : Rst} {h : Hd N} {h2 : Hd P} : xB .nil σ s N P h h2 = N σ s := by
  unfold xB; rw [wSs]
theorem xB_cons (st : S) (r : Ss) {σ : Slots} {s : Store} {N : QN} {P : Rst} {h : Hd N} {h2 : Hd P} : xB (.cons st r) σ s N P h h2 = xS st σ s (fun σ s => xB r σ s N P) P := by
  unfold xB; rw [wSs]; rfl
theorem xS_asgN (i : Nat) (e : E) {σ : Slots} {s : Store} {N : QN} {P : Rst} {h : Hd N} {h2 : Hd P} : xS (.asg (.name i) e) σ s N P h h2 = xE e σ s (fun o σ s => goH (σ.set i o.slot) fun σ => N σ s) P.ex := by
  unfold xS; rw [wS] <;> rfl
theorem xS_asgT (ts : List Tg) (e : E) {σ : Slots} {s : Store} {N : QN} {P : Rst} {h : Hd N} {h2 : Hd P} : xS (.asg (.tup ts) e) σ s N P h h2 = xE e σ s (fun o σ s => xG (.tup ts) o.frz σ s N) P.ex := by
  unfold xS; rw [wS] <;> rfl
theorem xS_par (is : List Nat) (es : Es) {σ : Slots} {s : Store} {N : QN} {P : Rst} {h : Hd N} {h2 : Hd P} : xS (.par is es) σ s N P h h2 = xU es σ s (fun os σ s => andH (os.length = is.length) (goH (setsS σ is os) fun σ => N σ s)) P.ex := by
  unfold xS; rw [wS] <;> rfl
theorem xS_setix (o k v : E) {σ : Slots} {s : Store} {N : QN} {P : Rst} {h : Hd N} {h2 : Hd P} : xS (.setix o k v) σ s N P h h2 = xE v σ s (fun y σ s => xA o σ s (fun x σ s => xE k σ s (fun i σ s => upH x σ s (fun c => (setSem c i.frz y.frz).map fun c => (c, .non)) fun _ σ s => N σ s) P.ex) P.ex) P.ex := by
  unfold xS; rw [wS] <;> rfl
theorem xS_setix2 (o k o2 k2 v : E) {σ : Slots} {s : Store} {N : QN} {P : Rst} {h : Hd N} {h2 : Hd P} : xS (.setix2 o k o2 k2 v) σ s N P h h2 = xE v σ s (fun y σ s => onPair y.frz fun y1 y2 => xA o σ s (fun x σ s => xE k σ s (fun i σ s => upH x σ s (fun c => (setSem c i.frz y1).map fun c => (c, .non)) fun _ σ s => xA o2 σ s (fun x σ s => xE k2 σ s (fun i σ s => upH x σ s (fun c => (setSem c i.frz y2).map fun c => (c, .non)) fun _ σ s => N σ s) P.ex) P.ex) P.ex) P.ex) P.ex := by
  unfold xS; rw [wS] <;> rfl
def sfSem (cn n : Str) (y : D) (c : Cont) : Option (Cont × D) := match c with
  | .ins c ns vs => if c = cn && decide (ns.length < 100) then some (.ins c (putF ns vs n y).1 (putF ns vs n y).2, .non) else none
  | _ => none
theorem xS_setfld (cn : Str) (o : E) (n : Str) (v : E) {σ : Slots} {s : Store} {N : QN} {P : Rst} {h : Hd N} {h2 : Hd P} : xS (.setfld cn o n v) σ s N P h h2 = xE v σ s (fun y σ s => xA o σ s (fun x σ s => upH x σ s (sfSem cn n y.frz) fun _ σ s => N σ s) P.ex) P.ex := by
  unfold xS; rw [wS] <;> rfl
theorem xS_ex (e : E) {σ : Slots} {s : Store} {N : QN} {P : Rst} {h : Hd N} {h2 : Hd P} : xS (.ex e) σ s N P h h2 = xE e σ s (fun _ σ s => N σ s) P.ex := by
  unfold xS; rw [wS] <;> rfl
theorem xS_retV (i : Nat) {σ : Slots} {s : Store} {N : QN} {P : Rst} {h : Hd N} {h2 : Hd P} : xS (.ret (.var i)) σ s N P h h2 = onSlot σ[i]? (fun d => P.rt (.val d) s) (fun c => P.rt (.own c) s) := by
  unfold xS; rw [wS] <;> rfl
theorem xS_ret_lit (d : D) {σ : Slots} {s : Store} {N : QN} {P : Rst} {h : Hd N} {h2 : Hd P} : xS (.ret (.lit d)) σ s N P h h2 = xE (.lit d) σ s (fun o _ s => P.rt o s) P.ex := by
  unfold xS xE; rw [wS] <;> first | rfl | (intro i q; cases q)
theorem xS_ret_bin (o : BinO) (a b : E) {σ : Slots} {s : Store} {N : QN} {P : Rst} {h : Hd N} {h2 : Hd P} : xS (.ret (.bin o a b)) σ s N P h h2 = xE (.bin o a b) σ s (fun o _ s => P.rt o s) P.ex := by
  unfold xS xE; rw [wS] <;> first | rfl | (intro i q; cases q)
theorem xS_ret_neg (a : E) {σ : Slots} {s : Store} {N : QN} {P : Rst} {h : Hd N} {h2 : Hd P} : xS (.ret (.neg a)) σ s N P h h2 = xE (.neg a) σ s (fun o _ s => P.rt o s) P.ex := by
  unfold xS xE; rw [wS] <;> first | rfl | (intro i q; cases q)
theorem xS_ret_cmp (o : CmpO) (a b : E) {σ : Slots} {s : Store} {N : QN} {P : Rst} {h : Hd N} {h2 : Hd P} : xS (.ret (.cmp o a b)) σ s N P h h2 = xE (.cmp o a b) σ s (fun o _ s => P.rt o s) P.ex := by
  unfold xS xE; rw [wS] <;> first | rfl | (intro i q; cases q)
theorem xS_ret_chain (o p : CmpO) (a b c : E) {σ : Slots} {s : Store} {N : QN} {P : Rst} {h : Hd N} {h2 : Hd P} : xS (.ret (.chain o p a b c)) σ s N P h h2 = xE (.chain o p a b c) σ s (fun o _ s => P.rt o s) P.ex := by
  unfold xS xE; rw [wS] <;> first | rfl | (intro i q; cases q)
theorem xS_ret_not_ (a : E) {σ : Slots} {s : Store} {N : QN} {P : Rst} {h : Hd N} {h2 : Hd P} : xS (.ret (.not_ a)) σ s N P h h2 = xE (.not_ a) σ s (fun o _ s => P.rt o s) P.ex := by
  unfold xS xE; rw [wS] <;> first | rfl | (intro i q; cases q)
theorem xS_ret_and_ (a b : E) {σ : Slots} {s : Store} {N : QN} {P : Rst} {h : Hd N} {h2 : Hd P} : xS (.ret (.and_ a b)) σ s N P h h2 = xE (.and_ a b) σ s (fun o _ s => P.rt o s) P.ex := by
  unfold xS xE; rw [wS] <;> first | rfl | (intro i q; cases q)
theorem xS_ret_or_ (a b : E) {σ : Slots} {s : Store} {N : QN} {P : Rst} {h : Hd N} {h2 : Hd P} : xS (.ret (.or_ a b)) σ s N P h h2 = xE (.or_ a b) σ s (fun o _ s => P.rt o s) P.ex := by
  unfold xS xE; rw [wS] <;> first | rfl | (intro i q; cases q)
theorem xS_ret_ife (c a b : E) {σ : Slots} {s : Store} {N : QN} {P : Rst} {h : Hd N} {h2 : Hd P} : xS (.ret (.ife c a b)) σ s N P h h2 = xE (.ife c a b) σ s (fun o _ s => P.rt o s) P.ex := by
  unfold xS xE; rw [wS] <;> first | rfl | (intro i q; cases q)
theorem xS_ret_tup (es : Es) {σ : Slots} {s : Store} {N : QN} {P : Rst} {h : Hd N} {h2 : Hd P} : xS (.ret (.tup es)) σ s N P h h2 = xE (.tup es) σ s (fun o _ s => P.rt o s) P.ex := by
  unfold xS xE; rw [wS] <;> first | rfl | (intro i q; cases q)
theorem xS_ret_lst (es : Es) {σ : Slots} {s : Store} {N : QN} {P : Rst} {h : Hd N} {h2 : Hd P} : xS (.ret (.lst es)) σ s N P h h2 = xE (.lst es) σ s (fun o _ s => P.rt o s) P.ex := by
  unfold xS xE; rw [wS] <;> first | rfl | (intro i q; cases q)
theorem xS_ret_dct (es : Es) {σ : Slots} {s : Store} {N : QN} {P : Rst} {h : Hd N} {h2 : Hd P} : xS (.ret (.dct es)) σ s N P h h2 = xE (.dct es) σ s (fun o _ s => P.rt o s) P.ex := by
  unfold xS xE; rw [wS] <;> first | rfl | (intro i q; cases q)
theorem xS_ret_ix (a b : E) {σ : Slots} {s : Store} {N : QN} {P : Rst} {h : Hd N} {h2 : Hd P} : xS (.ret (.ix a b)) σ s N P h h2 = xE (.ix a b) σ s (fun o _ s => P.rt o s) P.ex := by
  unfold xS xE; rw [wS] <;> first | rfl | (intro i q; cases q)
theorem xS_ret_sl (a : E) (lo hi : Es) {σ : Slots} {s : Store} {N : QN} {P : Rst} {h : Hd N} {h2 : Hd P} : xS (.ret (.sl a lo hi)) σ s N P h h2 = xE (.sl a lo hi) σ s (fun o _ s => P.rt o s) P.ex := by
  unfold xS xE; rw [wS] <;> first | rfl | (intro i q; cases q)
theorem xS_ret_rev (a : E) {σ : Slots} {s : Store} {N : QN} {P : Rst} {h : Hd N} {h2 : Hd P} : xS (.ret (.rev a)) σ s N P h h2 = xE (.rev a) σ s (fun o _ s => P.rt o s) P.ex := by
  unfold xS xE; rw [wS] <;> first | rfl | (intro i q; cases q)
theorem xS_ret_fld (c : Str) (a : E) (n : Str) {σ : Slots} {s : Store} {N : QN} {P : Rst} {h : Hd N} {h2 : Hd P} : xS (.ret (.fld c a n)) σ s N P h h2 = xE (.fld c a n) σ s (fun o _ s => P.rt o s) P.ex := by
  unfold xS xE; rw [wS] <;> first | rfl | (intro i q; cases q)
theorem xS_ret_prop (c : Str) (g : Fn) (a : E) {σ : Slots} {s : Store} {N : QN} {P : Rst} {h : Hd N} {h2 : Hd P} : xS (.ret (.prop c g a)) σ s N P h h2 = xE (.prop c g a) σ s (fun o _ s => P.rt o s) P.ex := by
  unfold xS xE; rw [wS] <;> first | rfl | (intro i q; cases q)
theorem xS_ret_call (g : Fn) (es : Es) {σ : Slots} {s : Store} {N : QN} {P : Rst} {h : Hd N} {h2 : Hd P} : xS (.ret (.call g es)) σ s N P h h2 = xE (.call g es) σ s (fun o _ s => P.rt o s) P.ex := by
  unfold xS xE; rw [wS] <;> first | rfl | (intro i q; cases q)
theorem xS_ret_callp (g : Fn) (p : List Nat) (es : Es) {σ : Slots} {s : Store} {N : QN} {P : Rst} {h : Hd N} {h2 : Hd P} : xS (.ret (.callp g p es)) σ s N P h h2 = xE (.callp g p es) σ s (fun o _ s => P.rt o s) P.ex := by
  unfold xS xE; rw [wS] <;> first | rfl | (intro i q; cases q)
theorem xS_ret_meth (c m : Str) (g : Fn) (o : E) (es : Es) {σ : Slots} {s : Store} {N : QN} {P : Rst} {h : Hd N} {h2 : Hd P} : xS (.ret (.meth c m g o es)) σ s N P h h2 = xE (.meth c m g o es) σ s (fun o _ s => P.rt o s) P.ex := by
  unfold xS xE; rw [wS] <;> first | rfl | (intro i q; cases q)
theorem xS_ret_mk (c : Str) (g : Fn) (es : Es) {σ : Slots} {s : Store} {N : QN} {P : Rst} {h : Hd N} {h2 : Hd P} : xS (.ret (.mk c g es)) σ s N P h h2 = xE (.mk c g es) σ s (fun o _ s => P.rt o s) P.ex := by
  unfold xS xE; rw [wS] <;> first | rfl | (intro i q; cases q)
theorem xS_ret_alloc (e : E) {σ : Slots} {s : Store} {N : QN} {P : Rst} {h : Hd N} {h2 : Hd P} : xS (.ret (.alloc e)) σ s N P h h2 = xE (.alloc e) σ s (fun o _ s => P.rt o s) P.ex := by
  unfold xS xE; rw [wS] <;> first | rfl | (intro i q; cases q)
theorem xS_ret_bi (b : Bi) (es : Es) {σ : Slots} {s : Store} {N : QN} {P : Rst} {h : Hd N} {h2 : Hd P} : xS (.ret (.bi b es)) σ s N P h h2 = xE (.bi b es) σ s (fun o _ s => P.rt o s) P.ex := by
  unfold xS xE; rw [wS] <;> first | rfl | (intro i q; cases q)
theorem xS_ret_isi (l : List Str) (cs : List Cl) (a : E) {σ : Slots} {s : Store} {N : QN} {P : Rst} {h : Hd N} {h2 : Hd P} : xS (.ret (.isi l cs a)) σ s N P h h2 = xE (.isi l cs a) σ s (fun o _ s => P.rt o s) P.ex := by
  unfold xS xE; rw [wS] <;> first | rfl | (intro i q; cases q)
theorem xS_ret_rng (t : Bool) (es : Es) {σ : Slots} {s : Store} {N : QN} {P : Rst} {h : Hd N} {h2 : Hd P} : xS (.ret (.rng t es)) σ s N P h h2 = xE (.rng t es) σ s (fun o _ s => P.rt o s) P.ex := by
  unfold xS xE; rw [wS] <;> first | rfl | (intro i q; cases q)
theorem xS_ret_bm (m : Bm) (o : E) (es : Es) {σ : Slots} {s : Store} {N : QN} {P : Rst} {h : Hd N} {h2 : Hd P} : xS (.ret (.bm m o es)) σ s N P h h2 = xE (.bm m o es) σ s (fun o _ s => P.rt o s) P.ex := by
  unfold xS xE; rw [wS] <;> first | rfl | (intro i q; cases q)
theorem xS_ret_mm (m : Mm) (o : E) (es : Es) {σ : Slots} {s : Store} {N : QN} {P : Rst} {h : Hd N} {h2 : Hd P} : xS (.ret (.mm m o es)) σ s N P h h2 = xE (.mm m o es) σ s (fun o _ s => P.rt o s) P.ex := by
  unfold xS xE; rw [wS] <;> first | rfl | (intro i q; cases q)
theorem xS_ret_lc (vs : List Nat) (e : E) (c : Cs) {σ : Slots} {s : Store} {N : QN} {P : Rst} {h : Hd N} {h2 : Hd P} : xS (.ret (.lc vs e c)) σ s N P h h2 = xE (.lc vs e c) σ s (fun o _ s => P.rt o s) P.ex := by
  unfold xS xE; rw [wS] <;> first | rfl | (intro i q; cases q)
theorem xS_ret_dc (vs : List Nat) (a b : E) (c : Cs) {σ : Slots} {s : Store} {N : QN} {P : Rst} {h : Hd N} {h2 : Hd P} : xS (.ret (.dc vs a b c)) σ s N P h h2 = xE (.dc vs a b c) σ s (fun o _ s => P.rt o s) P.ex := by
  unfold xS xE; rw [wS] <;> first | rfl | (intro i q; cases q)
theorem xS_ret_eqo (l : List Str) (n : Bool) (c : Str) (g : Fn) (a b : E) {σ : Slots} {s : Store} {N : QN} {P : Rst} {h : Hd N} {h2 : Hd P} : xS (.ret (.eqo l n c g a b)) σ s N P h h2 = xE (.eqo l n c g a b) σ s (fun o _ s => P.rt o s) P.ex := by
  unfold xS xE; rw [wS] <;> first | rfl | (intro i q; cases q)
theorem xS_ret_tabd (es : Es) {σ : Slots} {s : Store} {N : QN} {P : Rst} {h : Hd N} {h2 : Hd P} : xS (.ret (.tabd es)) σ s N P h h2 = xE (.tabd es) σ s (fun o _ s => P.rt o s) P.ex := by
  unfold xS xE; rw [wS] <;> first | rfl | (intro i q; cases q)
theorem xS_ret_tget (o : E) (es : Es) {σ : Slots} {s : Store} {N : QN} {P : Rst} {h : Hd N} {h2 : Hd P} : xS (.ret (.tget o es)) σ s N P h h2 = xE (.tget o es) σ s (fun o _ s => P.rt o s) P.ex := by
  unfold xS xE; rw [wS] <;> first | rfl | (intro i q; cases q)
theorem xS_ret_borrow (ks : List Nat) (e : E) {σ : Slots} {s : Store} {N : QN} {P : Rst} {h : Hd N} {h2 : Hd P} : xS (.ret (.borrow ks e)) σ s N P h h2 = xE (.borrow ks e) σ s (fun o _ s => P.rt o s) P.ex := by
  unfold xS xE; rw [wS] <;> first | rfl | (intro i q; cases q)
theorem xS_ret_isx (l : List Str) (t : Str) (a : E) {σ : Slots} {s : Store} {N : QN} {P : Rst} {h : Hd N} {h2 : Hd P} : xS (.ret (.isx l t a)) σ s N P h h2 = xE (.isx l t a) σ s (fun o _ s => P.rt o s) P.ex := by
  unfold xS xE; rw [wS] <;> first | rfl | (intro i q; cases q)
theorem xS_ret_xfld (l : List Str) (a : E) (n : Str) {σ : Slots} {s : Store} {N : QN} {P : Rst} {h : Hd N} {h2 : Hd P} : xS (.ret (.xfld l a n)) σ s N P h h2 = xE (.xfld l a n) σ s (fun o _ s => P.rt o s) P.ex := by
  unfold xS xE; rw [wS] <;> first | rfl | (intro i q; cases q)
theorem xS_ret_callT (g : Addr → Fn → Fn) (ks : List Nat) (e : E) {σ : Slots} {s : Store} {N : QN} {P : Rst} {h : Hd N} {h2 : Hd P} : xS (.ret (.callT g ks e)) σ s N P h h2 = xE (.callT g ks e) σ s (fun o _ s => P.rt o s) P.ex := by
  unfold xS xE; rw [wS] <;> first | rfl | (intro i q; cases q)
theorem xS_ret_lamE (L : List (Str × Addr)) (j : Nat) (y : LamSyn) {σ : Slots} {s : Store} {N : QN} {P : Rst} {h : Hd N} {h2 : Hd P} : xS (.ret (.lamE L j y)) σ s N P h h2 = xE (.lamE L j y) σ s (fun o _ s => P.rt o s) P.ex := by
  unfold xS xE; rw [wS] <;> first | rfl | (intro i q; cases q)
theorem xS_ret_app (g : Addr → Fn → Fn) (L : List (Str × Addr)) (ys : List LamSyn) (ks : List Nat) (es : Es) (a : E) {σ : Slots} {s : Store} {N : QN} {P : Rst} {h : Hd N} {h2 : Hd P} : xS (.ret (.app g L ys ks es a)) σ s N P h h2 = xE (.app g L ys ks es a) σ s (fun o _ s => P.rt o s) P.ex := by
  unfold xS xE; rw [wS] <;> first | rfl | (intro i q; cases q)
theorem xS_ret_act (a : Addr) (f : Fn) (i : Nat) {σ : Slots} {s : Store} {N : QN} {P : Rst} {h : Hd N} {h2 : Hd P} : xS (.ret (.act a f i)) σ s N P h h2 = xE (.act a f i) σ s (fun o _ s => P.rt o s) P.ex := by
  unfold xS xE; rw [wS] <;> first | rfl | (intro i q; cases q)
theorem xS_ret_callA (g : Addr → Fn → Fn) (a : Addr) (f : Fn) (i : Nat) {σ : Slots} {s : Store} {N : QN} {P : Rst} {h : Hd N} {h2 : Hd P} : xS (.ret (.callA g a f i)) σ s N P h h2 = xE (.callA g a f i) σ s (fun o _ s => P.rt o s) P.ex := by
  unfold xS xE; rw [wS] <;> first | rfl | (intro i q; cases q)
theorem xS_ret_lcr (a : E) (vs : List Nat) (e : E) (t : Tg) (ifs : Es) {σ : Slots} {s : Store} {N : QN} {P : Rst} {h : Hd N} {h2 : Hd P} : xS (.ret (.lcr a vs e t ifs)) σ s N P h h2 = xE (.lcr a vs e t ifs) σ s (fun o _ s => P.rt o s) P.ex := by
  unfold xS xE; rw [wS] <;> first | rfl | (intro i q; cases q)
theorem xS_ret_dyn (ks : List Nat) (es : Es) (f : (Nat → Fn) → E) {σ : Slots} {s : Store} {N : QN} {P : Rst} {h : Hd N} {h2 : Hd P} : xS (.ret (.dyn ks es f)) σ s N P h h2 = xE (.dyn ks es f) σ s (fun o _ s => P.rt o s) P.ex := by
  unfold xS xE; rw [wS] <;> first | rfl | (intro i q; cases q)
theorem xS_ret_appQ (g : Addr → Fn → Fn) (L : List (Str × Addr)) (ys : List LamSyn) (q : Nat → Fn) (a : E) {σ : Slots} {s : Store} {N : QN} {P : Rst} {h : Hd N} {h2 : Hd P} : xS (.ret (.appQ g L ys q a)) σ s N P h h2 = xE (.appQ g L ys q a) σ s (fun o _ s => P.rt o s) P.ex := by
  unfold xS xE; rw [wS] <;> first | rfl | (intro i q; cases q)
theorem xS_retn  {σ : Slots} {s : Store} {N : QN} {P : Rst} {h : Hd N} {h2 : Hd P} : xS (.retn) σ s N P h h2 = P.rt (.val .non) s := by
  unfold xS; rw [wS] <;> rfl
theorem xS_ife (c : E) (a b : Ss) {σ : Slots} {s : Store} {N : QN} {P : Rst} {h : Hd N} {h2 : Hd P} : xS (.ife c a b) σ s N P h h2 = xT c σ s (fun r σ s => iteH r (xB a σ s N P) (xB b σ s N P)) P.ex := by
  unfold xS; rw [wS] <;> rfl
theorem for_loop (t : Tg) (b : Ss) (N : QN) (P : Rst) (h : Hd N) (h2 : Hd P) : ∀ (items : List D) (σ : Slots) (s : Store), wLoop (fun x (_ : Unit) σ s k => wTg t x σ s fun σ s => wSs b σ s { P.post N with nx := fun σ s => k () σ s, ct := fun σ s => k () σ s, bk := N }) items () σ s (fun _ σ s => N σ s) = loopH t b items σ s N P h h2
  | [], σ, s => rfl
  | x :: xs, σ, s => by
    have ih := for_loop t b N P h h2 xs
    simp only [wLoop, loopH]
    refine congrArg (fun k => wTg t x σ s k) (funext fun σ => funext fun s => ?_)
    simp only [ih]
    rfl
theorem while_loop (c : E) (b : Ss) (N : QN) (P : Rst) (h : Hd N) (h2 : Hd P) : ∀ (n : Nat) (σ : Slots) (s : Store), wWhile (fun σ s K => wT c σ s K P.ex) (fun σ s k d => wSs b σ s { P.post N with nx := k, ct := k, bk := d }) n σ s N = whH c b n σ s N P h h2
  | 0, σ, s => rfl
  | n + 1, σ, s => by
    have ih := while_loop c b N P h h2 n
    simp only [wWhile, whH]
    refine congrArg (fun k => (w c).t σ s k P.ex) (funext fun r => funext fun σ => funext fun s => ?_)
    cases r with
    | false => rfl
    | true =>
      rw [if_pos rfl, iteH_t]
      have e : (fun σ s => wWhile (fun σ s K => wT c σ s K P.ex) (fun σ s k d => wSs b σ s { P.post N with nx := k, ct := k, bk := d }) n σ s N) = fun σ s => whH c b n σ s N P h h2 := funext fun σ => funext fun s => ih σ s
      rw [e]
      rfl
theorem xS_for (t : Tg) (it : It) (b : Ss) {σ : Slots} {s : Store} {N : QN} {P : Rst} {h : Hd N} {h2 : Hd P} : xS (.for_ t it b) σ s N P h h2 = xI it σ s (fun items σ s => loopH t b items σ s N P ⟨⟩ ⟨⟩) P.ex := by
  unfold xS; rw [wS]
  refine congrArg (fun k => wIt it σ s k P.ex) (funext fun items => funext fun σ => funext fun s => ?_)
  exact for_loop t b N P ⟨⟩ ⟨⟩ items σ s
theorem xS_while (c : E) (b : Ss) {σ : Slots} {s : Store} {N : QN} {P : Rst} {h : Hd N} {h2 : Hd P} : xS (.while_ c b) σ s N P h h2 = whH c b turns σ s N P ⟨⟩ ⟨⟩ := by
  unfold xS; rw [wS]
  exact while_loop c b N P ⟨⟩ ⟨⟩ turns σ s
theorem xS_pass  {σ : Slots} {s : Store} {N : QN} {P : Rst} {h : Hd N} {h2 : Hd P} : xS (.pass) σ s N P h h2 = N σ s := by
  unfold xS; rw [wS] <;> rfl
theorem xS_brk  {σ : Slots} {s : Store} {N : QN} {P : Rst} {h : Hd N} {h2 : Hd P} : xS (.brk) σ s N P h h2 = P.bk σ s := by
  unfold xS; rw [wS] <;> rfl
theorem xS_cont  {σ : Slots} {s : Store} {N : QN} {P : Rst} {h : Hd N} {h2 : Hd P} : xS (.cont) σ s N P h h2 = P.ct σ s := by
  unfold xS; rw [wS] <;> rfl
theorem xS_raise (c : Str) (f : Bool) (e : E) {σ : Slots} {s : Store} {N : QN} {P : Rst} {h : Hd N} {h2 : Hd P} : xS (.raise c f e) σ s N P h h2 = xE e σ s (fun o σ s => P.ex ⟨c, if f then some o.frz else none⟩ σ s) P.ex := by
  unfold xS; rw [wS] <;> rfl
theorem xS_try (l : List Str) (b : Ss) (c : Str) (h1 : Ss) {σ : Slots} {s : Store} {N : QN} {P : Rst} {h : Hd N} {h2 : Hd P} : xS (.try_ l b c h1) σ s N P h h2 = xB b σ s N ⟨P.rt, P.bk, P.ct, fun e σ s => andH (l.contains e.c = true) (iteH (isSub e.c c) (xB h1 σ s N ⟨P.rt, P.bk, P.ct, noX⟩) (P.ex e σ s))⟩ := by
  unfold xS; rw [wS] <;> rfl
theorem xS_tryk (l : List Str) (b : Ss) (c : Str) (n m : Nat) {σ : Slots} {s : Store} {N : QN} {P : Rst} {h : Hd N} {h2 : Hd P} : xS (.tryk l b c n m) σ s N P h h2 = xB b σ s N ⟨P.rt, P.bk, P.ct, fun e σ s => andH (l.contains e.c = true) (iteH (isSub e.c c) (goH ((σ.set n .unb).set m (.val (.exc e.c e.arg.toList))) fun σ => N σ s) (P.ex e σ s))⟩ := by
  unfold xS; rw [wS] <;> rfl
theorem xS_tryn (l : List Str) (b : Ss) (c : Str) (n : Nat) (h1 : Ss) {σ : Slots} {s : Store} {N : QN} {P : Rst} {h : Hd N} {h2 : Hd P} : xS (.tryn l b c n h1) σ s N P h h2 = xB b σ s N ⟨P.rt, P.bk, P.ct, fun e σ s => andH (l.contains e.c = true) (iteH (isSub e.c c) (goH (σ.set n (.val (.exc e.c e.arg.toList))) fun σ => xB h1 σ s (fun σ s => goH (σ.set n .unb) fun σ => N σ s) ⟨P.rt, fun σ s => P.bk (σ.set n .unb) s, fun σ s => P.ct (σ.set n .unb) s, noX⟩) (P.ex e σ s))⟩ := by
  unfold xS; rw [wS] <;> rfl
theorem xG_name (i : Nat) (d : D) {σ : Slots} {s : Store} {K : QN} {h : Hd K} : xG (.name i) d σ s K h = goH (σ.set i (.val d)) fun σ => K σ s := by
  unfold xG; rw [wTg] <;> rfl
theorem xG_tup (ts : List Tg) (d : D) {σ : Slots} {s : Store} {K : QN} {h : Hd K} : xG (.tup ts) d σ s K h = onTup d fun xs => andH (xs.length = ts.length) (xGs ts xs σ s K) := by
  unfold xG; cases d <;> simp only [wTg, onTup] <;> rfl
theorem xGs_nil (xs : List D) {σ : Slots} {s : Store} {K : QN} {h : Hd K} : xGs [] xs σ s K h = andH (xs = []) (K σ s) := by
  unfold xGs; rw [wTgs]; rfl
theorem xGs_cons (t : Tg) (ts : List Tg) (xs : List D) {σ : Slots} {s : Store} {K : QN} {h : Hd K} : xGs (t :: ts) xs σ s K h = onCons xs fun x xs => xG t x σ s fun σ s => xGs ts xs σ s K := by
  unfold xGs; cases xs <;> simp only [wTgs, onCons] <;> rfl
theorem loopH_nil (t : Tg) (b : Ss) {σ : Slots} {s : Store} {N : QN} {P : Rst} {h : Hd N} {h2 : Hd P} : loopH t b [] σ s N P h h2 = N σ s := rfl
theorem loopH_cons (t : Tg) (b : Ss) (x : D) (xs : List D) {σ : Slots} {s : Store} {N : QN} {P : Rst} {h : Hd N} {h2 : Hd P} : loopH t b (x :: xs) σ s N P h h2 = xG t x σ s fun σ s => xB b σ s (fun σ s => loopH t b xs σ s N P h h2) ⟨P.rt, N, fun σ s => loopH t b xs σ s N P h h2, P.ex⟩ := rfl
theorem lcH_nil (vs : List Nat) (e : E) (t : Tg) (ifs : Es) (acc : List D) {σ : Slots} {s : Store} {K : List D → Slots → Store → Prop} {h : Hd K} : lcH vs e t ifs [] acc σ s K h = K acc σ s := rfl
theorem lcH_cons (vs : List Nat) (e : E) (t : Tg) (ifs : Es) (x : D) (xs acc : List D) {σ : Slots} {s : Store} {K : List D → Slots → Store → Prop} {h : Hd K} : lcH vs e t ifs (x :: xs) acc σ s K h = goH (wipeS σ vs) fun σ => xG t x σ s fun σ s => xF ifs σ s fun c σ s => iteH c (xE e σ s (fun o σ s => iteH (decide (acc.length < big)) (lcH vs e t ifs xs (acc ++ [o.frz]) σ s K h) False) noX) (lcH vs e t ifs xs acc σ s K h) := rfl
theorem lc_loop (vs : List Nat) (e : E) (t : Tg) (ifs : Es) (K : List D → Slots → Store → Prop) (h : Hd K) : ∀ (items acc z : List D) (σ : Slots) (s : Store), wLoop (fun x (a : Acc) σ s k => wTg t x (wipeS σ vs) s fun σ s => (ws ifs).ifs σ s fun c σ s =>
    if c then (w e).v σ s (fun o σ s => if a.1.length < big then k (a.1 ++ [o.frz], []) σ s else False) noX else k a σ s) items (acc, z) σ s (fun a σ s => K a.1 σ s) = lcH vs e t ifs items acc σ s K h
  | [], acc, z, σ, s => rfl
  | x :: xs, acc, z, σ, s => by
    have ih := lc_loop vs e t ifs K h xs
    simp only [wLoop, lcH]
    refine congrArg (fun k => wTg t x (wipeS σ vs) s k) (funext fun σ => funext fun s => congrArg (fun k => (ws ifs).ifs σ s k) (funext fun c => funext fun σ => funext fun s => ?_))
    cases c with
    | false => exact ih acc z σ s
    | true =>
      refine congrArg (fun k => (w e).v σ s k noX) (funext fun o => funext fun σ => funext fun s => ?_)
      by_cases q : acc.length < big
      · rw [if_pos q, decide_eq_true q, iteH_t]
        exact ih _ _ σ s
      · rw [if_neg q, decide_eq_false q, iteH_f]
theorem xE_lc1 (vs : List Nat) (e : E) (t : Tg) (it : It) (ifs : Es) {σ : Slots} {s : Store} {K : QO} {X : QX} {h : Hd K} {h2 : Hd X} : xE (.lc vs e (.one t it ifs)) σ s K X h h2 = xI it σ s (fun items σ1 s => lcH vs e t ifs items [] σ1 s (fun acc σ2 s => goH (backS σ σ2 vs) fun σ => K (.own (.lst acc)) σ s) ⟨⟩) X := by
  unfold xE; rw [w.eq_29]; simp only [dft]; rw [wCs]
  refine congrArg (fun k => wIt it σ s k X) (funext fun items => funext fun σ1 => funext fun s => ?_)
  exact lc_loop vs e t ifs (fun acc σ2 s => goH (backS σ σ2 vs) fun σ => K (.own (.lst acc)) σ s) ⟨⟩ items [] [] σ1 s
/-- a def is entered -/
theorem callH_mk (n m : Nat) (b : Ss) (ds : List D) (s : Store) (Q : Out → Store → Prop) (X : Exc → Store → Prop) (h : Hd Q) (h2 : Hd X) : callH (mkFn n m b) ds s Q X h h2 = andH (ds.length = n)
    (goH (ds.map .val ++ List.replicate (m - n) .unb) fun σ => xB b σ s (fun _ s => Q (.val .non) s) ⟨Q, fun _ _ => False, fun _ _ => False, fun e _ s => X e s⟩) := rfl
theorem callH_thk (e : E) (τ : Slots) (ds : List D) (s : Store) (Q : Out → Store → Prop) (X : Exc → Store → Prop) (h : Hd Q) (h2 : Hd X) : callH (thk e τ) ds s Q X h h2 = xE e τ s (fun o _ s => Q o s) (fun x _ s => X x s) := rfl
theorem callH_thk0 (e : E) (r : Es) (τ : Slots) (ds : List D) (s : Store) (Q : Out → Store → Prop) (X : Exc → Store → Prop) (h : Hd Q) (h2 : Hd X) : callH (thkN (.cons e r) 0 τ) ds s Q X h h2 = xE e τ s (fun o _ s => Q o s) (fun x _ s => X x s) := by
  unfold callH thkN; rw [wN]; rfl
theorem callH_thkS (e : E) (r : Es) (j : Nat) (τ : Slots) (ds : List D) (s : Store) (Q : Out → Store → Prop) (X : Exc → Store → Prop) (h : Hd Q) (h2 : Hd X) : callH (thkN (.cons e r) (j + 1) τ) ds s Q X h h2 = callH (thkN r j τ) ds s Q X h h2 := by
  unfold callH thkN; rw [wN]
theorem callH_pick (perm : List Nat) (g : Fn) (ds : List D) (s : Store) (Q : Out → Store → Prop) (X : Exc → Store → Prop) (h : Hd Q) (h2 : Hd X) : callH (pickFn perm g) ds s Q X h h2 = andH (ds.length = perm.length) (callH g (pick ds perm) s Q X) := rfl
theorem callH_pick1 (perm : List Nat) (g : Fn) (x : D) (ds : List D) (s : Store) (Q : Out → Store → Prop) (X : Exc → Store → Prop) (h : Hd Q) (h2 : Hd X) : callH (pickFn1 perm g) (x :: ds) s Q X h h2 = andH (ds.length = perm.length) (callH g (x :: pick ds perm) s Q X) := rfl
theorem callH_in (c : Str) (n m : Nat) (b : Ss) (ds : List D) (s : Store) (Q : Out → Store → Prop) (X : Exc → Store → Prop) (h : Hd Q) (h2 : Hd X) : callH (mkIn c n m b) ds s Q X h h2 = andH (ds.length = n)
    (goH (.own (.ins c [] []) :: ds.map .val ++ List.replicate (m - n - 1) .unb) fun σ => xB b σ s (fun (σ : Slots) s => onSlot σ[0]? (fun _ => False) fun k => Q (.own k) s) ⟨fun _ _ => False, fun _ _ => False, fun _ _ => False, fun e _ s => X e s⟩) := by
  unfold callH mkIn andH goH xB
  refine congrArg (fun z => ds.length = n ∧ z) (congrArg (wSs b _ s) ?_)
  simp only [Post.mk.injEq, and_true]
  funext σ s
  unfold onSlot
  cases σ[0]? with
  | none => rfl
  | some sl => cases sl <;> rfl
end HP

set_option maxHeartbeats 2000000
/-! HpData: the operations on values as equations. -/
namespace HP
open PySem PySem.W

theorem view_int (s : Store) (i : Int) : view s (.int i) = .int i := rfl
theorem view_bl (s : Store) (i : Bool) : view s (.bl i) = .bl i := rfl
theorem view_str (s : Store) (i : Str) : view s (.str i) = .str i := rfl
theorem view_non (s : Store) : view s .non = .non := rfl
theorem view_tup (s : Store) (i : List D) : view s (.tup i) = .tup i := rfl
theorem view_lst (s : Store) (i : List D) : view s (.lst i) = .lst i := rfl
theorem view_scr (s : Store) (i : List D) : view s (.scr i) = .scr i := rfl
theorem view_dct (s : Store) (i j : List D) : view s (.dct i j) = .dct i j := rfl
theorem view_ins (s : Store) (c : Str) (i : List Str) (j : List D) : view s (.ins c i j) = .ins c i j := rfl
theorem view_r0 (c : Cont) (s : Store) : view (c :: s) (.ref 0) = c.frz := rfl
theorem view_r1 (c d : Cont) (s : Store) : view (c :: d :: s) (.ref 1) = d.frz := rfl
theorem vres_s (σ : Slots) (s : Store) (i : Nat) : vres σ s (.slot i) = (σ[i]?.getD .unb).look s := rfl
theorem look_own (s : Store) (c : Cont) : Slot.look s (.own c) = some c.frz := rfl
theorem look_val (s : Store) (d : D) : Slot.look s (.val d) = some (view s d) := rfl

/-! ### texts -/
theorem toNat_inj : ∀ {a b : List Char}, a.map Char.toNat = b.map Char.toNat → a = b
  | [], [], _ => rfl
  | [], _ :: _, h => by simp at h
  | _ :: _, [], h => by simp at h
  | x :: xs, y :: ys, h => by
    simp only [List.map_cons, List.cons.injEq] at h
    have e : x = y := by
      apply Char.ext
      apply UInt32.toNat_inj.mp
      exact h.1
    rw [e, toNat_inj h.2]
theorem ofString_inj (a b : String) : (Str.ofString a = Str.ofString b) = (a = b) := by
  refine propext ⟨fun h => ?_, fun h => by rw [h]⟩
  rw [Str.ofString_eq_toList, Str.ofString_eq_toList] at h
  simp only [Str.mk.injEq] at h
  have h2 := congrArg Array.toList h
  simp only at h2
  exact String.toList_inj.mp (toNat_inj h2)

/-! ### how deep plain data are -/
def okAt (n : Nat) (d : D) : Bool := d.plain && decide (d.dep ≤ n)
def okAts (n : Nat) (ds : List D) : Bool := plains ds && decide (deps ds ≤ n)
theorem ok_60 (d : D) : d.ok = okAt 60 d := rfl
theorem okAt_int (n : Nat) (i : Int) : okAt n (.int i) = true := by simp [okAt, D.plain, D.dep]
theorem okAt_bl (n : Nat) (i : Bool) : okAt n (.bl i) = true := by simp [okAt, D.plain, D.dep]
theorem okAt_str (n : Nat) (i : Str) : okAt n (.str i) = true := by simp [okAt, D.plain, D.dep]
theorem okAt_non (n : Nat) : okAt n .non = true := by simp [okAt, D.plain, D.dep]
theorem okAt_tup (n : Nat) (ds : List D) : okAt (n + 1) (.tup ds) = okAts n ds := by
  simp only [okAt, okAts, D.plain, D.dep, Nat.add_le_add_iff_right]
theorem okAt_lst (n : Nat) (ds : List D) : okAt (n + 1) (.lst ds) = okAts n ds := by
  simp only [okAt, okAts, D.plain, D.dep, Nat.add_le_add_iff_right]
theorem okAts_nil (n : Nat) : okAts n [] = true := by simp [okAts, plains, deps]
theorem okAts_cons (n : Nat) (d : D) (ds : List D) : okAts n (d :: ds) = (okAt n d && okAts n ds) := by
  simp only [okAts, okAt, plains, deps, Nat.max_le, Bool.decide_and]
  cases d.plain <;> cases plains ds <;> simp
theorem okAts_all {n : Nat} : ∀ {ds : List D}, (∀ d ∈ ds, okAt n d = true) → okAts n ds = true
  | [], _ => okAts_nil n
  | d :: ds, h => by rw [okAts_cons, h d (List.mem_cons_self ..), okAts_all fun d hd => h d (List.mem_cons_of_mem _ hd)]; rfl
theorem okAts_mapI (n : Nat) (l : List Int) : okAts n (l.map D.int) = true := okAts_all fun d h => by
  obtain ⟨x, _, rfl⟩ := List.mem_map.mp h; exact okAt_int n x
theorem okAts_mapS (n : Nat) (l : List Str) : okAts n (l.map D.str) = true := okAts_all fun d h => by
  obtain ⟨x, _, rfl⟩ := List.mem_map.mp h; exact okAt_str n x
theorem okAts_mapB (n : Nat) (l : List Bool) : okAts n (l.map D.bl) = true := okAts_all fun d h => by
  obtain ⟨x, _, rfl⟩ := List.mem_map.mp h; exact okAt_bl n x
/-! ### == -/
def eqDs (a b : List D) : Bool := PyData.eqvAll (pys a) (pys b)
theorem eqD_int (i j : Int) : eqD (.int i) (.int j) = decide (i = j) := by 
  simp only [eqD, D.py, PyData.eqv]
  rw [Bool.eq_iff_iff]; simp
theorem eqD_str (i j : Str) : eqD (.str i) (.str j) = decide (i = j) := by
  simp only [eqD, D.py, PyData.eqv]
  rw [Bool.eq_iff_iff]; simp
theorem eqD_bl (i j : Bool) : eqD (.bl i) (.bl j) = (i == j) := by simp only [eqD, D.py, PyData.eqv]
theorem eqD_tup (a b : List D) : eqD (.tup a) (.tup b) = eqDs a b := by simp only [eqD, D.py, PyData.eqv, eqDs]
theorem eqD_lst (a b : List D) : eqD (.lst a) (.lst b) = eqDs a b := by simp only [eqD, D.py, PyData.eqv, eqDs]
theorem eqD_nn : eqD .non .non = true := by simp only [eqD, D.py, PyData.eqv]
theorem eqD_nt (a : List D) : eqD .non (.tup a) = false := by simp only [eqD, D.py, PyData.eqv]
theorem eqD_tn (a : List D) : eqD (.tup a) .non = false := by simp only [eqD, D.py, PyData.eqv]
theorem eqD_si (x : Str) (i : Int) : eqD (.str x) (.int i) = false := by simp only [eqD, D.py, PyData.eqv]
theorem eqD_is (x : Str) (i : Int) : eqD (.int i) (.str x) = false := by simp only [eqD, D.py, PyData.eqv]
theorem eqD_st (x : Str) (a : List D) : eqD (.str x) (.tup a) = false := by simp only [eqD, D.py, PyData.eqv]
theorem eqD_ts (x : Str) (a : List D) : eqD (.tup a) (.str x) = false := by simp only [eqD, D.py, PyData.eqv]
theorem eqD_ti (i : Int) (a : List D) : eqD (.tup a) (.int i) = false := by simp only [eqD, D.py, PyData.eqv]
theorem eqD_it (i : Int) (a : List D) : eqD (.int i) (.tup a) = false := by simp only [eqD, D.py, PyData.eqv]
theorem eqD_tl (b a : List D) : eqD (.tup a) (.lst b) = false := by simp only [eqD, D.py, PyData.eqv]
theorem eqD_lt (b a : List D) : eqD (.lst a) (.tup b) = false := by simp only [eqD, D.py, PyData.eqv]
theorem eqDs_nil : eqDs [] [] = true := by simp only [eqDs, pys, PyData.eqvAll]
theorem eqDs_cons (x y : D) (xs ys : List D) : eqDs (x :: xs) (y :: ys) = (eqD x y && eqDs xs ys) := by simp only [eqDs, pys, PyData.eqvAll, eqD]
theorem eqDs_nc (y : D) (ys : List D) : eqDs [] (y :: ys) = false := by simp only [eqDs, pys, PyData.eqvAll]
theorem eqDs_cn (y : D) (ys : List D) : eqDs (y :: ys) [] = false := by simp only [eqDs, pys, PyData.eqvAll]
theorem eqDs_mapd {α : Type} [DecidableEq α] {f : α → D} (h : ∀ x y, eqD (f x) (f y) = decide (x = y)) : ∀ (xs ys : List α), eqDs (xs.map f) (ys.map f) = decide (xs = ys)
  | [], [] => by rw [List.map_nil, eqDs_nil]; simp
  | [], y :: ys => by rw [List.map_nil, List.map_cons, eqDs_nc]; simp
  | x :: xs, [] => by rw [List.map_nil, List.map_cons, eqDs_cn]; simp
  | x :: xs, y :: ys => by
    rw [List.map_cons, List.map_cons, eqDs_cons, h, eqDs_mapd h xs ys]
    rw [Bool.eq_iff_iff]; simp
theorem eqDs_strs (xs ys : List Str) : eqDs (xs.map D.str) (ys.map D.str) = decide (xs = ys) := eqDs_mapd eqD_str xs ys
theorem eqDs_ints (xs ys : List Int) : eqDs (xs.map D.int) (ys.map D.int) = decide (xs = ys) := eqDs_mapd eqD_int xs ys
theorem any_strs (z : Str) (xs : List Str) : ((xs.map D.str).any fun y => eqD y (.str z)) = xs.contains z := by
  induction xs with
  | nil => rfl
  | cons x xs ih =>
    rw [List.map_cons, List.any_cons, ih, eqD_str, List.contains_cons]
    refine congrArg (· || xs.contains z) ?_
    rw [Bool.eq_iff_iff]
    simp only [decide_eq_true_eq, beq_iff_eq]
    exact ⟨Eq.symm, Eq.symm⟩
theorem any_map {α : Type} [DecidableEq α] {f : α → D} (h : ∀ x y, eqD (f x) (f y) = decide (x = y)) (z : α) (xs : List α) : ((xs.map f).any fun y => eqD y (f z)) = decide (z ∈ xs) := by
  induction xs with
  | nil => simp
  | cons x xs ih =>
    rw [List.map_cons, List.any_cons, ih, h, Bool.eq_iff_iff]
    simp only [Bool.or_eq_true, decide_eq_true_eq, List.mem_cons]
    exact ⟨fun q => q.imp Eq.symm id, fun q => q.imp Eq.symm id⟩

/-! ### subscripts -/
theorem atI_nat {α : Type} (xs : List α) (i : Nat) : L2.atI xs (i : Int) = xs[i]? := by
  unfold L2.atI L2.ixN
  by_cases h : i < xs.length
  · rw [if_pos (by omega), if_pos (by omega)]; simp
  · rw [if_pos (by omega), if_neg (by omega), List.getElem?_eq_none (by omega)]; rfl
theorem atI_0 {α : Type} (x : α) (xs : List α) : L2.atI (x :: xs) 0 = some x := atI_nat _ 0
theorem atI_1 {α : Type} (x y : α) (xs : List α) : L2.atI (x :: y :: xs) 1 = some y := atI_nat _ 1
theorem atI_2 {α : Type} (x y z : α) (xs : List α) : L2.atI (x :: y :: z :: xs) 2 = some z := atI_nat _ 2
theorem atI_3 {α : Type} (x y z u : α) (xs : List α) : L2.atI (x :: y :: z :: u :: xs) 3 = some u := atI_nat _ 3
theorem atI_4 {α : Type} (x y z u v : α) (xs : List α) : L2.atI (x :: y :: z :: u :: v :: xs) 4 = some v := atI_nat _ 4
theorem ix_tup (xs : List D) (i : Int) : ixSem (.tup xs) (.int i) = L2.atI xs i := rfl
theorem ix_lst (xs : List D) (i : Int) : ixSem (.lst xs) (.int i) = L2.atI xs i := rfl
theorem ix_dctS (ks vs : List D) (k : Str) : ixSem (.dct ks vs) (.str k) = getD ks vs (.str k) := by simp [ixSem, keyFits, keyOk, isTup]
theorem getD_cons (x k : D) (ks vs : List D) (v : D) : getD (x :: ks) (v :: vs) k = if eqD x k then some v else getD ks vs k := by
  unfold getD keyAt
  rw [List.findIdx?_cons]
  cases h : eqD x k with
  | true => simp
  | false =>
    simp
    cases h2 : ks.findIdx? (fun x => eqD x k) <;> simp
theorem keyFits_str (ks : List D) (x : Str) : keyFits ks (.str x) = true := rfl
theorem keyFits_int (ks : List D) (x : Int) : keyFits ks (.int x) = true := rfl
theorem putD_nil (k v : D) : putD [] [] k v = ([k], [v]) := rfl
theorem putD_cons (x k y v : D) (ks vs : List D) : putD (x :: ks) (y :: vs) k v = if eqD x k then (x :: ks, v :: vs) else (x :: (putD ks vs k v).1, y :: (putD ks vs k v).2) := by
  unfold putD keyAt
  rw [List.findIdx?_cons]
  cases h : eqD x k with
  | true => simp
  | false =>
    simp
    cases h2 : ks.findIdx? (fun x => eqD x k) <;> simp
theorem isSome_keyAt (x k : D) (ks : List D) : (keyAt (x :: ks) k).isSome = (eqD x k || (keyAt ks k).isSome) := by
  unfold keyAt
  rw [List.findIdx?_cons]
  cases h : eqD x k with
  | true => simp
  | false => simp
theorem isSome_keyAt0 (k : D) : (keyAt [] k).isSome = false := rfl

/-! ### comparisons -/
theorem cmp_eq (a b : D) : cmpSem .eq a b = if a.ok && b.ok then some (eqD a b) else eqNil a b := rfl
theorem cmp_ne (a b : D) : cmpSem .ne a b = if a.ok && b.ok then some (!eqD a b) else (eqNil a b).map (!·) := by
  simp only [cmpSem, eqSem]
  split <;> rfl
theorem cmp_in_tup (x : D) (ys : List D) : cmpSem .in_ x (.tup ys) = if x.ok && okAts 60 ys then some (ys.any fun y => eqD y x) else none := by
  cases h : (x.ok && (plains ys && decide (deps ys ≤ 60))) <;> simp [cmpSem, isIn, okAts, Bool.and_assoc, h]
theorem cmp_in_lst (x : D) (ys : List D) : cmpSem .in_ x (.lst ys) = if x.ok && okAts 60 ys then some (ys.any fun y => eqD y x) else none := by
  cases h : (x.ok && (plains ys && decide (deps ys ≤ 60))) <;> simp [cmpSem, isIn, okAts, Bool.and_assoc, h]
theorem cmp_nin_tup (x : D) (ys : List D) : cmpSem .nin x (.tup ys) = if x.ok && okAts 60 ys then some (!ys.any fun y => eqD y x) else none := by
  cases h : (x.ok && (plains ys && decide (deps ys ≤ 60))) <;> simp [cmpSem, isIn, okAts, Bool.and_assoc, h]
theorem cmp_nin_lst (x : D) (ys : List D) : cmpSem .nin x (.lst ys) = if x.ok && okAts 60 ys then some (!ys.any fun y => eqD y x) else none := by
  cases h : (x.ok && (plains ys && decide (deps ys ≤ 60))) <;> simp [cmpSem, isIn, okAts, Bool.and_assoc, h]
theorem cmp_in_dct (ks vs : List D) (x : Str) : cmpSem .in_ (.str x) (.dct ks vs) = some (keyAt ks (.str x)).isSome := rfl
theorem cmp_nin_dct (ks vs : List D) (x : Str) : cmpSem .nin (.str x) (.dct ks vs) = some (!(keyAt ks (.str x)).isSome) := rfl
theorem cmp_lt_int (i j : Int) : cmpSem .lt (.int i) (.int j) = some (decide (i < j)) := rfl
theorem cmp_gt_int (i j : Int) : cmpSem .gt (.int i) (.int j) = some (decide (j < i)) := rfl
theorem cmp_le_int (i j : Int) : cmpSem .le (.int i) (.int j) = some (decide (i ≤ j)) := rfl
theorem cmp_ge_int (i j : Int) : cmpSem .ge (.int i) (.int j) = some (decide (j ≤ i)) := rfl
theorem cmp_is_non (x : D) : cmpSem .is x .non = some (!notNon x) := by cases x <;> rfl
theorem cmp_isn_non (x : D) : cmpSem .isn x .non = some (notNon x) := by cases x <;> rfl
theorem cmp_is_bl (x y : Bool) : cmpSem .is (.bl x) (.bl y) = some (x == y) := rfl
theorem cmp_isn_bl (x y : Bool) : cmpSem .isn (.bl x) (.bl y) = some (!(x == y)) := rfl
/-! ### arithmetic -/
theorem add_int (i j : Int) : binSem .add (.int i) (.int j) = some (.val (.int (i + j))) := rfl
theorem sub_int (i j : Int) : binSem .sub (.int i) (.int j) = some (.val (.int (i - j))) := rfl
theorem add_tup (i j : List D) : binSem .add (.tup i) (.tup j) = if i.length + j.length ≤ big then some (.val (.tup (i ++ j))) else none := rfl
theorem add_lst (i j : List D) : binSem .add (.lst i) (.lst j) = if i.length + j.length ≤ big then some (.own (.lst (i ++ j))) else none := rfl
theorem add_str (i j : Str) : binSem .add (.str i) (.str j) = if i.length + j.length ≤ big then some (.val (.str (i ++ j))) else none := rfl
theorem mul_int (i j : Int) : binSem .mul (.int i) (.int j) = if i.natAbs < 18446744073709551616 || j.natAbs < 18446744073709551616 || i.natAbs.log2 + j.natAbs.log2 < 1000000 then some (.val (.int (i * j))) else none := rfl
theorem mod_int (i j : Int) : binSem .mod (.int i) (.int j) = if 0 < j then some (.val (.int (i % j))) else none := rfl
theorem fdiv_int {i j : Int} (h0 : 0 < j) (h1 : j < 18446744073709551616) : binSem .fdiv (.int i) (.int j) = some (.val (.int (i / j))) := by
  have h : j.natAbs.log2 < 64 := (Nat.log2_lt (by omega)).mpr (by omega)
  simp only [binSem]
  rw [if_pos]
  simp only [Bool.and_eq_true, decide_eq_true_eq]
  exact ⟨h0, by omega⟩
theorem pow_int (i j : Int) : binSem .pow (.int i) (.int j) = if 0 ≤ j && j ≤ 1000000 && i.natAbs < 18446744073709551616 then some (.val (.int (i ^ j.toNat))) else none := rfl
/-! ### builtins -/
theorem len_tup (xs : List D) : biSem .len [.tup xs] = some (.val (.int xs.length)) := rfl
theorem len_lst (xs : List D) : biSem .len [.lst xs] = some (.val (.int xs.length)) := rfl
theorem len_scr (xs : List D) : biSem .len [.scr xs] = some (.val (.int xs.length)) := rfl
theorem abs_int (i : Int) : biSem .abs [.int i] = some (.val (.int (if i < 0 then -i else i))) := rfl
theorem int_int (i : Int) : biSem .int [.int i] = some (.val (.int i)) := rfl
theorem int_bl (i : Bool) : biSem .int [.bl i] = some (.val (.int (if i then 1 else 0))) := rfl
theorem max_int (i j : Int) : biSem .max [.int i, .int j] = some (.val (.int (if j > i then j else i))) := rfl
theorem min_int (i j : Int) : biSem .min [.int i, .int j] = some (.val (.int (if j < i then j else i))) := rfl
theorem list_tup (xs : List D) : biSem .list [.tup xs] = some (.own (.lst xs)) := rfl
theorem list_lst (xs : List D) : biSem .list [.lst xs] = some (.own (.lst xs)) := rfl
theorem tuple_tup (xs : List D) : biSem .tuple [.tup xs] = some (.val (.tup xs)) := rfl
theorem tuple_lst (xs : List D) : biSem .tuple [.lst xs] = some (.val (.tup xs)) := rfl
theorem allBl_map : ∀ bs : List Bool, allBl (bs.map D.bl) = some bs
  | [] => rfl
  | b :: bs => by rw [List.map_cons, allBl, allBl_map bs]; rfl
theorem allStr_map : ∀ bs : List Str, allStr (bs.map D.str) = some bs
  | [] => rfl
  | b :: bs => by rw [List.map_cons, allStr, allStr_map bs]; rfl
theorem all_bls (bs : List Bool) : biSem .all [.lst (bs.map D.bl)] = some (.val (.bl (bs.all id))) := by simp [biSem, allBl_map]
theorem any_bls (bs : List Bool) : biSem .any [.lst (bs.map D.bl)] = some (.val (.bl (bs.any id))) := by simp [biSem, allBl_map]
theorem all_mapP {α : Type} (p : α → Bool) (l : List α) : biSem .all [.lst (l.map fun x => .bl (p x))] = some (.val (.bl (l.all p))) := by
  have e : (l.map fun x => D.bl (p x)) = (l.map p).map D.bl := by rw [List.map_map]; rfl
  rw [e, all_bls, List.all_map]; rfl
theorem any_mapP {α : Type} (p : α → Bool) (l : List α) : biSem .any [.lst (l.map fun x => .bl (p x))] = some (.val (.bl (l.any p))) := by
  have e : (l.map fun x => D.bl (p x)) = (l.map p).map D.bl := by rw [List.map_map]; rfl
  rw [e, any_bls, List.any_map]; rfl
theorem lenset_strs (ss : List Str) : biSem .lenset [.tup (ss.map D.str)] = if ss.length < 4000 then some (.val (.int ((nubS [] ss).length : Nat))) else none := by simp [biSem, allStr_map]
theorem lenset_strsL (ss : List Str) : biSem .lenset [.lst (ss.map D.str)] = if ss.length < 4000 then some (.val (.int ((nubS [] ss).length : Nat))) else none := by simp [biSem, allStr_map]
/-! ### by the front alone -/
theorem fld_ins (c n c' : Str) (ns : List Str) (vs : List D) : fldSem c n (.ins c' ns vs) = if c' = c then lookF ns vs n else none := rfl
theorem isi_non (l : List Str) (cs : List Cl)  : isiSem l cs (.non ) = some (cs.any fun c => isCl c (.non )) := rfl
theorem cl_int_non  : isCl .int (.non ) = false := rfl
theorem cl_bool_non  : isCl .bool (.non ) = false := rfl
theorem cl_str_non  : isCl .str (.non ) = false := rfl
theorem cl_tuple_non  : isCl .tuple (.non ) = false := rfl
theorem cl_list_non  : isCl .list (.non ) = false := rfl
theorem cl_dict_non  : isCl .dict (.non ) = false := rfl
theorem cl_own_non (z : Str)  : isCl (.own z) (.non ) = false := rfl
theorem notNon_non  : notNon (.non ) = false := rfl
theorem isi_bl (l : List Str) (cs : List Cl) (b : Bool) : isiSem l cs (.bl b) = some (cs.any fun c => isCl c (.bl b)) := rfl
theorem cl_int_bl (b : Bool) : isCl .int (.bl b) = true := rfl
theorem cl_bool_bl (b : Bool) : isCl .bool (.bl b) = true := rfl
theorem cl_str_bl (b : Bool) : isCl .str (.bl b) = false := rfl
theorem cl_tuple_bl (b : Bool) : isCl .tuple (.bl b) = false := rfl
theorem cl_list_bl (b : Bool) : isCl .list (.bl b) = false := rfl
theorem cl_dict_bl (b : Bool) : isCl .dict (.bl b) = false := rfl
theorem cl_own_bl (z : Str) (b : Bool) : isCl (.own z) (.bl b) = false := rfl
theorem notNon_bl (b : Bool) : notNon (.bl b) = true := rfl
theorem isi_int (l : List Str) (cs : List Cl) (i : Int) : isiSem l cs (.int i) = some (cs.any fun c => isCl c (.int i)) := rfl
theorem cl_int_int (i : Int) : isCl .int (.int i) = true := rfl
theorem cl_bool_int (i : Int) : isCl .bool (.int i) = false := rfl
theorem cl_str_int (i : Int) : isCl .str (.int i) = false := rfl
theorem cl_tuple_int (i : Int) : isCl .tuple (.int i) = false := rfl
theorem cl_list_int (i : Int) : isCl .list (.int i) = false := rfl
theorem cl_dict_int (i : Int) : isCl .dict (.int i) = false := rfl
theorem cl_own_int (z : Str) (i : Int) : isCl (.own z) (.int i) = false := rfl
theorem notNon_int (i : Int) : notNon (.int i) = true := rfl
theorem isi_str (l : List Str) (cs : List Cl) (x : Str) : isiSem l cs (.str x) = some (cs.any fun c => isCl c (.str x)) := rfl
theorem cl_int_str (x : Str) : isCl .int (.str x) = false := rfl
theorem cl_bool_str (x : Str) : isCl .bool (.str x) = false := rfl
theorem cl_str_str (x : Str) : isCl .str (.str x) = true := rfl
theorem cl_tuple_str (x : Str) : isCl .tuple (.str x) = false := rfl
theorem cl_list_str (x : Str) : isCl .list (.str x) = false := rfl
theorem cl_dict_str (x : Str) : isCl .dict (.str x) = false := rfl
theorem cl_own_str (z : Str) (x : Str) : isCl (.own z) (.str x) = false := rfl
theorem notNon_str (x : Str) : notNon (.str x) = true := rfl
theorem isi_tup (l : List Str) (cs : List Cl) (xs : List D) : isiSem l cs (.tup xs) = some (cs.any fun c => isCl c (.tup xs)) := rfl
theorem cl_int_tup (xs : List D) : isCl .int (.tup xs) = false := rfl
theorem cl_bool_tup (xs : List D) : isCl .bool (.tup xs) = false := rfl
theorem cl_str_tup (xs : List D) : isCl .str (.tup xs) = false := rfl
theorem cl_tuple_tup (xs : List D) : isCl .tuple (.tup xs) = true := rfl
theorem cl_list_tup (xs : List D) : isCl .list (.tup xs) = false := rfl
theorem cl_dict_tup (xs : List D) : isCl .dict (.tup xs) = false := rfl
theorem cl_own_tup (z : Str) (xs : List D) : isCl (.own z) (.tup xs) = false := rfl
theorem notNon_tup (xs : List D) : notNon (.tup xs) = true := rfl
theorem isi_lst (l : List Str) (cs : List Cl) (xs : List D) : isiSem l cs (.lst xs) = some (cs.any fun c => isCl c (.lst xs)) := rfl
theorem cl_int_lst (xs : List D) : isCl .int (.lst xs) = false := rfl
theorem cl_bool_lst (xs : List D) : isCl .bool (.lst xs) = false := rfl
theorem cl_str_lst (xs : List D) : isCl .str (.lst xs) = false := rfl
theorem cl_tuple_lst (xs : List D) : isCl .tuple (.lst xs) = false := rfl
theorem cl_list_lst (xs : List D) : isCl .list (.lst xs) = true := rfl
theorem cl_dict_lst (xs : List D) : isCl .dict (.lst xs) = false := rfl
theorem cl_own_lst (z : Str) (xs : List D) : isCl (.own z) (.lst xs) = false := rfl
theorem notNon_lst (xs : List D) : notNon (.lst xs) = true := rfl
theorem isi_dct (l : List Str) (cs : List Cl) (ks vs : List D) : isiSem l cs (.dct ks vs) = some (cs.any fun c => isCl c (.dct ks vs)) := rfl
theorem cl_int_dct (ks vs : List D) : isCl .int (.dct ks vs) = false := rfl
theorem cl_bool_dct (ks vs : List D) : isCl .bool (.dct ks vs) = false := rfl
theorem cl_str_dct (ks vs : List D) : isCl .str (.dct ks vs) = false := rfl
theorem cl_tuple_dct (ks vs : List D) : isCl .tuple (.dct ks vs) = false := rfl
theorem cl_list_dct (ks vs : List D) : isCl .list (.dct ks vs) = false := rfl
theorem cl_dict_dct (ks vs : List D) : isCl .dict (.dct ks vs) = true := rfl
theorem cl_own_dct (z : Str) (ks vs : List D) : isCl (.own z) (.dct ks vs) = false := rfl
theorem notNon_dct (ks vs : List D) : notNon (.dct ks vs) = true := rfl
theorem isi_ins (l : List Str) (cs : List Cl) (c : Str) (ns : List Str) (vs : List D) : isiSem l cs (.ins c ns vs) = if l.contains c then some (cs.any fun k => isCl k (.ins c ns vs)) else none := rfl
theorem cl_own_ins (z c : Str) (ns : List Str) (vs : List D) : isCl (.own z) (.ins c ns vs) = decide (c = z) := rfl
theorem notNon_ins (c : Str) (ns : List Str) (vs : List D) : notNon (.ins c ns vs) = true := rfl
theorem truth_non : truth .non = some false := rfl
theorem truth_bl (b : Bool) : truth (.bl b) = some b := rfl
theorem truth_int (i : Int) : truth (.int i) = some (decide (i ≠ 0)) := rfl
theorem truth_tup (xs : List D) : truth (.tup xs) = some !xs.isEmpty := rfl
theorem truth_lst (xs : List D) : truth (.lst xs) = some !xs.isEmpty := rfl
theorem walk_tup (xs : List D) : walkOf (.tup xs) = some xs := rfl
theorem walk_lst (xs : List D) : walkOf (.lst xs) = some xs := rfl
theorem walk_scr (xs : List D) : walkOf (.scr xs) = some xs := rfl
theorem walk_str (x : Str) : walkOf (.str x) = some (x.cps.toList.map fun c => .str ⟨#[c]⟩) := rfl
theorem seq_tup (xs : List D) : seqOf (.tup xs) = some xs := rfl
theorem seq_lst (xs : List D) : seqOf (.lst xs) = some xs := rfl
theorem frz_lst (xs : List D) : Cont.frz (.lst xs) = .lst xs := rfl
theorem frz_dct (ks vs : List D) : Cont.frz (.dct ks vs) = .dct ks vs := rfl
theorem frz_ins (c : Str) (ns : List Str) (vs : List D) : Cont.frz (.ins c ns vs) = .ins c ns vs := rfl
theorem ofrz_v (d : D) : Out.frz (.val d) = d := rfl
theorem ofrz_o (c : Cont) : Out.frz (.own c) = c.frz := rfl
theorem oslot_v (d : D) : Out.slot (.val d) = .val d := rfl
theorem oslot_o (c : Cont) : Out.slot (.own c) = .own c := rfl
theorem keep_v (d : D) : Slot.keep (some (.val d)) = .val d := rfl
theorem keep_o (c : Cont) : Slot.keep (some (.own c)) = .unb := rfl
theorem keep_u : Slot.keep (some .unb) = .unb := rfl
theorem setsS_nil (σ : Slots) : setsS σ [] [] = σ := rfl
theorem setsS_cons (σ : Slots) (i : Nat) (is : List Nat) (o : Out) (os : List Out) : setsS σ (i :: is) (o :: os) = setsS (σ.set i o.slot) is os := rfl
theorem isLst_l (xs : List D) : isLst (.lst xs) = true := rfl
theorem isIns_i (c c' : Str) (ns : List Str) (vs : List D) : isIns c (.ins c' ns vs) = decide (c' = c) := rfl
theorem noField_i (m c : Str) (ns : List Str) (vs : List D) : noField m (.ins c ns vs) = !ns.contains m := rfl
theorem mm_app (xs : List D) (x : D) : mmSem .append (.lst xs) [x] = if xs.length < big then some (.lst (xs ++ [x]), .non) else none := rfl
theorem mm_popF (x : D) (xs : List D) : mmSem .pop (.lst (x :: xs)) [.int 0] = some (.lst xs, x) := by
  simp only [mmSem, L2.ixN, List.length_cons]
  rw [if_pos (by omega), if_pos (by omega)]
  rfl
theorem set_lst (xs : List D) (i : Int) (v : D) : setSem (.lst xs) (.int i) v = (L2.ixN xs.length i).map fun j => .lst (xs.set j v) := rfl
theorem set_dct (ks vs : List D) (k v : D) : setSem (.dct ks vs) k v = if keyFits ks k && decide (ks.length < 1000000) then some (.dct (putD ks vs k v).1 (putD ks vs k v).2) else none := rfl
theorem sf_ins (cn n : Str) (y : D) (c : Str) (ns : List Str) (vs : List D) : sfSem cn n y (.ins c ns vs) = if c = cn && decide (ns.length < 100) then some (.ins c (putF ns vs n y).1 (putF ns vs n y).2, .non) else none := rfl
theorem sl_tup (xs : List D) (l h : Option Int) : slSem (.tup xs) l h = some (.val (.tup (cutD xs l h))) := rfl
theorem sl_lst (xs : List D) (l h : Option Int) : slSem (.lst xs) l h = some (.own (.lst (cutD xs l h))) := rfl
theorem ress_nil (σ : Slots) (s : Store) : ress σ s [] = some [] := rfl
theorem ress_cons (σ : Slots) (s : Store) (o : Opd) (os : List Opd) : ress σ s (o :: os) = match vres σ s o, ress σ s os with | some d, some ds => some (d :: ds) | _, _ => none := rfl
/-! ### exceptions, lambdas -/
theorem view_exc (s : Store) (c : Str) (vs : List D) : view s (.exc c vs) = .exc c vs := rfl
theorem view_lam (s : Store) (a : Addr) : view s (.lam a) = .lam a := rfl
theorem view_clo (s : Store) (L : List (Str × Addr)) (j : Nat) (y : LamSyn) : view s (.clo L j y) = .clo L j y := rfl
theorem notNon_exc (c : Str) (vs : List D) : notNon (.exc c vs) = true := rfl
theorem isx_non (l : List Str) (t : Str) : isxSem l t .non = some false := rfl
theorem isx_bl (l : List Str) (t : Str) (b : Bool) : isxSem l t (.bl b) = some false := rfl
theorem isx_int (l : List Str) (t : Str) (i : Int) : isxSem l t (.int i) = some false := rfl
theorem isx_str (l : List Str) (t : Str) (x : Str) : isxSem l t (.str x) = some false := rfl
theorem isx_tup (l : List Str) (t : Str) (xs : List D) : isxSem l t (.tup xs) = some false := rfl
theorem isx_lst (l : List Str) (t : Str) (xs : List D) : isxSem l t (.lst xs) = some false := rfl
theorem isx_dct (l : List Str) (t : Str) (ks vs : List D) : isxSem l t (.dct ks vs) = some false := rfl
theorem isx_exc (l : List Str) (t c : Str) (vs : List D) : isxSem l t (.exc c vs) = if l.contains c = true then some (isSub c t) else none := rfl
theorem xfld_exc (l : List Str) (n c : Str) (v : D) : xfldSem l n (.exc c [v]) = if (l.contains c && decide (excFld c = some n)) = true then some v else none := rfl
theorem str_beq (a b : String) : ((Str.ofString a : Str) == Str.ofString b) = decide (a = b) := by
  rw [Bool.eq_iff_iff, beq_iff_eq, decide_eq_true_eq, ofString_inj]
theorem isSub_s (a b : String) : isSub (Str.ofString a) (Str.ofString b) = (decide (a = b) || decide (b = "PlaceError") || decide (b = "ValueError")) := by
  unfold isSub
  rw [decide_eq_decide.mpr (Iff.of_eq (ofString_inj a b)), decide_eq_decide.mpr (Iff.of_eq (ofString_inj b "PlaceError")), decide_eq_decide.mpr (Iff.of_eq (ofString_inj b "ValueError"))]
theorem excFld_BadRule : excFld "BadRule" = some "part" := by decide +kernel
theorem excFld_BadHouse : excFld "BadHouse" = some "part" := by decide +kernel
theorem excFld_BadRow : excFld "BadRow" = some "at" := by decide +kernel
theorem excFld_BadRecords : excFld "BadRecords" = some "at" := by decide +kernel
theorem excFld_BadWish : excFld "BadWish" = some "at" := by decide +kernel
theorem excFld_BadJournal : excFld "BadJournal" = some "at" := by decide +kernel
theorem excFld_NoDevice : excFld "NoDevice" = some "name" := by decide +kernel
theorem excFld_BadText : excFld "BadText" = some "line" := by decide +kernel
theorem some_inj (α : Type) (a b : α) : (some a = some b) = (a = b) := by simp
theorem hideS_nil (ks : List Nat) (i : Nat) : hideS ks i [] = [] := rfl
theorem hideS_cons (ks : List Nat) (i : Nat) (sl : Slot) (r : Slots) : hideS ks i (sl :: r) = (if ks.contains i = true then sl.froze else .unb) :: hideS ks (i + 1) r := rfl
theorem frzS_nil (ks : List Nat) (i : Nat) : frzS ks i [] = [] := rfl
theorem frzS_cons (ks : List Nat) (i : Nat) (sl : Slot) (r : Slots) : frzS ks i (sl :: r) = (if ks.contains i = true then sl.froze else sl) :: frzS ks (i + 1) r := rfl
theorem froze_v (d : D) : Slot.froze (.val d) = .val d := rfl
theorem froze_o (c : Cont) : Slot.froze (.own c) = .val c.frz := rfl
theorem froze_u : Slot.froze .unb = .unb := rfl
theorem toList_n : (none : Option D).toList = [] := rfl
theorem toList_s (d : D) : (some d).toList = [d] := rfl
end HP

set_option maxHeartbeats 2000000
/-! HpLoop: comprehensions and loops over lists of any length. -/
namespace HP
open PySem
section
variable {α : Type} {f g : α → D} {p : α → Bool} {v : Nat} {e : E} {ifs : Es} {σ : Slots} {s : Store}
/-- [g x for x in l if p x] -/
theorem lc_loopF {K2 : List D → Store → Slots → Prop} (hF : ∀ x (K : QB), xF ifs (σ.set v (.val (f x))) s K = K (p x) (σ.set v (.val (f x))) s) (hE : ∀ x (K : QO), p x = true → xE e (σ.set v (.val (f x))) s K noX = K (.val (g x)) (σ.set v (.val (f x))) s) (σ0 : Slots)
    {h : Hd fun acc σ2 s => goH (backS σ0 σ2 [v]) fun τ => K2 acc s τ} : ∀ (l : List α) (acc : List D) (τ : Slots) (ht : τ.set v .unb = σ.set v .unb), acc.length + l.length ≤ big →
    lcH [v] e (.name v) ifs (l.map f) acc τ s (fun acc σ2 s => goH (backS σ0 σ2 [v]) fun τ => K2 acc s τ) h = goH (σ.set v (Slot.keep σ0[v]?)) (K2 (acc ++ (l.filter p).map g) s)
  | [], acc, τ, ht, hb => by
    have e1 : ∀ y, τ.set v y = σ.set v y := fun y => by
      have := congrArg (fun z : Slots => z.set v y) ht
      simpa [List.set_set] using this
    simp only [List.map_nil, lcH, backS, goH, List.filter_nil, List.append_nil, e1]
  | x :: l, acc, τ, ht, hb => by
    have e1 : ∀ y, τ.set v y = σ.set v y := fun y => by
      have := congrArg (fun z : Slots => z.set v y) ht
      simpa [List.set_set] using this
    rw [List.map_cons, lcH_cons]
    change xG (.name v) (f x) (τ.set v .unb) s _ = _
    rw [xG_name]
    change xF ifs ((τ.set v .unb).set v (.val (f x))) s _ = _
    rw [List.set_set, e1, hF]
    cases hp : p x with
    | false =>
      rw [iteH_f, lc_loopF hF hE σ0 l acc _ (by rw [List.set_set]) (by simp only [List.length_cons] at hb; omega)]
      rw [List.filter_cons_of_neg (by simp [hp])]
    | true =>
      simp only [List.length_cons] at hb
      rw [iteH_t, hE x _ hp, decide_eq_true (by omega), iteH_t, lc_loopF hF hE σ0 l _ _ (by rw [List.set_set]) (by simp only [List.length_append, List.length_singleton]; omega)]
      rw [List.filter_cons_of_pos hp]
      have e2 : acc ++ [(Out.val (g x)).frz] ++ List.map g (List.filter p l) = acc ++ List.map g (x :: List.filter p l) := by simp [Out.frz]
      rw [e2]
theorem lc_fm {K2 : List D → Store → Slots → Prop} (p : α → Bool) (g : α → D) {l : List α} (hF : ∀ x (K : QB), xF ifs (σ.set v (.val (f x))) s K = K (p x) (σ.set v (.val (f x))) s) (hE : ∀ x (K : QO), p x = true → xE e (σ.set v (.val (f x))) s K noX = K (.val (g x)) (σ.set v (.val (f x))) s)
    {σ0 : Slots} {h : Hd fun acc σ2 s => goH (backS σ0 σ2 [v]) fun τ => K2 acc s τ} (hb : l.length ≤ big) :
    lcH [v] e (.name v) ifs (l.map f) [] σ s (fun acc σ2 s => goH (backS σ0 σ2 [v]) fun τ => K2 acc s τ) h = goH (σ.set v (Slot.keep σ0[v]?)) (K2 ((l.filter p).map g) s) :=
  lc_loopF hF hE σ0 l [] σ rfl (by simpa using hb)
/-- [g x for x in l] -/
theorem lc_map {K2 : List D → Store → Slots → Prop} (g : α → D) {l : List α} (hE : ∀ x (K : QO), xE e (σ.set v (.val (f x))) s K noX = K (.val (g x)) (σ.set v (.val (f x))) s)
    {σ0 : Slots} {h : Hd fun acc σ2 s => goH (backS σ0 σ2 [v]) fun τ => K2 acc s τ} (hb : l.length ≤ big) :
    lcH [v] e (.name v) .nil (l.map f) [] σ s (fun acc σ2 s => goH (backS σ0 σ2 [v]) fun τ => K2 acc s τ) h = goH (σ.set v (Slot.keep σ0[v]?)) (K2 (l.map g) s) := by
  rw [lc_fm (fun _ => true) g (fun x K => xF_nil) (fun x K _ => hE x K) hb]
  have e : l.filter (fun _ => true) = l := List.filter_eq_self.mpr fun _ _ => rfl
  rw [e]
end
end HP

set_option maxHeartbeats 2000000
/-! HpShow: repr of data of few items with small numbers. -/
namespace HP
open PySem

mutual
/-- small numbers and few items: at most n in all (texts: of few signs) -/
def rsz : D → Option Nat
  | .non => some 0
  | .bl _ => some 0
  | .int i => if -999999999999 ≤ i ∧ i ≤ 999999999999 then some 0 else none
  | .str x => if (x.cps.toList.all fun c => decide (c < 16 ^ 8)) = true then some x.cps.size else none
  | .tup xs => rszs xs
  | .lst xs => rszs xs
  | .dct ks vs => match rszs ks, rszs vs with
    | some a, some b => some (a + b)
    | _, _ => none
  | .ins _ _ _ => none
  | .ref _ => none
  | .exc _ _ => none
  | .scr _ => none
  | .tab ks vs => match rszs ks, rszs vs with
    | some a, some b => some (a + b)
    | _, _ => none
  | .lam _ => none
  | .clo _ _ _ => none
def rszs : List D → Option Nat
  | [] => some 0
  | x :: xs => match rsz x, rszs xs with
    | some a, some b => some (a + 1 + b)
    | _, _ => none
end
theorem rszs_cons {x : D} {xs : List D} {n : Nat} (h : rszs (x :: xs) = some n) : ∃ a b, rsz x = some a ∧ rszs xs = some b ∧ n = a + 1 + b := by
  simp only [rszs] at h
  cases h1 : rsz x with
  | none => rw [h1] at h; cases h
  | some a =>
    cases h2 : rszs xs with
    | none => rw [h1, h2] at h; cases h
    | some b =>
      rw [h1, h2] at h
      cases h
      exact ⟨a, b, rfl, rfl, rfl⟩
theorem zip_show : ∀ {ks vs : List PyData} {a b : Nat}, PyData.leavesShortAll 13 ks = true → PyData.leavesShortAll 13 vs = true → PyData.showableAll ks = true → PyData.showableAll vs = true → PyData.bulkAll ks ≤ a → PyData.bulkAll vs ≤ b →
    PyData.leavesShortKv 13 (ks.zip vs) = true ∧ PyData.bulkKv (ks.zip vs) ≤ a + b ∧ PyData.showableKv (ks.zip vs) = true
  | [], vs, a, b, _, _, _, _, _, _ => by simp [PyData.leavesShortKv, PyData.bulkKv, PyData.showableKv]
  | k :: ks, [], a, b, _, _, _, _, _, _ => by simp [PyData.leavesShortKv, PyData.bulkKv, PyData.showableKv]
  | k :: ks, v :: vs, a, b, h1, h2, h3, h4, h5, h6 => by
    simp only [PyData.leavesShortAll, PyData.showableAll, PyData.bulkAll, Bool.and_eq_true] at h1 h2 h3 h4 h5 h6
    obtain ⟨z1, z2, z3⟩ := zip_show (a := PyData.bulkAll ks) (b := PyData.bulkAll vs) h1.2 h2.2 h3.2 h4.2 (Nat.le_refl _) (Nat.le_refl _)
    simp only [List.zip_cons_cons, PyData.leavesShortKv, PyData.showableKv, PyData.bulkKv, h1.1, h2.1, h3.1, h4.1, z1, z3, Bool.and_self, true_and, and_true]
    omega
mutual
theorem rsz_ok : ∀ (d : D) (n : Nat), rsz d = some n → PyData.leavesShort 13 d.pyR = true ∧ d.pyR.bulk ≤ n ∧ d.pyR.showable = true
  | .non, n, h => by cases h; exact ⟨rfl, Nat.le_refl _, rfl⟩
  | .bl b, n, h => by cases h; exact ⟨rfl, Nat.le_refl _, rfl⟩
  | .int i, n, h => by
    simp only [rsz] at h
    split at h <;> cases h
    rename_i hz
    refine ⟨?_, Nat.le_refl _, ?_⟩
    · simp only [D.pyR, PyData.leavesShort, decide_eq_true_eq]
      exact PyData.shown_int_le2 hz.1 hz.2
    · simp only [D.pyR, PyData.showable, decide_eq_true_eq]
      by_cases h0 : i.natAbs = 0
      · rw [h0]; decide
      · exact Nat.lt_of_lt_of_le ((Nat.log2_lt h0).mpr (show i.natAbs < 2 ^ 40 by omega)) (by decide)
  | .str x, n, h => by
    simp only [rsz] at h
    split at h <;> cases h
    rename_i hz
    exact ⟨by simpa only [D.pyR, PyData.leavesShort] using hz, Nat.le_refl _, rfl⟩
  | .tup xs, n, h => by
    obtain ⟨h1, h2, h3⟩ := rszs_ok xs n (by simpa only [rsz] using h)
    exact ⟨by simpa only [D.pyR, PyData.leavesShort] using h1, by simpa only [D.pyR, PyData.bulk] using h2, by simpa only [D.pyR, PyData.showable] using h3⟩
  | .lst xs, n, h => by
    obtain ⟨h1, h2, h3⟩ := rszs_ok xs n (by simpa only [rsz] using h)
    exact ⟨by simpa only [D.pyR, PyData.leavesShort] using h1, by simpa only [D.pyR, PyData.bulk] using h2, by simpa only [D.pyR, PyData.showable] using h3⟩
  | .dct ks vs, n, h => by
    simp only [rsz] at h
    cases h1 : rszs ks with
    | none => rw [h1] at h; cases h
    | some a =>
      cases h2 : rszs vs with
      | none => rw [h1, h2] at h; cases h
      | some b =>
        rw [h1, h2] at h
        cases h
        obtain ⟨p1, p2, p3⟩ := rszs_ok ks a h1
        obtain ⟨q1, q2, q3⟩ := rszs_ok vs b h2
        obtain ⟨z1, z2, z3⟩ := zip_show p1 q1 p3 q3 p2 q2
        exact ⟨by simpa only [D.pyR, PyData.leavesShort] using z1, by simp only [D.pyR, PyData.bulk]; omega, by simpa only [D.pyR, PyData.showable] using z3⟩
  | .ins _ _ _, n, h => by cases h
  | .ref _, n, h => by cases h
  | .exc _ _, n, h => by cases h
  | .scr _, n, h => by cases h
  | .tab ks vs, n, h => by
    simp only [rsz] at h
    cases h1 : rszs ks with
    | none => rw [h1] at h; cases h
    | some a =>
      cases h2 : rszs vs with
      | none => rw [h1, h2] at h; cases h
      | some b =>
        rw [h1, h2] at h
        cases h
        obtain ⟨p1, p2, p3⟩ := rszs_ok ks a h1
        obtain ⟨q1, q2, q3⟩ := rszs_ok vs b h2
        obtain ⟨z1, z2, z3⟩ := zip_show p1 q1 p3 q3 p2 q2
        exact ⟨by simpa only [D.pyR, PyData.leavesShort] using z1, by simp only [D.pyR, PyData.bulk]; omega, by simpa only [D.pyR, PyData.showable] using z3⟩
  | .lam _, n, h => by cases h
  | .clo _ _ _, n, h => by cases h
theorem rszs_ok : ∀ (ds : List D) (n : Nat), rszs ds = some n → PyData.leavesShortAll 13 (pysR ds) = true ∧ PyData.bulkAll (pysR ds) ≤ n ∧ PyData.showableAll (pysR ds) = true
  | [], n, h => by
    simp only [rszs, Option.some.injEq] at h
    subst h
    exact ⟨by simp only [pysR, PyData.leavesShortAll], by simp only [pysR, PyData.bulkAll, Nat.le_refl], by simp only [pysR, PyData.showableAll]⟩
  | d :: ds, n, h => by
    obtain ⟨a, b, ha, hb, rfl⟩ := rszs_cons h
    obtain ⟨h1, h2, h3⟩ := rsz_ok d a ha
    obtain ⟨g1, g2, g3⟩ := rszs_ok ds b hb
    exact ⟨by simp only [pysR, PyData.leavesShortAll, h1, g1, Bool.and_self], by simp only [pysR, PyData.bulkAll]; omega, by simp only [pysR, PyData.showableAll, h3, g3, Bool.and_self]⟩
end
mutual
theorem plain_R : ∀ d : D, d.plain = true → d.plainR = true ∧ d.pyR = d.py ∧ d.pyR.depth ≤ d.dep
  | .non, _ => ⟨rfl, rfl, by simp [D.pyR, D.dep, PyData.depth]⟩
  | .bl _, _ => ⟨rfl, rfl, by simp [D.pyR, D.dep, PyData.depth]⟩
  | .int _, _ => ⟨rfl, rfl, by simp [D.pyR, D.dep, PyData.depth]⟩
  | .str _, _ => ⟨rfl, rfl, by simp [D.pyR, D.dep, PyData.depth]⟩
  | .tup xs, h => by
    obtain ⟨h1, h2, h3⟩ := plains_R xs (by simpa [D.plain] using h)
    exact ⟨by simpa only [D.plainR] using h1, by simp only [D.pyR, D.py, h2], by simp only [D.pyR, D.dep, PyData.depth]; omega⟩
  | .lst xs, h => by
    obtain ⟨h1, h2, h3⟩ := plains_R xs (by simpa [D.plain] using h)
    exact ⟨by simpa only [D.plainR] using h1, by simp only [D.pyR, D.py, h2], by simp only [D.pyR, D.dep, PyData.depth]; omega⟩
  | .dct _ _, h => by simp [D.plain] at h
  | .ins _ _ _, h => by simp [D.plain] at h
  | .ref _, h => by simp [D.plain] at h
  | .exc _ _, h => by simp [D.plain] at h
  | .scr _, h => by simp [D.plain] at h
  | .tab _ _, h => by simp [D.plain] at h
  | .lam _, h => by simp [D.plain] at h
  | .clo _ _ _, h => by simp [D.plain] at h
theorem plains_R : ∀ xs : List D, plains xs = true → plainsR xs = true ∧ pysR xs = pys xs ∧ PyData.depthAll (pysR xs) ≤ deps xs
  | [], _ => ⟨rfl, rfl, by simp [pysR, deps, PyData.depthAll]⟩
  | x :: xs, h => by
    simp only [plains, Bool.and_eq_true] at h
    obtain ⟨a1, a2, a3⟩ := plain_R x h.1
    obtain ⟨b1, b2, b3⟩ := plains_R xs h.2
    exact ⟨by simp only [plainsR, a1, b1, Bool.and_self], by simp only [pysR, pys, a2, b2], by simp only [pysR, deps, PyData.depthAll]; omega⟩
end
/-- data that repr shows, dicts in it, of some depth -/
def okR (n : Nat) (d : D) : Bool := d.plainR && decide (d.pyR.depth ≤ n)
def okRs (n : Nat) (ds : List D) : Bool := plainsR ds && decide (PyData.depthAll (pysR ds) ≤ n)
end HP

set_option maxHeartbeats 2000000
/-! HpLoop2: more on lists, dicts and comprehensions. -/
namespace HP
open PySem
/-! ### comprehensions whose target is a tuple -/
section
variable {α : Type} {f g : α → D} {p : α → Bool} {vs : List Nat} {t : Tg} {e : E} {ifs : Es} {σ : Slots} {s : Store} {τ : α → Slots}
end
section
variable {α : Type} {f : α → D} {v : Nat} {e : E} {ifs : Es} {σ : Slots} {s : Store}
end
/-! ### dicts whose keys are texts -/
end HP

set_option maxHeartbeats 600000
namespace HP
open PySem
/-! HpLoop3: comprehensions of two clauses in symbolic runs. -/
/-- the outer loop of a comprehension of two clauses -/
def lc2H (vs : List Nat) (e : E) (t : Tg) (ifs : Es) (us : List Nat) (t1 : Tg) (it1 : It) (ifs1 : Es) : List D → List D → Slots → Store → (K : List D → Slots → Store → Prop) → (_ : Hd K) → Prop
  | [], acc, σ, s, K, _ => K acc σ s
  | x :: xs, acc, σ, s, K, h => goH (wipeS σ vs) fun σ => xG t x σ s fun σ s => xF ifs σ s fun c σ s => iteH c (xI it1 σ s (fun items σ s => lcH us e t1 ifs1 items acc σ s (fun acc σ s => lc2H vs e t ifs us t1 it1 ifs1 xs acc σ s K h) ⟨⟩) noX) (lc2H vs e t ifs us t1 it1 ifs1 xs acc σ s K h)
end HP

set_option maxHeartbeats 600000
namespace HP
open PySem
/-! HpLoop4: comprehensions of three clauses in symbolic runs. -/
def lc3H (vs : List Nat) (e : E) (t : Tg) (ifs : Es) (us : List Nat) (t1 : Tg) (it1 : It) (ifs1 : Es) (ys : List Nat) (t2 : Tg) (it2 : It) (ifs2 : Es) : List D → List D → Slots → Store → (K : List D → Slots → Store → Prop) → (_ : Hd K) → Prop
  | [], acc, σ, s, K, _ => K acc σ s
  | x :: xs, acc, σ, s, K, h => goH (wipeS σ vs) fun σ => xG t x σ s fun σ s => xF ifs σ s fun c σ s => iteH c (xI it1 σ s (fun items σ s => lc2H us e t1 ifs1 ys t2 it2 ifs2 items acc σ s (fun acc σ s => lc3H vs e t ifs us t1 it1 ifs1 ys t2 it2 ifs2 xs acc σ s K h) ⟨⟩) noX) (lc3H vs e t ifs us t1 it1 ifs1 ys t2 it2 ifs2 xs acc σ s K h)
end HP

set_option maxHeartbeats 600000
namespace HP
open PySem
/-! HpLoop5: dict comprehensions in symbolic runs; dicts keyed by nested tuples, by any coding of the keys. -/
/-- the loop of a dict comprehension of one clause -/
def dcH (vs : List Nat) (ek ev : E) (t : Tg) (ifs : Es) : List D → List D → List D → Slots → Store → (K : List D → List D → Slots → Store → Prop) → (_ : Hd K) → Prop
  | [], ks, us, σ, s, K, _ => K ks us σ s
  | x :: xs, ks, us, σ, s, K, h => goH (wipeS σ vs) fun σ => xG t x σ s fun σ s => xF ifs σ s fun c σ s => iteH c (xE ek σ s (fun o σ s => xE ev σ s (fun o2 σ s => iteH (tkey o.frz && decide (ks.length < 1000000)) (goH (putT ks us o.frz o2.frz) fun p => dcH vs ek ev t ifs xs p.1 p.2 σ s K h) False) noX) noX) (dcH vs ek ev t ifs xs ks us σ s K h)
/-! ### keys by a coding -/
/-- a coding of keys as nested tuples, each its own -/
structure KeyF {α : Type} [DecidableEq α] (f : α → D) : Prop where
  t : ∀ a, tkey (f a) = true
  e : ∀ a b, nk (f a) = nk (f b) → a = b
section
variable {α : Type} [DecidableEq α] {f : α → D}
theorem KeyF.dec (F : KeyF f) (a b : α) : decide (nk (f a) = nk (f b)) = decide (a = b) := by
  rw [Bool.eq_iff_iff, decide_eq_true_eq, decide_eq_true_eq]
  exact ⟨F.e a b, fun e => by rw [e]⟩
theorem KeyF.at (F : KeyF f) (y : α) : ∀ xs : List α, tabAt (xs.map f) (f y) = xs.findIdx? fun x => decide (x = y)
  | [] => rfl
  | x :: xs => by
    have ih := F.at y xs
    unfold tabAt at ih ⊢
    rw [List.map_cons, List.findIdx?_cons, List.findIdx?_cons, ih, F.dec]
theorem KeyF.none (F : KeyF f) {y : α} {xs : List α} (h : y ∉ xs) : tabAt (xs.map f) (f y) = none := by
  rw [F.at, List.findIdx?_eq_none_iff]
  exact fun x hx => decide_eq_false fun e => h (e ▸ hx)
theorem KeyF.some (F : KeyF f) {y : α} {xs : List α} (h : y ∈ xs) : ∃ i, tabAt (xs.map f) (f y) = some i ∧ xs[i]? = some y := by
  rw [F.at]
  cases q : xs.findIdx? fun x => decide (x = y) with
  | none =>
    rw [List.findIdx?_eq_none_iff] at q
    have := q y h
    simp at this
  | some i =>
    obtain ⟨h1, h2, _⟩ := List.findIdx?_eq_some_iff_getElem.mp q
    exact ⟨i, rfl, by rw [List.getElem?_eq_getElem h1, of_decide_eq_true h2]⟩
theorem KeyF.isSome (F : KeyF f) (y : α) (xs : List α) : (tabAt (xs.map f) (f y)).isSome = decide (y ∈ xs) := by
  by_cases h : y ∈ xs
  · obtain ⟨i, e, _⟩ := F.some h
    rw [e, decide_eq_true h]
    rfl
  · rw [F.none h, decide_eq_false h]
    rfl
theorem KeyF.in (F : KeyF f) (y : α) (xs : List α) (vs : List D) : cmpSem .in_ (f y) (.tab (xs.map f) vs) = Option.some (decide (y ∈ xs)) := by
  show isIn (f y) (.tab (xs.map f) vs) = _
  unfold isIn
  dsimp only
  rw [F.t, if_pos rfl, F.isSome]
theorem KeyF.nin (F : KeyF f) (y : α) (xs : List α) (vs : List D) : cmpSem .nin (f y) (.tab (xs.map f) vs) = Option.some !decide (y ∈ xs) := by
  show (isIn (f y) (.tab (xs.map f) vs)).map (!·) = _
  unfold isIn
  dsimp only
  rw [F.t, if_pos rfl, F.isSome]
  rfl
theorem KeyF.putN (F : KeyF f) {y : α} {xs : List α} (hx : y ∉ xs) (vs : List D) (v : D) : putT (xs.map f) vs (f y) v = ((xs ++ [y]).map f, vs ++ [v]) := by
  rw [putT, F.none hx, List.map_append]
  rfl
theorem KeyF.put (F : KeyF f) {y : α} {xs : List α} (hx : y ∉ xs) (vs : List D) (v : D) (hl : xs.length < 1000000) : setSem (.tab (xs.map f) vs) (f y) v = Option.some (.tab ((xs ++ [y]).map f) (vs ++ [v])) := by
  have e2 : setSem (.tab (xs.map f) vs) (f y) v = if tkey (f y) && decide ((xs.map f).length < 1000000) then Option.some (.tab (putT (xs.map f) vs (f y) v).1 (putT (xs.map f) vs (f y) v).2) else Option.none := by simp only [setSem]
  rw [e2, F.t, List.length_map, decide_eq_true hl, F.putN hx]
  rfl
theorem KeyF.get (F : KeyF f) {β : Type} {key : β → α} {fs : List β} (nd : (fs.map key).Nodup) {b : β} (hb : b ∈ fs) (g : β → D) : getT ((fs.map key).map f) (fs.map g) (f (key b)) = Option.some (g b) := by
  obtain ⟨i, h1, h2⟩ := F.some (y := key b) (xs := fs.map key) (List.mem_map.mpr ⟨b, hb, rfl⟩)
  rw [getT, h1, Option.bind_some, List.getElem?_map]
  rw [List.getElem?_map] at h2
  obtain ⟨z, hz, e⟩ := Option.map_eq_some_iff.mp h2
  have e3 : z = b := by
    obtain ⟨hi, hz'⟩ := List.getElem?_eq_some_iff.mp hz
    obtain ⟨j, hj, hb'⟩ := List.getElem_of_mem hb
    have hij : i = j := by
      refine (List.getElem_inj (i := i) (j := j) (h₀ := by rw [List.length_map]; exact hi) (h₁ := by rw [List.length_map]; exact hj) nd).mp ?_
      rw [List.getElem_map, List.getElem_map, hz', hb', e]
    subst hij
    rw [← hz', hb']
  rw [hz, e3]
  rfl
theorem KeyF.ix (F : KeyF f) {β : Type} {key : β → α} {fs : List β} (nd : (fs.map key).Nodup) {b : β} (hb : b ∈ fs) (g : β → D) : ixSem (.tab ((fs.map key).map f) (fs.map g)) (f (key b)) = Option.some (g b) := by
  have e2 : ixSem (.tab ((fs.map key).map f) (fs.map g)) (f (key b)) = if tkey (f (key b)) then getT ((fs.map key).map f) (fs.map g) (f (key b)) else Option.none := by simp only [ixSem]
  rw [e2, F.t, if_pos rfl, F.get nd hb]
end
end HP

set_option maxHeartbeats 600000
namespace HP
open PySem
/-! HpLoop6: dict comprehensions of two clauses in symbolic runs. -/
/-- the outer loop of a dict comprehension of two clauses -/
def dc2H (vs : List Nat) (ek ev : E) (t : Tg) (ifs : Es) (us : List Nat) (t1 : Tg) (it1 : It) (ifs1 : Es) : List D → List D → List D → Slots → Store → (K : List D → List D → Slots → Store → Prop) → (_ : Hd K) → Prop
  | [], ks, ys, σ, s, K, _ => K ks ys σ s
  | x :: xs, ks, ys, σ, s, K, h => goH (wipeS σ vs) fun σ => xG t x σ s fun σ s => xF ifs σ s fun c σ s => iteH c (xI it1 σ s (fun items σ s => dcH us ek ev t1 ifs1 items ks ys σ s (fun ks ys σ s => dc2H vs ek ev t ifs us t1 it1 ifs1 xs ks ys σ s K h) ⟨⟩) noX) (dc2H vs ek ev t ifs us t1 it1 ifs1 xs ks ys σ s K h)
section
variable {α : Type} [DecidableEq α] {f : α → D}
end
end HP

set_option maxHeartbeats 2000000
/-! HpLoop7: comprehensions over a list that may be a thing of the store. -/
namespace HP
open PySem
section
variable {α : Type} {f g : α → D} {p : α → Bool} {v : Nat} {e : E} {ifs : Es} {σ : Slots} {s : Store}
end
end HP

set_option maxHeartbeats 2000000
/-! HpLoopZ: the equations of `for .. in zip(a, b)` over lists of the store. -/
namespace HP
open PySem
def forzH (ds : List D) (s : Store) (k : D → D → List D → List D → Prop) (_ : Hd k := ⟨⟩) : Prop := match ds with
  | [d1, d2] => match view s d1, view s d2 with
    | .lst xs, .lst ys => k d1 d2 xs ys
    | _, _ => False
  | _ => False
def loopzH (d1 d2 : D) (us ws : List D) (t : Tg) (b : Ss) : List D → Slots → Store → (N : QN) → (P : Rst) → (_ : Hd N) → (_ : Hd P) → Prop
  | [], σ, s, N, P, _, _ => andH (view s d1 = .lst us ∧ view s d2 = .lst ws) (N σ s)
  | x :: xs, σ, s, N, P, h, h2 => andH (view s d1 = .lst us ∧ view s d2 = .lst ws) (xG t x σ s fun σ s => xB b σ s (fun σ s => loopzH d1 d2 us ws t b xs σ s N P h h2) ⟨P.rt, N, fun σ s => loopzH d1 d2 us ws t b xs σ s N P h h2, P.ex⟩)
end HP

namespace HP
open PySem
/-! HpBun: the lemmas of symbolic runs, in two bundles. -/
def hpPre := And.intro (And.intro (And.intro (And.intro (And.intro (And.intro (And.intro (@xA_lit) (And.intro (@xA_bin) (@xA_neg))) (And.intro (And.intro (@xA_cmp) (@xA_chain)) (And.intro (@xA_not_) (@xA_and_)))) (And.intro (And.intro (And.intro (@xA_or_) (@xA_ife)) (And.intro (@xA_tup) (@xA_lst))) (And.intro (And.intro (@xA_dct) (@xA_ix)) (And.intro (@xA_sl) (@xA_rev))))) (And.intro (And.intro (And.intro (And.intro (@xA_fld) (@xA_prop)) (And.intro (@xA_call) (@xA_callp))) (And.intro (And.intro (@xA_meth) (@xA_mk)) (And.intro (@xA_alloc) (@xA_bi)))) (And.intro (And.intro (And.intro (@xA_isi) (@xA_rng)) (And.intro (@xA_bm) (@xA_mm))) (And.intro (And.intro (@xA_lc) (@xA_dc)) (And.intro (@xA_eqo) (@xA_tabd)))))) (And.intro (And.intro (And.intro (And.intro (@xA_tget) (And.intro (@xA_borrow) (@xA_isx))) (And.intro (And.intro (@xA_xfld) (@xA_callT)) (And.intro (@xA_lamE) (@xA_app)))) (And.intro (And.intro (And.intro (@xA_act) (@xA_callA)) (And.intro (@xA_lcr) (@xA_dyn))) (And.intro (And.intro (@xA_appQ) (@xA_var)) (And.intro (@xE_lit) (@xE_var))))) (And.intro (And.intro (And.intro (And.intro (@xE_bin) (@xE_neg)) (And.intro (@xE_cmp) (@xT_cmp))) (And.intro (And.intro (@xE_chain) (@xT_chain)) (And.intro (@xE_not_) (@xT_not_)))) (And.intro (And.intro (And.intro (@xE_and_) (@xT_and_)) (And.intro (@xE_or_) (@xT_or_))) (And.intro (And.intro (@xE_ife) (@xT_ife)) (And.intro (@xE_tup) (@xE_lst))))))) (And.intro (And.intro (And.intro (And.intro (And.intro (@xE_tabd) (And.intro (@xE_dct) (@xE_ix))) (And.intro (And.intro (@xE_sl) (@xE_rev)) (And.intro (@xE_fld) (@xE_call)))) (And.intro (And.intro (And.intro (@xE_callp) (@xE_meth)) (And.intro (@xE_mk) (@xE_prop))) (And.intro (And.intro (@xE_alloc) (@xE_bi)) (And.intro (@xE_isi) (@xT_isi))))) (And.intro (And.intro (And.intro (And.intro (@xE_eqo) (@xT_eqo)) (And.intro (@xE_rng) (@xE_bm))) (And.intro (And.intro (@xE_tget) (@xE_borrow)) (And.intro (@xE_isx) (@xT_isx)))) (And.intro (And.intro (And.intro (@xE_xfld) (@xE_callT)) (And.intro (@xE_act) (@xE_callA))) (And.intro (And.intro (@xE_lamE) (@xE_app)) (And.intro (@xE_dyn) (@xE_appQ)))))) (And.intro (And.intro (And.intro (And.intro (And.intro (@xE_mm) (@xT_lit)) (And.intro (@xT_bin) (@xT_neg))) (And.intro (And.intro (@xT_tup) (@xT_lst)) (And.intro (@xT_dct) (@xT_ix)))) (And.intro (And.intro (And.intro (@xT_sl) (@xT_rev)) (And.intro (@xT_fld) (@xT_prop))) (And.intro (And.intro (@xT_call) (@xT_callp)) (And.intro (@xT_meth) (@xT_mk))))) (And.intro (And.intro (And.intro (And.intro (@xT_alloc) (@xT_bi)) (And.intro (@xT_rng) (@xT_bm))) (And.intro (And.intro (@xT_mm) (@xT_lc)) (And.intro (@xT_dc) (@xT_tabd)))) (And.intro (And.intro (And.intro (@xT_tget) (@xT_borrow)) (And.intro (@xT_xfld) (@xT_callT))) (And.intro (And.intro (@xT_app) (@xT_dyn)) (And.intro (@xT_appQ) (@xT_act)))))))) (And.intro (And.intro (And.intro (And.intro (And.intro (And.intro (@xT_callA) (And.intro (@xT_lcr) (@xT_var))) (And.intro (And.intro (@xV_nil) (@xO_nil)) (And.intro (@xU_nil) (@xV_cons)))) (And.intro (And.intro (And.intro (@xO_cons) (@xU_cons)) (And.intro (@xV_star) (@xF_nil))) (And.intro (And.intro (@xF_one) (@xP_nil)) (And.intro (@xP_cons) (@xN_nil))))) (And.intro (And.intro (And.intro (And.intro (@xN_cons) (@xI_seq)) (And.intro (@xI_rng1) (@xI_rng2))) (And.intro (And.intro (@xI_enum0) (@xI_enum1)) (And.intro (@xI_items) (@xI_tabk)))) (And.intro (And.intro (And.intro (@xI_zip) (@xB_nil)) (And.intro (@xB_cons) (@xS_asgN))) (And.intro (And.intro (@xS_asgT) (@xS_par)) (And.intro (@xS_setix) (@xS_setix2)))))) (And.intro (And.intro (And.intro (And.intro (And.intro (@xS_setfld) (@xS_ex)) (And.intro (@xS_retV) (@xS_ret_lit))) (And.intro (And.intro (@xS_ret_bin) (@xS_ret_neg)) (And.intro (@xS_ret_cmp) (@xS_ret_chain)))) (And.intro (And.intro (And.intro (@xS_ret_not_) (@xS_ret_and_)) (And.intro (@xS_ret_or_) (@xS_ret_ife))) (And.intro (And.intro (@xS_ret_tup) (@xS_ret_lst)) (And.intro (@xS_ret_dct) (@xS_ret_ix))))) (And.intro (And.intro (And.intro (And.intro (@xS_ret_sl) (@xS_ret_rev)) (And.intro (@xS_ret_fld) (@xS_ret_prop))) (And.intro (And.intro (@xS_ret_call) (@xS_ret_callp)) (And.intro (@xS_ret_meth) (@xS_ret_mk)))) (And.intro (And.intro (And.intro (@xS_ret_alloc) (@xS_ret_bi)) (And.intro (@xS_ret_isi) (@xS_ret_rng))) (And.intro (And.intro (@xS_ret_bm) (@xS_ret_mm)) (And.intro (@xS_ret_lc) (@xS_ret_dc))))))) (And.intro (And.intro (And.intro (And.intro (And.intro (@xS_ret_eqo) (And.intro (@xS_ret_tabd) (@xS_ret_tget))) (And.intro (And.intro (@xS_ret_borrow) (@xS_ret_isx)) (And.intro (@xS_ret_xfld) (@xS_ret_callT)))) (And.intro (And.intro (And.intro (@xS_ret_lamE) (@xS_ret_app)) (And.intro (@xS_ret_act) (@xS_ret_callA))) (And.intro (And.intro (@xS_ret_lcr) (@xS_ret_dyn)) (And.intro (@xS_ret_appQ) (@xS_retn))))) (And.intro (And.intro (And.intro (And.intro (@xS_ife) (@xS_for)) (And.intro (@xS_while) (@xS_pass))) (And.intro (And.intro (@xS_brk) (@xS_cont)) (And.intro (@xS_raise) (@xS_try)))) (And.intro (And.intro (And.intro (@xS_tryk) (@xS_tryn)) (And.intro (@xG_name) (@xG_tup))) (And.intro (And.intro (@xGs_nil) (@xGs_cons)) (And.intro (@loopH_nil) (@xE_lc1)))))) (And.intro (And.intro (And.intro (And.intro (And.intro (@optH_s) (@iteH_t)) (And.intro (@iteH_f) (@andH_t))) (And.intro (And.intro (@onSlot_v) (@onSlot_o)) (And.intro (@onInt_i) (@onBl_b)))) (And.intro (And.intro (And.intro (@onOwn_o) (@onTup_t)) (And.intro (@onTup_l) (@onCons_c))) (And.intro (And.intro (@onDct_d) (@onTab_d)) (And.intro (@onPair_p) (@onFlat_i))))) (And.intro (And.intro (And.intro (And.intro (@onFlat_b) (@onFlat_s)) (And.intro (@onFlat_n) (@onFlat_l))) (And.intro (And.intro (@onZip_l) (@onZip_t)) (And.intro (@callH_mk) (@callH_pick)))) (And.intro (And.intro (And.intro (@callH_pick1) (@callH_in)) (And.intro (@upH_s) (@upH_r))) (And.intro (And.intro (@callH_thk) (@callH_thk0)) (And.intro (@callH_thkS) (@onClo_c))))))))
def hpPost := And.intro (And.intro (And.intro (And.intro (And.intro (And.intro (And.intro (And.intro (@goH_go) (@vres_v)) (And.intro (@vres_s) (@look_own))) (And.intro (And.intro (@look_val) (@view_int)) (And.intro (@view_bl) (@view_str)))) (And.intro (And.intro (And.intro (@view_non) (@view_tup)) (And.intro (@view_lst) (@view_scr))) (And.intro (And.intro (@view_dct) (@view_ins)) (And.intro (@view_r0) (@view_r1))))) (And.intro (And.intro (And.intro (And.intro (@view_exc) (@view_lam)) (And.intro (@view_clo) (@notNon_exc))) (And.intro (And.intro (@isx_non) (@isx_bl)) (And.intro (@isx_int) (@isx_str)))) (And.intro (And.intro (And.intro (@isx_tup) (@isx_lst)) (And.intro (@isx_dct) (@isx_exc))) (And.intro (And.intro (@str_beq) (@isSub_s)) (And.intro (@excFld_BadRule) (@excFld_BadHouse)))))) (And.intro (And.intro (And.intro (And.intro (And.intro (@excFld_BadRow) (@excFld_BadRecords)) (And.intro (@excFld_BadWish) (@excFld_BadJournal))) (And.intro (And.intro (@excFld_NoDevice) (@excFld_BadText)) (And.intro (@some_inj) (@hideS_nil)))) (And.intro (And.intro (And.intro (@hideS_cons) (@frzS_nil)) (And.intro (@frzS_cons) (@froze_v))) (And.intro (And.intro (@froze_o) (@froze_u)) (And.intro (@toList_n) (@toList_s))))) (And.intro (And.intro (And.intro (And.intro (@fld_ins) (@isi_non)) (And.intro (@cl_int_non) (@cl_bool_non))) (And.intro (And.intro (@cl_str_non) (@cl_tuple_non)) (And.intro (@cl_list_non) (@cl_dict_non)))) (And.intro (And.intro (And.intro (@cl_own_non) (@notNon_non)) (And.intro (@isi_bl) (@cl_int_bl))) (And.intro (And.intro (@cl_bool_bl) (@cl_str_bl)) (And.intro (@cl_tuple_bl) (@cl_list_bl))))))) (And.intro (And.intro (And.intro (And.intro (And.intro (And.intro (@cl_dict_bl) (@cl_own_bl)) (And.intro (@notNon_bl) (@isi_int))) (And.intro (And.intro (@cl_int_int) (@cl_bool_int)) (And.intro (@cl_str_int) (@cl_tuple_int)))) (And.intro (And.intro (And.intro (@cl_list_int) (@cl_dict_int)) (And.intro (@cl_own_int) (@notNon_int))) (And.intro (And.intro (@isi_str) (@cl_int_str)) (And.intro (@cl_bool_str) (@cl_str_str))))) (And.intro (And.intro (And.intro (And.intro (@cl_tuple_str) (@cl_list_str)) (And.intro (@cl_dict_str) (@cl_own_str))) (And.intro (And.intro (@notNon_str) (@isi_tup)) (And.intro (@cl_int_tup) (@cl_bool_tup)))) (And.intro (And.intro (And.intro (@cl_str_tup) (@cl_tuple_tup)) (And.intro (@cl_list_tup) (@cl_dict_tup))) (And.intro (And.intro (@cl_own_tup) (@notNon_tup)) (And.intro (@isi_lst) (@cl_int_lst)))))) (And.intro (And.intro (And.intro (And.intro (And.intro (@cl_bool_lst) (@cl_str_lst)) (And.intro (@cl_tuple_lst) (@cl_list_lst))) (And.intro (And.intro (@cl_dict_lst) (@cl_own_lst)) (And.intro (@notNon_lst) (@isi_dct)))) (And.intro (And.intro (And.intro (@cl_int_dct) (@cl_bool_dct)) (And.intro (@cl_str_dct) (@cl_tuple_dct))) (And.intro (And.intro (@cl_list_dct) (@cl_dict_dct)) (And.intro (@cl_own_dct) (@notNon_dct))))) (And.intro (And.intro (And.intro (And.intro (@isi_ins) (@cl_own_ins)) (And.intro (@notNon_ins) (@truth_non))) (And.intro (And.intro (@truth_bl) (@truth_int)) (And.intro (@truth_tup) (@truth_lst)))) (And.intro (And.intro (And.intro (@walk_tup) (@walk_lst)) (And.intro (@walk_scr) (@walk_str))) (And.intro (And.intro (@seq_tup) (@seq_lst)) (And.intro (@frz_lst) (And.intro (@frz_dct) (@frz_ins))))))))) (And.intro (And.intro (And.intro (And.intro (And.intro (And.intro (And.intro (@ofrz_v) (@ofrz_o)) (And.intro (@oslot_v) (@oslot_o))) (And.intro (And.intro (@keep_v) (@keep_o)) (And.intro (@keep_u) (@setsS_nil)))) (And.intro (And.intro (And.intro (@setsS_cons) (@isLst_l)) (And.intro (@isIns_i) (@noField_i))) (And.intro (And.intro (@mm_app) (@mm_popF)) (And.intro (@set_dct) (@sf_ins))))) (And.intro (And.intro (And.intro (And.intro (@sl_tup) (@sl_lst)) (And.intro (@ress_nil) (@ress_cons))) (And.intro (And.intro (@ok_60) (@okAt_int)) (And.intro (@okAt_bl) (@okAt_str)))) (And.intro (And.intro (And.intro (@okAt_non) (@okAt_tup)) (And.intro (@okAt_lst) (@okAts_nil))) (And.intro (And.intro (@okAts_cons) (@okAts_mapI)) (And.intro (@okAts_mapS) (@okAts_mapB)))))) (And.intro (And.intro (And.intro (And.intro (And.intro (@Bool.and_true) (@Bool.true_and)) (And.intro (@Bool.and_false) (@Bool.false_and))) (And.intro (And.intro (@Bool.or_true) (@Bool.true_or)) (And.intro (@Bool.or_false) (@Bool.false_or)))) (And.intro (And.intro (And.intro (@Bool.not_true) (@Bool.not_false)) (And.intro (@Bool.not_not) (@Bool.false_eq_true))) (And.intro (And.intro (@decide_true) (@decide_false)) (And.intro (@decide_eq_true_eq) (@true_and))))) (And.intro (And.intro (And.intro (And.intro (@and_true) (@and_self)) (And.intro (@ofString_inj) (@eqD_int))) (And.intro (And.intro (@eqD_str) (@eqD_bl)) (And.intro (@eqD_tup) (@eqD_lst)))) (And.intro (And.intro (And.intro (@eqD_nn) (@eqD_nt)) (And.intro (@eqD_tn) (@eqD_si))) (And.intro (And.intro (@eqD_is) (@eqD_st)) (And.intro (@eqD_ts) (@eqD_ti))))))) (And.intro (And.intro (And.intro (And.intro (And.intro (And.intro (@eqD_it) (@eqD_tl)) (And.intro (@eqD_lt) (@eqDs_nil))) (And.intro (And.intro (@eqDs_cons) (@eqDs_nc)) (And.intro (@eqDs_cn) (@eqDs_strs)))) (And.intro (And.intro (And.intro (@eqDs_ints) (@any_strs)) (And.intro (@atI_0) (@atI_1))) (And.intro (And.intro (@atI_2) (@atI_3)) (And.intro (@atI_4) (@ix_tup))))) (And.intro (And.intro (And.intro (And.intro (@ix_lst) (@ix_dctS)) (And.intro (@getD_cons) (@putD_cons))) (And.intro (And.intro (@putD_nil) (@keyFits_str)) (And.intro (@keyFits_int) (@isSome_keyAt)))) (And.intro (And.intro (And.intro (@isSome_keyAt0) (@cmp_in_tup)) (And.intro (@cmp_in_lst) (@cmp_nin_tup))) (And.intro (And.intro (@cmp_in_dct) (@cmp_nin_dct)) (And.intro (@cmp_lt_int) (@cmp_gt_int)))))) (And.intro (And.intro (And.intro (And.intro (And.intro (@cmp_le_int) (@cmp_ge_int)) (And.intro (@cmp_is_non) (@cmp_isn_non))) (And.intro (And.intro (@cmp_is_bl) (@cmp_isn_bl)) (And.intro (@add_int) (@sub_int)))) (And.intro (And.intro (And.intro (@add_tup) (@add_lst)) (And.intro (@add_str) (@mul_int))) (And.intro (And.intro (@mod_int) (@fdiv_int)) (And.intro (@pow_int) (@len_tup))))) (And.intro (And.intro (And.intro (And.intro (@len_lst) (@len_scr)) (And.intro (@abs_int) (@int_int))) (And.intro (And.intro (@int_bl) (@max_int)) (And.intro (@min_int) (@list_tup)))) (And.intro (And.intro (And.intro (@list_lst) (@tuple_tup)) (And.intro (@tuple_lst) (@all_bls))) (And.intro (And.intro (@any_bls) (@lenset_strs)) (And.intro (@lenset_strsL) (And.intro (@all_mapP) (@any_mapP)))))))))
end HP

set_option maxHeartbeats 2000000
/-! HpParIx: x, o[k] = v. -/
namespace HP
open PySem L2
section
variable [LamT] {β : Bs} {κ : Pk} {X : Cx} {J : St → Prop}
end
end HP

set_option maxHeartbeats 600000
namespace HP
open PySem
/-! P1: records, rules, their joins. -/
structure Rec where
  t : Int
  d : Bool
  p : Int
  s : Int
deriving DecidableEq
def Rec.D (r : Rec) : HP.D := .tup [.int r.t, .bl r.d, .int r.p, .int r.s]
structure RuleM where
  order : List Str
  kept : List Str
  slack : Int
  raises : List Str
def RuleM.D (r : RuleM) : HP.D := .ins "Rule" ["own_order", "own_kept", "own_slack", "own_raises"] [.tup (r.order.map .str), .tup (r.kept.map .str), .int r.slack, .tup (r.raises.map .str)]
theorem rec_view (s : Store) (r : Rec) : view s r.D = r.D := rfl
theorem rec_ok (n : Nat) (r : Rec) : okAt (n + 1) r.D = true := by simp only [Rec.D, okAt_tup, okAts_cons, okAts_nil, okAt_int, okAt_bl, Bool.and_self]
theorem rec_eq (a b : Rec) : eqD a.D b.D = decide (a = b) := by
  cases a; cases b
  simp only [Rec.D, eqD_tup, eqDs_cons, eqDs_nil, eqD_int, eqD_bl, Rec.mk.injEq, Bool.and_true]
  rw [Bool.eq_iff_iff]; simp
theorem rec_tup (r : Rec) (k : List HP.D → Prop) (h : Hd k) : onTup r.D k h = k [.int r.t, .bl r.d, .int r.p, .int r.s] := rfl
theorem rec_ix0 (r : Rec) : ixSem r.D (.int 0) = some (.int r.t) := rfl
theorem rec_ix1 (r : Rec) : ixSem r.D (.int 1) = some (.bl r.d) := rfl
theorem rec_ix2 (r : Rec) : ixSem r.D (.int 2) = some (.int r.p) := rfl
theorem rec_ix3 (r : Rec) : ixSem r.D (.int 3) = some (.int r.s) := rfl
theorem rule_view (s : Store) (r : RuleM) : view s r.D = r.D := rfl
theorem rule_f0 (r : RuleM) : fldSem "Rule" "own_order" r.D = some (.tup (r.order.map .str)) := by simp [fldSem, RuleM.D, lookF, ofString_inj]
theorem rule_f1 (r : RuleM) : fldSem "Rule" "own_kept" r.D = some (.tup (r.kept.map .str)) := by simp [fldSem, RuleM.D, lookF, ofString_inj]
theorem rule_f2 (r : RuleM) : fldSem "Rule" "own_slack" r.D = some (.int r.slack) := by simp [fldSem, RuleM.D, lookF, ofString_inj]
theorem rule_f3 (r : RuleM) : fldSem "Rule" "own_raises" r.D = some (.tup (r.raises.map .str)) := by simp [fldSem, RuleM.D, lookF, ofString_inj]

def beatsM (r : RuleM) (key : Str) (a b : Rec) : Bool :=
  if key = "turn" then decide (b.t < a.t) else if key = "done" then a.d && !b.d else if key = "newest" then decide (b.s + r.slack < a.s) else decide (b.p < a.p)
/-- the greater of two records -/
def Rec.ltB (a b : Rec) : Bool := decide (a.t < b.t) || (decide (a.t = b.t) && ((!a.d && b.d) || ((a.d == b.d) && (decide (a.p < b.p) || (decide (a.p = b.p) && decide (a.s < b.s))))))
def maxR (a b : Rec) : Rec := if a.ltB b then b else a
theorem rec_lt (a b : Rec) : ltD a.D b.D = a.ltB b := by
  cases a with
  | mk t d p s =>
  cases b with
  | mk t2 d2 p2 s2 =>
  simp only [ltD, Rec.D, D.py, pys, PySem.W.dataLt_tuple, Rec.ltB]
  by_cases h1 : t = t2
  · subst h1
    rw [PySem.W.dataLt_all_yes rfl (by simp [PyData.eqv])]
    by_cases h2 : d = d2
    · subst h2
      rw [PySem.W.dataLt_all_yes rfl (by simp [PyData.eqv])]
      by_cases h3 : p = p2
      · subst h3
        rw [PySem.W.dataLt_all_yes rfl (by simp [PyData.eqv])]
        by_cases h4 : s = s2
        · subst h4
          rw [PySem.W.dataLt_all_yes rfl (by simp [PyData.eqv])]
          simp
          rfl
        · rw [PySem.W.dataLt_all_no rfl (by simp [PyData.eqv, h4]), PySem.W.dataLt_int]
          simp
      · rw [PySem.W.dataLt_all_no rfl (by simp [PyData.eqv, h3]), PySem.W.dataLt_int]
        simp [h3]
    · rw [PySem.W.dataLt_all_no rfl (by cases d <;> cases d2 <;> simp_all [PyData.eqv]), PySem.W.dataLt_bool]
      cases d <;> cases d2 <;> simp_all [PyProof.Rows.b2i]
  · rw [PySem.W.dataLt_all_no rfl (by simp [PyData.eqv, h1]), PySem.W.dataLt_int]
    simp [h1]
theorem rec_alike (a b : Rec) : PySem.W.alike a.D.py b.D.py = true := rfl
theorem rec_sortable (a b : Rec) : sortable [a.D, b.D] = true := by
  have h1 : ∀ r : Rec, notNon r.D = true := fun r => rfl
  have h2 : ∀ r : Rec, tupNe r.D = true := fun r => rfl
  simp only [sortable, List.all_cons, List.all_nil, rec_alike, ok_60, rec_ok 59, h1, h2, Bool.and_self, Bool.or_true, Bool.true_or]
theorem max_rec (a b : Rec) : biSem .max [.lst [a.D, b.D]] = some (.val (maxR a b).D) := by
  simp only [biSem, rec_sortable, if_true, maxL, List.foldl, rec_lt, maxR]
  cases a.ltB b <;> rfl
def strongM (r : RuleM) (a b : Rec) : List Str → Rec
  | [] => maxR a b
  | k :: ks => if beatsM r k a b then a else if beatsM r k b a then b else strongM r a b ks
def strong (r : RuleM) (a b : Rec) : Rec := strongM r a b r.order

def joinM (r : RuleM) (a b : Rec) : Rec :=
  let x := strong r a b
  if a.t = b.t then ⟨x.t, if r.kept.contains "done" then a.d || b.d else x.d, if r.kept.contains "place" then (if b.p > a.p then b.p else a.p) else x.p, if r.kept.contains "stamp" then (if b.s > a.s then b.s else a.s) else x.s⟩ else x

end HP

set_option maxHeartbeats 600000
namespace HP
open PySem
/-! P2: rules made; records and deeds judged, where they are right. -/
variable (s : Store) (Q : Out → Store → Prop) (X : Exc → Store → Prop) (h : Hd Q) (h2 : Hd X)
def Rec.Ok (r : Rec) : Prop := 0 ≤ r.t ∧ 0 ≤ r.p ∧ 0 ≤ r.s



/-! ### rules -/
structure RuleM.Ok (r : RuleM) : Prop where
  o : ∀ k ∈ r.order, k ∈ (["turn", "done", "newest", "furthest"] : List Str)
  n : r.order.Nodup
  k : r.kept.Sublist ["done", "place", "stamp"]
  s0 : 0 ≤ r.slack
  s4 : r.slack ≤ 4
  r : r.raises.Sublist ["again", "back"]
def RuleM.C (r : RuleM) : Cont := .ins "Rule" ["own_order", "own_kept", "own_slack", "own_raises"] [.tup (r.order.map .str), .tup (r.kept.map .str), .int r.slack, .tup (r.raises.map .str)]
theorem rule_frz (r : RuleM) : r.C.frz = r.D := rfl
/-- as texts are compared -/
def ltS (a b : Str) : Bool := decide (a.cps.toList < b.cps.toList)
end HP

set_option maxHeartbeats 600000
namespace HP
open PySem
/-! P3: rules by parts; deeds. -/
variable (s : Store) (Q : Out → Store → Prop) (X : Exc → Store → Prop) (h : Hd Q) (h2 : Hd X)

/-! ### deeds -/
inductive Deed where
  | hear (p : Int)
  | back (p : Int)
  | finish
  | again
def Deed.D : Deed → HP.D
  | .hear p => .tup [.str "hear", .int p]
  | .back p => .tup [.str "back", .int p]
  | .finish => .tup [.str "finish"]
  | .again => .tup [.str "again"]
def Deed.word : Deed → Str
  | .hear _ => "hear"
  | .back _ => "back"
  | .finish => "finish"
  | .again => "again"
def deedOk (top : Int) (r : Rec) : Deed → Bool
  | .hear p => decide (r.p ≤ p) && decide (p ≤ top)
  | .back p => decide (0 ≤ p) && decide (p ≤ r.p - 1)
  | .finish => !r.d
  | .again => true
def deedM (rule : RuleM) (r : Rec) (d : Deed) (stamp : Int) : Rec :=
  let t := if rule.raises.contains d.word then r.t + 1 else r.t
  match d with
  | .hear p => ⟨t, r.d, p, stamp⟩
  | .back p => ⟨t, r.d, p, stamp⟩
  | .finish => ⟨t, true, r.p, stamp⟩
  | .again => ⟨t, false, 0, stamp⟩
end HP

set_option maxHeartbeats 600000
namespace HP
open PySem
/-! C1: houses, and the courses of the program. -/
structure HouseM where
  rule : RuleM
  top : Int
  devs : List Str
  err : Int
def HouseM.D (h : HouseM) : HP.D := .ins "House" ["own_rule", "own_top", "own_devices", "own_error"] [h.rule.D, .int h.top, .tup (h.devs.map .str), .int h.err]
def HouseM.C (h : HouseM) : Cont := .ins "House" ["own_rule", "own_top", "own_devices", "own_error"] [h.rule.D, .int h.top, .tup (h.devs.map .str), .int h.err]
inductive Row where
  | deed (v : Str) (d : Deed) (z : Int)
  | send (v : Str)
  | come (v : Str) (k : Nat)
def Row.D : Row → HP.D
  | .deed v d z => .tup [.str "deed", .str v, d.D, .int z]
  | .send v => .tup [.str "send", .str v]
  | .come v k => .tup [.str "come", .str v, .int k]
structure Stt where
  recs : List Rec
  lets : List Rec
def Stt.D (x : Stt) : HP.D := .tup [.tup (x.recs.map Rec.D), .tup (x.lets.map Rec.D)]
def spot (h : HouseM) (v : Str) : Nat := h.devs.findIdx fun z => decide (z = v)
def r0 : Rec := ⟨0, false, 0, 0⟩
def Stt.rc (x : Stt) (i : Nat) : Rec := x.recs.getD i r0
def Stt.lt (x : Stt) (i : Nat) : Rec := x.lets.getD i r0
def stepM (h : HouseM) (x : Stt) : Row → Stt
  | .send v => ⟨x.recs, x.lets ++ [x.rc (spot h v)]⟩
  | .come v k => ⟨x.recs.set (spot h v) (joinM h.rule (x.rc (spot h v)) (x.lt k)), x.lets⟩
  | .deed v d z => ⟨x.recs.set (spot h v) (deedM h.rule (x.rc (spot h v)) d z), x.lets⟩
def RowOk (h : HouseM) (n : Int) (x : Stt) : Row → Prop
  | .send v => v ∈ h.devs
  | .come v k => v ∈ h.devs ∧ k < x.lets.length
  | .deed v d z => v ∈ h.devs ∧ deedOk h.top (x.rc (spot h v)) d = true ∧ 0 ≤ z ∧ z - n ≤ h.err ∧ n - z ≤ h.err
variable (s : Store) (Q : Out → Store → Prop) (X : Exc → Store → Prop) (h0 : Hd Q) (h2 : Hd X)

def Row.dev : Row → Str
  | .deed v _ _ => v
  | .send v => v
  | .come v _ => v
def Row.len : Row → Int
  | .deed _ _ _ => 4
  | .send _ => 2
  | .come _ _ => 3

theorem RowOk.dev {h : HouseM} {n : Int} {x : Stt} {r : Row} (q : RowOk h n x r) : r.dev ∈ h.devs := by
  cases r with
  | send v => exact q
  | come v k => exact q.1
  | deed v d z => exact q.1

end HP

set_option maxHeartbeats 600000
namespace HP
open PySem
/-! C2: houses made; runs of courses. -/
variable (s : Store) (Q : Out → Store → Prop) (X : Exc → Store → Prop) (h0 : Hd Q) (h2 : Hd X)
/-! ### names -/
def letters26 : List Nat := [97, 98, 99, 100, 101, 102, 103, 104, 105, 106, 107, 108, 109, 110, 111, 112, 113, 114, 115, 116, 117, 118, 119, 120, 121, 122]
def isName (x : Str) : Bool := decide (1 ≤ x.length) && decide (x.length ≤ 8) && x.cps.toList.all letters26.contains
structure HouseM.Ok (h : HouseM) : Prop where
  r : h.rule.Ok
  t1 : 1 ≤ h.top
  t6 : h.top ≤ 6
  d0 : 1 ≤ h.devs.length
  d3 : h.devs.length ≤ 3
  dn : ∀ v ∈ h.devs, isName v = true
  du : h.devs.Nodup
  ds : h.devs.Pairwise fun a b => ltS b a = false
  e0 : 0 ≤ h.err
  e3 : h.err ≤ 3
/-! ### runs -/
def firstS (h : HouseM) : Stt := ⟨h.devs.map fun _ => r0, []⟩
def statesM (h : HouseM) : Stt → List Row → List Stt
  | _, [] => []
  | x, r :: rs => stepM h x r :: statesM h (stepM h x r) rs
def finalM (h : HouseM) (x : Stt) (rs : List Row) : Stt := rs.foldl (stepM h) x
def CourseOk (h : HouseM) : Int → Stt → List Row → Prop
  | _, _, [] => True
  | n, x, r :: rs => RowOk h n x r ∧ CourseOk h (n + 1) (stepM h x r) rs
def recsD (x : Stt) : D := .tup (x.recs.map Rec.D)


end HP

set_option maxHeartbeats 600000
namespace HP
open PySem
/-! P0: draws. -/
local macro_rules | `(tactic| walk_at "hp") => `(tactic| simp (config := { dsimp := false, failIfUnchanged := false, implicitDefEqProofs := false }) only [↓hpPre, hpPost, ↓loopH_cons, pick, List.getD_cons_zero, List.getD_cons_succ, Option.getD_some, Option.map_some, Option.map_none, Option.bind_some, Option.bind_none, Option.getD_none, xfld_exc, Nat.reduceBEq, allX, set_lst, Bm.ok, all, List.any_cons, List.any_nil, List.contains_cons, List.contains_nil, Option.isSome_some, lookF, putF, wipeS, backS, List.getElem?_cons_zero, List.getElem?_cons_succ, List.length_cons, List.length_nil, List.map_cons, List.map_nil, List.replicate_zero, List.replicate_succ, List.cons_append, List.nil_append, List.set_cons_zero, List.set_cons_succ, List.getElem?_nil, Nat.reduceAdd, Nat.reduceSub, Nat.reduceLeDiff, Nat.reduceLT, Nat.reduceEqDiff, big, Int.cast_ofNat_Int, Int.reduceLE, Int.reduceLT, Int.reduceNeg, Int.reduceAdd, Int.reduceSub, Int.reduceMul, Int.reducePow, Int.reduceAbs, Int.reduceToNat, Int.reduceEq, Int.reduceDiv, Int.reduceMod, upTo, ↓lcH_nil, ↓lcH_cons, if_true, if_false, ↓reduceIte, eq_self, String.reduceEq, mergeD, cmp_eq, cmp_ne, cmp_nin_lst, List.length_map])
local macro_rules | `(tactic| walk_at "hps") => `(tactic| simp (config := { dsimp := false, failIfUnchanged := false, implicitDefEqProofs := false }) only [↓hpPre, hpPost, ↓loopH_cons, pick, List.getD_cons_zero, List.getD_cons_succ, Option.getD_some, Option.map_some, Option.map_none, Option.bind_some, Option.bind_none, Option.getD_none, xfld_exc, Nat.reduceBEq, allX, set_lst, Bm.ok, all, List.any_cons, List.any_nil, List.contains_cons, List.contains_nil, Option.isSome_some, lookF, putF, wipeS, backS, List.getElem?_cons_zero, List.getElem?_cons_succ, List.length_cons, List.length_nil, List.map_cons, List.map_nil, List.replicate_zero, List.replicate_succ, List.cons_append, List.nil_append, List.set_cons_zero, List.set_cons_succ, List.getElem?_nil, Nat.reduceAdd, Nat.reduceSub, Nat.reduceLeDiff, Nat.reduceLT, Nat.reduceEqDiff, big, Int.cast_ofNat_Int, Int.reduceLE, Int.reduceLT, Int.reduceNeg, Int.reduceAdd, Int.reduceSub, Int.reduceMul, Int.reducePow, Int.reduceAbs, Int.reduceToNat, Int.reduceEq, Int.reduceDiv, Int.reduceMod, upTo, ↓lcH_nil, ↓lcH_cons, if_true, if_false, ↓reduceIte, eq_self, String.reduceEq, mergeD, cmp_eq, cmp_ne, cmp_nin_lst, List.length_map, *])
/-- the draws' two things in front of the store -/
abbrev drs (great cells : List Int) (rest turn : Int) (m : Store) : Store := .lst (great.map .int) :: .dct [.str "great", .str "rest", .str "cells", .str "turn"] [.ref 0, .int rest, .lst (cells.map .int), .int turn] :: m
def Draws (s m : Store) : Prop := ∃ great cells rest turn, s = drs great cells rest turn m

theorem blend_loop1 {s : Store} {r t f p : Int} {N : QN} {P : Rst} {h : Hd N} {h2 : Hd P} {d0 : D} (hp : 0 < p) : ∀ (cells : List Int) (b : Int) (sl : Slot), 0 ≤ b → b < p →
    (∀ b sl, 0 ≤ b → b < p → N [.val d0, .val (.int t), .val (.int f), .val (.int p), .val (.int b), sl] s) →
    loopH (.name 5) l__law_blend_1 (cells.map .int) [.val d0, .val (.int t), .val (.int f), .val (.int p), .val (.int b), sl] s N P h h2
  | [], b, sl, h1, h3, hN => hN b sl h1 h3
  | c :: cs, b, sl, h1, h3, hN => by
    rw [List.map_cons, loopH_cons]
    unfold l__law_blend_1
    walk_at "hps"
    exact blend_loop1 (r := r) hp cs _ _ (Int.emod_nonneg _ (by omega)) (Int.emod_lt_of_pos _ hp) hN
theorem blend_turn {great cells : List Int} {rest turn : Int} {m : Store} {N : QN} {P : Rst} {h : Hd N} {h2 : Hd P} {t f p : Int} {s4 s5 : Slot} (hp : 0 < p) (hp2 : p < 4294967296)
    (hN : ∀ f s3 s4 s5, N [.val (.ref 1), .val (.int t), .val (.int f), s3, s4, s5] (drs great cells rest turn m)) :
    xB l__law_blend_2 [.val (.ref 1), .val (.int t), .val (.int f), .val (.int p), s4, s5] (drs great cells rest turn m) N P h h2 := by
  unfold l__law_blend_2
  walk_at "hps"
  with_reducible refine blend_loop1 (r := 0) hp _ _ _ (Int.emod_nonneg _ (by omega)) (Int.emod_lt_of_pos _ hp) fun b sl h1 h3 => ?_
  have e : b.natAbs < 18446744073709551616 := by omega
  walk_at "hps"
theorem blend_spec {great cells : List Int} {rest turn : Int} {m : Store} {Q : Out → Store → Prop} {X : Exc → Store → Prop} {h : Hd Q} {h2 : Hd X} (hQ : ∀ i turn, Q (.val (.int i)) (drs great cells rest turn m)) : callH g__law_blend [.ref 1] (drs great cells rest turn m) Q X h h2 := by
  unfold g__law_blend b__law_blend
  walk_at "hp"
  with_reducible refine blend_turn (by decide) (by decide) fun f s3 s4 s5 => ?_
  walk_at "hp"
  with_reducible refine blend_turn (by decide) (by decide) fun f s3 s4 s5 => ?_
  walk_at "hp"
  with_reducible refine blend_turn (by decide) (by decide) fun f s3 s4 s5 => ?_
  walk_at "hp"
  with_reducible refine blend_turn (by decide) (by decide) fun f s3 s4 s5 => ?_
  walk_at "hp"
  exact hQ _ _
/-- one number is drawn -/
theorem take_spec {s m : Store} {n : Int} {Q : Out → Store → Prop} {X : Exc → Store → Prop} {h : Hd Q} {h2 : Hd X} (hs : Draws s m) (h0 : 0 < n) (h1 : n < 18446744073709551616) (hQ : ∀ i s, 0 ≤ i → i < n → Draws s m → Q (.val (.int i)) s) :
    callH g__law_take [.ref 1, .int n] s Q X h h2 := by
  obtain ⟨great, cells, rest, turn, rfl⟩ := hs
  unfold g__law_take b__law_take
  have fin : ∀ (great cells : List Int) (rest turn : Int), Q (.val (.int (rest % n))) (drs great cells (rest / n) turn m) := fun great cells rest turn => hQ _ _ (Int.emod_nonneg _ (by omega)) (Int.emod_lt_of_pos _ h0) ⟨_, _, _, _, rfl⟩
  clear hQ
  by_cases h3 : rest = 0
  · cases great with
    | nil =>
      walk_at "hps"
      with_reducible refine blend_spec fun i turn => ?_
      walk_at "hps"
      exact fin [] _ _ _
    | cons g gs =>
      by_cases h4 : g = 0
      · walk_at "hps"
        with_reducible refine blend_spec fun i turn => ?_
        walk_at "hps"
      · walk_at "hps"
  · walk_at "hps"
/-- the beginning of the draws -/
theorem begin_spec {ns : List Int} {Q : Out → Store → Prop} {X : Exc → Store → Prop} {h : Hd Q} {h2 : Hd X} (hl : ns.length ≤ 63) (hQ : ∀ s, Draws s [] → Q (.val (.ref 1)) s) : callH g__law_begin [.scr (ns.map .int)] [] Q X h h2 := by
  unfold g__law_begin b__law_begin
  walk_at "hp"
  rw [lc_fm (fun x : Int => decide ((10 : Int) ^ 18 ≤ if x < 0 then -x else x)) (fun x : Int => D.int ((if x < 0 then -x else x) - 10 ^ 18)) (fun x K => by walk_at "hp") (fun x K _ => by walk_at "hp") (by unfold big; omega)]
  walk_at "hp"
  rw [lc_map (fun x : Int => D.int (if x < 0 then -x else x)) (fun x K => by walk_at "hp") (by unfold big; omega)]
  walk_at "hp"
  refine hQ _ ⟨((ns.filter (fun x : Int => decide ((10 : Int) ^ 18 ≤ if x < 0 then -x else x))).map (fun x : Int => (if x < 0 then -x else x) - 10 ^ 18)), ns.map (fun x : Int => if x < 0 then -x else x), 0, 0, ?_⟩
  rw [drs, List.map_map, List.map_map]
  rfl
end HP

set_option maxHeartbeats 600000
namespace HP
open PySem
/-! P4: a drawn order. -/
variable {s m : Store} {Q : Out → Store → Prop} {X : Exc → Store → Prop} {h : Hd Q} {h2 : Hd X}
end HP

set_option maxHeartbeats 600000
namespace HP
open PySem
/-! P5: what laws do with records and rules. -/
variable {s : Store} {Q : Out → Store → Prop} {X : Exc → Store → Prop} {h : Hd Q} {h2 : Hd X}
theorem rec_fold (t p z : Int) (d : Bool) : D.tup [.int t, .bl d, .int p, .int z] = Rec.D ⟨t, d, p, z⟩ := rfl
theorem rule_isIns (r : RuleM) : isIns "Rule" r.D = true := by simp [isIns, RuleM.D]
theorem rule_noField (r : RuleM) : noField "with_part" r.D = true := by simp [noField, RuleM.D, ofString_inj]
theorem rec_sl3 (r : Rec) : slSem r.D none (some 3) = some (.val (.tup [.int r.t, .bl r.d, .int r.p])) := rfl
theorem rec_sl1 (r : Rec) : slSem r.D (some 1) none = some (.val (.tup [.bl r.d, .int r.p, .int r.s])) := rfl
/-! ### joins by one key -/
end HP

set_option maxHeartbeats 600000
namespace HP
open PySem
/-! P6: drawn choices, drawn models of rules, drawn records. -/
variable {s m : Store} {Q : Out → Store → Prop} {X : Exc → Store → Prop} {h : Hd Q} {h2 : Hd X}
local macro_rules | `(tactic| walk_at "hp") => `(tactic| simp (config := { dsimp := false, failIfUnchanged := false, implicitDefEqProofs := false }) only [↓hpPre, hpPost, ↓loopH_cons, pick, List.getD_cons_zero, List.getD_cons_succ, Option.getD_some, Option.map_some, Option.map_none, Option.bind_some, Option.bind_none, Option.getD_none, xfld_exc, Nat.reduceBEq, allX, set_lst, Bm.ok, all, List.any_cons, List.any_nil, List.contains_cons, List.contains_nil, Option.isSome_some, lookF, putF, wipeS, backS, List.getElem?_cons_zero, List.getElem?_cons_succ, List.length_cons, List.length_nil, List.map_cons, List.map_nil, List.replicate_zero, List.replicate_succ, List.cons_append, List.nil_append, List.set_cons_zero, List.set_cons_succ, List.getElem?_nil, Nat.reduceAdd, Nat.reduceSub, Nat.reduceLeDiff, Nat.reduceLT, Nat.reduceEqDiff, big, Int.cast_ofNat_Int, Int.reduceLE, Int.reduceLT, Int.reduceNeg, Int.reduceAdd, Int.reduceSub, Int.reduceMul, Int.reducePow, Int.reduceAbs, Int.reduceToNat, Int.reduceEq, Int.reduceDiv, Int.reduceMod, upTo, ↓lcH_nil, ↓lcH_cons, if_true, if_false, ↓reduceIte, eq_self, String.reduceEq, mergeD, cmp_eq, cmp_ne, cmp_nin_lst, List.length_map, rec_view, rec_ok, rec_eq, ↓rec_tup, rec_ix0, rec_ix1, rec_ix2, rec_ix3, rule_view, rule_f0, rule_f1, rule_f2, rule_f3, max_rec, rec_fold, rule_frz, rule_isIns, rule_noField, rec_sl3, rec_sl1])
theorem pick_spec {l : List D} (hs : Draws s m) (hl : 0 < l.length) (hb : l.length ≤ 1000) (hQ : ∀ x ∈ l, ∀ s, Draws s m → Q (.val x) s) : callH g__law_pick [.ref 1, .lst l] s Q X h h2 := by
  unfold g__law_pick b__law_pick
  walk_at "hp"
  with_reducible refine take_spec hs (by omega) (by omega) fun k s' k0 k1 hs' => ?_
  walk_at "hp"
  obtain ⟨n, rfl⟩ := Int.eq_ofNat_of_zero_le k0
  have hn : n < l.length := by omega
  have e : L2.atI l ((n : Nat) : Int) = some l[n] := by rw [atI_nat, List.getElem?_eq_getElem hn]
  rw [e]
  walk_at "hp"
  exact hQ _ (List.getElem_mem hn) _ hs'
/-! ### the model of a rule -/
def RuleM.W (r : RuleM) : Cont := .dct [.str "order", .str "kept", .str "slack", .str "raises"] [.tup (r.order.map .str), .tup (r.kept.map .str), .int r.slack, .tup (r.raises.map .str)]
def RuleM.WD (r : RuleM) : HP.D := .dct [.str "order", .str "kept", .str "slack", .str "raises"] [.tup (r.order.map .str), .tup (r.kept.map .str), .int r.slack, .tup (r.raises.map .str)]
end HP

set_option maxHeartbeats 600000
namespace HP
open PySem
/-! P7: the laws' own stronger one and join. -/
variable {s m : Store} {Q : Out → Store → Prop} {X : Exc → Store → Prop} {h : Hd Q} {h2 : Hd X}
inductive Key4 where
  | turn | done | newest | furthest
deriving DecidableEq
def Key4.str : Key4 → Str
  | .turn => "turn"
  | .done => "done"
  | .newest => "newest"
  | .furthest => "furthest"
def bInt (b : Bool) : Int := if b then 1 else 0
def newM (r : RuleM) (a b : Rec) : Int := if r.slack < (if a.s - b.s < 0 then -(a.s - b.s) else a.s - b.s) then a.s - b.s else 0
def gapM (r : RuleM) (a b : Rec) : Key4 → Int
  | .turn => a.t - b.t
  | .done => bInt a.d - bInt b.d
  | .newest => newM r a b
  | .furthest => a.p - b.p
end HP

set_option maxHeartbeats 600000
namespace HP
open PySem
/-! P8: drawn records. -/
variable {s m : Store} {Q : Out → Store → Prop} {X : Exc → Store → Prop} {h : Hd Q} {h2 : Hd X}
/-- a record of numbers up to b -/
structure Rec.In (b : Int) (r : Rec) : Prop where
  t0 : 0 ≤ r.t
  t1 : r.t ≤ b
  p0 : 0 ≤ r.p
  p1 : r.p ≤ b
  s0 : 0 ≤ r.s
  s1 : r.s ≤ b
theorem Rec.In.ok {b : Int} {r : Rec} (q : r.In b) : r.Ok := ⟨q.t0, q.p0, q.s0⟩
theorem Rec.In.mono {b c : Int} {r : Rec} (q : r.In b) (h : b ≤ c) : r.In c := ⟨q.t0, Int.le_trans q.t1 h, q.p0, Int.le_trans q.p1 h, q.s0, Int.le_trans q.s1 h⟩
end HP

set_option maxHeartbeats 600000
namespace HP
open PySem
/-! P9: laws of joins; what is shown of records. -/
variable {s m : Store} {Q : Out → Store → Prop} {X : Exc → Store → Prop} {h : Hd Q} {h2 : Hd X}
def inAll (lo hi : Int) (l : List D) : Bool := l.all fun d => match d with
  | .int i => decide (lo ≤ i) && decide (i ≤ hi)
  | _ => false
/-! ### joins -/
/-! ### repr -/
end HP

set_option maxHeartbeats 600000
namespace HP
open PySem
/-! U1: values with a change somewhere in them. -/
/-- the words that such values hold -/
def wordsU : List Str := ["", "a", "hear", "turn", "again", "back", "finish", "2", "0"]
/-- small letters alone -/
def lowU (x : Str) : Bool := x.cps.toList.all fun c => decide (97 ≤ c) && decide (c ≤ 122)
def wordU (x : Str) : Bool := wordsU.contains x || lowU x
mutual
/-- small numbers, words -/
def smi : D → Bool
  | .str x => wordU x
  | .int i => decide (-9 ≤ i) && decide (i ≤ 999999)
  | .tup xs => smis xs
  | .lst xs => smis xs
  | .dct ks vs => ks.isEmpty && vs.isEmpty
  | .tab _ _ => false
  | _ => true
def smis : List D → Bool
  | [] => true
  | x :: xs => smi x && smis xs
end
/-- such values: of depth c at most -/
structure Bv (c : Nat) (d : D) : Prop where
  ok : okR c d = true
  sm : smi d = true
  sz : (rsz d).isSome = true
def rn (d : D) : Nat := (rsz d).getD 0
def rns (ds : List D) : Nat := (ds.map fun d => rn d + 1).sum
theorem okR_mono {c c' : Nat} {d : D} (h : c ≤ c') (q : okR c d = true) : okR c' d = true := by
  simp only [okR, Bool.and_eq_true, decide_eq_true_eq] at q ⊢
  exact ⟨q.1, by omega⟩
theorem Bv.mono {c c' : Nat} {d : D} (q : Bv c d) (h : c ≤ c') : Bv c' d := ⟨okR_mono h q.ok, q.sm, q.sz⟩
theorem Bv.view {c : Nat} {d : D} (q : Bv c d) (s : Store) : view s d = d := by
  cases d <;> first | rfl | (have := q.ok; simp [okR, D.plainR] at this)
/-- what stands in the place of a part -/
abbrev odds : List D := [.non, .int 0, .int 1, .int 2, .int (-1), .bl true, .bl false, .str "", .str "a", .str "hear", .str "turn", .tup [], .lst [], .dct [] [], .tup [.int 0], .tup [.str "again"], .tup [.int 0, .bl false, .int 0, .int 0]]
end HP

set_option maxHeartbeats 600000
namespace HP
open PySem
/-! U2: a change somewhere in a value. -/
variable {m : Store} {X : Exc → Store → Prop} {h2 : Hd X}

end HP

set_option maxHeartbeats 600000
namespace HP
open PySem
/-! U3: what is a record, told by the program and by the law. -/
variable {s m : Store} {Q : Out → Store → Prop} {X : Exc → Store → Prop} {h : Hd Q} {h2 : Hd X}
/-- a natural number -/
def natB : D → Bool
  | .int i => decide (0 ≤ i)
  | _ => false
def blB : D → Bool
  | .bl _ => true
  | _ => false
/-- a record -/
def recB : D → Bool
  | .tup [a, b, c, d] => blB b && (natB a && (natB c && natB d))
  | _ => false
end HP

set_option maxHeartbeats 600000
namespace HP
open PySem
/-! U4: what is refused; what a lambda does; what is caught of it. -/
variable {s m : Store} {Q : Out → Store → Prop} {X : Exc → Store → Prop} {h : Hd Q} {h2 : Hd X}
/-- the lambda f returns, or raises r -/
def Acted (f : Fn) (s : Store) (r : Option Exc) : Prop := ∀ (K : Out → Store → Prop) (Z : Exc → Store → Prop) (h : Hd K) (h2 : Hd Z), (match r with | none => ∀ o, K o s | some e => Z e s) → callH f [] s K Z h h2
def excD : Option Exc → D
  | none => .non
  | some e => .exc e.c e.arg.toList

/-- what is raised -/
def dueE (isr : Bool) (u v : D) : Option Exc := if isr = true then (if (recB u && recB v) = true then none else some ⟨"BadRecord", none⟩) else some ⟨"BadRule", some .non⟩

end HP

set_option maxHeartbeats 600000
namespace HP
open PySem
/-! W1: drawn names. -/
variable {s m : Store} {Q : Out → Store → Prop} {X : Exc → Store → Prop} {h : Hd Q} {h2 : Hd X}
def ch (c : Nat) : Str := ⟨#[c]⟩
def abc : Str := "abcdefghijklmnopqrstuvwxyz"
def mkS (l : List Nat) : Str := ⟨l.toArray⟩
def nearN (l : List Nat) : List (List Nat) := l :: letters26.map fun c => l.take 7 ++ [c]
def ten : List Str := ["a", "b", "hear", "back", "again", "done", "send", "come", "one", "zzzzzzzz"]
def TenSlot (sl : Slot) : Prop := sl = .own (.lst (ten.map .str)) ∨ sl = .val (.lst (ten.map .str))

end HP

set_option maxHeartbeats 600000
namespace HP
open PySem
/-! W2: names, houses. -/
variable {s m : Store} {Q : Out → Store → Prop} {X : Exc → Store → Prop} {h : Hd Q} {h2 : Hd X}

/-! ### models of houses -/
def HouseM.H (h : HouseM) : HP.D := .dct [.str "way", .str "top", .str "devices", .str "error"] [h.rule.WD, .int h.top, .lst (h.devs.map .str), .int h.err]
def HouseM.HC (h : HouseM) : Cont := .dct [.str "way", .str "top", .str "devices", .str "error"] [h.rule.WD, .int h.top, .lst (h.devs.map .str), .int h.err]
end HP

set_option maxHeartbeats 600000
namespace HP
open PySem
/-! K01L: the law of errors made by hand. -/
variable {s m : Store} {Q : Out → Store → Prop} {X : Exc → Store → Prop} {h0 : Hd Q} {h2 : Hd X} {c : Str} {vs : List D}
theorem mkx_call (c : Str) (d : D) : callH (mkxF c) [d] s Q X h0 h2 = Q (.val (.exc c [d])) s := rfl
theorem xstr_call {c t : Str} (hc : (allX.contains c && decide (excFld c = none)) = true) : callH (xstrF allX) [.exc c [.str t]] s Q X h0 h2 = Q (.val (.str t)) s := by
  show (_ ∧ _) = _
  simp only [hc, true_and]
def marks14 : List Str := ["BadRecord", "BadRule", "BadDeed", "BadHouse", "BadRow", "BadRecords", "BadBounds", "BadWish", "BadNumber", "BadChoice", "NoDevice", "NothingDone", "BadJournal", "BadText"]
def due14 (p : Int) : List Bool := [0, 1, 2, 3, 4, 5, 6, 7, 8, 9, 10, 11, 12, 13].map fun k : Int => decide (k = p)
theorem eq_bls : ∀ bs : List Bool, eqDs (bs.map D.bl) (bs.map D.bl) = true
  | [] => by simp [eqDs_nil]
  | b :: bs => by
    have := eq_bls bs
    have e : eqD (.bl b) (.bl b) = true := by cases b <;> rfl
    simpa [eqDs_cons, e] using this
local macro_rules | `(tactic| walk_at "hps") => `(tactic| simp (config := { dsimp := false, failIfUnchanged := false, implicitDefEqProofs := false }) only [↓hpPre, hpPost, ↓loopH_cons, pick, List.getD_cons_zero, List.getD_cons_succ, Option.getD_some, Option.map_some, Option.map_none, Option.bind_some, Option.bind_none, Option.getD_none, xfld_exc, Nat.reduceBEq, allX, set_lst, Bm.ok, all, List.any_cons, List.any_nil, List.contains_cons, List.contains_nil, Option.isSome_some, lookF, putF, wipeS, backS, List.getElem?_cons_zero, List.getElem?_cons_succ, List.length_cons, List.length_nil, List.map_cons, List.map_nil, List.replicate_zero, List.replicate_succ, List.cons_append, List.nil_append, List.set_cons_zero, List.set_cons_succ, List.getElem?_nil, Nat.reduceAdd, Nat.reduceSub, Nat.reduceLeDiff, Nat.reduceLT, Nat.reduceEqDiff, big, Int.cast_ofNat_Int, Int.reduceLE, Int.reduceLT, Int.reduceNeg, Int.reduceAdd, Int.reduceSub, Int.reduceMul, Int.reducePow, Int.reduceAbs, Int.reduceToNat, Int.reduceEq, Int.reduceDiv, Int.reduceMod, upTo, ↓lcH_nil, ↓lcH_cons, if_true, if_false, ↓reduceIte, eq_self, String.reduceEq, mergeD, cmp_eq, cmp_ne, cmp_nin_lst, List.length_map, rec_view, rec_ok, rec_eq, ↓rec_tup, rec_ix0, rec_ix1, rec_ix2, rec_ix3, rule_view, rule_f0, rule_f1, rule_f2, rule_f3, max_rec, isx_exc, *])
theorem law_marks_eq (hc : allX.contains c = true) : callH g__law_marks [.exc c vs] s Q X h0 h2 = Q (.own (.lst (marks14.map fun t => D.bl (isSub c t)))) s := by
  simp only [marks14, List.map_cons, List.map_nil]
  unfold g__law_marks b__law_marks
  walk_at "hps"
local macro_rules | `(tactic| walk_at "hp") => `(tactic| simp (config := { dsimp := false, failIfUnchanged := false, implicitDefEqProofs := false }) only [↓hpPre, hpPost, ↓loopH_cons, pick, List.getD_cons_zero, List.getD_cons_succ, Option.getD_some, Option.map_some, Option.map_none, Option.bind_some, Option.bind_none, Option.getD_none, xfld_exc, Nat.reduceBEq, allX, set_lst, Bm.ok, all, List.any_cons, List.any_nil, List.contains_cons, List.contains_nil, Option.isSome_some, lookF, putF, wipeS, backS, List.getElem?_cons_zero, List.getElem?_cons_succ, List.length_cons, List.length_nil, List.map_cons, List.map_nil, List.replicate_zero, List.replicate_succ, List.cons_append, List.nil_append, List.set_cons_zero, List.set_cons_succ, List.getElem?_nil, Nat.reduceAdd, Nat.reduceSub, Nat.reduceLeDiff, Nat.reduceLT, Nat.reduceEqDiff, big, Int.cast_ofNat_Int, Int.reduceLE, Int.reduceLT, Int.reduceNeg, Int.reduceAdd, Int.reduceSub, Int.reduceMul, Int.reducePow, Int.reduceAbs, Int.reduceToNat, Int.reduceEq, Int.reduceDiv, Int.reduceMod, upTo, ↓lcH_nil, ↓lcH_cons, if_true, if_false, ↓reduceIte, eq_self, String.reduceEq, mergeD, cmp_eq, cmp_ne, cmp_nin_lst, List.length_map, rec_view, rec_ok, rec_eq, ↓rec_tup, rec_ix0, rec_ix1, rec_ix2, rec_ix3, rule_view, rule_f0, rule_f1, rule_f2, rule_f3, max_rec, isx_exc])
local macro_rules | `(tactic| walk_at "hps") => `(tactic| simp (config := { dsimp := false, failIfUnchanged := false, implicitDefEqProofs := false }) only [↓hpPre, hpPost, ↓loopH_cons, pick, List.getD_cons_zero, List.getD_cons_succ, Option.getD_some, Option.map_some, Option.map_none, Option.bind_some, Option.bind_none, Option.getD_none, xfld_exc, Nat.reduceBEq, allX, set_lst, Bm.ok, all, List.any_cons, List.any_nil, List.contains_cons, List.contains_nil, Option.isSome_some, lookF, putF, wipeS, backS, List.getElem?_cons_zero, List.getElem?_cons_succ, List.length_cons, List.length_nil, List.map_cons, List.map_nil, List.replicate_zero, List.replicate_succ, List.cons_append, List.nil_append, List.set_cons_zero, List.set_cons_succ, List.getElem?_nil, Nat.reduceAdd, Nat.reduceSub, Nat.reduceLeDiff, Nat.reduceLT, Nat.reduceEqDiff, big, Int.cast_ofNat_Int, Int.reduceLE, Int.reduceLT, Int.reduceNeg, Int.reduceAdd, Int.reduceSub, Int.reduceMul, Int.reducePow, Int.reduceAbs, Int.reduceToNat, Int.reduceEq, Int.reduceDiv, Int.reduceMod, upTo, ↓lcH_nil, ↓lcH_cons, if_true, if_false, ↓reduceIte, eq_self, String.reduceEq, mergeD, cmp_eq, cmp_ne, cmp_nin_lst, List.length_map, rec_view, rec_ok, rec_eq, ↓rec_tup, rec_ix0, rec_ix1, rec_ix2, rec_ix3, rule_view, rule_f0, rule_f1, rule_f2, rule_f3, max_rec, isx_exc, *])
theorem law_alone_eq {p : Int} (hc : allX.contains c = true) (hm : (marks14.map fun t => isSub c t) = due14 p) (h1 : isSub c "PlaceError" = true) (h3 : isSub c "ValueError" = true) : callH g__law_alone [.exc c vs, .int p] s Q X h0 h2 = Q (.val (.bl true)) s := by
  have e1 : (marks14.map fun t => D.bl (isSub c t)) = (due14 p).map D.bl := by rw [← hm, List.map_map]; rfl
  have e2 : ([.bl (decide (0 = p)), .bl (decide (1 = p)), .bl (decide (2 = p)), .bl (decide (3 = p)), .bl (decide (4 = p)), .bl (decide (5 = p)), .bl (decide (6 = p)), .bl (decide (7 = p)), .bl (decide (8 = p)), .bl (decide (9 = p)), .bl (decide (10 = p)), .bl (decide (11 = p)), .bl (decide (12 = p)), .bl (decide (13 = p))] : List D) = (due14 p).map D.bl := rfl
  have n14 : rngOk 0 14 = true := by decide +kernel
  unfold g__law_alone b__law_alone
  walk_at "hp"
  rw [n14]
  walk_at "hp"
  rw [e2, law_marks_eq hc, e1]
  walk_at "hp"
  rw [eq_bls]
  walk_at "hps"
def plainL (t : D) : List (Int × Str) → List D := List.map fun p => .tup [.int p.1, .exc p.2 [t]]
def plain7 : List (Int × Str) := [(0, "BadRecord"), (2, "BadDeed"), (6, "BadBounds"), (8, "BadNumber"), (9, "BadChoice"), (11, "NothingDone"), (99, "PlaceError")]
local macro_rules | `(tactic| walk_at "hp") => `(tactic| simp (config := { dsimp := false, failIfUnchanged := false, implicitDefEqProofs := false }) only [↓hpPre, hpPost, ↓loopH_cons, pick, List.getD_cons_zero, List.getD_cons_succ, Option.getD_some, Option.map_some, Option.map_none, Option.bind_some, Option.bind_none, Option.getD_none, xfld_exc, Nat.reduceBEq, allX, set_lst, Bm.ok, all, List.any_cons, List.any_nil, List.contains_cons, List.contains_nil, Option.isSome_some, lookF, putF, wipeS, backS, List.getElem?_cons_zero, List.getElem?_cons_succ, List.length_cons, List.length_nil, List.map_cons, List.map_nil, List.replicate_zero, List.replicate_succ, List.cons_append, List.nil_append, List.set_cons_zero, List.set_cons_succ, List.getElem?_nil, Nat.reduceAdd, Nat.reduceSub, Nat.reduceLeDiff, Nat.reduceLT, Nat.reduceEqDiff, big, Int.cast_ofNat_Int, Int.reduceLE, Int.reduceLT, Int.reduceNeg, Int.reduceAdd, Int.reduceSub, Int.reduceMul, Int.reducePow, Int.reduceAbs, Int.reduceToNat, Int.reduceEq, Int.reduceDiv, Int.reduceMod, upTo, ↓lcH_nil, ↓lcH_cons, if_true, if_false, ↓reduceIte, eq_self, String.reduceEq, mergeD, cmp_eq, cmp_ne, cmp_nin_lst, List.length_map, rec_view, rec_ok, rec_eq, ↓rec_tup, rec_ix0, rec_ix1, rec_ix2, rec_ix3, rule_view, rule_f0, rule_f1, rule_f2, rule_f3, max_rec, ↓mkx_call])
theorem law_plain_eq (t : Str) : callH g__law_plain [.str t] s Q X h0 h2 = Q (.own (.lst (plainL (.str t) plain7))) s := by
  simp only [plainL, plain7, List.map_cons, List.map_nil]
  unfold g__law_plain b__law_plain
  walk_at "hp"
def fieldL (v : D) : List (Int × Str) → List D := List.map fun p => .tup [.int p.1, .exc p.2 [v], v]
def field16 : List (Int × Str) := [(1, "BadRule"), (1, "BadRule"), (3, "BadHouse"), (3, "BadHouse"), (4, "BadRow"), (4, "BadRow"), (5, "BadRecords"), (5, "BadRecords"), (7, "BadWish"), (7, "BadWish"), (12, "BadJournal"), (12, "BadJournal"), (10, "NoDevice"), (10, "NoDevice"), (13, "BadText"), (13, "BadText")]
theorem xf_part (v : D) : xfldSem allX "part" (.exc "BadRule" [v]) = some v ∧ xfldSem allX "part" (.exc "BadHouse" [v]) = some v :=
  ⟨(xfld_exc _ _ _ _).trans (if_pos (by decide +kernel)), (xfld_exc _ _ _ _).trans (if_pos (by decide +kernel))⟩
theorem xf_at (v : D) : xfldSem allX "at" (.exc "BadRow" [v]) = some v ∧ xfldSem allX "at" (.exc "BadRecords" [v]) = some v ∧ xfldSem allX "at" (.exc "BadWish" [v]) = some v ∧ xfldSem allX "at" (.exc "BadJournal" [v]) = some v :=
  ⟨(xfld_exc _ _ _ _).trans (if_pos (by decide +kernel)), (xfld_exc _ _ _ _).trans (if_pos (by decide +kernel)), (xfld_exc _ _ _ _).trans (if_pos (by decide +kernel)), (xfld_exc _ _ _ _).trans (if_pos (by decide +kernel))⟩
theorem xf_name (v : D) : xfldSem allX "name" (.exc "NoDevice" [v]) = some v ∧ xfldSem allX "line" (.exc "BadText" [v]) = some v :=
  ⟨(xfld_exc _ _ _ _).trans (if_pos (by decide +kernel)), (xfld_exc _ _ _ _).trans (if_pos (by decide +kernel))⟩
local macro_rules | `(tactic| walk_at "hp") => `(tactic| simp (config := { dsimp := false, failIfUnchanged := false, implicitDefEqProofs := false }) only [↓hpPre, hpPost, ↓loopH_cons, pick, List.getD_cons_zero, List.getD_cons_succ, Option.getD_some, Option.map_some, Option.map_none, Option.bind_some, Option.bind_none, Option.getD_none,  Nat.reduceBEq, allX, set_lst, Bm.ok, all, List.any_cons, List.any_nil, List.contains_cons, List.contains_nil, Option.isSome_some, lookF, putF, wipeS, backS, List.getElem?_cons_zero, List.getElem?_cons_succ, List.length_cons, List.length_nil, List.map_cons, List.map_nil, List.replicate_zero, List.replicate_succ, List.cons_append, List.nil_append, List.set_cons_zero, List.set_cons_succ, List.getElem?_nil, Nat.reduceAdd, Nat.reduceSub, Nat.reduceLeDiff, Nat.reduceLT, Nat.reduceEqDiff, big, Int.cast_ofNat_Int, Int.reduceLE, Int.reduceLT, Int.reduceNeg, Int.reduceAdd, Int.reduceSub, Int.reduceMul, Int.reducePow, Int.reduceAbs, Int.reduceToNat, Int.reduceEq, Int.reduceDiv, Int.reduceMod, upTo, ↓lcH_nil, ↓lcH_cons, if_true, if_false, ↓reduceIte, eq_self, String.reduceEq, mergeD, cmp_eq, cmp_ne, cmp_nin_lst, List.length_map, rec_view, rec_ok, rec_eq, ↓rec_tup, rec_ix0, rec_ix1, rec_ix2, rec_ix3, rule_view, rule_f0, rule_f1, rule_f2, rule_f3, max_rec, ↓mkx_call, xf_part, xf_at, xf_name, enumD])
theorem law_fields_eq (v : D) (hv : ∀ s, view s v = v) : callH g__law_with_fields [v] s Q X h0 h2 = Q (.own (.lst (fieldL v field16))) s := by
  simp only [fieldL, field16, List.map_cons, List.map_nil]
  unfold g__law_with_fields b__law_with_fields
  walk_at "hp"
/-! ### the loops -/
def lone14 (q : Int × Str) : Bool := decide ((marks14.map fun t => isSub q.2 t) = due14 q.1) && (isSub q.2 "PlaceError" && isSub q.2 "ValueError")
def good1 (q : Int × Str) : Bool := (allX.contains q.2 && decide (excFld q.2 = none)) && (!decide (q.1 < 14) || lone14 q)
def good2 (q : Int × Str) : Bool := allX.contains q.2 && lone14 q
theorem goods : plain7.all good1 = true ∧ field16.all good2 = true := by decide +kernel
theorem lone_eq {q : Int × Str} (hc : allX.contains q.2 = true) (h : lone14 q = true) : callH g__law_alone [.exc q.2 vs, .int q.1] s Q X h0 h2 = Q (.val (.bl true)) s := by
  unfold lone14 at h
  simp only [Bool.and_eq_true, decide_eq_true_eq] at h
  exact law_alone_eq hc h.1 h.2.1 h.2.2
local macro_rules | `(tactic| walk_at "hp") => `(tactic| simp (config := { dsimp := false, failIfUnchanged := false, implicitDefEqProofs := false }) only [↓hpPre, hpPost,  pick, List.getD_cons_zero, List.getD_cons_succ, Option.getD_some, Option.map_some, Option.map_none, Option.bind_some, Option.bind_none, Option.getD_none, xfld_exc, Nat.reduceBEq, allX, set_lst, Bm.ok, all, List.any_cons, List.any_nil, List.contains_cons, List.contains_nil, Option.isSome_some, lookF, putF, wipeS, backS, List.getElem?_cons_zero, List.getElem?_cons_succ, List.length_cons, List.length_nil, List.map_cons, List.map_nil, List.replicate_zero, List.replicate_succ, List.cons_append, List.nil_append, List.set_cons_zero, List.set_cons_succ, List.getElem?_nil, Nat.reduceAdd, Nat.reduceSub, Nat.reduceLeDiff, Nat.reduceLT, Nat.reduceEqDiff, big, Int.cast_ofNat_Int, Int.reduceLE, Int.reduceLT, Int.reduceNeg, Int.reduceAdd, Int.reduceSub, Int.reduceMul, Int.reducePow, Int.reduceAbs, Int.reduceToNat, Int.reduceEq, Int.reduceDiv, Int.reduceMod, upTo, ↓lcH_nil, ↓lcH_cons, if_true, if_false, ↓reduceIte, eq_self, String.reduceEq, mergeD, cmp_eq, cmp_ne, cmp_nin_lst, List.length_map, rec_view, rec_ok, rec_eq, ↓rec_tup, rec_ix0, rec_ix1, rec_ix2, rec_ix3, rule_view, rule_f0, rule_f1, rule_f2, rule_f3, max_rec])
theorem loop1 {t : Str} {d0 d1 d2 d4 d7 d8 : Slot} {N : QN} {P : Rst} {h3 : Hd N} {h4 : Hd P} (hN : ∀ s5 s6, N [d0, d1, d2, .val (.str t), d4, s5, s6, d7, d8] s) : ∀ (ps : List (Int × Str)) (s5 s6 : Slot), (∀ q ∈ ps, good1 q = true) →
    loopH (.tup [.name 5, .name 6]) l_law_1 (plainL (.str t) ps) [d0, d1, d2, .val (.str t), d4, s5, s6, d7, d8] s N P h3 h4
  | [], s5, s6, hg => hN _ _
  | q :: ps, s5, s6, hg => by
    have ih := loop1 (h3 := h3) (h4 := h4) hN ps
    have hq := hg q (List.mem_cons_self ..)
    unfold good1 at hq
    rw [Bool.and_eq_true] at hq
    have hc : allX.contains q.2 = true := (Bool.and_eq_true _ _ ▸ hq.1 : _ ∧ _).1
    have e1 := fun (Q : Out → Store → Prop) (X : Exc → Store → Prop) (h0 : Hd Q) (h2 : Hd X) => xstr_call (s := s) (Q := Q) (X := X) (h0 := h0) (h2 := h2) (t := t) hq.1
    have step : plainL (.str t) (q :: ps) = .tup [.int q.1, .exc q.2 [.str t]] :: plainL (.str t) ps := rfl
    rw [step, loopH_cons]
    unfold l_law_1
    walk_at "hp"
    rw [e1]
    walk_at "hp"
    by_cases hp : q.1 < 14
    · have hp' : decide (q.1 < 14) = true := decide_eq_true hp
      have hl : lone14 q = true := by
        have := hq.2
        rw [hp'] at this
        exact this
      rw [hp']
      walk_at "hp"
      rw [lone_eq hc hl]
      walk_at "hp"
      exact ih _ _ fun z hz => hg z (List.mem_cons_of_mem _ hz)
    · have hp' : decide (q.1 < 14) = false := decide_eq_false hp
      rw [hp']
      walk_at "hp"
      exact ih _ _ fun z hz => hg z (List.mem_cons_of_mem _ hz)
theorem loop2 {v : D} {t : Str} (hr : biSem .repr [v] = some (.val (.str t))) (hv : ∀ s, view s v = v) {d0 d1 d2 d3 d8 : Slot} {N : QN} {P : Rst} {h3 : Hd N} {h4 : Hd P} (hN : ∀ s5 s6 s7, N [d0, d1, d2, d3, .val v, s5, s6, s7, d8] s) : ∀ (ps : List (Int × Str)) (s5 s6 s7 : Slot), (∀ q ∈ ps, good2 q = true) →
    loopH (.tup [.name 5, .name 6, .name 7]) l_law_2 (fieldL v ps) [d0, d1, d2, d3, .val v, s5, s6, s7, d8] s N P h3 h4
  | [], s5, s6, s7, hg => hN _ _ _
  | q :: ps, s5, s6, s7, hg => by
    have ih := loop2 hr hv (h3 := h3) (h4 := h4) hN ps
    have hq := hg q (List.mem_cons_self ..)
    unfold good2 at hq
    rw [Bool.and_eq_true] at hq
    have step : fieldL v (q :: ps) = .tup [.int q.1, .exc q.2 [v], v] :: fieldL v ps := rfl
    rw [step, loopH_cons]
    unfold l_law_2
    walk_at "hp"
    rw [lone_eq hq.1 hq.2]
    walk_at "hp"
    rw [hv]
    walk_at "hp"
    rw [hr]
    walk_at "hp"
    rw [hv]
    walk_at "hp"
    rw [hr]
    walk_at "hp"
    exact ih _ _ _ fun z hz => hg z (List.mem_cons_of_mem _ hz)
/-! ### the law -/
def ItemV (v : D) : Prop := (∀ s, view s v = v) ∧ ∃ t, biSem .repr [v] = some (.val (.str t))
theorem repr_of {v : D} (h : (v.plainR && decide (v.pyR.depth ≤ 60) && v.pyR.showable && decide (v.pyR.shown.length ≤ big)) = true) : ∃ t, biSem .repr [v] = some (.val (.str t)) := by
  refine ⟨v.pyR.shown, ?_⟩
  show (reprSem v).map (fun x => Out.val (.str x)) = _
  unfold reprSem
  rw [if_pos h]
  rfl
theorem items9 : ∀ v ∈ ([.int 0, .int 1, .non, .str "order", .str "a", .tup [.int 1, .non], .tup [.tup [.int 0, .bl true]], .lst [.int 3], .int 1000000000000] : List D), ItemV v := by
  intro v hv
  simp only [List.mem_cons, List.not_mem_nil, or_false] at hv
  rcases hv with rfl | rfl | rfl | rfl | rfl | rfl | rfl | rfl | rfl
  all_goals exact ⟨fun _ => rfl, repr_of (by decide +kernel)⟩
theorem mul14 : binSem .mul (.lst [.bl false]) (.int 14) = some (.own (.lst ((marks14.map fun t => D.bl (isSub "PlaceError" t))))) := by
  have e : (marks14.map fun t => isSub "PlaceError" t) = List.replicate 14 false := by decide +kernel
  have e2 : (marks14.map fun t => D.bl (isSub "PlaceError" t)) = (List.replicate 14 false).map D.bl := by rw [← e, List.map_map]; rfl
  rw [e2]
  rfl
theorem ne_ms : eqDs (marks14.map fun t => D.bl (isSub "PlaceError" t)) (marks14.map fun t => D.bl (isSub "PlaceError" t)) = true := by
  have e2 : (marks14.map fun t => D.bl (isSub "PlaceError" t)) = (marks14.map fun t => isSub "PlaceError" t).map D.bl := by rw [List.map_map]; rfl
  rw [e2]
  exact eq_bls _
theorem pe_in : allX.contains (Str.ofString "PlaceError") = true := by decide +kernel
local macro_rules | `(tactic| walk_at "hp") => `(tactic| simp (config := { dsimp := false, failIfUnchanged := false, implicitDefEqProofs := false }) only [↓hpPre, hpPost, ↓loopH_cons, pick, List.getD_cons_zero, List.getD_cons_succ, Option.getD_some, Option.map_some, Option.map_none, Option.bind_some, Option.bind_none, Option.getD_none, xfld_exc, Nat.reduceBEq, allX, set_lst, Bm.ok, all, List.any_cons, List.any_nil, List.contains_cons, List.contains_nil, Option.isSome_some, lookF, putF, wipeS, backS, List.getElem?_cons_zero, List.getElem?_cons_succ, List.length_cons, List.length_nil, List.map_cons, List.map_nil, List.replicate_zero, List.replicate_succ, List.cons_append, List.nil_append, List.set_cons_zero, List.set_cons_succ, List.getElem?_nil, Nat.reduceAdd, Nat.reduceSub, Nat.reduceLeDiff, Nat.reduceLT, Nat.reduceEqDiff, big, Int.cast_ofNat_Int, Int.reduceLE, Int.reduceLT, Int.reduceNeg, Int.reduceAdd, Int.reduceSub, Int.reduceMul, Int.reducePow, Int.reduceAbs, Int.reduceToNat, Int.reduceEq, Int.reduceDiv, Int.reduceMod, upTo, ↓lcH_nil, ↓lcH_cons, if_true, if_false, ↓reduceIte, eq_self, String.reduceEq, mergeD, cmp_eq, cmp_ne, cmp_nin_lst, List.length_map, rec_view, rec_ok, rec_eq, ↓rec_tup, rec_ix0, rec_ix1, rec_ix2, rec_ix3, rule_view, rule_f0, rule_f1, rule_f2, rule_f3, max_rec, ↓mkx_call, isx_exc])
theorem turn01 {d0 d2 s3 s4 s5 s6 s7 s8 : Slot} {N : QN} {P : Rst} {h3 : Hd N} {h4 : Hd P} (hs : Draws s m)
    (hN : ∀ s3 s4 s5 s6 s7 s8 s, Draws s m → N [d0, .val (.ref 1), d2, s3, s4, s5, s6, s7, s8] s) :
    xB l_law_3 [d0, .val (.ref 1), d2, s3, s4, s5, s6, s7, s8] s N P h3 h4 := by
  unfold l_law_3
  walk_at "hp"
  refine pick_spec (h := ⟨⟩) (h2 := ⟨⟩) hs (by simp) (by simp) fun x hx s1 hs1 => ?_
  obtain ⟨t, rfl⟩ : ∃ t : Str, x = .str t := by
    simp only [List.mem_cons, List.not_mem_nil, or_false] at hx
    rcases hx with rfl | rfl | rfl | rfl <;> exact ⟨_, rfl⟩
  clear hx
  walk_at "hp"
  refine pick_spec (h := ⟨⟩) (h2 := ⟨⟩) hs1 (by simp) (by simp) fun v hv s2 hs2 => ?_
  obtain ⟨hv1, r, hr⟩ := items9 v hv
  clear hv
  walk_at "hp"
  rw [law_plain_eq]
  walk_at "hp"
  refine loop1 (h3 := ⟨⟩) (h4 := ⟨⟩) (fun s5 s6 => ?_) plain7 _ _ (List.all_eq_true.mp goods.1)
  walk_at "hp"
  rw [law_fields_eq v hv1]
  walk_at "hp"
  refine loop2 (h3 := ⟨⟩) (h4 := ⟨⟩) hr hv1 (fun s5 s6 s7 => ?_) field16 _ _ _ (List.all_eq_true.mp goods.2)
  walk_at "hp"
  rw [law_marks_eq pe_in]
  walk_at "hp"
  rw [mul14]
  walk_at "hp"
  rw [ne_ms]
  walk_at "hp"
  exact hN _ _ _ _ _ _ _ hs2
local macro_rules | `(tactic| walk_at "hp") => `(tactic| simp (config := { dsimp := false, failIfUnchanged := false, implicitDefEqProofs := false }) only [↓hpPre, hpPost,  pick, List.getD_cons_zero, List.getD_cons_succ, Option.getD_some, Option.map_some, Option.map_none, Option.bind_some, Option.bind_none, Option.getD_none, xfld_exc, Nat.reduceBEq, allX, set_lst, Bm.ok, all, List.any_cons, List.any_nil, List.contains_cons, List.contains_nil, Option.isSome_some, lookF, putF, wipeS, backS, List.getElem?_cons_zero, List.getElem?_cons_succ, List.length_cons, List.length_nil, List.map_cons, List.map_nil, List.replicate_zero, List.replicate_succ, List.cons_append, List.nil_append, List.set_cons_zero, List.set_cons_succ, List.getElem?_nil, Nat.reduceAdd, Nat.reduceSub, Nat.reduceLeDiff, Nat.reduceLT, Nat.reduceEqDiff, big, Int.cast_ofNat_Int, Int.reduceLE, Int.reduceLT, Int.reduceNeg, Int.reduceAdd, Int.reduceSub, Int.reduceMul, Int.reducePow, Int.reduceAbs, Int.reduceToNat, Int.reduceEq, Int.reduceDiv, Int.reduceMod,  ↓lcH_nil, ↓lcH_cons, if_true, if_false, ↓reduceIte, eq_self, String.reduceEq, mergeD, cmp_eq, cmp_ne, cmp_nin_lst, List.length_map, rec_view, rec_ok, rec_eq, ↓rec_tup, rec_ix0, rec_ix1, rec_ix2, rec_ix3, rule_view, rule_f0, rule_f1, rule_f2, rule_f3, max_rec])
theorem outer01 {d0 : Slot} {N : QN} {P : Rst} {h3 : Hd N} {h4 : Hd P} (hN : ∀ s2 s3 s4 s5 s6 s7 s8 s, N [d0, .val (.ref 1), s2, s3, s4, s5, s6, s7, s8] s) : ∀ (k : Nat) (a : Int) (s m : Store) (s2 s3 s4 s5 s6 s7 s8 : Slot), Draws s m →
    loopH (.name 2) l_law_3 (upTo a k) [d0, .val (.ref 1), s2, s3, s4, s5, s6, s7, s8] s N P h3 h4
  | 0, a, s, m, s2, s3, s4, s5, s6, s7, s8, hs => hN _ _ _ _ _ _ _ s
  | k + 1, a, s, m, s2, s3, s4, s5, s6, s7, s8, hs => by
    rw [upTo, loopH_cons]
    walk_at "hp"
    refine turn01 (h3 := ⟨⟩) (h4 := ⟨⟩) hs fun s3 s4 s5 s6 s7 s8 s hs => ?_
    exact outer01 hN k (a + 1) s m _ _ _ _ _ _ _ hs
theorem plain (ns : List Int) (hl : ns.length ≤ 63) : HP.g_law [.scr (ns.map .int)] [] (fun o _ => o = .val (.bl true)) (fun _ _ => False) := by
  show callH (mkFn 1 9 b_law) [.scr (ns.map .int)] [] (fun o _ => o = .val (.bl true)) (fun _ _ => False)
  unfold b_law
  walk_at "hp"
  refine begin_spec hl fun s hs => ?_
  walk_at "hp"
  have hr : rngOk 0 (1 + if 3 < (ns.length : Int) then 3 else (ns.length : Int)) = true := by
    unfold rngOk
    simp only [Bool.and_eq_true, decide_eq_true_eq]
    split <;> omega
  rw [hr]
  walk_at "hp"
  with_reducible refine outer01 (fun s2 s3 s4 s5 s6 s7 s8 s => ?_) _ _ _ _ _ _ _ _ _ _ _ hs
  walk_at "hp"
end HP

set_option maxHeartbeats 0
namespace HP
open PySem L2
section
variable {w : World} {K : PySem.W.Frag} {mg : Str → Option Value} {base : Heap}
theorem m_ValueError (T : Tt K mg base) : mg "ValueError" = none := T.free 0 rfl
theorem m_abs (T : Tt K mg base) : mg "abs" = none := T.free 1 rfl
theorem m_enumerate (T : Tt K mg base) : mg "enumerate" = none := T.free 2 rfl
theorem m_int (T : Tt K mg base) : mg "int" = none := T.free 3 rfl
theorem m_isinstance (T : Tt K mg base) : mg "isinstance" = none := T.free 4 rfl
theorem m_len (T : Tt K mg base) : mg "len" = none := T.free 5 rfl
theorem m_min (T : Tt K mg base) : mg "min" = none := T.free 6 rfl
theorem m_range (T : Tt K mg base) : mg "range" = none := T.free 7 rfl
theorem m_repr (T : Tt K mg base) : mg "repr" = none := T.free 8 rfl
theorem m_str (T : Tt K mg base) : mg "str" = none := T.free 9 rfl
theorem m_super (T : Tt K mg base) : mg "super" = none := T.free 10 rfl
theorem m_BadBounds (T : Tt K mg base) : mg "BadBounds" = some (.ref (He.ga K "BadBounds")) := T.glo 12 rfl
theorem m_BadChoice (T : Tt K mg base) : mg "BadChoice" = some (.ref (He.ga K "BadChoice")) := T.glo 13 rfl
theorem m_BadDeed (T : Tt K mg base) : mg "BadDeed" = some (.ref (He.ga K "BadDeed")) := T.glo 14 rfl
theorem m_BadHouse (T : Tt K mg base) : mg "BadHouse" = some (.ref (He.ga K "BadHouse")) := T.glo 15 rfl
theorem m_BadJournal (T : Tt K mg base) : mg "BadJournal" = some (.ref (He.ga K "BadJournal")) := T.glo 16 rfl
theorem m_BadNumber (T : Tt K mg base) : mg "BadNumber" = some (.ref (He.ga K "BadNumber")) := T.glo 17 rfl
theorem m_BadRecord (T : Tt K mg base) : mg "BadRecord" = some (.ref (He.ga K "BadRecord")) := T.glo 18 rfl
theorem m_BadRecords (T : Tt K mg base) : mg "BadRecords" = some (.ref (He.ga K "BadRecords")) := T.glo 19 rfl
theorem m_BadRow (T : Tt K mg base) : mg "BadRow" = some (.ref (He.ga K "BadRow")) := T.glo 20 rfl
theorem m_BadRule (T : Tt K mg base) : mg "BadRule" = some (.ref (He.ga K "BadRule")) := T.glo 21 rfl
theorem m_BadText (T : Tt K mg base) : mg "BadText" = some (.ref (He.ga K "BadText")) := T.glo 22 rfl
theorem m_BadWish (T : Tt K mg base) : mg "BadWish" = some (.ref (He.ga K "BadWish")) := T.glo 23 rfl
theorem m_NoDevice (T : Tt K mg base) : mg "NoDevice" = some (.ref (He.ga K "NoDevice")) := T.glo 24 rfl
theorem m_NothingDone (T : Tt K mg base) : mg "NothingDone" = some (.ref (He.ga K "NothingDone")) := T.glo 25 rfl
theorem m_PlaceError (T : Tt K mg base) : mg "PlaceError" = some (.ref (He.ga K "PlaceError")) := T.glo 26 rfl
theorem m__law_alone (T : Tt K mg base) : mg "_law_alone" = some (.ref (He.ga K "_law_alone")) := T.glo 27 rfl
theorem m__law_begin (T : Tt K mg base) : mg "_law_begin" = some (.ref (He.ga K "_law_begin")) := T.glo 28 rfl
theorem m__law_blend (T : Tt K mg base) : mg "_law_blend" = some (.ref (He.ga K "_law_blend")) := T.glo 29 rfl
theorem m__law_marks (T : Tt K mg base) : mg "_law_marks" = some (.ref (He.ga K "_law_marks")) := T.glo 30 rfl
theorem m__law_pick (T : Tt K mg base) : mg "_law_pick" = some (.ref (He.ga K "_law_pick")) := T.glo 31 rfl
theorem m__law_plain (T : Tt K mg base) : mg "_law_plain" = some (.ref (He.ga K "_law_plain")) := T.glo 32 rfl
theorem m__law_take (T : Tt K mg base) : mg "_law_take" = some (.ref (He.ga K "_law_take")) := T.glo 33 rfl
theorem m__law_with_fields (T : Tt K mg base) : mg "_law_with_fields" = some (.ref (He.ga K "_law_with_fields")) := T.glo 34 rfl
theorem sysm (T : Tt K mg base) : (K.lookup sysModules).isSome = true := T.exs 1 rfl
theorem excF (T : Tt K mg base) : ∀ c ∈ allX, ExcF allX K c := excB_ok (T.exs 2 rfl)
theorem xstrT (T : Tt K mg base) : xstrB allX K = true := T.exs 3 rfl
theorem su_BadHouse (T : Tt K mg base) : SupC P K (He.ga K "BadHouse") "part" := supC_of (.inl rfl) (T.exs 4 rfl) (by decide +kernel) (T.sup 9 rfl) ⟨_, _, rfl⟩ rfl ⟨_, _, _, _, _, _, _, _, _, _, rfl, rfl⟩
theorem su_BadJournal (T : Tt K mg base) : SupC P K (He.ga K "BadJournal") "at" := supC_of (.inr (.inl rfl)) (T.exs 5 rfl) (by decide +kernel) (T.sup 10 rfl) ⟨_, _, rfl⟩ rfl ⟨_, _, _, _, _, _, _, _, _, _, rfl, rfl⟩
theorem su_BadRecords (T : Tt K mg base) : SupC P K (He.ga K "BadRecords") "at" := supC_of (.inr (.inl rfl)) (T.exs 6 rfl) (by decide +kernel) (T.sup 11 rfl) ⟨_, _, rfl⟩ rfl ⟨_, _, _, _, _, _, _, _, _, _, rfl, rfl⟩
theorem su_BadRow (T : Tt K mg base) : SupC P K (He.ga K "BadRow") "at" := supC_of (.inr (.inl rfl)) (T.exs 7 rfl) (by decide +kernel) (T.sup 12 rfl) ⟨_, _, rfl⟩ rfl ⟨_, _, _, _, _, _, _, _, _, _, rfl, rfl⟩
theorem su_BadRule (T : Tt K mg base) : SupC P K (He.ga K "BadRule") "part" := supC_of (.inl rfl) (T.exs 8 rfl) (by decide +kernel) (T.sup 13 rfl) ⟨_, _, rfl⟩ rfl ⟨_, _, _, _, _, _, _, _, _, _, rfl, rfl⟩
theorem su_BadText (T : Tt K mg base) : SupC P K (He.ga K "BadText") "line" := supC_of (.inr (.inr (.inr rfl))) (T.exs 9 rfl) (by decide +kernel) (T.sup 14 rfl) ⟨_, _, rfl⟩ rfl ⟨_, _, _, _, _, _, _, _, _, _, rfl, rfl⟩
theorem su_BadWish (T : Tt K mg base) : SupC P K (He.ga K "BadWish") "at" := supC_of (.inr (.inl rfl)) (T.exs 10 rfl) (by decide +kernel) (T.sup 15 rfl) ⟨_, _, rfl⟩ rfl ⟨_, _, _, _, _, _, _, _, _, _, rfl, rfl⟩
theorem su_NoDevice (T : Tt K mg base) : SupC P K (He.ga K "NoDevice") "name" := supC_of (.inr (.inr (.inl rfl))) (T.exs 11 rfl) (by decide +kernel) (T.sup 16 rfl) ⟨_, _, rfl⟩ rfl ⟨_, _, _, _, _, _, _, _, _, _, rfl, rfl⟩
theorem sc__law_marks : FnScope ["_law_error", "_law_some"] ["_law_error"] (defScope s__law_marks) := ⟨rfl, rfl, rfl, by decide +kernel, rfl, by decide +kernel, by decide +kernel⟩
theorem ok__law_marks (T : Tt K mg base) : OkG P w K mg base 1 (He.ga K "_law_marks") ["_law_error"] (spG K g__law_marks) :=
  okG_of (k := 0) (T.fn 0 rfl) (fun _ _ _ _ _ _ us hl => match us, hl with | [_], _ => rfl) sc__law_marks rfl rfl fun cdv B out z G Z κ ok g hp =>
    ss_cons (st_set jT g.nd rfl (.inl rfl) (se_lst (sa_cons rfl (se_isx (excF T) (.inr (exm_mem rfl)) rfl (m_isinstance T) rfl rfl rfl (fun _ => rfl) (se_v rfl rfl rfl rfl) (scx_own rfl (m_BadRecord T) rfl (by decide))) (sa_cons rfl (se_isx (excF T) (.inr (exm_mem rfl)) rfl (m_isinstance T) rfl rfl rfl (fun _ => rfl) (se_v rfl rfl rfl rfl) (scx_own rfl (m_BadRule T) rfl (by decide))) (sa_cons rfl (se_isx (excF T) (.inr (exm_mem rfl)) rfl (m_isinstance T) rfl rfl rfl (fun _ => rfl) (se_v rfl rfl rfl rfl) (scx_own rfl (m_BadDeed T) rfl (by decide))) sa_nil)))) rfl (.inr rfl)) (ss_cons (st_set jT g.nd rfl (.inl rfl) (se_bin g.hu0 .add (se_v rfl rfl rfl rfl) (se_lst (sa_cons rfl (se_isx (excF T) (.inr (exm_mem rfl)) rfl (m_isinstance T) rfl rfl rfl (fun _ => rfl) (se_v rfl rfl rfl rfl) (scx_own rfl (m_BadHouse T) rfl (by decide))) (sa_cons rfl (se_isx (excF T) (.inr (exm_mem rfl)) rfl (m_isinstance T) rfl rfl rfl (fun _ => rfl) (se_v rfl rfl rfl rfl) (scx_own rfl (m_BadRow T) rfl (by decide))) (sa_cons rfl (se_isx (excF T) (.inr (exm_mem rfl)) rfl (m_isinstance T) rfl rfl rfl (fun _ => rfl) (se_v rfl rfl rfl rfl) (scx_own rfl (m_BadRecords T) rfl (by decide))) sa_nil))))) rfl (.inr rfl)) (ss_cons (st_set jT g.nd rfl (.inl rfl) (se_bin g.hu0 .add (se_v rfl rfl rfl rfl) (se_lst (sa_cons rfl (se_isx (excF T) (.inr (exm_mem rfl)) rfl (m_isinstance T) rfl rfl rfl (fun _ => rfl) (se_v rfl rfl rfl rfl) (scx_own rfl (m_BadBounds T) rfl (by decide))) (sa_cons rfl (se_isx (excF T) (.inr (exm_mem rfl)) rfl (m_isinstance T) rfl rfl rfl (fun _ => rfl) (se_v rfl rfl rfl rfl) (scx_own rfl (m_BadWish T) rfl (by decide))) (sa_cons rfl (se_isx (excF T) (.inr (exm_mem rfl)) rfl (m_isinstance T) rfl rfl rfl (fun _ => rfl) (se_v rfl rfl rfl rfl) (scx_own rfl (m_BadNumber T) rfl (by decide))) sa_nil))))) rfl (.inr rfl)) (ss_cons (st_set jT g.nd rfl (.inl rfl) (se_bin g.hu0 .add (se_v rfl rfl rfl rfl) (se_lst (sa_cons rfl (se_isx (excF T) (.inr (exm_mem rfl)) rfl (m_isinstance T) rfl rfl rfl (fun _ => rfl) (se_v rfl rfl rfl rfl) (scx_own rfl (m_BadChoice T) rfl (by decide))) (sa_cons rfl (se_isx (excF T) (.inr (exm_mem rfl)) rfl (m_isinstance T) rfl rfl rfl (fun _ => rfl) (se_v rfl rfl rfl rfl) (scx_own rfl (m_NoDevice T) rfl (by decide))) (sa_cons rfl (se_isx (excF T) (.inr (exm_mem rfl)) rfl (m_isinstance T) rfl rfl rfl (fun _ => rfl) (se_v rfl rfl rfl rfl) (scx_own rfl (m_NothingDone T) rfl (by decide))) sa_nil))))) rfl (.inr rfl)) (ss_cons (st_ret (fun _ => nofun) (se_bin g.hu0 .add (se_v rfl rfl rfl rfl) (se_lst (sa_cons rfl (se_isx (excF T) (.inr (exm_mem rfl)) rfl (m_isinstance T) rfl rfl rfl (fun _ => rfl) (se_v rfl rfl rfl rfl) (scx_own rfl (m_BadJournal T) rfl (by decide))) (sa_cons rfl (se_isx (excF T) (.inr (exm_mem rfl)) rfl (m_isinstance T) rfl rfl rfl (fun _ => rfl) (se_v rfl rfl rfl rfl) (scx_own rfl (m_BadText T) rfl (by decide))) sa_nil))))) ss_nil))))
theorem sc__law_plain : FnScope ["_law_page", "_law_some"] ["_law_page"] (defScope s__law_plain) := ⟨rfl, rfl, rfl, by decide +kernel, rfl, by decide +kernel, by decide +kernel⟩
theorem ok__law_plain (T : Tt K mg base) : OkG P w K mg base 1 (He.ga K "_law_plain") ["_law_page"] (spG K g__law_plain) :=
  okG_of (k := 0) (T.fn 1 rfl) (fun _ _ _ _ _ _ us hl => match us, hl with | [_], _ => rfl) sc__law_plain rfl rfl fun cdv B out z G Z κ ok g hp =>
    ss_cons (st_set jT g.nd rfl (.inl rfl) (se_lst (sa_cons rfl (se_tup (sa_cons rfl se_int (sa_cons rfl (se_mkxT (excF T) (exm_mem rfl) (by decide +kernel) (m_BadRecord T) rfl rfl rfl (fun _ => rfl) (se_v rfl rfl rfl rfl)) sa_nil))) (sa_cons rfl (se_tup (sa_cons rfl se_int (sa_cons rfl (se_mkxT (excF T) (exm_mem rfl) (by decide +kernel) (m_BadDeed T) rfl rfl rfl (fun _ => rfl) (se_v rfl rfl rfl rfl)) sa_nil))) (sa_cons rfl (se_tup (sa_cons rfl se_int (sa_cons rfl (se_mkxT (excF T) (exm_mem rfl) (by decide +kernel) (m_BadBounds T) rfl rfl rfl (fun _ => rfl) (se_v rfl rfl rfl rfl)) sa_nil))) (sa_cons rfl (se_tup (sa_cons rfl se_int (sa_cons rfl (se_mkxT (excF T) (exm_mem rfl) (by decide +kernel) (m_BadNumber T) rfl rfl rfl (fun _ => rfl) (se_v rfl rfl rfl rfl)) sa_nil))) sa_nil))))) rfl (.inr rfl)) (ss_cons (st_ret (fun _ => nofun) (se_bin g.hu0 .add (se_v rfl rfl rfl rfl) (se_lst (sa_cons rfl (se_tup (sa_cons rfl se_int (sa_cons rfl (se_mkxT (excF T) (exm_mem rfl) (by decide +kernel) (m_BadChoice T) rfl rfl rfl (fun _ => rfl) (se_v rfl rfl rfl rfl)) sa_nil))) (sa_cons rfl (se_tup (sa_cons rfl se_int (sa_cons rfl (se_mkxT (excF T) (exm_mem rfl) (by decide +kernel) (m_NothingDone T) rfl rfl rfl (fun _ => rfl) (se_v rfl rfl rfl rfl)) sa_nil))) (sa_cons rfl (se_tup (sa_cons rfl se_int (sa_cons rfl (se_mkxT (excF T) (exm_mem rfl) (by decide +kernel) (m_PlaceError T) rfl rfl rfl (fun _ => rfl) (se_v rfl rfl rfl rfl)) sa_nil))) sa_nil)))))) ss_nil)
theorem sc__law_blend : FnScope ["_law_draw", "_law_turn", "_law_found", "_law_prime", "_law_blend_here", "_law_cell"] ["_law_draw"] (defScope s__law_blend) := ⟨rfl, rfl, rfl, by decide +kernel, rfl, by decide +kernel, by decide +kernel⟩
theorem ok__law_blend (T : Tt K mg base) : OkG P w K mg base 1 (He.ga K "_law_blend") ["_law_draw"] (spG K g__law_blend) :=
  okG_of (k := 0) (T.fn 2 rfl) (fun _ _ _ _ _ _ us hl => match us, hl with | [_], _ => rfl) sc__law_blend rfl rfl fun cdv B out z G Z κ ok g hp =>
    ss_cons (st_set jT g.nd rfl (.inl rfl) (se_bin g.hu0 .add (se_ix g.hu (se_v rfl rfl rfl rfl) se_str (fun _ _ => rfl)) se_int) rfl (.inr rfl)) (ss_cons (st_setix g.hu (se_v rfl rfl rfl rfl) se_str (se_v rfl rfl rfl rfl) rfl rfl rfl (fun _ => rfl)) (ss_cons (st_set jT g.nd rfl (.inl rfl) se_int rfl (.inr rfl)) (ss_cons (st_for hp g.calm (si_seq (se_lst (sa_cons rfl se_int (sa_cons rfl se_int (sa_cons rfl se_int (sa_cons rfl se_int sa_nil)))))) (tg_name jT g.nd rfl (.inl rfl) (.inr rfl)) (ss_cons (st_set jT g.nd rfl (.inl rfl) (se_bin g.hu0 .mod (se_callTy cr_int rfl (m_int T) (by decide +kernel) (by decide) rfl rfl rfl (fun _ => rfl) (sa_cons rfl (se_bin g.hu0 .add (se_bin g.hu0 .mul (se_v rfl rfl rfl rfl) se_int) (se_bin g.hu0 .fdiv (se_v rfl rfl rfl rfl) se_int)) sa_nil)) (se_v rfl rfl rfl rfl)) rfl (.inr rfl)) (ss_cons (st_for hp g.calm (si_seq (se_ix g.hu (se_v rfl rfl rfl rfl) se_str (fun _ _ => rfl))) (tg_name jT g.nd rfl (.inl rfl) (.inr rfl)) (ss_cons (st_set jT g.nd rfl (.inl rfl) (se_bin g.hu0 .mod (se_callTy cr_int rfl (m_int T) (by decide +kernel) (by decide) rfl rfl rfl (fun _ => rfl) (sa_cons rfl (se_bin g.hu0 .add (se_bin g.hu0 .mul (se_v rfl rfl rfl rfl) se_int) (se_v rfl rfl rfl rfl)) sa_nil)) (se_v rfl rfl rfl rfl)) rfl (.inr rfl)) ss_nil) (fun _ => rfl)) (ss_cons (st_set jT g.nd rfl (.inl rfl) (se_bin g.hu0 .add (se_bin g.hu0 .mul (se_v rfl rfl rfl rfl) se_int) (se_bin g.hu0 .mod (se_callTy cr_int rfl (m_int T) (by decide +kernel) (by decide) rfl rfl rfl (fun _ => rfl) (sa_cons rfl (se_bin g.hu0 .pow (se_v rfl rfl rfl rfl) se_int) sa_nil)) (se_v rfl rfl rfl rfl))) rfl (.inr rfl)) ss_nil))) (fun _ => rfl)) (ss_cons (st_retV (pe_v rfl rfl rfl rfl)) ss_nil))))
theorem sc__law_begin : FnScope ["_law_script", "_law_great", "_law_cell"] ["_law_script"] (defScope s__law_begin) := ⟨rfl, rfl, rfl, by decide +kernel, rfl, by decide +kernel, by decide +kernel⟩
theorem ok__law_begin (T : Tt K mg base) : OkG P w K mg base 1 (He.ga K "_law_begin") ["_law_script"] (spG K g__law_begin) :=
  okG_of (k := 0) (T.fn 3 rfl) (fun _ _ _ _ _ _ us hl => match us, hl with | [_], _ => rfl) sc__law_begin rfl rfl fun cdv B out z G Z κ ok g hp =>
    ss_cons (st_setLcA (own := [("_law_cell", 2)]) jT g.calm g.nd rfl rfl rfl (si_seq (se_v rfl rfl rfl rfl)) (blkOk_by rfl) (fun z1 G1 C1 cl1 fp1 J1 h1 => tg_name (h1 2 (by decide)) (g.blk _ z1 G1 C1 cl1 fp1).nd rfl (.inl rfl) (.inr rfl)) (fun z1 G1 C1 cl1 fp1 => sif_one (se_cmp (g.blk _ z1 G1 C1 cl1 fp1).hu .ge (se_callB cr_abs rfl (m_abs T) (by decide +kernel) (by decide) rfl rfl rfl (fun _ => rfl) (sa_cons rfl (se_v rfl rfl rfl rfl) sa_nil)) (se_bin (g.blk _ z1 G1 C1 cl1 fp1).hu0 .pow se_int se_int) rfl)) (fun z1 G1 C1 cl1 fp1 => se_bin (g.blk _ z1 G1 C1 cl1 fp1).hu0 .sub (se_callB cr_abs rfl (m_abs T) (by decide +kernel) (by decide) rfl rfl rfl (fun _ => rfl) (sa_cons rfl (se_v rfl rfl rfl rfl) sa_nil)) (se_bin (g.blk _ z1 G1 C1 cl1 fp1).hu0 .pow se_int se_int)) (fun _ => rfl)) (ss_cons (st_ret (fun _ => nofun) (se_alloc (fun _ => rfl) (se_dct (sp_cons se_str (se_v rfl rfl rfl rfl) (sp_cons se_str se_int (sp_cons se_str (se_lc (own := [("_law_cell", 2)]) g.calm g.nd (si_seq (se_v rfl rfl rfl rfl)) (blkOk_by rfl) (fun z1 G1 C1 cl1 fp1 J1 h1 => tg_name (h1 2 (by decide)) (g.blk _ z1 G1 C1 cl1 fp1).nd rfl (.inl rfl) (.inr rfl)) (fun z1 G1 C1 cl1 fp1 => sif_nil) (fun z1 G1 C1 cl1 fp1 => se_callB cr_abs rfl (m_abs T) (by decide +kernel) (by decide) rfl rfl rfl (fun _ => rfl) (sa_cons rfl (se_v rfl rfl rfl rfl) sa_nil)) (fun _ => rfl) (fun _ => rfl)) (sp_cons se_str se_int sp_nil)))) rfl rfl nofun (by decide)))) ss_nil)
theorem sc__law_alone : FnScope ["_law_error", "_law_place", "_law_due", "_law_k"] ["_law_error", "_law_place"] (defScope s__law_alone) := ⟨rfl, rfl, rfl, by decide +kernel, rfl, by decide +kernel, by decide +kernel⟩
theorem ok__law_alone (T : Tt K mg base) : OkG P w K mg base 2 (He.ga K "_law_alone") ["_law_error", "_law_place"] (spG K g__law_alone) :=
  okG_of (k := 1) (T.fn 4 rfl) (fun _ _ _ _ _ _ us hl => match us, hl with | [_, _], _ => rfl) sc__law_alone rfl rfl fun cdv B out z G Z κ ok g hp =>
    ss_cons (st_setLc (own := [("_law_k", 3)]) jT g.calm g.nd rfl rfl rfl (si_rng1 rfl (m_range T) se_int rfl) (blkOk_by rfl) (fun z1 G1 C1 cl1 fp1 J1 h1 => tg_name (h1 3 (by decide)) (g.blk _ z1 G1 C1 cl1 fp1).nd rfl (.inl rfl) (.inr rfl)) (fun z1 G1 C1 cl1 fp1 => sif_nil) (fun z1 G1 C1 cl1 fp1 => se_cmp (g.blk _ z1 G1 C1 cl1 fp1).hu .eq (se_v rfl rfl rfl rfl) (se_v rfl rfl rfl rfl) rfl) (fun _ => rfl)) (ss_cons (st_ret (fun _ => nofun) (se_bo (fun _ _ _ _ _ => rfl) (sb_and (se_cmp g.hu .eq (se_cG (ok__law_marks T) g (by decide) (m__law_marks T) rfl rfl rfl rfl (fun _ => rfl) (sa_cons rfl (se_v rfl rfl rfl rfl) sa_nil)) (se_v rfl rfl rfl rfl) rfl) (sb_and (se_isx (excF T) (.inr (exm_mem rfl)) rfl (m_isinstance T) rfl rfl rfl (fun _ => rfl) (se_v rfl rfl rfl rfl) (scx_own rfl (m_PlaceError T) rfl (by decide))) (sb_one (se_isx (excF T) (.inl rfl) rfl (m_isinstance T) rfl rfl rfl (fun _ => rfl) (se_v rfl rfl rfl rfl) (scx_ve rfl (m_ValueError T)))))))) ss_nil)
theorem sc__law_with_fields : FnScope ["_law_item", "_law_some", "_law_done", "_law_k", "_law_error"] ["_law_item"] (defScope s__law_with_fields) := ⟨rfl, rfl, rfl, by decide +kernel, rfl, by decide +kernel, by decide +kernel⟩
theorem ok__law_with_fields (T : Tt K mg base) : OkG P w K mg base 2 (He.ga K "_law_with_fields") ["_law_item"] (spG K g__law_with_fields) :=
  okG_of (k := 1) (T.fn 5 rfl) (fun _ _ _ _ _ _ us hl => match us, hl with | [_], _ => rfl) sc__law_with_fields rfl rfl fun cdv B out z G Z κ ok g hp =>
    ss_cons (st_set jT g.nd rfl (.inl rfl) (se_lst (sa_cons rfl (se_mkxI (su_BadRule T) (by decide +kernel) (g.room.mono (by decide)) (m_BadRule T) (m_super T) rfl rfl rfl (fun _ => rfl) (se_v rfl rfl rfl rfl)) (sa_cons rfl (se_mkxK (su_BadRule T) (by decide +kernel) (g.room.mono (by decide)) (m_BadRule T) (m_super T) rfl rfl rfl rfl rfl (fun _ => rfl) (sk_cons (se_v rfl rfl rfl rfl) sk_nil)) (sa_cons rfl (se_mkxI (su_BadHouse T) (by decide +kernel) (g.room.mono (by decide)) (m_BadHouse T) (m_super T) rfl rfl rfl (fun _ => rfl) (se_v rfl rfl rfl rfl)) (sa_cons rfl (se_mkxK (su_BadHouse T) (by decide +kernel) (g.room.mono (by decide)) (m_BadHouse T) (m_super T) rfl rfl rfl rfl rfl (fun _ => rfl) (sk_cons (se_v rfl rfl rfl rfl) sk_nil)) sa_nil))))) rfl (.inr rfl)) (ss_cons (st_setLc (own := [("_law_k", 3), ("_law_error", 4)]) jT g.calm g.nd rfl rfl rfl (si_enum rfl (m_enumerate T) (se_v rfl rfl rfl rfl) rfl) (blkOk_by rfl) (fun z1 G1 C1 cl1 fp1 J1 h1 => tg_tup (g.blk _ z1 G1 C1 cl1 fp1).calm (tgs_cons (tg_name (h1 3 (by decide)) (g.blk _ z1 G1 C1 cl1 fp1).nd rfl (.inl rfl) (.inr rfl)) (tgs_cons (tg_name (h1 4 (by decide)) (g.blk _ z1 G1 C1 cl1 fp1).nd rfl (.inl rfl) (.inr rfl)) tgs_nil rfl) rfl) rfl rfl) (fun z1 G1 C1 cl1 fp1 => sif_nil) (fun z1 G1 C1 cl1 fp1 => se_tup (sa_cons rfl (se_ix (g.blk _ z1 G1 C1 cl1 fp1).hu (se_lst (sa_cons rfl se_int (sa_cons rfl se_int sa_nil))) (se_bin (g.blk _ z1 G1 C1 cl1 fp1).hu0 .fdiv (se_v rfl rfl rfl rfl) se_int) (fun _ _ => rfl)) (sa_cons rfl (se_v rfl rfl rfl rfl) (sa_cons rfl (se_xfld (excF T) rfl (se_v rfl rfl rfl rfl)) sa_nil)))) (fun _ => rfl)) (ss_cons (st_set jT g.nd rfl (.inl rfl) (se_lst (sa_cons rfl (se_mkxI (su_BadRow T) (by decide +kernel) (g.room.mono (by decide)) (m_BadRow T) (m_super T) rfl rfl rfl (fun _ => rfl) (se_v rfl rfl rfl rfl)) (sa_cons rfl (se_mkxK (su_BadRow T) (by decide +kernel) (g.room.mono (by decide)) (m_BadRow T) (m_super T) rfl rfl rfl rfl rfl (fun _ => rfl) (sk_cons (se_v rfl rfl rfl rfl) sk_nil)) (sa_cons rfl (se_mkxI (su_BadRecords T) (by decide +kernel) (g.room.mono (by decide)) (m_BadRecords T) (m_super T) rfl rfl rfl (fun _ => rfl) (se_v rfl rfl rfl rfl)) (sa_cons rfl (se_mkxK (su_BadRecords T) (by decide +kernel) (g.room.mono (by decide)) (m_BadRecords T) (m_super T) rfl rfl rfl rfl rfl (fun _ => rfl) (sk_cons (se_v rfl rfl rfl rfl) sk_nil)) (sa_cons rfl (se_mkxI (su_BadWish T) (by decide +kernel) (g.room.mono (by decide)) (m_BadWish T) (m_super T) rfl rfl rfl (fun _ => rfl) (se_v rfl rfl rfl rfl)) (sa_cons rfl (se_mkxK (su_BadWish T) (by decide +kernel) (g.room.mono (by decide)) (m_BadWish T) (m_super T) rfl rfl rfl rfl rfl (fun _ => rfl) (sk_cons (se_v rfl rfl rfl rfl) sk_nil)) sa_nil))))))) rfl (.inr rfl)) (ss_cons (st_set jT g.nd rfl (.inl rfl) (se_bin g.hu0 .add (se_v rfl rfl rfl rfl) (se_lst (sa_cons rfl (se_mkxI (su_BadJournal T) (by decide +kernel) (g.room.mono (by decide)) (m_BadJournal T) (m_super T) rfl rfl rfl (fun _ => rfl) (se_v rfl rfl rfl rfl)) (sa_cons rfl (se_mkxK (su_BadJournal T) (by decide +kernel) (g.room.mono (by decide)) (m_BadJournal T) (m_super T) rfl rfl rfl rfl rfl (fun _ => rfl) (sk_cons (se_v rfl rfl rfl rfl) sk_nil)) sa_nil)))) rfl (.inr rfl)) (ss_cons (st_set jT g.nd rfl (.inl rfl) (se_bin g.hu0 .add (se_v rfl rfl rfl rfl) (se_lc (own := [("_law_k", 3), ("_law_error", 4)]) g.calm g.nd (si_enum rfl (m_enumerate T) (se_v rfl rfl rfl rfl) rfl) (blkOk_by rfl) (fun z1 G1 C1 cl1 fp1 J1 h1 => tg_tup (g.blk _ z1 G1 C1 cl1 fp1).calm (tgs_cons (tg_name (h1 3 (by decide)) (g.blk _ z1 G1 C1 cl1 fp1).nd rfl (.inl rfl) (.inr rfl)) (tgs_cons (tg_name (h1 4 (by decide)) (g.blk _ z1 G1 C1 cl1 fp1).nd rfl (.inl rfl) (.inr rfl)) tgs_nil rfl) rfl) rfl rfl) (fun z1 G1 C1 cl1 fp1 => sif_nil) (fun z1 G1 C1 cl1 fp1 => se_tup (sa_cons rfl (se_ix (g.blk _ z1 G1 C1 cl1 fp1).hu (se_lst (sa_cons rfl se_int (sa_cons rfl se_int (sa_cons rfl se_int (sa_cons rfl se_int sa_nil))))) (se_bin (g.blk _ z1 G1 C1 cl1 fp1).hu0 .fdiv (se_v rfl rfl rfl rfl) se_int) (fun _ _ => rfl)) (sa_cons rfl (se_v rfl rfl rfl rfl) (sa_cons rfl (se_xfld (excF T) rfl (se_v rfl rfl rfl rfl)) sa_nil)))) (fun _ => rfl) (fun _ => rfl))) rfl (.inr rfl)) (ss_cons (st_set jT g.nd rfl (.inl rfl) (se_bin g.hu0 .add (se_v rfl rfl rfl rfl) (se_lc (own := [("_law_error", 4)]) g.calm g.nd (si_seq (se_lst (sa_cons rfl (se_mkxI (su_NoDevice T) (by decide +kernel) (g.room.mono (by decide)) (m_NoDevice T) (m_super T) rfl rfl rfl (fun _ => rfl) (se_v rfl rfl rfl rfl)) (sa_cons rfl (se_mkxK (su_NoDevice T) (by decide +kernel) (g.room.mono (by decide)) (m_NoDevice T) (m_super T) rfl rfl rfl rfl rfl (fun _ => rfl) (sk_cons (se_v rfl rfl rfl rfl) sk_nil)) sa_nil)))) (blkOk_by rfl) (fun z1 G1 C1 cl1 fp1 J1 h1 => tg_name (h1 4 (by decide)) (g.blk _ z1 G1 C1 cl1 fp1).nd rfl (.inl rfl) (.inr rfl)) (fun z1 G1 C1 cl1 fp1 => sif_nil) (fun z1 G1 C1 cl1 fp1 => se_tup (sa_cons rfl se_int (sa_cons rfl (se_v rfl rfl rfl rfl) (sa_cons rfl (se_xfld (excF T) rfl (se_v rfl rfl rfl rfl)) sa_nil)))) (fun _ => rfl) (fun _ => rfl))) rfl (.inr rfl)) (ss_cons (st_ret (fun _ => nofun) (se_bin g.hu0 .add (se_v rfl rfl rfl rfl) (se_lc (own := [("_law_error", 4)]) g.calm g.nd (si_seq (se_lst (sa_cons rfl (se_mkxI (su_BadText T) (by decide +kernel) (g.room.mono (by decide)) (m_BadText T) (m_super T) rfl rfl rfl (fun _ => rfl) (se_v rfl rfl rfl rfl)) (sa_cons rfl (se_mkxK (su_BadText T) (by decide +kernel) (g.room.mono (by decide)) (m_BadText T) (m_super T) rfl rfl rfl rfl rfl (fun _ => rfl) (sk_cons (se_v rfl rfl rfl rfl) sk_nil)) sa_nil)))) (blkOk_by rfl) (fun z1 G1 C1 cl1 fp1 J1 h1 => tg_name (h1 4 (by decide)) (g.blk _ z1 G1 C1 cl1 fp1).nd rfl (.inl rfl) (.inr rfl)) (fun z1 G1 C1 cl1 fp1 => sif_nil) (fun z1 G1 C1 cl1 fp1 => se_tup (sa_cons rfl se_int (sa_cons rfl (se_v rfl rfl rfl rfl) (sa_cons rfl (se_xfld (excF T) rfl (se_v rfl rfl rfl rfl)) sa_nil)))) (fun _ => rfl) (fun _ => rfl)))) ss_nil))))))
theorem sc__law_take : FnScope ["_law_draw", "_law_many", "_law_found"] ["_law_draw", "_law_many"] (defScope s__law_take) := ⟨rfl, rfl, rfl, by decide +kernel, rfl, by decide +kernel, by decide +kernel⟩
theorem ok__law_take (T : Tt K mg base) : OkG P w K mg base 2 (He.ga K "_law_take") ["_law_draw", "_law_many"] (spG K g__law_take) :=
  okG_of (k := 1) (T.fn 6 rfl) (fun _ _ _ _ _ _ us hl => match us, hl with | [_, _], _ => rfl) sc__law_take rfl rfl fun cdv B out z G Z κ ok g hp =>
    ss_cons (st_if (se_bo (fun _ _ _ _ _ => rfl) (sb_and (se_cmp g.hu .eq (se_ix g.hu (se_v rfl rfl rfl rfl) se_str (fun _ _ => rfl)) se_int rfl) (sb_one (se_cmp g.hu .ne (se_ix g.hu (se_v rfl rfl rfl rfl) se_str (fun _ _ => rfl)) (se_lst sa_nil) rfl)))) (ss_cons (st_setix g.hu (se_v rfl rfl rfl rfl) se_str (se_mm PySem.F.slot_list_pop PySem.F.type_list_pop mm_pop (se_ix g.hu (se_v rfl rfl rfl rfl) se_str (fun _ _ => rfl)) (sa_cons rfl se_int sa_nil) rfl rfl rfl rfl rfl (fun _ => rfl)) rfl rfl rfl (fun _ => rfl)) ss_nil) ss_nil) (ss_cons (st_if (se_cmp g.hu .eq (se_ix g.hu (se_v rfl rfl rfl rfl) se_str (fun _ _ => rfl)) se_int rfl) (ss_cons (st_setix g.hu (se_v rfl rfl rfl rfl) se_str (se_cG (ok__law_blend T) g (by decide) (m__law_blend T) rfl rfl rfl rfl (fun _ => rfl) (sa_cons rfl (se_v rfl rfl rfl rfl) sa_nil)) rfl rfl rfl (fun _ => rfl)) ss_nil) ss_nil) (ss_cons (st_set jT g.nd rfl (.inl rfl) (se_bin g.hu0 .mod (se_callTy cr_int rfl (m_int T) (by decide +kernel) (by decide) rfl rfl rfl (fun _ => rfl) (sa_cons rfl (se_ix g.hu (se_v rfl rfl rfl rfl) se_str (fun _ _ => rfl)) sa_nil)) (se_v rfl rfl rfl rfl)) rfl (.inr rfl)) (ss_cons (st_setix g.hu (se_v rfl rfl rfl rfl) se_str (se_bin g.hu0 .fdiv (se_ix g.hu (se_v rfl rfl rfl rfl) se_str (fun _ _ => rfl)) (se_v rfl rfl rfl rfl)) rfl rfl rfl (fun _ => rfl)) (ss_cons (st_retV (pe_v rfl rfl rfl rfl)) ss_nil))))
theorem sc__law_pick : FnScope ["_law_draw", "_law_some"] ["_law_draw", "_law_some"] (defScope s__law_pick) := ⟨rfl, rfl, rfl, by decide +kernel, rfl, by decide +kernel, by decide +kernel⟩
theorem ok__law_pick (T : Tt K mg base) : OkG P w K mg base 3 (He.ga K "_law_pick") ["_law_draw", "_law_some"] (spG K g__law_pick) :=
  okG_of (k := 2) (T.fn 7 rfl) (fun _ _ _ _ _ _ us hl => match us, hl with | [_, _], _ => rfl) sc__law_pick rfl rfl fun cdv B out z G Z κ ok g hp =>
    ss_cons (st_ret (fun _ => nofun) (se_ix g.hu (se_v rfl rfl rfl rfl) (se_cG (ok__law_take T) g (by decide) (m__law_take T) rfl rfl rfl rfl (fun _ => rfl) (sa_cons rfl (se_v rfl rfl rfl rfl) (sa_cons rfl (se_callB cr_len rfl (m_len T) (by decide +kernel) (by decide) rfl rfl rfl (fun _ => rfl) (sa_cons rfl (se_v rfl rfl rfl rfl) sa_nil)) sa_nil))) (fun _ _ => rfl))) ss_nil
theorem sc_law : FnScope ["_law_script", "_law_draw", "_law_turn", "_law_page", "_law_item", "_law_place", "_law_error", "_law_field", "_law_ground"] ["_law_script"] (defScope s_law) := ⟨rfl, rfl, rfl, by decide +kernel, rfl, by decide +kernel, by decide +kernel⟩
theorem ok_law (T : Tt K mg base) : OkG P w K mg base 4 (He.ga K "law") ["_law_script"] (spG K g_law) :=
  okG_of (k := 3) (T.fn 8 rfl) (fun _ _ _ _ _ _ us hl => match us, hl with | [_], _ => rfl) sc_law rfl rfl fun cdv B out z G Z κ ok g hp =>
    ss_cons (st_set jT g.nd rfl (.inl rfl) (se_cG (ok__law_begin T) g (by decide) (m__law_begin T) rfl rfl rfl rfl (fun _ => rfl) (sa_cons rfl (se_v rfl rfl rfl rfl) sa_nil)) rfl (.inr rfl)) (ss_cons (st_for hp g.calm (si_rng1 rfl (m_range T) (se_bin g.hu0 .add se_int (se_callB (cr_minD g.calm g.hu) rfl (m_min T) (by decide +kernel) (by decide) rfl rfl rfl (fun _ => rfl) (sa_cons rfl (se_callB cr_len rfl (m_len T) (by decide +kernel) (by decide) rfl rfl rfl (fun _ => rfl) (sa_cons rfl (se_v rfl rfl rfl rfl) sa_nil)) (sa_cons rfl se_int sa_nil)))) rfl) (tg_name jT g.nd rfl (.inl rfl) (.inr rfl)) (ss_cons (st_set jT g.nd rfl (.inl rfl) (se_cG (ok__law_pick T) g (by decide) (m__law_pick T) rfl rfl rfl rfl (fun _ => rfl) (sa_cons rfl (se_v rfl rfl rfl rfl) (sa_cons rfl (se_lst (sa_cons rfl se_str (sa_cons rfl se_str (sa_cons rfl se_str (sa_cons rfl se_str sa_nil))))) sa_nil))) rfl (.inr rfl)) (ss_cons (st_set jT g.nd rfl (.inl rfl) (se_cG (ok__law_pick T) g (by decide) (m__law_pick T) rfl rfl rfl rfl (fun _ => rfl) (sa_cons rfl (se_v rfl rfl rfl rfl) (sa_cons rfl (se_lst (sa_cons rfl se_int (sa_cons rfl se_int (sa_cons rfl se_non (sa_cons rfl se_str (sa_cons rfl se_str (sa_cons rfl (se_tup (sa_cons rfl se_int (sa_cons rfl se_non sa_nil))) (sa_cons rfl (se_tup (sa_cons rfl (se_tup (sa_cons rfl se_int (sa_cons rfl se_bl sa_nil))) sa_nil)) (sa_cons rfl (se_lst (sa_cons rfl se_int sa_nil)) (sa_cons rfl (se_bin g.hu0 .pow se_int se_int) sa_nil)))))))))) sa_nil))) rfl (.inr rfl)) (ss_cons (st_for hp g.calm (si_seq (se_cG (ok__law_plain T) g (by decide) (m__law_plain T) rfl rfl rfl rfl (fun _ => rfl) (sa_cons rfl (se_v rfl rfl rfl rfl) sa_nil))) (tg_tup g.calm (tgs_cons (tg_name jT g.nd rfl (.inl rfl) (.inr rfl)) (tgs_cons (tg_name jT g.nd rfl (.inl rfl) (.inr rfl)) tgs_nil rfl) rfl) rfl rfl) (ss_cons (st_if (se_bo (fun _ _ _ _ _ => rfl) (sb_or (se_cmp g.hu .ne (se_xstr g.hu (xstrT T) rfl (m_str T) rfl rfl (fun _ => rfl) (se_v rfl rfl rfl rfl)) (se_v rfl rfl rfl rfl) rfl) (sb_one (se_bo (fun _ _ _ _ _ => rfl) (sb_and (se_cmp g.hu .lt (se_v rfl rfl rfl rfl) se_int rfl) (sb_one (se_not (se_cG (ok__law_alone T) g (by decide) (m__law_alone T) rfl rfl rfl rfl (fun _ => rfl) (sa_cons rfl (se_v rfl rfl rfl rfl) (sa_cons rfl (se_v rfl rfl rfl rfl) sa_nil)))))))))) (ss_cons (st_ret (fun _ => nofun) se_bl) ss_nil) ss_nil) ss_nil) (fun _ => rfl)) (ss_cons (st_for hp g.calm (si_seq (se_cG (ok__law_with_fields T) g (by decide) (m__law_with_fields T) rfl rfl rfl rfl (fun _ => rfl) (sa_cons rfl (se_v rfl rfl rfl rfl) sa_nil))) (tg_tup g.calm (tgs_cons (tg_name jT g.nd rfl (.inl rfl) (.inr rfl)) (tgs_cons (tg_name jT g.nd rfl (.inl rfl) (.inr rfl)) (tgs_cons (tg_name jT g.nd rfl (.inl rfl) (.inr rfl)) tgs_nil rfl) rfl) rfl) rfl rfl) (ss_cons (st_if (se_bo (fun _ _ _ _ _ => rfl) (sb_or (se_not (se_cG (ok__law_alone T) g (by decide) (m__law_alone T) rfl rfl rfl rfl (fun _ => rfl) (sa_cons rfl (se_v rfl rfl rfl rfl) (sa_cons rfl (se_v rfl rfl rfl rfl) sa_nil)))) (sb_one (se_cmp g.hu .ne (se_callB (cr_repr g.still g.hu (sysm T)) rfl (m_repr T) (by decide +kernel) (by decide) rfl rfl rfl (fun _ => rfl) (sa_cons rfl (se_v rfl rfl rfl rfl) sa_nil)) (se_callB (cr_repr g.still g.hu (sysm T)) rfl (m_repr T) (by decide +kernel) (by decide) rfl rfl rfl (fun _ => rfl) (sa_cons rfl (se_v rfl rfl rfl rfl) sa_nil)) rfl)))) (ss_cons (st_ret (fun _ => nofun) se_bl) ss_nil) ss_nil) ss_nil) (fun _ => rfl)) (ss_cons (st_set jT g.nd rfl (.inl rfl) (se_mkxT (excF T) (exm_mem rfl) (by decide +kernel) (m_PlaceError T) rfl rfl rfl (fun _ => rfl) (se_v rfl rfl rfl rfl)) rfl (.inr rfl)) (ss_cons (st_if (se_bo (fun _ _ _ _ _ => rfl) (sb_or (se_cmp g.hu .ne (se_cG (ok__law_marks T) g (by decide) (m__law_marks T) rfl rfl rfl rfl (fun _ => rfl) (sa_cons rfl (se_v rfl rfl rfl rfl) sa_nil)) (se_bin g.hu0 .mul (se_lst (sa_cons rfl se_bl sa_nil)) se_int) rfl) (sb_one (se_not (se_isx (excF T) (.inl rfl) rfl (m_isinstance T) rfl rfl rfl (fun _ => rfl) (se_v rfl rfl rfl rfl) (scx_ve rfl (m_ValueError T))))))) (ss_cons (st_ret (fun _ => nofun) se_bl) ss_nil) ss_nil) ss_nil)))))) (fun _ => rfl)) (ss_cons (st_ret (fun _ => nofun) se_bl) ss_nil))
end
end HP
theorem HP.holds_of (plain : ∀ ns : List Int, ns.length ≤ 63 → HP.g_law [.scr (ns.map .int)] [] (fun o _ => o = .val (.bl true)) (fun _ _ => False)) : PySem.Challenge.rw_heardplaces_k01_errors_by_hand.Holds := by
  refine HP.holds_pre fun w mg fa h Y G hmg => ?_
  obtain ⟨K, KX, c, tx, tu⟩ := Y
  have T : HP.Tx HP.fa HP.exB HP.fnl K mg h := ⟨KX, G, c⟩
  have e := hmg.symm.trans (T.glo 11 rfl)
  cases e
  obtain ⟨fd, F⟩ := T.fn 8 rfl
  have b := L2.FunD.bindsA (ps := ["_law_script"]) F (fun _ _ _ _ _ _ us hl => match us, hl with | [_], _ => rfl)
  refine ⟨K, fd, HP.spG K HP.g_law, KX, tx, fun s v => b s [v] rfl, fun H a ns hl hT hS => HP.end_sp (plain ns hl) hT hS, fun base kb hb tb => ?_⟩
  have ok := HP.ok_law (w := w) (T := (⟨⟨kb, hb, c⟩, tb, tu⟩ : HP.Tt K mg base))
  obtain ⟨⟨fd2, F2, _, q2⟩, _⟩ := ok
  have ef := (HP.fdAt_of F).uniq q2
  rw [← ef]
  exact F2

set_option maxHeartbeats 4000000
theorem PySem.Challenge.cw_heardplaces_k01_errors_by_hand_holds : PySem.Challenge.rw_heardplaces_k01_errors_by_hand.Holds := by
  exact HP.holds_of HP.plain
