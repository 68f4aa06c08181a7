import PyProof.Rows.All
import Wide.All
import OpenK.AllK
import Wide.FinOn
import PySem.Challenge.RW_evenlymet_k17_errors_of_families_and_ben
import HandS.ExcCtx
import HandS.ForMost
import HandS.ForExc
import HandS.Lambda
import HandS.HeadWalk
import HandS.HeadHook1
import HandS.HeadHook2
import HandS.HeadHook4
import HandS.TupAny
import HandS.TupMul
import HandS.Deep
import HandS.IsInst
import HandS.Set
import HandS.SetFor
import HandS.Strs
import HandS.Style
import HandS.Zip
import HandS.ExcOwn
import HandS.TryOnly
import HandS.WordsExc
import HandS.Defaults
import HandS.Base
import HandS.Call
import HandS.Exc
import HandS.ExcIs
import HandS.TryMany
import HandS.List
import HandS.CallLocal
import HandS.Replace
import HandS.Text
import KE.KTupSum
import PyProof.SetRoads
import HandS.Star
import HandS.Property
import HandS.ClsMeth
import HandS.FStr
import HandS.SlotsOwn
import KE.KOpsOwn
import KE.KCallOwn
import PyProof.TupleOfSeq
import HandS.GenList
import HandS.TupLe
import HandS.NamedTupSort
import PyProof.ListRange
import PyProof.CollectIter
import PyProof.EnumMake
import HandS.Conv
import HandS.Hot
import HandS.HotCalls
import PyProof.ZipIter
import HandS.Comp
import HandS.Iter
import HandS.ExcField
import KE.KExcSuper
import HandS.Nested
import HandS.ExcInit
import HandS.ExcSuper
import HandS.ExcInitHot
import HandS.Head0
import HandS.Head1
import HandS.Head2
namespace DL
end DL
namespace T
end T
namespace STx
end STx
namespace OrdS
end OrdS
namespace TryN
end TryN
namespace Lam3
end Lam3
namespace RevT
end RevT
namespace L2
end L2
namespace NU
end NU
namespace HZ
end HZ
namespace PySem.W
end PySem.W
namespace Lam4
end Lam4
namespace Lam4x
end Lam4x
namespace Em
end Em
namespace Four
end Four
set_option Elab.async false
set_option linter.all false
set_option maxRecDepth 100000
set_option maxHeartbeats 4000000
namespace DL
open PySem PySem.Spec PyProof.Rows L2

/-! ### deep data -/
inductive D where
  | non | bl (b : Bool) | int (i : Int) | str (x : Str) | ref (a : Addr) | glo (x : Str) | ty (n : String)
  | tup (xs : List D) | lst (xs : List D) | frz (xs : List D) | dic (ks : List Str) (xs : List D)


abbrev Sub (H H' : Hp) : Prop := ∀ a o, H a = some o → H' a = some o
/-! ### what changes: a store of objects -/
/-- what is told of an object by a word of its own stays (code objects) -/
def KeepC (H H' : Hp) : Prop := ∀ c φ, H c = some (.ext φ) → H' c = some (.ext φ)
/-- what may be written over -/
def NoCode (H : Hp) (p : Addr) : Prop := ∀ φ, H p ≠ some (.ext φ)
/-- any other kind of object -/
structure MR where
  rel : PySem.W.Frag → Hp → Hp → Addr → Prop
  there : ∀ {K : PySem.W.Frag} {H0 H : Hp} {a : Addr}, rel K H0 H a → H a ≠ none
  keep : ∀ {K : PySem.W.Frag} {H0 H H0' H' : Hp} {a : Addr}, rel K H0 H a → Sub H0 H0' → H' a = H a → KeepC H H' → rel K H0' H' a
  noE : ∀ {K : PySem.W.Frag} {H0 H : Hp} {a : Addr}, rel K H0 H a → NoCode H a
inductive MO where
  | src | lst (xs : List D) | ins (c : Str) (fs : List (Str × D)) | tab (q : Str) | own (ρ : MR)
abbrev Sto := Addr → Option MO
def Sto.up (S : Sto) (a : Addr) (m : MO) : Sto := fun b => if b = a then some m else S b
/-- how large a source's first number may be -/
def srcBits : Nat := 1048600
/-! ### slots -/
inductive Sl where
  | un | va (d : D) | ow (xs : List D) | od (ks : List Str) (xs : List D)
abbrev Sg := List Sl
/-! ### programs over data -/
structure Xn where
  cls : Str
  fs : List (Str × D)
/-- what must hold ahead, for what is wanted behind -/
def T (α : Type) := Sto → (α → Sto → Prop) → (Xn → Sto → Prop) → Prop
namespace T
def pure {α : Type} (a : α) : T α := fun S Q _ => Q a S
def fail {α : Type} : T α := fun _ _ _ => False
end T
/-! ### results -/
/-! ### weaker readings -/
/-! ### results persist -/
/-! ### a new object -/
end DL

set_option Elab.async false
set_option linter.all false
set_option maxRecDepth 100000
set_option maxHeartbeats 4000000

set_option Elab.async false
set_option linter.all false
set_option maxRecDepth 100000
set_option maxHeartbeats 4000000

set_option Elab.async false
set_option linter.all false
set_option maxRecDepth 100000
set_option maxHeartbeats 4000000
/-! Sets of texts: made of a list or a tuple, sorted, counted. -/

set_option Elab.async false
set_option linter.all false
/-! The order of texts; sorting by insertion. -/

set_option Elab.async false
set_option linter.all false
set_option maxRecDepth 100000
set_option maxHeartbeats 4000000
namespace DL
open PySem PySem.Spec PyProof.Rows L2 STx OrdS

def dOpt {α β : Type} (o : Option α) (f : α → T β) : T β := match o with
  | some a => f a
  | none => T.fail
/-! ### calls of what is built in -/

/-! ### sets of texts -/
end DL

set_option Elab.async false
set_option linter.all false
set_option maxRecDepth 100000
set_option maxHeartbeats 4000000
namespace DL
open PySem PySem.Spec PyProof.Rows L2 STx OrdS

/-! ### slots stored, wiped -/
/-! ### subscripts, slices -/
@[irreducible] def dIxR (a : Addr) (i : Int) : T D := fun S Q E => match S a with
    | some .src => (i = 0 ∧ ∀ c : Int, 0 ≤ c → c < 2 ^ srcBits → Q (.int c) S) ∨ (i = 1 ∧ ∀ c : Int, 0 ≤ c → c < 2147483648 → Q (.int c) S)
    | some (.lst xs) => dOpt (atI xs i) (fun d => T.pure d) S Q E
    | _ => False

/-! ### what is walked -/

/-! ### targets -/
end DL

set_option Elab.async false
set_option linter.all false
set_option maxRecDepth 100000
set_option maxHeartbeats 4000000

set_option Elab.async false
set_option linter.all false
set_option maxRecDepth 100000
set_option maxHeartbeats 4000000
namespace DL
open PySem PySem.Spec PyProof.Rows L2 STx OrdS

/-! ### statements -/
inductive Out where
  | nx (g : Sg) | rt (d : D) | bk (g : Sg) | ct (g : Sg)

/-! ### defs -/
end DL

set_option Elab.async false
set_option linter.all false
set_option maxRecDepth 100000
/-! several except clauses, each with a name of its own for what it caught -/

set_option Elab.async false
set_option linter.all false
set_option maxRecDepth 100000
set_option maxHeartbeats 4000000
namespace DL
open PySem PySem.Spec PyProof.Rows L2 STx OrdS

/-! ### raise -/

/-! ### products, sums -/

/-! ### the store's lists and sources, written -/
@[irreducible] def dPutR (a : Addr) (k : Int) (d : D) (g : Sg) : T Out := fun S Q E => match S a with
    | some .src => (k = 0 ∧ ∃ c : Int, d = .int c ∧ 0 ≤ c ∧ c < 2 ^ srcBits ∧ Q (.nx g) S) ∨ (k = 1 ∧ ∃ c : Int, d = .int c ∧ 0 ≤ c ∧ c < 2147483648 ∧ Q (.nx g) S)
    | some (.lst xs) => ∃ j, ixN xs.length k = some j ∧ Q (.nx g) (S.up a (.lst (xs.set j d)))
    | _ => False
end DL

set_option Elab.async false
set_option linter.all false
set_option maxRecDepth 100000
set_option maxHeartbeats 4000000
/-! a lambda made, handed on: the heap told in full -/

set_option Elab.async false
set_option linter.all false
set_option maxRecDepth 100000
set_option maxHeartbeats 4000000

set_option Elab.async false
set_option linter.all false
set_option maxRecDepth 100000
set_option maxHeartbeats 4000000

set_option Elab.async false
set_option linter.all false
set_option maxRecDepth 100000
set_option maxHeartbeats 4000000
/-! t[::-1], t a tuple -/

set_option Elab.async false
set_option linter.all false
set_option maxRecDepth 100000
set_option maxHeartbeats 4000000
namespace DL
open PySem PySem.Spec PyProof.Rows L2 STx OrdS

/-! ### built-ins' names -/
/-! ### the ways out of a body -/

/-! ### t[::-1], xs[::-1] -/

/-! ### what the head tells -/
/-! ### errors told apart: a test of the written part -/
def excCB (K : PySem.W.Frag) (D : Addr) : Bool := He.eqO (PySem.W.findIn K (.ref D) "__getattribute__") (some (some (.builtin "BaseException.__getattribute__"))) && (He.eqO (PySem.W.findIn K (.ref D) "__getattr__") (some none) && (decide (PySem.W.subIn K (.ref D) (.type "BaseException") = some true) && (PySem.W.hasDictIn K D &&
  (He.eqO (PySem.W.findIn K (.ref D) "__class__") (some (some (.builtin "object.__class__"))) && (He.eqO (PySem.W.specialIn K (.builtin "object.__class__") "__get__") (some (some (.builtin "getset_descriptor.__get__"))) && (decide (PySem.W.takesIn K (.builtin "object.__class__") = some true) && decide (PySem.W.mroIn K D (.type "object") = some true)))))))
def excTB (M : Str) (ns : List Str) (K : PySem.W.Frag) : Bool := ns.all fun x => excCB K (He.ga K x) && (decide (PySem.W.kitOne K (.ref (He.ga K x)) (.ref (He.ga K M)) = some true) && ns.all fun y => decide (PySem.W.exmOne K (.ref (He.ga K x)) (.ref (He.ga K y)) = some (decide (x = y))))
end DL

set_option Elab.async false
set_option linter.all false
set_option maxRecDepth 100000
set_option maxHeartbeats 4000000

set_option Elab.async false
set_option linter.all false
set_option maxRecDepth 100000
set_option maxHeartbeats 4000000

set_option Elab.async false
set_option linter.all false
set_option maxRecDepth 100000
set_option maxHeartbeats 4000000

set_option Elab.async false
set_option linter.all false
set_option maxRecDepth 100000
set_option maxHeartbeats 4000000

set_option Elab.async false
set_option linter.all false
set_option maxRecDepth 100000
set_option maxHeartbeats 4000000

set_option Elab.async false
set_option linter.all false
set_option maxRecDepth 100000
set_option maxHeartbeats 4000000

set_option Elab.async false
set_option linter.all false
set_option maxRecDepth 100000
set_option maxHeartbeats 4000000

set_option Elab.async false
set_option linter.all false
set_option maxRecDepth 100000
set_option maxHeartbeats 4000000

set_option Elab.async false
set_option linter.all false
set_option maxRecDepth 100000
set_option maxHeartbeats 4000000
namespace DL
open PySem PySem.Spec PyProof.Rows L2 STx OrdS

/-! ### what the head tells of functions behind properties and class methods -/
/-- the function in the record of C.m, a property or a class method -/
def recA (ty : String) (c m : Str) (K : PySem.W.Frag) : Addr := match PySem.W.recIn K (He.ma K (He.ga K c) m) ty with
  | some (.ref g :: _) => g
  | _ => 0
def fnAt (K : PySem.W.Frag) (a : Addr) : He.FnW := match K.lookup a with
  | some ⟨_, _, .func fd, _⟩ => some (fd.name, fd.qualname, fd.params, fd.body, fd.scope, fd.globals, fd.closure.map (fun p => (p.1, 0)), fd.builtins)
  | _ => none
/-- clo: the names that it captures -/
structure DefY where
  adr : PySem.W.Frag → Addr
  name : Str
  qual : Str
  params : Arguments
  body : List Stmt
  scope : Scope
  clo : List Str := []
def DefY.val (d : DefY) : He.FnW := some (d.name, d.qual, d.params, .stmts d.body, d.scope, mainGlobals, d.clo.map (fun x => (x, 0)), builtinsNs)
def DefY.ok (K : PySem.W.Frag) (d : DefY) : Bool := PySem.W.keepIn K (.ref (d.adr K)) && (match K.lookup (d.adr K) with
  | some ⟨_, _, .func fd, _⟩ => PySem.W.codeIn K fd.code d.qual && (match fd.defaults with
    | .none => true
    | _ => false)
  | _ => false)
/-! ### the Hook -/
/-- what the names reach, and the interpreter's own statics -/
def KY (g : Addr → Option Obj) (n : Nat) : PySem.W.Frag := He.frT g (He.asD g n ++ [cStatics])
/-! ### the facts by Bools -/
def propB (c f : Str) (K : PySem.W.Frag) : Bool := He.eqO (PySem.W.findIn K (.ref (He.ga K c)) f) (some (some (.ref (He.ma K (He.ga K c) f)))) && (He.eqO (PySem.W.specialIn K (.ref (He.ma K (He.ga K c) f)) "__get__") (some (some (.builtin "property.__get__"))) &&
  (decide (PySem.W.takesIn K (.ref (He.ma K (He.ga K c) f)) = some true) && (match PySem.W.recIn K (He.ma K (He.ga K c) f) "property" with
    | some (.ref _ :: _) => true
    | _ => false)))
def cmethB (c m : Str) (K : PySem.W.Frag) : Bool := PySem.W.readsIn K (He.ga K c) (.type "type") && (He.eqO (PySem.W.specialIn K (.ref (He.ga K c)) "__getattribute__") (some (some (.builtin "type.__getattribute__"))) &&
  ((match PySem.W.findCls K (.ref (He.ga K c)) (.type "type") m with
    | some (.get (.builtin b) (.ref p) .none (.ref C)) => decide (b = "classmethod.__get__") && (decide (p = He.ma K (He.ga K c) m) && decide (C = He.ga K c))
    | _ => false) && ((match PySem.W.recIn K (He.ma K (He.ga K c) m) "classmethod" with
    | some (.ref _ :: _) => true
    | _ => false) && PySem.W.fnIn K (recA "classmethod" c m K))))
def opmB (c m : Str) (K : PySem.W.Frag) : Bool := He.eqO (PySem.W.findIn K (.ref (He.ga K c)) m) (some (some (.ref (He.ma K (He.ga K c) m)))) && (PySem.W.isFn K (.ref (He.ma K (He.ga K c) m)) && PySem.W.selfFirst K (He.ga K c))
end DL

set_option Elab.async false
set_option linter.all false
set_option maxRecDepth 100000
set_option maxHeartbeats 4000000

set_option Elab.async false
set_option linter.all false
set_option maxRecDepth 100000
set_option maxHeartbeats 4000000

set_option Elab.async false
set_option linter.all false
set_option maxRecDepth 100000
set_option maxHeartbeats 4000000

set_option Elab.async false
set_option linter.all false
set_option maxRecDepth 100000
set_option maxHeartbeats 4000000
namespace DL
open PySem PySem.Spec PyProof.Rows L2 STx OrdS

/-! ### methods -/
/-! ### special methods, in data -/
def rightB (c : Str) (K : PySem.W.Frag) : Bool := ["NoneType", "bool", "int", "str", "tuple", "list"].all fun t => decide (PySem.W.subIn K (.type t) (.ref (He.ga K c)) = some false)
/-! ### isinstance(x, C) of an own class -/
def isiB (c : Str) (K : PySem.W.Frag) : Bool := He.eqO (PySem.W.findIn K (.ref (He.ga K c)) "__class__") (some (some (.builtin "object.__class__"))) && (He.eqO (PySem.W.specialIn K (.builtin "object.__class__") "__get__") (some (some (.builtin "getset_descriptor.__get__"))) && (decide (PySem.W.takesIn K (.builtin "object.__class__") = some true) &&
  (decide (PySem.W.mroIn K (He.ga K c) (.type "object") = some true) && (decide (PySem.W.kitOne K (.ref (He.ga K c)) (.ref (He.ga K c)) = some true) && ["NoneType", "bool", "int", "str", "tuple", "list"].all fun t => decide (PySem.W.kitOne K (.type t) (.ref (He.ga K c)) = some false)))))
/-! ### bool(x) by an own __bool__ -/
end DL

set_option Elab.async false
set_option linter.all false
set_option maxRecDepth 100000
set_option maxHeartbeats 4000000
namespace DL
open PySem PySem.Spec PyProof.Rows L2 STx OrdS
/-! ### x op y, y of a built-in class -/
open PySem.W in
/-- what an own operator asks of the classes' texts -/
def binB (c : Str) (op : Operator) (K : PySem.W.Frag) : Bool := rightB c K && ((match PySem.W.findIn K (.ref (He.ga K c)) (dunderR op.info.2) with
  | some none => true
  | some (some (.ref _)) => true
  | _ => false) && ["NoneType", "bool", "int", "str", "tuple", "list"].all fun t => (PySem.W.findIn K (.type t) (PySem.dunder op.info.2)).isSome && (PySem.W.findIn K (.type t) (dunderR op.info.2)).isSome)
end DL

set_option Elab.async false
set_option linter.all false
set_option maxRecDepth 100000
set_option maxHeartbeats 4000000
namespace DL
open PySem PySem.Spec PyProof.Rows L2 STx OrdS
/-! ### what a call returns, or a word: try: return a() / except C: return 'w' .. -/
def fnB (c m : Str) (K : PySem.W.Frag) : Bool := PySem.W.fnIn K (He.ma K (He.ga K c) m)
def callB (c : Str) (K : PySem.W.Frag) : Bool := He.eqO (PySem.W.findIn K (.ref (He.ga K c)) "__call__") (some (some (.ref (He.ma K (He.ga K c) "__call__")))) && (PySem.W.isFn K (.ref (He.ma K (He.ga K c) "__call__")) && fnB c "__call__" K)
/-! ### C.f, a whole number of the class -/
/-! ### own comparisons as tests; -1 -/
end DL

set_option Elab.async false
set_option linter.all false
set_option maxRecDepth 100000
set_option maxHeartbeats 4000000

set_option Elab.async false
set_option linter.all false
set_option maxRecDepth 100000
set_option maxHeartbeats 4000000

set_option Elab.async false
set_option linter.all false
set_option maxRecDepth 100000
set_option maxHeartbeats 4000000

set_option Elab.async false
set_option linter.all false
set_option maxRecDepth 100000
set_option maxHeartbeats 4000000

set_option Elab.async false
set_option linter.all false
set_option maxRecDepth 100000
set_option maxHeartbeats 4000000

set_option Elab.async false
set_option linter.all false
set_option maxRecDepth 100000
set_option maxHeartbeats 4000000

set_option Elab.async false
set_option linter.all false
set_option maxRecDepth 100000
set_option maxHeartbeats 4000000


set_option Elab.async false
set_option linter.all false
set_option maxRecDepth 100000
set_option maxHeartbeats 4000000
/-! zip over two lists while an exception is handled: the end -/

set_option Elab.async false
set_option linter.all false
set_option maxRecDepth 100000
set_option maxHeartbeats 4000000
/-! a list comprehension over zip while an exception is handled -/

set_option Elab.async false
set_option linter.all false
set_option maxRecDepth 100000
set_option maxHeartbeats 4000000
/-! a tuple unpacked while an exception is handled -/

set_option Elab.async false
set_option linter.all false
set_option maxRecDepth 100000
set_option maxHeartbeats 4000000
/-! [elt for target in iter if ..] while an exception is handled: p's object -/

set_option Elab.async false
set_option linter.all false
set_option maxRecDepth 100000
set_option maxHeartbeats 4000000
/-! isinstance of a caught error that may have fields -/


set_option Elab.async false
set_option linter.all false
set_option maxRecDepth 100000
set_option maxHeartbeats 4000000
/-! a def that tells the words of an error's classes: its suite -/

set_option Elab.async false
set_option linter.all false
set_option maxRecDepth 100000
set_option maxHeartbeats 4000000
/-! the suite's end: labels, split, the list over zip -/

set_option Elab.async false
set_option linter.all false
set_option maxRecDepth 100000
set_option maxHeartbeats 4000000
/-! a def that tells the words of an error's classes: the whole -/

set_option Elab.async false
set_option linter.all false
set_option maxRecDepth 100000
set_option maxHeartbeats 4000000
/-! a lambda handed to the def that tells the words of an error -/

set_option Elab.async false
set_option linter.all false
set_option maxRecDepth 100000
set_option maxHeartbeats 4000000
/-! a new object told in the heap -/

set_option Elab.async false
set_option linter.all false
set_option maxRecDepth 100000
set_option maxHeartbeats 4000000
/-! a lambda is made: its object is new -/

set_option Elab.async false
set_option linter.all false
set_option maxRecDepth 100000
set_option maxHeartbeats 4000000
/-! lambdas that outlive the frame they were made in -/

set_option Elab.async false
set_option linter.all false
set_option maxRecDepth 100000
set_option maxHeartbeats 4000000
/-! cells that are tracked, taken out while a closure runs -/

set_option Elab.async false
set_option linter.all false
set_option maxRecDepth 100000
set_option maxHeartbeats 4000000
/-! a closure is called -/

set_option Elab.async false
set_option linter.all false
set_option maxRecDepth 100000
set_option maxHeartbeats 4000000
/-! the store while a closure runs -/

set_option Elab.async false
set_option linter.all false
set_option maxRecDepth 100000
set_option maxHeartbeats 4000000
/-! the def that tells the words of an error, handed a closure -/

set_option Elab.async false
set_option linter.all false
set_option maxRecDepth 100000
set_option maxHeartbeats 4000000
/-! a def whose parameters are captured by closures that it returns -/

set_option Elab.async false
set_option linter.all false
set_option maxRecDepth 100000
set_option maxHeartbeats 4000000
/-! methods called while an exception is handled; a caught error's field -/

set_option Elab.async false
set_option linter.all false
set_option maxRecDepth 100000
set_option maxHeartbeats 4000000
/-! try: .. / except C as e: if e.f != j or ..: .. -/

set_option Elab.async false
set_option linter.all false
set_option maxRecDepth 100000
set_option maxHeartbeats 4000000
/-! o.m(e) in a try: its errors with the slots as they stand -/

set_option Elab.async false
set_option linter.all false
set_option maxRecDepth 100000
set_option maxHeartbeats 4000000
/-! try: call; return False / except C as e: if e.f != j or ..: return False -/

set_option Elab.async false
set_option linter.all false
set_option maxRecDepth 100000
set_option maxHeartbeats 4000000
/-! an own exception whose __init__ says super().__init__("..") and self.n = its parameter -/

set_option Elab.async false
set_option linter.all false
set_option maxRecDepth 100000
set_option maxHeartbeats 4000000
/-! such an exception is made and raised -/

set_option Elab.async false
set_option linter.all false
set_option maxRecDepth 100000
set_option maxHeartbeats 4000000
/-! such a class, read off the heap -/
namespace DL
open PySem PySem.Spec PyProof.Rows L2 STx OrdS
def oexB (c : Str) (K : PySem.W.Frag) : Bool := (match K.lookup (He.ga K c) with
  | some ⟨.type t, _, .cls cd, sl⟩ => decide (t = "type") && (match cd.mro, sl.toList with
    | .ref C' :: bm, [_, _, _, _, some (.builtin n), _] => decide (C' = He.ga K c) && (decide (n = "ValueError.__new__") && (!cd.hasDel && (cd.hasDict && PySem.HandSPX.refsVE bm)))
    | _, _ => false)
  | _ => false) && (He.eqO (PySem.W.findIn K (.ref (He.ga K c)) "__setattr__") (some (some (.builtin "object.__setattr__"))) && (decide (PySem.W.subIn K (.ref (He.ga K c)) (.type "BaseException") = some true) &&
  (decide (PySem.W.typeIn K (.ref (He.ga K c)) = some (.type "type")) && PySem.W.keepIn K (.ref (He.ga K c)))))
/-- of C, its __init__ and what that captures -/
def supB (c file : Str) (K : PySem.W.Frag) : Bool := (match K.lookup (He.ma K (He.ga K c) "__init__") with
  | some ⟨_, _, .func fd, _⟩ => (match fd.closure with
    | [(_, cc)] => (match K.lookup cc with
      | some ⟨_, _, .cell (some (.ref D)), _⟩ => decide (D = He.ga K c)
      | _ => false)
    | _ => false) && (match fd.code with
    | .ref a => (match K.lookup a with
      | some ⟨_, _, .fields vs, _⟩ => (match vs[2]? with
        | some (Value.str f _) => decide (file = f)
        | _ => false)
      | _ => false)
    | _ => false)
  | _ => false) && (He.eqO (PySem.W.nsIn K cStatics "thirdparty.any") (some none) && (He.eqO (PySem.W.ks_superIn K (He.ga K c) (He.ga K c) "__init__") (some (some (.builtin "ValueError.__init__"))) && (decide (PySem.W.subIn K (.ref (He.ga K c)) (.type "ValueError") = some true) &&
  (decide (PySem.W.mroIn K (He.ga K c) (.ref (He.ga K c)) = some true) && (He.eqO (PySem.W.findIn K (.ref (He.ga K c)) "__init__") (some (some (.ref (He.ma K (He.ga K c) "__init__")))) && decide (PySem.W.typeIn K (.ref (He.ma K (He.ga K c) "__init__")) = some (.type "function")))))))
end DL

set_option Elab.async false
set_option linter.all false
set_option maxRecDepth 100000
set_option maxHeartbeats 4000000
/-! where an exception is handled -/

set_option Elab.async false
set_option linter.all false
set_option maxRecDepth 100000
set_option maxHeartbeats 4000000
namespace Em
open PySem PySem.Spec PyProof.Rows L2 DL OrdS
def top (i : Nat) : Stmt := PySem.Challenge.pw_evenlymet_k17_errors_of_families_and_ben.main.body.getD i (.Pass ⟨0, 0, 0, 0⟩)
abbrev s__law_error : Stmt := top 51
def errTB (M : Str) (ns : List Str) (K : PySem.W.Frag) : Bool := ns.all fun x => decide (PySem.W.exmOne K (.ref (He.ga K x)) (.ref (He.ga K M)) = some true) && (decide (PySem.W.kitOne K (.ref (He.ga K x)) (.type "ValueError") = some true) && ns.all fun y => decide (PySem.W.kitOne K (.ref (He.ga K x)) (.ref (He.ga K y)) = some (decide (x = y))))
def errNs : List Str := ["InvalidFamily", "InvalidLetters", "InvalidSet", "InvalidLetter", "InvalidWeights", "InvalidClaim", "InvalidKinds", "InvalidWord", "InvalidNumber", "InvalidFacts", "InvalidText", "Unlike", "NothingToUndo", "TooMany"]
end Em

set_option Elab.async false
set_option linter.all false
set_option maxRecDepth 100000
set_option maxHeartbeats 4000000
namespace Em
open PySem PySem.Spec PyProof.Rows L2 DL OrdS LamX
abbrev s__law_calls_of : Stmt := top 54
end Em

set_option Elab.async false
set_option linter.all false
set_option maxRecDepth 100000
set_option maxHeartbeats 4000000

set_option Elab.async false
set_option linter.all false
set_option maxRecDepth 100000
set_option maxHeartbeats 4000000


set_option Elab.async false
set_option linter.all false
set_option maxRecDepth 100000
set_option maxHeartbeats 4000000


set_option Elab.async false
set_option linter.all false
set_option maxRecDepth 100000
set_option maxHeartbeats 4000000


set_option Elab.async false
set_option linter.all false
set_option maxRecDepth 100000
set_option maxHeartbeats 4000000


set_option Elab.async false
set_option linter.all false
set_option maxRecDepth 100000
set_option maxHeartbeats 4000000


set_option Elab.async false
set_option linter.all false
set_option maxRecDepth 100000
set_option maxHeartbeats 4000000


set_option Elab.async false
set_option linter.all false
set_option maxRecDepth 100000
set_option maxHeartbeats 4000000


set_option Elab.async false
set_option linter.all false
set_option maxRecDepth 100000
set_option maxHeartbeats 4000000


set_option Elab.async false
set_option linter.all false
set_option maxRecDepth 100000
set_option maxHeartbeats 4000000


set_option Elab.async false
set_option linter.all false
set_option maxRecDepth 100000
set_option maxHeartbeats 4000000


set_option Elab.async false
set_option linter.all false
set_option maxRecDepth 100000
set_option maxHeartbeats 4000000


set_option Elab.async false
set_option linter.all false
set_option maxRecDepth 100000
set_option maxHeartbeats 4000000


set_option Elab.async false
set_option linter.all false
set_option maxRecDepth 100000
namespace Four
/-! the four functions theorem, on lists of truths -/
/-- the sum over all lists of that length -/
def S : Nat → (List Bool → Nat) → Nat
  | 0, f => f []
  | n + 1, f => S n fun s => f (false :: s) + f (true :: s)
end Four

set_option Elab.async false
set_option linter.all false
set_option maxRecDepth 100000

set_option Elab.async false
set_option linter.all false
set_option maxRecDepth 100000
set_option maxHeartbeats 4000000


set_option Elab.async false
set_option linter.all false
set_option maxRecDepth 100000
set_option maxHeartbeats 4000000


set_option Elab.async false
set_option linter.all false
set_option maxRecDepth 100000
set_option maxHeartbeats 4000000


set_option Elab.async false
set_option linter.all false
set_option maxRecDepth 100000
set_option maxHeartbeats 4000000


set_option Elab.async false
set_option linter.all false
set_option maxRecDepth 100000
set_option maxHeartbeats 4000000


set_option Elab.async false
set_option linter.all false
set_option maxRecDepth 100000
set_option maxHeartbeats 4000000


set_option Elab.async false
set_option linter.all false
set_option maxRecDepth 100000
set_option maxHeartbeats 4000000


set_option Elab.async false
set_option linter.all false
set_option maxRecDepth 100000
set_option maxHeartbeats 4000000


set_option Elab.async false
set_option linter.all false
set_option maxRecDepth 100000
set_option maxHeartbeats 4000000


set_option Elab.async false
set_option linter.all false
set_option maxRecDepth 100000
set_option maxHeartbeats 4000000


set_option Elab.async false
set_option linter.all false
set_option maxRecDepth 100000
set_option maxHeartbeats 4000000


set_option Elab.async false
set_option linter.all false
set_option maxRecDepth 100000
set_option maxHeartbeats 4000000


set_option Elab.async false
set_option linter.all false
set_option maxRecDepth 100000
set_option maxHeartbeats 4000000


set_option Elab.async false
set_option linter.all false
set_option maxRecDepth 100000
set_option maxHeartbeats 4000000


set_option Elab.async false
set_option linter.all false
set_option maxRecDepth 100000
set_option maxHeartbeats 4000000


set_option Elab.async false
set_option linter.all false
set_option maxRecDepth 100000
set_option maxHeartbeats 4000000


set_option Elab.async false
set_option linter.all false
set_option maxRecDepth 100000
set_option maxHeartbeats 4000000


set_option Elab.async false
set_option linter.all false
set_option maxRecDepth 100000
set_option maxHeartbeats 4000000


set_option Elab.async false
set_option linter.all false
set_option maxRecDepth 100000
set_option maxHeartbeats 4000000


set_option Elab.async false
set_option linter.all false
set_option maxRecDepth 100000
set_option maxHeartbeats 4000000


set_option Elab.async false
set_option linter.all false
set_option maxRecDepth 100000
set_option maxHeartbeats 4000000


set_option Elab.async false
set_option linter.all false
set_option maxRecDepth 100000
set_option maxHeartbeats 4000000


set_option Elab.async false
set_option linter.all false
set_option maxRecDepth 100000
set_option maxHeartbeats 4000000


set_option Elab.async false
set_option linter.all false
set_option maxRecDepth 100000
set_option maxHeartbeats 4000000


set_option Elab.async false
set_option linter.all false
set_option maxRecDepth 100000
set_option maxHeartbeats 4000000


set_option Elab.async false
set_option linter.all false
set_option maxRecDepth 100000
set_option maxHeartbeats 4000000


set_option Elab.async false
set_option linter.all false
set_option maxRecDepth 100000
set_option maxHeartbeats 4000000


set_option Elab.async false
set_option linter.all false
set_option maxRecDepth 100000
set_option maxHeartbeats 4000000


set_option Elab.async false
set_option linter.all false
set_option maxRecDepth 100000
set_option maxHeartbeats 4000000


set_option Elab.async false
set_option linter.all false
set_option maxRecDepth 100000
set_option maxHeartbeats 4000000


set_option Elab.async false
set_option linter.all false
set_option maxRecDepth 100000
set_option maxHeartbeats 4000000


set_option Elab.async false
set_option linter.all false
set_option maxRecDepth 100000
set_option maxHeartbeats 4000000


set_option Elab.async false
set_option linter.all false
set_option maxRecDepth 100000
set_option maxHeartbeats 4000000


set_option Elab.async false
set_option linter.all false
set_option maxRecDepth 100000
set_option maxHeartbeats 4000000


set_option Elab.async false
set_option linter.all false
set_option maxRecDepth 100000
set_option maxHeartbeats 4000000


set_option Elab.async false
set_option linter.all false
set_option maxRecDepth 100000
set_option maxHeartbeats 4000000


set_option Elab.async false
set_option linter.all false
set_option maxRecDepth 100000
set_option maxHeartbeats 4000000


set_option Elab.async false
set_option linter.all false
set_option maxRecDepth 100000
set_option maxHeartbeats 4000000


set_option Elab.async false
set_option linter.all false
set_option maxRecDepth 100000
set_option maxHeartbeats 4000000


set_option Elab.async false
set_option linter.all false
set_option maxRecDepth 100000
set_option maxHeartbeats 4000000


set_option Elab.async false
set_option linter.all false
set_option maxRecDepth 100000
set_option maxHeartbeats 4000000
/-! the head's run asked piece by piece -/
namespace DL
open PySem PySem.Spec PyProof.Rows L2 STx OrdS PySem.Calls
abbrev KL (g : Addr → Option Obj) (as : Nat) : PySem.W.Frag := KY g as
/-- one look at the end of the run -/
def Tells (r : PySem.W.OpenRow) (M : Nat) {α : Type} (F : PySem.W.SharedT → α) (v : α) (w : World) : Prop := ∀ os : OsState, (HandSHeadRun.endF (HandSHeadRun.stepQ (HandSHeadRun.denQ HandSHeadRun.tabQ) r.prog w) M r.prog w os).map F = some v
/-- what is looked at: some facts, some defs -/
def lookF (as : Nat) (fa : List He.Fa) (s : PySem.W.SharedT) : Bool := fa.all fun f => f.ok (KL (HandSHeadRun.getT s) as)
def lookD (as : Nat) (fn : List He.DefD) (s : PySem.W.SharedT) : Bool × List He.FnW := (fn.all fun d => d.ok (KL (HandSHeadRun.getT s) as), fn.map fun d => He.fnW (KL (HandSHeadRun.getT s) as) d.at_)
def valD (fn : List He.DefD) : Bool × List He.FnW := (true, fn.map He.DefD.val)
def lookE (as : Nat) (ex : PySem.W.Frag → Bool) (tf : List He.Defn) (s : PySem.W.SharedT) : Bool := ex (KL (HandSHeadRun.getT s) as) && He.tabsB (HandSHeadRun.getT s) tf (KL (HandSHeadRun.getT s) as)
def lookY (as : Nat) (fy : List DefY) (s : PySem.W.SharedT) : Bool × List He.FnW := (fy.all fun d => d.ok (KL (HandSHeadRun.getT s) as), fy.map fun d => fnAt (KL (HandSHeadRun.getT s) as) (d.adr (KL (HandSHeadRun.getT s) as)))
def valYs (fy : List DefY) : Bool × List He.FnW := (true, fy.map DefY.val)
end DL

set_option Elab.async false
set_option linter.all false
set_option maxRecDepth 100000
set_option maxHeartbeats 4000000
namespace Em
open PySem PySem.Spec PyProof.Rows L2 DL OrdS PySem.Calls
def cm (i j : Nat) : Stmt := (match top i with
  | .ClassDef (body := b) .. => b
  | _ => []).getD j (.Pass ⟨0, 0, 0, 0⟩)
abbrev s_TooMany_init : Stmt := cm 16 0
abbrev s__wall : Stmt := top 0
abbrev s_is_number : Stmt := top 19
abbrev s_is_good_set : Stmt := top 20
abbrev s_is_good_family : Stmt := top 21
abbrev s_need_letters : Stmt := top 22
abbrev s_need_family : Stmt := top 23
abbrev s_need_set : Stmt := top 24
abbrev s_joined : Stmt := top 25
abbrev s_met : Stmt := top 26
abbrev s_less : Stmt := top 27
abbrev s_is_in : Stmt := top 28
abbrev s_every_set : Stmt := top 29
abbrev s_joins_of : Stmt := top 30
abbrev s_meets_of : Stmt := top 31
abbrev s_differences_of : Stmt := top 32
abbrev s_is_closed_down : Stmt := top 33
abbrev s_need_letter : Stmt := top 35
abbrev s_squeezed_by : Stmt := top 36
abbrev s_picks : Stmt := top 37
abbrev s_word_of : Stmt := top 39
abbrev s_text_of : Stmt := top 40
abbrev s_family_in : Stmt := top 41
abbrev s_exchanged : Stmt := top 42
abbrev s_Family_len : Stmt := cm 43 15
abbrev s_Bench_len : Stmt := cm 46 14
abbrev s_Family_getitem : Stmt := cm 43 13
abbrev s_Bench_getitem : Stmt := cm 46 12
abbrev s__law_source : Stmt := top 48
abbrev s__law_draw : Stmt := top 49
abbrev s__law_of : Stmt := top 50
abbrev s_Family_call : Stmt := cm 43 12
abbrev s_Family_ixor : Stmt := cm 43 11
abbrev s__law_turned : Stmt := top 52
abbrev s_Bench_keep : Stmt := cm 46 5
abbrev s_Bench_iadd : Stmt := cm 46 9
abbrev s__law_grown : Stmt := top 53
abbrev s_Family_init : Stmt := cm 43 1
abbrev s_Family_need_like : Stmt := cm 43 5
abbrev s_Family_or : Stmt := cm 43 6
abbrev s_Family_and : Stmt := cm 43 7
abbrev s_Family_sub : Stmt := cm 43 8
abbrev s_Family_le : Stmt := cm 43 18
abbrev s_Family_xor : Stmt := cm 43 10
abbrev s_Family_read : Stmt := cm 43 2
abbrev s_Bench_init : Stmt := cm 46 1
abbrev s_Bench_put : Stmt := cm 46 6
abbrev s_Bench_strike : Stmt := cm 46 7
abbrev s_Bench_squeeze : Stmt := cm 46 8
abbrev s_Family_eq : Stmt := cm 43 19
abbrev s_Bench_eq : Stmt := cm 46 17
abbrev s_Bench_family : Stmt := cm 46 3
abbrev s_Bench_undo : Stmt := cm 46 10
abbrev s__law_full_right : Stmt := top 55
abbrev s_Family_source : Stmt := cm 43 4
abbrev s_law : Stmt := top 56
def as : Nat := 7
def fa0 : List He.Fa := [.noat "TooMany" "limit", .free "super", .glo "_wall", .glo "is_number", .free "int", .free "isinstance", .free "bool", .glo "is_good_set", .free "str", .str "LETTERS" "abcd", .glo "is_good_family", .free "tuple", .free "all", .free "zip", .glo "need_letters", .glo "InvalidLetters", .exc "InvalidLetters", .glo "need_family", .glo "InvalidFamily", .exc "InvalidFamily", .glo "need_set", .glo "InvalidSet", .exc "InvalidSet", .glo "joined", .glo "met", .glo "less", .glo "is_in", .glo "every_set", .free "sorted", .glo "joins_of", .free "set", .glo "meets_of", .glo "differences_of", .glo "is_closed_down", .free "any", .glo "need_letter", .free "len", .glo "InvalidLetter", .exc "InvalidLetter", .glo "squeezed_by", .glo "picks", .glo "word_of", .glo "text_of", .glo "family_in", .glo "InvalidText", .exc "InvalidText", .glo "exchanged", .cls "Family", .noat "Family" "base", .cls "Bench", .noat "Bench" "past", .glo "InvalidNumber", .exc "InvalidNumber", .noat "Bench" "now", .glo "_law_source", .free "abs", .glo "_law_draw", .glo "_law_of", .glo "_law_error", .glo "MeetError", .glo "InvalidWeights", .glo "InvalidClaim", .glo "InvalidKinds", .glo "InvalidWord", .glo "InvalidFacts", .glo "Unlike", .glo "NothingToUndo", .glo "TooMany", .free "ValueError", .glo "_law_turned", .int "CALLS" 40, .noat "Bench" "base", .meth "Bench" "keep", .glo "_law_grown", .glo "Family", .exc "Unlike", .meth "Family" "need_like", .mkr "Family", .glo "_law_calls_of", .mkr "Bench", .glo "Bench", .meth "Bench" "put", .meth "Bench" "strike", .meth "Bench" "squeeze", .exc "NothingToUndo", .glo "_law_full_right", .free "range", .meth "Bench" "undo", .glo "law", .free "min"]
def fa : List He.Fa := fa0
def fn0 : List He.DefD := [⟨("_wall", none), "_wall", "_wall", defArgs s__wall, defBody s__wall, defScope s__wall, [], []⟩, ⟨("is_number", none), "is_number", "is_number", defArgs s_is_number, defBody s_is_number, defScope s_is_number, [], []⟩, ⟨("is_good_set", none), "is_good_set", "is_good_set", defArgs s_is_good_set, defBody s_is_good_set, defScope s_is_good_set, [], []⟩, ⟨("is_good_family", none), "is_good_family", "is_good_family", defArgs s_is_good_family, defBody s_is_good_family, defScope s_is_good_family, [], []⟩, ⟨("need_letters", none), "need_letters", "need_letters", defArgs s_need_letters, defBody s_need_letters, defScope s_need_letters, [], []⟩, ⟨("need_family", none), "need_family", "need_family", defArgs s_need_family, defBody s_need_family, defScope s_need_family, [], []⟩, ⟨("need_set", none), "need_set", "need_set", defArgs s_need_set, defBody s_need_set, defScope s_need_set, [], []⟩, ⟨("joined", none), "joined", "joined", defArgs s_joined, defBody s_joined, defScope s_joined, [], []⟩, ⟨("met", none), "met", "met", defArgs s_met, defBody s_met, defScope s_met, [], []⟩, ⟨("less", none), "less", "less", defArgs s_less, defBody s_less, defScope s_less, [], []⟩, ⟨("is_in", none), "is_in", "is_in", defArgs s_is_in, defBody s_is_in, defScope s_is_in, [], []⟩, ⟨("every_set", none), "every_set", "every_set", defArgs s_every_set, defBody s_every_set, defScope s_every_set, [], []⟩, ⟨("joins_of", none), "joins_of", "joins_of", defArgs s_joins_of, defBody s_joins_of, defScope s_joins_of, [], []⟩, ⟨("meets_of", none), "meets_of", "meets_of", defArgs s_meets_of, defBody s_meets_of, defScope s_meets_of, [], []⟩, ⟨("differences_of", none), "differences_of", "differences_of", defArgs s_differences_of, defBody s_differences_of, defScope s_differences_of, [], []⟩, ⟨("is_closed_down", none), "is_closed_down", "is_closed_down", defArgs s_is_closed_down, defBody s_is_closed_down, defScope s_is_closed_down, [], []⟩, ⟨("need_letter", none), "need_letter", "need_letter", defArgs s_need_letter, defBody s_need_letter, defScope s_need_letter, [], []⟩, ⟨("squeezed_by", none), "squeezed_by", "squeezed_by", defArgs s_squeezed_by, defBody s_squeezed_by, defScope s_squeezed_by, [], []⟩, ⟨("picks", none), "picks", "picks", defArgs s_picks, defBody s_picks, defScope s_picks, [], []⟩, ⟨("word_of", none), "word_of", "word_of", defArgs s_word_of, defBody s_word_of, defScope s_word_of, [], []⟩, ⟨("text_of", none), "text_of", "text_of", defArgs s_text_of, defBody s_text_of, defScope s_text_of, [], []⟩, ⟨("family_in", none), "family_in", "family_in", defArgs s_family_in, defBody s_family_in, defScope s_family_in, [], []⟩, ⟨("exchanged", none), "exchanged", "exchanged", defArgs s_exchanged, defBody s_exchanged, defScope s_exchanged, [], []⟩, ⟨("Family", some "__len__"), "__len__", "Family.__len__", defArgs s_Family_len, defBody s_Family_len, defScope s_Family_len, [], []⟩, ⟨("Bench", some "__len__"), "__len__", "Bench.__len__", defArgs s_Bench_len, defBody s_Bench_len, defScope s_Bench_len, [], []⟩, ⟨("Family", some "__getitem__"), "__getitem__", "Family.__getitem__", defArgs s_Family_getitem, defBody s_Family_getitem, defScope s_Family_getitem, [], []⟩, ⟨("Bench", some "__getitem__"), "__getitem__", "Bench.__getitem__", defArgs s_Bench_getitem, defBody s_Bench_getitem, defScope s_Bench_getitem, [], []⟩, ⟨("_law_source", none), "_law_source", "_law_source", defArgs s__law_source, defBody s__law_source, defScope s__law_source, [], []⟩, ⟨("_law_draw", none), "_law_draw", "_law_draw", defArgs s__law_draw, defBody s__law_draw, defScope s__law_draw, [], []⟩, ⟨("_law_of", none), "_law_of", "_law_of", defArgs s__law_of, defBody s__law_of, defScope s__law_of, [], []⟩, ⟨("Family", some "__call__"), "__call__", "Family.__call__", defArgs s_Family_call, defBody s_Family_call, defScope s_Family_call, [], []⟩, ⟨("_law_error", none), "_law_error", "_law_error", defArgs s__law_error, defBody s__law_error, defScope s__law_error, [], []⟩, ⟨("Family", some "__ixor__"), "__ixor__", "Family.__ixor__", defArgs s_Family_ixor, defBody s_Family_ixor, defScope s_Family_ixor, [], []⟩, ⟨("_law_turned", none), "_law_turned", "_law_turned", defArgs s__law_turned, defBody s__law_turned, defScope s__law_turned, [], []⟩, ⟨("Bench", some "keep"), "keep", "Bench.keep", defArgs s_Bench_keep, defBody s_Bench_keep, defScope s_Bench_keep, [], []⟩, ⟨("Bench", some "__iadd__"), "__iadd__", "Bench.__iadd__", defArgs s_Bench_iadd, defBody s_Bench_iadd, defScope s_Bench_iadd, [], []⟩, ⟨("_law_grown", none), "_law_grown", "_law_grown", defArgs s__law_grown, defBody s__law_grown, defScope s__law_grown, [], []⟩, ⟨("Family", some "__init__"), "__init__", "Family.__init__", defArgs s_Family_init, defBody s_Family_init, defScope s_Family_init, [], []⟩, ⟨("Family", some "need_like"), "need_like", "Family.need_like", defArgs s_Family_need_like, defBody s_Family_need_like, defScope s_Family_need_like, [], []⟩, ⟨("Family", some "__or__"), "__or__", "Family.__or__", defArgs s_Family_or, defBody s_Family_or, defScope s_Family_or, [], []⟩, ⟨("Family", some "__and__"), "__and__", "Family.__and__", defArgs s_Family_and, defBody s_Family_and, defScope s_Family_and, [], []⟩, ⟨("Family", some "__sub__"), "__sub__", "Family.__sub__", defArgs s_Family_sub, defBody s_Family_sub, defScope s_Family_sub, [], []⟩, ⟨("Family", some "__le__"), "__le__", "Family.__le__", defArgs s_Family_le, defBody s_Family_le, defScope s_Family_le, [], []⟩, ⟨("Family", some "__xor__"), "__xor__", "Family.__xor__", defArgs s_Family_xor, defBody s_Family_xor, defScope s_Family_xor, [], []⟩, ⟨("Bench", some "__init__"), "__init__", "Bench.__init__", defArgs s_Bench_init, defBody s_Bench_init, defScope s_Bench_init, [], []⟩, ⟨("Bench", some "put"), "put", "Bench.put", defArgs s_Bench_put, defBody s_Bench_put, defScope s_Bench_put, [], []⟩, ⟨("Bench", some "strike"), "strike", "Bench.strike", defArgs s_Bench_strike, defBody s_Bench_strike, defScope s_Bench_strike, [], []⟩, ⟨("Bench", some "squeeze"), "squeeze", "Bench.squeeze", defArgs s_Bench_squeeze, defBody s_Bench_squeeze, defScope s_Bench_squeeze, [], []⟩, ⟨("_law_calls_of", none), "_law_calls_of", "_law_calls_of", defArgs s__law_calls_of, defBody s__law_calls_of, defScope s__law_calls_of, [], []⟩, ⟨("Family", some "__eq__"), "__eq__", "Family.__eq__", defArgs s_Family_eq, defBody s_Family_eq, defScope s_Family_eq, [], []⟩, ⟨("Bench", some "__eq__"), "__eq__", "Bench.__eq__", defArgs s_Bench_eq, defBody s_Bench_eq, defScope s_Bench_eq, [], []⟩, ⟨("Bench", some "undo"), "undo", "Bench.undo", defArgs s_Bench_undo, defBody s_Bench_undo, defScope s_Bench_undo, [], []⟩, ⟨("_law_full_right", none), "_law_full_right", "_law_full_right", defArgs s__law_full_right, defBody s__law_full_right, defScope s__law_full_right, [], []⟩, ⟨("law", none), "law", "law", defArgs s_law, defBody s_law, defScope s_law, [], []⟩]
def fn : List He.DefD := fn0
def tq : List (He.Defn × Str) := [(("_law_calls_of", none), "_law_calls_of.<locals>.<lambda>"), (("_law_full_right", none), "_law_full_right.<locals>.<lambda>"), (("law", none), "law.<locals>.<lambda>")]
def exl0 : List (PySem.W.Frag → Bool) := [oexB "TooMany", supB "TooMany" "/claim/cut.py", opmB "Family" "__ixor__", opmB "Bench" "__iadd__", isiB "Family", cmethB "Family" "read", opmB "Family" "__or__", binB "Family" .BitOr, opmB "Family" "__and__", binB "Family" .BitAnd, opmB "Family" "__sub__", binB "Family" .Sub, opmB "Family" "__le__", rightB "Family", opmB "Family" "__xor__", binB "Family" .BitXor, callB "Family", opmB "Family" "__getitem__", fnB "Family" "__getitem__", opmB "Bench" "__getitem__", fnB "Bench" "__getitem__", isiB "Bench", propB "Bench" "family", opmB "Bench" "__len__", (fun K => L2.xfB K (He.ga K "TooMany")), (fun K => decide (PySem.W.exmOne K (.ref (He.ga K "TooMany")) (.ref (He.ga K "TooMany")) = some true)), propB "Family" "source"]
def exl1 : List (PySem.W.Frag → Bool) := [excTB "MeetError" errNs]
def exl2 : List (PySem.W.Frag → Bool) := [errTB "MeetError" errNs]
def exl3 : List (PySem.W.Frag → Bool) := [(fun K => decide ((tq.map fun p => (He.cT K p.1).2).Nodup))]
def exl : List (PySem.W.Frag → Bool) := exl0 ++ exl1 ++ exl2 ++ exl3
def ex0 : PySem.W.Frag → Bool := (fun _ => true)
def ex : PySem.W.Frag → Bool := fun K => ex0 K && (exl.all fun b => b K)
def fy : List DefY := [⟨fun K => He.ma K (He.ga K "TooMany") "__init__", "__init__", "TooMany.__init__", defArgs s_TooMany_init, defBody s_TooMany_init, defScope s_TooMany_init, ["__class__"]⟩, ⟨recA "classmethod" "Family" "read", "read", "Family.read", defArgs s_Family_read, defBody s_Family_read, defScope s_Family_read, []⟩, ⟨recA "property" "Bench" "family", "family", "Bench.family", defArgs s_Bench_family, defBody s_Bench_family, defScope s_Bench_family, []⟩, ⟨recA "property" "Family" "source", "source", "Family.source", defArgs s_Family_source, defBody s_Family_source, defScope s_Family_source, []⟩]
abbrev Rw : PySem.W.OpenRow := PySem.W.OpenLaw.row PySem.Challenge.rw_evenlymet_k17_errors_of_families_and_ben
end Em

set_option Elab.async false
set_option linter.all false
set_option maxRecDepth 100000
set_option maxHeartbeats 4000000
namespace Em
open PySem PySem.Spec PyProof.Rows L2 DL OrdS PySem.Calls
theorem r0 (w : World) : Tells Rw 9000 (fun s => HandSHeadRun.looksF Rw.prog (PySem.W.boot_heap w.params) s.abs) true w := by
  intro os
  kernel_rfl
end Em

set_option Elab.async false
set_option linter.all false
set_option maxRecDepth 100000
set_option maxHeartbeats 4000000
namespace Em
open PySem PySem.Spec PyProof.Rows L2 DL OrdS PySem.Calls
theorem r1 (w : World) : Tells Rw 9000 (fun s => HandSHeadRun.seenQ (PySem.W.view Rw.prog [56]) ((["_wall", "MeetError", "InvalidFamily", "InvalidLetters", "InvalidSet", "InvalidLetter", "InvalidWeights", "InvalidClaim", "InvalidKinds", "InvalidWord", "InvalidNumber", "InvalidFacts", "InvalidText", "Unlike", "NothingToUndo", "TooMany", "LETTERS", "is_number", "is_good_set", "is_good_family"] : List Str) ++ (["need_letters", "need_family", "need_set", "joined", "met", "less", "is_in", "every_set", "joins_of", "meets_of", "differences_of", "is_closed_down", "need_letter", "squeezed_by", "picks", "word_of", "text_of", "family_in", "exchanged", "Family"] : List Str) ++ (["CALLS", "Bench", "_law_source", "_law_draw", "_law_of", "_law_error", "_law_turned", "_law_grown", "_law_calls_of", "_law_full_right"] : List Str)) (importedModules Rw.prog.main.body) (fun s => PySem.W.xlAt (PySem.W.view Rw.prog [56]) [] s && PySem.W.recOk Rw.toRowW.records s) s.abs) (PySem.W.openGood (PySem.W.view Rw.prog [56]) ((["_wall", "MeetError", "InvalidFamily", "InvalidLetters", "InvalidSet", "InvalidLetter", "InvalidWeights", "InvalidClaim", "InvalidKinds", "InvalidWord", "InvalidNumber", "InvalidFacts", "InvalidText", "Unlike", "NothingToUndo", "TooMany", "LETTERS", "is_number", "is_good_set", "is_good_family"] : List Str) ++ (["need_letters", "need_family", "need_set", "joined", "met", "less", "is_in", "every_set", "joins_of", "meets_of", "differences_of", "is_closed_down", "need_letter", "squeezed_by", "picks", "word_of", "text_of", "family_in", "exchanged", "Family"] : List Str) ++ (["CALLS", "Bench", "_law_source", "_law_draw", "_law_of", "_law_error", "_law_turned", "_law_grown", "_law_calls_of", "_law_full_right"] : List Str))) w := by
  intro os
  kernel_rfl
end Em

set_option Elab.async false
set_option linter.all false
set_option maxRecDepth 100000
set_option maxHeartbeats 4000000
namespace Em
open PySem PySem.Spec PyProof.Rows L2 DL OrdS PySem.Calls
theorem f0 (w : World) : Tells Rw 9000 (lookF as fa0) true w := by
  intro os
  kernel_rfl
end Em

set_option Elab.async false
set_option linter.all false
set_option maxRecDepth 100000
set_option maxHeartbeats 4000000
namespace Em
open PySem PySem.Spec PyProof.Rows L2 DL OrdS PySem.Calls
theorem d0 (w : World) : Tells Rw 9000 (lookD as fn0) (valD fn0) w := by
  intro os
  kernel_rfl
end Em

set_option Elab.async false
set_option linter.all false
set_option maxRecDepth 100000
set_option maxHeartbeats 4000000
namespace Em
open PySem PySem.Spec PyProof.Rows L2 DL OrdS PySem.Calls
theorem e0 (w : World) : Tells Rw 9000 (lookE as (fun K => exl0.all fun b => b K) []) true w := by
  intro os
  kernel_rfl
end Em

set_option Elab.async false
set_option linter.all false
set_option maxRecDepth 100000
set_option maxHeartbeats 4000000
namespace Em
open PySem PySem.Spec PyProof.Rows L2 DL OrdS PySem.Calls
theorem e1 (w : World) : Tells Rw 9000 (lookE as (fun K => exl1.all fun b => b K) []) true w := by
  intro os
  kernel_rfl
end Em

set_option Elab.async false
set_option linter.all false
set_option maxRecDepth 100000
set_option maxHeartbeats 4000000
namespace Em
open PySem PySem.Spec PyProof.Rows L2 DL OrdS PySem.Calls
theorem e2 (w : World) : Tells Rw 9000 (lookE as (fun K => exl2.all fun b => b K) []) true w := by
  intro os
  kernel_rfl
end Em

set_option Elab.async false
set_option linter.all false
set_option maxRecDepth 100000
set_option maxHeartbeats 4000000
namespace Em
open PySem PySem.Spec PyProof.Rows L2 DL OrdS PySem.Calls
theorem e3 (w : World) : Tells Rw 9000 (lookE as (fun K => exl3.all fun b => b K) []) true w := by
  intro os
  kernel_rfl
end Em

set_option Elab.async false
set_option linter.all false
set_option maxRecDepth 100000
set_option maxHeartbeats 4000000
namespace Em
open PySem PySem.Spec PyProof.Rows L2 DL OrdS PySem.Calls
theorem z (w : World) : Tells Rw 9000 (fun s => (lookE as ex0 (tq.map (·.1)) s, lookY as fy s)) (true, valYs fy) w := by
  intro os
  kernel_rfl
end Em

set_option Elab.async false
set_option linter.all false
set_option maxRecDepth 100000
set_option maxHeartbeats 4000000


set_option Elab.async false
set_option linter.all false
set_option maxRecDepth 100000
set_option maxHeartbeats 4000000
namespace DL
open PySem PySem.Spec PyProof.Rows L2

/-! ### deep data -/
mutual
/-- a value stands for data in a heap whose objects stay as they are -/
inductive Rp (K : PySem.W.Frag) (H : Hp) : V → D → Prop
  | non : Rp K H .non .non
  | bl (b : Bool) : Rp K H (.bl b) (.bl b)
  | int (i : Int) : Rp K H (.int i) (.int i)
  | str (x : Str) : Rp K H (.str x) (.str x)
  | ref (a : Addr) : Rp K H (.ref a) (.ref a)
  | glo (x : Str) : Rp K H (.ref (He.ga K x)) (.glo x)
  | ty (n : String) : Rp K H (.ty n) (.ty n)
  | tup {a : Addr} {xs : List V} {ds : List D} : SqT K H a xs → Rps K H xs ds → Rp K H (.ref a) (.tup ds)
  | lst {a : Addr} {xs : List V} {ds : List D} : H a = some (.lst xs) → Rps K H xs ds → Rp K H (.ref a) (.lst ds)
  | frz {a : Addr} {xs : List V} {ds : List D} : SqL K H a xs → Rps K H xs ds → Rp K H (.ref a) (.frz ds)
  | dic {a : Addr} {kvs : List (Key × V)} {ks : List Str} {ds : List D} : H a = some (.dK kvs) → kvs.map (·.1) = ks.map Sum.inr → Rps K H (kvs.map (·.2)) ds → Rp K H (.ref a) (.dic ks ds)
inductive Rps (K : PySem.W.Frag) (H : Hp) : List V → List D → Prop
  | nil : Rps K H [] []
  | cons {v : V} {vs : List V} {d : D} {ds : List D} : Rp K H v d → Rps K H vs ds → Rps K H (v :: vs) (d :: ds)
end

theorem sqL_sub {K : PySem.W.Frag} {H H' : Hp} {a : Addr} {xs : List V} (e : Sub H H') (h : SqL K H a xs) : SqL K H' a xs := Same.seq e h
theorem sqT_sub {K : PySem.W.Frag} {H H' : Hp} {a : Addr} {xs : List V} (e : Sub H H') (h : SqT K H a xs) : SqT K H' a xs := by
  rcases h with (h | ⟨o, h⟩) | h
  · exact .inl (.inl (e _ _ h))
  · exact .inl (.inr ⟨o, e _ _ h⟩)
  · exact .inr h
mutual
theorem Rp.sub {K : PySem.W.Frag} {H H' : Hp} (e : Sub H H') : ∀ {v : V} {d : D}, Rp K H v d → Rp K H' v d
  | _, _, .non => .non
  | _, _, .bl b => .bl b
  | _, _, .int i => .int i
  | _, _, .str x => .str x
  | _, _, .ref a => .ref a
  | _, _, .glo x => .glo x
  | _, _, .ty n => .ty n
  | _, _, .tup h r => .tup (sqT_sub e h) (Rps.sub e r)
  | _, _, .lst h r => .lst (e _ _ h) (Rps.sub e r)
  | _, _, .frz h r => .frz (sqL_sub e h) (Rps.sub e r)
  | _, _, .dic h k r => .dic (e _ _ h) k (Rps.sub e r)
theorem Rps.sub {K : PySem.W.Frag} {H H' : Hp} (e : Sub H H') : ∀ {v : List V} {d : List D}, Rps K H v d → Rps K H' v d
  | _, _, .nil => .nil
  | _, _, .cons a b => .cons (Rp.sub e a) (Rps.sub e b)
end
theorem Rps.length {K : PySem.W.Frag} {H : Hp} : ∀ {v : List V} {d : List D}, Rps K H v d → v.length = d.length
  | _, _, .nil => rfl
  | _, _, .cons _ b => by rw [List.length_cons, List.length_cons, Rps.length b]
theorem Rps.get {K : PySem.W.Frag} {H : Hp} : ∀ {xs : List V} {ds : List D} {i : Nat} {d : D}, Rps K H xs ds → ds[i]? = some d → ∃ v, xs[i]? = some v ∧ Rp K H v d
  | _, _, _, _, .nil, h => by simp at h
  | _, _, 0, _, .cons a _, h => by
    simp at h
    subst h
    exact ⟨_, rfl, a⟩
  | _, _, i + 1, d, .cons _ b, h => by
    obtain ⟨v, h1, h2⟩ := Rps.get (i := i) (d := d) b (by simpa using h)
    exact ⟨v, by simpa using h1, h2⟩
theorem Rps.append {K : PySem.W.Frag} {H : Hp} : ∀ {xs ys : List V} {ds es : List D}, Rps K H xs ds → Rps K H ys es → Rps K H (xs ++ ys) (ds ++ es)
  | _, _, _, _, .nil, s => s
  | _, _, _, _, .cons a b, s => .cons a (Rps.append b s)
theorem Rps.take {K : PySem.W.Frag} {H : Hp} : ∀ {xs : List V} {ds : List D} (n : Nat), Rps K H xs ds → Rps K H (xs.take n) (ds.take n)
  | _, _, 0, _ => .nil
  | _, _, _ + 1, .nil => .nil
  | _, _, n + 1, .cons a b => .cons a (Rps.take n b)
theorem Rps.drop {K : PySem.W.Frag} {H : Hp} : ∀ {xs : List V} {ds : List D} (n : Nat), Rps K H xs ds → Rps K H (xs.drop n) (ds.drop n)
  | _, _, 0, r => r
  | _, _, _ + 1, .nil => .nil
  | _, _, n + 1, .cons _ b => Rps.drop n b
theorem Rps.set {K : PySem.W.Frag} {H : Hp} {v : V} {d : D} (a : Rp K H v d) : ∀ {xs : List V} {ds : List D} (n : Nat), Rps K H xs ds → Rps K H (xs.set n v) (ds.set n d)
  | _, _, _, .nil => .nil
  | _, _, 0, .cons _ b => .cons a b
  | _, _, n + 1, .cons x b => .cons x (Rps.set a n b)
theorem Rps.reverse {K : PySem.W.Frag} {H : Hp} : ∀ {xs : List V} {ds : List D}, Rps K H xs ds → Rps K H xs.reverse ds.reverse
  | _, _, .nil => .nil
  | _, _, .cons a b => by
    rw [List.reverse_cons, List.reverse_cons]
    exact Rps.append (Rps.reverse b) (.cons a .nil)
theorem Rps.strs {K : PySem.W.Frag} {H : Hp} : ∀ {xs : List V} {ss : List Str}, Rps K H xs (ss.map D.str) → xs = ss.map V.str
  | [], [], _ => rfl
  | _ :: _, [], h => nomatch h
  | [], _ :: _, h => nomatch h
  | v :: vs, s :: ss, h => by
    cases h with
    | cons a b =>
      cases a
      rw [List.map_cons, Rps.strs b]
theorem Rps.ofStrs {K : PySem.W.Frag} {H : Hp} : ∀ (ss : List Str), Rps K H (ss.map V.str) (ss.map D.str)
  | [] => .nil
  | s :: ss => .cons (.str s) (Rps.ofStrs ss)
theorem Rps.ofInts {K : PySem.W.Frag} {H : Hp} : ∀ (ss : List Int), Rps K H (ss.map V.int) (ss.map D.int)
  | [] => .nil
  | s :: ss => .cons (.int s) (Rps.ofInts ss)
theorem Rps.bls {K : PySem.W.Frag} {H : Hp} : ∀ {xs : List V} {ss : List Bool}, Rps K H xs (ss.map D.bl) → xs = ss.map V.bl
  | [], [], _ => rfl
  | _ :: _, [], h => nomatch h
  | [], _ :: _, h => nomatch h
  | v :: vs, s :: ss, h => by
    cases h with
    | cons a b =>
      cases a
      rw [List.map_cons, Rps.bls b]

/-! ### what changes: a store of objects -/
theorem keepC_new {H : Hp} {p : Addr} (hp : H p = none) (o : HO) : KeepC H (upd H p o) := fun c q e => by rw [upd_ne (ne_of_none e hp)]; exact e
theorem keepC_upd {H : Hp} {p : Addr} (hp : NoCode H p) (o : HO) : KeepC H (upd H p o) := fun c q e => by
  by_cases hc : c = p
  · subst hc; exact absurd e (hp q)
  · rw [upd_ne hc]; exact e
theorem noCode_lst {H : Hp} {p : Addr} {xs : List V} (e : H p = some (.lst xs)) : NoCode H p := fun q z => by rw [e] at z; cases z
theorem noCode_dK {H : Hp} {p : Addr} {xs : List (Key × V)} (e : H p = some (.dK xs)) : NoCode H p := fun q z => by rw [e] at z; cases z
theorem noCode_ins {H : Hp} {p C : Addr} {dx} {xs} (e : H p = some (.ins C dx xs)) : NoCode H p := fun q z => by rw [e] at z; cases z
def RpM (K : PySem.W.Frag) (H0 H : Hp) (a : Addr) : MO → Prop
  | .src => ∃ c s : Int, H a = some (.lst [.int c, .int s]) ∧ 0 ≤ c ∧ c < 2 ^ srcBits ∧ 0 ≤ s ∧ s < 2147483648
  | .lst ds => ∃ xs, H a = some (.lst xs) ∧ Rps K H0 xs ds
  | .ins c fs => ∃ dx vs, H a = some (.ins (He.ga K c) dx vs) ∧ vs.map (·.1) = fs.map (·.1) ∧ Rps K H0 (vs.map (·.2)) (fs.map (·.2))
  | .tab q => LamX.TabS H a q
  | .own ρ => ρ.rel K H0 H a
theorem RpM.there {K : PySem.W.Frag} {H0 H : Hp} {a : Addr} {m : MO} (h : RpM K H0 H a m) : H a ≠ none := by
  cases m with
  | src => obtain ⟨c, s, e, _⟩ := h; rw [e]; exact fun z => nomatch z
  | lst ds => obtain ⟨xs, e, _⟩ := h; rw [e]; exact fun z => nomatch z
  | ins C fs => obtain ⟨dx, vs, e, _⟩ := h; rw [e]; exact fun z => nomatch z
  | tab q => obtain ⟨ps, e, _⟩ := h; rw [e]; exact fun z => nomatch z
  | own ρ => exact ρ.there h
theorem RpM.noE {K : PySem.W.Frag} {H0 H : Hp} {a : Addr} {m : MO} (h : RpM K H0 H a m) : NoCode H a := by
  cases m with
  | src => obtain ⟨c, s, e, _⟩ := h; exact noCode_lst e
  | lst ds => obtain ⟨xs, e, _⟩ := h; exact noCode_lst e
  | ins C fs => obtain ⟨dx, vs, e, _⟩ := h; exact noCode_ins e
  | tab q => obtain ⟨ps, e, _⟩ := h; exact fun φ z => by rw [e] at z; cases z
  | own ρ => exact ρ.noE h
theorem RpM.keep {K : PySem.W.Frag} {H0 H H0' H' : Hp} {a : Addr} {m : MO} (h : RpM K H0 H a m) (e0 : Sub H0 H0') (e : H' a = H a) (ek : KeepC H H') : RpM K H0' H' a m := by
  cases m with
  | src => obtain ⟨c, s, q, r⟩ := h; exact ⟨c, s, e.trans q, r⟩
  | lst ds => obtain ⟨xs, q, r⟩ := h; exact ⟨xs, e.trans q, r.sub e0⟩
  | ins C fs => obtain ⟨dx, vs, q, r, t⟩ := h; exact ⟨dx, vs, e.trans q, r, t.sub e0⟩
  | tab q => obtain ⟨ps, h1, h2, h3⟩ := h; exact ⟨ps, e.trans h1, h2, fun pos cv hc => by obtain ⟨c, e1, e2⟩ := h3 pos cv hc; exact ⟨c, e1, ek _ _ e2⟩⟩
  | own ρ => exact ρ.keep h e0 e ek

/-- H the heap, H0 the part that stays for good, S the objects that may change -/
structure StR (K : PySem.W.Frag) (H H0 : Hp) (S : Sto) : Prop where
  sub : Sub H0 H
  nos : ∀ a, S a ≠ none → H0 a = none
  sto : ∀ a m, S a = some m → RpM K H0 H a m
/-- what a step may do -/
structure Grow (H H0 : Hp) (S : Sto) (H' H0' : Hp) (S' : Sto) : Prop where
  keep : ∀ a o, H a = some o → S a = none → H' a = some o
  old : ∀ a, H0 a = none → H a ≠ none → H0' a = none
  sub : Sub H0 H0'
  more : ∀ a, S a ≠ none → S' a ≠ none
  new : ∀ a, S' a ≠ none → S a ≠ none ∨ H a = none
theorem Grow.refl (H H0 : Hp) (S : Sto) : Grow H H0 S H H0 S := ⟨fun _ _ h _ => h, fun _ h _ => h, fun _ _ h => h, fun _ h => h, fun _ h => .inl h⟩
theorem Grow.isN {H H0 : Hp} {S : Sto} {H' H0' : Hp} {S' : Sto} (g : Grow H H0 S H' H0' S') {a : Addr} (h : S a = none) (h' : H a ≠ none) : S' a = none := by
  cases e : S' a with
  | none => rfl
  | some m =>
    rcases g.new a (by rw [e]; exact fun z => nomatch z) with z | z
    · exact absurd h z
    · exact absurd z h'
/-- what was there is there -/
theorem Grow.there {K : PySem.W.Frag} {H H0 : Hp} {S : Sto} {H' H0' : Hp} {S' : Sto} (g : Grow H H0 S H' H0' S') (s' : StR K H' H0' S') {a : Addr} (h : H a ≠ none) : H' a ≠ none := by
  cases e : S a with
  | none =>
    cases q : H a with
    | none => exact absurd q h
    | some o => rw [g.keep a o q e]; exact fun z => nomatch z
  | some m =>
    have q := g.more a (by rw [e]; exact fun z => nomatch z)
    cases r : S' a with
    | none => exact absurd r q
    | some m' => exact (s'.sto a m' r).there
theorem Grow.trans {K : PySem.W.Frag} {H H0 : Hp} {S : Sto} {H1 H01 : Hp} {S1 : Sto} {H2 H02 : Hp} {S2 : Sto} (s1 : StR K H1 H01 S1) (a : Grow H H0 S H1 H01 S1) (b : Grow H1 H01 S1 H2 H02 S2) : Grow H H0 S H2 H02 S2 where
  keep := fun c o h n => b.keep c o (a.keep c o h n) (a.isN n (by rw [h]; exact fun z => nomatch z))
  old := fun c h n => b.old c (a.old c h n) (a.there s1 n)
  sub := fun c o h => b.sub c o (a.sub c o h)
  more := fun c h => b.more c (a.more c h)
  new := fun c h => by
    rcases b.new c h with z | z
    · exact a.new c z
    · refine .inr ?_
      cases q : H c with
      | none => rfl
      | some o => exact absurd z (a.there s1 (by rw [q]; exact fun z => nomatch z))

/-! ### slots -/
def owns : Sl → Bool
  | .ow _ => true
  | .od _ _ => true
  | _ => false
def RpS (K : PySem.W.Frag) (H H0 : Hp) (S : Sto) (o : Option (Option V)) : Sl → Prop
  | .un => True
  | .va d => ∃ v, o = some (some v) ∧ Rp K H0 v d
  | .ow ds => ∃ p xs, o = some (some (.ref p)) ∧ H p = some (.lst xs) ∧ H0 p = none ∧ S p = none ∧ Rps K H0 xs ds
  | .od ks ds => ∃ p kvs, o = some (some (.ref p)) ∧ H p = some (.dK kvs) ∧ H0 p = none ∧ S p = none ∧ kvs.map (·.1) = ks.map Sum.inr ∧ Rps K H0 (kvs.map (·.2)) ds
theorem RpS.grow {K : PySem.W.Frag} {H H0 : Hp} {S : Sto} {H' H0' : Hp} {S' : Sto} (g : Grow H H0 S H' H0' S') {o : Option (Option V)} {s : Sl} (h : RpS K H H0 S o s) : RpS K H' H0' S' o s := by
  cases s with
  | un => trivial
  | va d => obtain ⟨v, e, r⟩ := h; exact ⟨v, e, r.sub g.sub⟩
  | ow ds =>
    obtain ⟨p, xs, e, h1, h2, h3, r⟩ := h
    have nn : H p ≠ none := by rw [h1]; exact fun z => nomatch z
    exact ⟨p, xs, e, g.keep p _ h1 h3, g.old p h2 nn, g.isN h3 nn, r.sub g.sub⟩
  | od ks ds =>
    obtain ⟨p, xs, e, h1, h2, h3, k, r⟩ := h
    have nn : H p ≠ none := by rw [h1]; exact fun z => nomatch z
    exact ⟨p, xs, e, g.keep p _ h1 h3, g.old p h2 nn, g.isN h3 nn, k, r.sub g.sub⟩
structure Rel (K : PySem.W.Frag) (σ : L2.St) (H H0 : Hp) (S : Sto) (g : Sg) : Prop where
  st : StR K H H0 S
  len : σ.length = g.length
  sl : ∀ (i : Nat) s, g[i]? = some s → RpS K H H0 S σ[i]? s
  di : ∀ (i j : Nat) si sj p, i ≠ j → g[i]? = some si → g[j]? = some sj → owns si = true → owns sj = true → σ[i]? = some (some (.ref p)) → σ[j]? ≠ some (some (.ref p))
theorem Rel.grow {K : PySem.W.Frag} {σ : L2.St} {H H0 : Hp} {S : Sto} {g : Sg} {H' H0' : Hp} {S' : Sto} (r : Rel K σ H H0 S g) (s' : StR K H' H0' S') (w : Grow H H0 S H' H0' S') : Rel K σ H' H0' S' g :=
  ⟨s', r.len, fun i s h => (r.sl i s h).grow w, r.di⟩

/-! ### programs over data -/
namespace T
def bind {α β : Type} (m : T α) (f : α → T β) : T β := fun S Q E => m S (fun a S' => f a S' Q E) E
def raise {α : Type} (x : Xn) : T α := fun S _ E => E x S
theorem ite_ex {α : Type} : ∃ f : Bool → T α → T α → T α, (∀ a b, f true a b = a) ∧ ∀ a b, f false a b = b := ⟨fun k a b => match k with
  | true => a
  | false => b, fun _ _ => rfl, fun _ _ => rfl⟩
noncomputable def ite {α : Type} : Bool → T α → T α → T α := Classical.choose ite_ex
theorem iteT {α : Type} {a b : T α} {S : Sto} {Q : α → Sto → Prop} {E : Xn → Sto → Prop} (h : ite true a b S Q E) : a S Q E := by
  have e : ite true a b = a := (Classical.choose_spec ite_ex).1 a b
  rw [e] at h; exact h
theorem iteF {α : Type} {a b : T α} {S : Sto} {Q : α → Sto → Prop} {E : Xn → Sto → Prop} (h : ite false a b S Q E) : b S Q E := by
  have e : ite false a b = b := (Classical.choose_spec ite_ex).2 a b
  rw [e] at h; exact h
theorem iteT_ {α : Type} {a b : T α} {S : Sto} {Q : α → Sto → Prop} {E : Xn → Sto → Prop} (h : a S Q E) : ite true a b S Q E := by
  have e : ite true a b = a := (Classical.choose_spec ite_ex).1 a b
  rw [e]; exact h
theorem iteF_ {α : Type} {a b : T α} {S : Sto} {Q : α → Sto → Prop} {E : Xn → Sto → Prop} (h : b S Q E) : ite false a b S Q E := by
  have e : ite false a b = b := (Classical.choose_spec ite_ex).2 a b
  rw [e]; exact h
end T
def RpX (K : PySem.W.Frag) (H0 H : Hp) (x : Xn) (o : Option Addr) : Prop := (x.fs = [] ∧ o = none) ∨ x.fs ≠ [] ∧ ∃ d vs, o = some d ∧ H d = some (.xd vs) ∧ vs.map (·.1) = x.fs.map (·.1) ∧ Rps K H0 (vs.map (·.2)) (x.fs.map (·.2))
/-- the wish about exceptions, in data -/
def EX (K : PySem.W.Frag) (E : XK) (H H0 : Hp) (S : Sto) : Xn → Sto → Prop := fun x S' => ∀ o H' H0', StR K H' H0' S' → Grow H H0 S H' H0' S' → RpX K H0' H' x o → E (.ref (He.ga K x.cls)) o H'
theorem EX.grow {K : PySem.W.Frag} {E : XK} {H H0 : Hp} {S : Sto} {H1 H01 : Hp} {S1 : Sto} (s1 : StR K H1 H01 S1) (g : Grow H H0 S H1 H01 S1) {x : Xn} {S' : Sto} (h : EX K E H H0 S x S') : EX K E H1 H01 S1 x S' :=
  fun o H' H0' s' g' r => h o H' H0' s' (g.trans s1 g') r

/-! ### results -/
abbrev RR := Hp → Hp → Hp → Sto → V → D → Prop
/-- a result that stays -/
def RF (K : PySem.W.Frag) : RR := fun _ _ H0' _ v d => Rp K H0' v d
/-- a list or dict that may be read now -/
def RB (K : PySem.W.Frag) : RR := fun _ H' H0' S' v d => Rp K H0' v d ∨ (∃ p xs ds, v = .ref p ∧ d = .lst ds ∧ H' p = some (.lst xs) ∧ S' p = none ∧ Rps K H0' xs ds) ∨
  ∃ p kvs ks ds, v = .ref p ∧ d = .dic ks ds ∧ H' p = some (.dK kvs) ∧ S' p = none ∧ kvs.map (·.1) = ks.map Sum.inr ∧ Rps K H0' (kvs.map (·.2)) ds
/-- a list or dict that was just made -/
def RN (K : PySem.W.Frag) : RR := fun H H' H0' S' v d => (∃ p xs ds, v = .ref p ∧ d = .lst ds ∧ H p = none ∧ H' p = some (.lst xs) ∧ H0' p = none ∧ S' p = none ∧ Rps K H0' xs ds) ∨
  ∃ p kvs ks ds, v = .ref p ∧ d = .dic ks ds ∧ H p = none ∧ H' p = some (.dK kvs) ∧ H0' p = none ∧ S' p = none ∧ kvs.map (·.1) = ks.map Sum.inr ∧ Rps K H0' (kvs.map (·.2)) ds
abbrev ME := Sg → T D
abbrev MA := Sg → T (List D)
abbrev MT := Sg → T Bool
def lf (K : PySem.W.Frag) (E : XK) (R : RR) (m : ME) : TE := fun σ H Q => ∃ g S H0 Qd Ed, Rel K σ H H0 S g ∧ m g S Qd Ed ∧
  (∀ d S', Qd d S' → ∀ v H' H0', StR K H' H0' S' → Grow H H0 S H' H0' S' → R H H' H0' S' v d → Q v H') ∧ ∀ x S', Ed x S' → EX K E H H0 S x S'
def lt (K : PySem.W.Frag) (E : XK) (m : MT) : TT := fun σ H Q => ∃ g S H0 Qd Ed, Rel K σ H H0 S g ∧ m g S Qd Ed ∧
  (∀ b S', Qd b S' → ∀ H' H0', StR K H' H0' S' → Grow H H0 S H' H0' S' → Q b H') ∧ ∀ x S', Ed x S' → EX K E H H0 S x S'
/-- borrowed arguments -/
inductive RBs (K : PySem.W.Frag) (H' H0' : Hp) (S' : Sto) : List V → List D → Prop
  | nil : RBs K H' H0' S' [] []
  | cons {v : V} {vs : List V} {d : D} {ds : List D} : RB K H' H' H0' S' v d → RBs K H' H0' S' vs ds → RBs K H' H0' S' (v :: vs) (d :: ds)
def la (K : PySem.W.Frag) (E : XK) (m : MA) : TA := fun σ H Q => ∃ g S H0 Qd Ed, Rel K σ H H0 S g ∧ m g S Qd Ed ∧
  (∀ ds S', Qd ds S' → ∀ vs H' H0', StR K H' H0' S' → Grow H H0 S H' H0' S' → Rps K H0' vs ds → Q vs H') ∧ ∀ x S', Ed x S' → EX K E H H0 S x S'
def lab (K : PySem.W.Frag) (E : XK) (m : MA) : TA := fun σ H Q => ∃ g S H0 Qd Ed, Rel K σ H H0 S g ∧ m g S Qd Ed ∧
  (∀ ds S', Qd ds S' → ∀ vs H' H0', StR K H' H0' S' → Grow H H0 S H' H0' S' → RBs K H' H0' S' vs ds → Q vs H') ∧ ∀ x S', Ed x S' → EX K E H H0 S x S'
abbrev XE (X : Cx) (E : XK) (e : Expr) (m : ME) : Prop := PE X e (lf X.K E (RF X.K) m)
abbrev XB (X : Cx) (E : XK) (e : Expr) (m : ME) : Prop := PE X e (lf X.K E (RB X.K) m)
abbrev XN (X : Cx) (E : XK) (e : Expr) (m : ME) : Prop := PE X e (lf X.K E (RN X.K) m)
abbrev XT (X : Cx) (E : XK) (e : Expr) (m : MT) : Prop := PT X e (lt X.K E m)
abbrev XA (X : Cx) (E : XK) (es : List Expr) (m : MA) : Prop := PA X es (la X.K E m)
abbrev XAB (X : Cx) (E : XK) (es : List Expr) (m : MA) : Prop := PA X es (lab X.K E m)
/-! ### weaker readings -/
theorem pe_w {X : Cx} {e : Expr} {t t' : TE} (h : PE X e t) (w : ∀ σ H Q, t' σ H Q → t σ H Q) : PE X e t' := ⟨fun pins s σ H Q I q => h.run pins s σ H Q I (w σ H Q q)⟩
theorem pt_w {X : Cx} {e : Expr} {t t' : TT} (h : PT X e t) (w : ∀ σ H Q, t' σ H Q → t σ H Q) : PT X e t' := ⟨fun pins s σ H Q I q => h.run pins s σ H Q I (w σ H Q q)⟩
theorem pw_w {X : Cx} {e : Expr} {t t' : TT} (h : PW X e t) (w : ∀ σ H Q, t' σ H Q → t σ H Q) : PW X e t' := ⟨fun wh pins s σ H Q I q => h.run wh pins s σ H Q I (w σ H Q q)⟩
theorem pa_w {X : Cx} {e : List Expr} {t t' : TA} (h : PA X e t) (w : ∀ σ H Q, t' σ H Q → t σ H Q) : PA X e t' := ⟨fun pos pins s σ H Q I q => h.run pos pins s σ H Q I (w σ H Q q)⟩
theorem ps_w {X : Cx} {e : Stmt} {t t' : TS} (h : PS X e t) (w : ∀ D σ H, t' D σ H → t D σ H) : PS X e t' := ⟨fun pins s σ H D I q => h.run pins s σ H D I (w D σ H q)⟩
theorem pss_w {X : Cx} {e : List Stmt} {t t' : TS} (h : PSs X e t) (w : ∀ D σ H, t' D σ H → t D σ H) : PSs X e t' := ⟨fun pins s σ H D I q => h.run pins s σ H D I (w D σ H q)⟩
/-! ### results persist -/
theorem RB.grow {K : PySem.W.Frag} {Ha Hb H H0 : Hp} {S : Sto} {H' H0' : Hp} {S' : Sto} (g : Grow H H0 S H' H0' S') {v : V} {d : D} (h : RB K Ha H H0 S v d) : RB K Hb H' H0' S' v d := by
  rcases h with h | ⟨p, xs, ds, e1, e2, h1, h2, r⟩ | ⟨p, kvs, ks, ds, e1, e2, h1, h2, k, r⟩
  · exact .inl (Rp.sub g.sub h)
  · exact .inr (.inl ⟨p, xs, ds, e1, e2, g.keep p _ h1 h2, g.isN h2 (by rw [h1]; exact fun z => nomatch z), r.sub g.sub⟩)
  · exact .inr (.inr ⟨p, kvs, ks, ds, e1, e2, g.keep p _ h1 h2, g.isN h2 (by rw [h1]; exact fun z => nomatch z), k, r.sub g.sub⟩)
/-- what is just made, seen from further back -/
theorem RN.back {K : PySem.W.Frag} {H H0 : Hp} {S : Sto} {H1 H01 : Hp} {S1 : Sto} (s1 : StR K H1 H01 S1) (g : Grow H H0 S H1 H01 S1) {H' H0' : Hp} {S' : Sto} {v : V} {d : D} (h : RN K H1 H' H0' S' v d) : RN K H H' H0' S' v d := by
  have nn : ∀ p, H1 p = none → H p = none := fun p e => by
    cases q : H p with
    | none => rfl
    | some o => exact absurd e (g.there s1 (by rw [q]; exact fun z => nomatch z))
  rcases h with ⟨p, xs, ds, e1, e2, h0, r⟩ | ⟨p, kvs, ks, ds, e1, e2, h0, r⟩
  · exact .inl ⟨p, xs, ds, e1, e2, nn p h0, r⟩
  · exact .inr ⟨p, kvs, ks, ds, e1, e2, nn p h0, r⟩
/-- an R that may be seen from further back -/
def Back (K : PySem.W.Frag) (R : RR) : Prop := ∀ {H H0 : Hp} {S : Sto} {H1 H01 : Hp} {S1 : Sto}, StR K H1 H01 S1 → Grow H H0 S H1 H01 S1 → ∀ {H' H0' : Hp} {S' : Sto} {v : V} {d : D}, R H1 H' H0' S' v d → R H H' H0' S' v d
theorem back_F {K : PySem.W.Frag} : Back K (RF K) := fun _ _ _ _ _ _ _ h => h
theorem back_N {K : PySem.W.Frag} : Back K (RN K) := fun s g _ _ _ _ _ h => RN.back s g h
/-! ### a new object -/
theorem alloc_f {K : PySem.W.Frag} {H H0 : Hp} {S : Sto} (st : StR K H H0 S) {p : Addr} (hp : H p = none) (o : HO) : StR K (upd H p o) (upd H0 p o) S ∧ Grow H H0 S (upd H p o) (upd H0 p o) S := by
  have n0 : H0 p = none := by
    cases q : H0 p with
    | none => rfl
    | some u => rw [st.sub p u q] at hp; cases hp
  have nS : S p = none := by
    cases q : S p with
    | none => rfl
    | some m => exact absurd hp (st.sto p m q).there
  have s0 : Sub H0 (upd H0 p o) := fun a u e => by rw [upd_ne (ne_of_none e n0)]; exact e
  refine ⟨⟨fun a u e => ?_, fun a n => ?_, fun a m e => ?_⟩, ⟨fun a u e _ => ?_, fun a e n => ?_, s0, fun a h => h, fun a h => .inl h⟩⟩
  · by_cases ha : a = p
    · subst ha; rw [upd_same] at e ⊢; exact e
    · rw [upd_ne ha] at e ⊢; exact st.sub a u e
  · have ha : a ≠ p := fun z => n (by rw [z]; exact nS)
    rw [upd_ne ha]; exact st.nos a n
  · have ha : a ≠ p := fun z => by rw [z, nS] at e; cases e
    exact (st.sto a m e).keep s0 (upd_ne ha) (keepC_new hp o)
  · rw [upd_ne (ne_of_none e hp)]; exact e
  · have ha : a ≠ p := fun z => n (by rw [z]; exact hp)
    rw [upd_ne ha]; exact e
theorem alloc_n {K : PySem.W.Frag} {H H0 : Hp} {S : Sto} (st : StR K H H0 S) {p : Addr} (hp : H p = none) (o : HO) : StR K (upd H p o) H0 S ∧ Grow H H0 S (upd H p o) H0 S ∧ H0 p = none ∧ S p = none := by
  have n0 : H0 p = none := by
    cases q : H0 p with
    | none => rfl
    | some u => rw [st.sub p u q] at hp; cases hp
  have nS : S p = none := by
    cases q : S p with
    | none => rfl
    | some m => exact absurd hp (st.sto p m q).there
  refine ⟨⟨fun a u e => ?_, st.nos, fun a m e => ?_⟩, ⟨fun a u e _ => ?_, fun a e n => e, fun _ _ e => e, fun a h => h, fun a h => .inl h⟩, n0, nS⟩
  · have ha : a ≠ p := ne_of_none e n0
    rw [upd_ne ha]; exact st.sub a u e
  · have ha : a ≠ p := fun z => by rw [z, nS] at e; cases e
    exact (st.sto a m e).keep (fun _ _ q => q) (upd_ne ha) (keepC_new hp o)
  · rw [upd_ne (ne_of_none e hp)]; exact e
/-- a list that was just made becomes one that stays -/
theorem freeze {K : PySem.W.Frag} {H H0 : Hp} {S : Sto} (st : StR K H H0 S) {p : Addr} {o : HO} (hp : H p = some o) (n0 : H0 p = none) (nS : S p = none) : StR K H (upd H0 p o) S ∧ Sub H0 (upd H0 p o) := by
  have s0 : Sub H0 (upd H0 p o) := fun a u e => by rw [upd_ne (ne_of_none e n0)]; exact e
  refine ⟨⟨fun a u e => ?_, fun a n => ?_, fun a m e => (st.sto a m e).keep s0 rfl (fun _ _ q => q)⟩, s0⟩
  · by_cases ha : a = p
    · subst ha; rw [upd_same] at e; rw [hp]; exact e
    · rw [upd_ne ha] at e; exact st.sub a u e
  · have ha : a ≠ p := fun z => n (by rw [z]; exact nS)
    rw [upd_ne ha]; exact st.nos a n
/-- just made: it stays -/
theorem XN.stay {X : Cx} {E : XK} {e : Expr} {m : ME} (h : XN X E e m) : XE X E e m := by
  refine pe_w h fun σ H Q ⟨g, S, H0, Qd, Ed, rel, hm, hq, he⟩ => ⟨g, S, H0, Qd, Ed, rel, hm, fun d S' q v H' H0' st gr r => ?_, he⟩
  rcases r with ⟨p, xs, ds, e1, e2, h0, h1, h2, h3, r⟩ | ⟨p, kvs, ks, ds, e1, e2, h0, h1, h2, h3, k, r⟩
  · subst e1 e2
    obtain ⟨st', s0⟩ := freeze st h1 h2 h3
    refine hq _ S' q _ H' _ st' ⟨gr.keep, fun a ha n => ?_, fun a o e => s0 a o (gr.sub a o e), gr.more, gr.new⟩ (.lst upd_same (r.sub s0))
    have hne : a ≠ p := fun z => n (by rw [z]; exact h0)
    rw [upd_ne hne]
    exact gr.old a ha n
  · subst e1 e2
    obtain ⟨st', s0⟩ := freeze st h1 h2 h3
    refine hq _ S' q _ H' _ st' ⟨gr.keep, fun a ha n => ?_, fun a o e => s0 a o (gr.sub a o e), gr.more, gr.new⟩ (.dic upd_same k (r.sub s0))
    have hne : a ≠ p := fun z => n (by rw [z]; exact h0)
    rw [upd_ne hne]
    exact gr.old a ha n
theorem XE.bor {X : Cx} {E : XK} {e : Expr} {m : ME} (h : XE X E e m) : XB X E e m :=
  pe_w h fun σ H Q ⟨g, S, H0, Qd, Ed, rel, hm, hq, he⟩ => ⟨g, S, H0, Qd, Ed, rel, hm, fun d S' q v H' H0' st gr r => hq d S' q v H' H0' st gr (.inl r), he⟩
theorem XN.bor {X : Cx} {E : XK} {e : Expr} {m : ME} (h : XN X E e m) : XB X E e m := h.stay.bor
end DL

set_option Elab.async false
set_option linter.all false
set_option maxRecDepth 100000
set_option maxHeartbeats 4000000
namespace DL
open PySem PySem.Spec PyProof.Rows L2

/-! ### names, constants -/
def getv (g : Sg) (i : Nat) : T D := match g[i]? with
  | some (.va d) => T.pure d
  | _ => T.fail
def getb (g : Sg) (i : Nat) : T D := match g[i]? with
  | some (.va d) => T.pure d
  | some (.ow xs) => T.pure (.lst xs)
  | some (.od ks xs) => T.pure (.dic ks xs)
  | _ => T.fail
theorem getv_inv {g : Sg} {i : Nat} {S : Sto} {Qd : D → Sto → Prop} {Ed : Xn → Sto → Prop} (h : getv g i S Qd Ed) : ∃ d, g[i]? = some (.va d) ∧ Qd d S := by
  unfold getv at h
  cases hg : g[i]? with
  | none => rw [hg] at h; exact h.elim
  | some s =>
    rw [hg] at h
    cases s with
    | va d => exact ⟨d, rfl, h⟩
    | un => exact h.elim
    | ow xs => exact h.elim
    | od ks xs => exact h.elim
theorem getb_inv {g : Sg} {i : Nat} {S : Sto} {Qd : D → Sto → Prop} {Ed : Xn → Sto → Prop} (h : getb g i S Qd Ed) :
    (∃ d, g[i]? = some (.va d) ∧ Qd d S) ∨ (∃ xs, g[i]? = some (.ow xs) ∧ Qd (.lst xs) S) ∨ ∃ ks xs, g[i]? = some (.od ks xs) ∧ Qd (.dic ks xs) S := by
  unfold getb at h
  cases hg : g[i]? with
  | none => rw [hg] at h; exact h.elim
  | some s =>
    rw [hg] at h
    cases s with
    | va d => exact .inl ⟨d, rfl, h⟩
    | un => exact h.elim
    | ow xs => exact .inr (.inl ⟨xs, rfl, h⟩)
    | od ks xs => exact .inr (.inr ⟨ks, xs, rfl, h⟩)
section
variable {X : Cx} {E : XK} {e a b : Expr} {pos : Pos}
theorem x_var (i : Nat) {x : Str} (hN : X.N[i]? = some x := by rfl) (hv : Vis X.env.scope x := by first | exact Or.inl rfl | exact Or.inr (Or.inl rfl) | exact Or.inr (Or.inr rfl)) (hd : (x == ("__debug__" : Str)) = false := by decide)
    (hcd : (x == ("__classdict__" : Str)) = false := by decide) : XE X E (.Name x pos) (fun g => getv g i) := by
  refine pe_w (pe_var hN hv hd hcd) fun σ H Q ⟨g, S, H0, Qd, Ed, rel, hm, hq, he⟩ => ?_
  obtain ⟨d, hg, hm⟩ := getv_inv hm
  obtain ⟨v, e1, r⟩ := rel.sl i _ hg
  exact ⟨v, e1, hq d S hm v H H0 rel.st (Grow.refl _ _ _) r⟩
theorem x_varB (i : Nat) {x : Str} (hN : X.N[i]? = some x := by rfl) (hv : Vis X.env.scope x := by first | exact Or.inl rfl | exact Or.inr (Or.inl rfl) | exact Or.inr (Or.inr rfl)) (hd : (x == ("__debug__" : Str)) = false := by decide)
    (hcd : (x == ("__classdict__" : Str)) = false := by decide) : XB X E (.Name x pos) (fun g => getb g i) := by
  refine pe_w (pe_var hN hv hd hcd) fun σ H Q ⟨g, S, H0, Qd, Ed, rel, hm, hq, he⟩ => ?_
  rcases getb_inv hm with ⟨d, hg, hm⟩ | ⟨d, hg, hm⟩ | ⟨ks, d, hg, hm⟩
  · obtain ⟨v, e1, r⟩ := rel.sl i _ hg
    exact ⟨v, e1, hq d S hm v H H0 rel.st (Grow.refl _ _ _) (.inl r)⟩
  · obtain ⟨p, xs, e1, h1, h2, h3, r⟩ := rel.sl i _ hg
    exact ⟨_, e1, hq _ S hm _ H H0 rel.st (Grow.refl _ _ _) (.inr (.inl ⟨p, xs, d, rfl, rfl, h1, h3, r⟩))⟩
  · obtain ⟨p, kvs, e1, h1, h2, h3, k, r⟩ := rel.sl i _ hg
    exact ⟨_, e1, hq _ S hm _ H H0 rel.st (Grow.refl _ _ _) (.inr (.inr ⟨p, kvs, ks, d, rfl, rfl, h1, h3, k, r⟩))⟩
theorem x_c {v : V} {d : D} (h : PE X e (tC v)) (r : ∀ H0, Rp X.K H0 v d) : XE X E e (fun _ => T.pure d) :=
  pe_w h fun σ H Q ⟨g, S, H0, Qd, Ed, rel, hm, hq, he⟩ => hq d S hm v H H0 rel.st (Grow.refl _ _ _) (r H0)
theorem x_int {i j} : XE X E (.Constant (.int i) j pos) (fun _ => T.pure (.int i)) := x_c pe_int fun _ => .int i
theorem x_bl {i j} : XE X E (.Constant (.bool i) j pos) (fun _ => T.pure (.bl i)) := x_c pe_bl fun _ => .bl i
theorem x_non {j} : XE X E (.Constant .none j pos) (fun _ => T.pure .non) := x_c pe_non fun _ => .non
theorem x_str {i j} : XE X E (.Constant (.str i) j pos) (fun _ => T.pure (.str i)) := x_c pe_str fun _ => .str i
theorem x_glo {x : Str} (hm : X.mg x = some (.ref (He.ga X.K x))) (hg : Gl X x := by rfl) (hd : (x == ("__debug__" : Str)) = false := by decide) : XE X E (.Name x pos) (fun _ => T.pure (.glo x)) := x_c (pe_glob hg hm (v := .ref (He.ga X.K x)) rfl hd) fun _ => .glo x
theorem x_gstr {x z : Str} {t : Tok} (hm : X.mg x = some (.str z t)) (hg : Gl X x := by rfl) (hd : (x == ("__debug__" : Str)) = false := by decide) : XE X E (.Name x pos) (fun _ => T.pure (.str z)) := x_c (pe_glob hg hm (v := .str z) ⟨t, rfl⟩ hd) fun _ => .str z
theorem x_gint {x : Str} {z : Int} {t : Tok} (hm : X.mg x = some (.int z t)) (hg : Gl X x := by rfl) (hd : (x == ("__debug__" : Str)) = false := by decide) : XE X E (.Name x pos) (fun _ => T.pure (.int z)) := x_c (pe_glob hg hm (v := .int z) ⟨t, rfl⟩ hd) fun _ => .int z
theorem x_ty {x : Str} {n : String} (hm : X.mg x = none) (hv : bootBuiltins x = some (.type n) := by decide +kernel) (hg : Gl X x := by rfl) (hn : x ≠ "__name__" := by decide) (hd : (x == ("__debug__" : Str)) = false := by decide) : XE X E (.Name x pos) (fun _ => T.pure (.ty n)) :=
  x_c (pe_bltn hg hm hv (v := .ty n) rfl hn hd) fun _ => .ty n
/-! ### argument lists, displays -/
def args0 : MA := fun _ => T.pure []
def argsC (m : ME) (r : MA) : MA := fun g => T.bind (m g) fun x => T.bind (r g) fun xs => T.pure (x :: xs)
theorem a_nil : XA X E [] args0 := pa_w pa_nil fun σ H Q ⟨g, S, H0, Qd, Ed, rel, hm, hq, he⟩ => hq [] S hm [] H H0 rel.st (Grow.refl _ _ _) .nil
theorem a_cons {es : List Expr} {m : ME} {r : MA} (ha : XE X E e m) (hr : XA X E es r) (hs : starEach (e :: es) X.env = (false, eval e X.env) :: starEach es X.env := by rfl) : XA X E (e :: es) (argsC m r) := by
  refine pa_w (pa_cons ha hr hs) fun σ H Q ⟨g, S, H0, Qd, Ed, rel, hm, hq, he⟩ => ?_
  refine ⟨g, S, H0, _, Ed, rel, hm, fun a S1 hf v H1 H01 st1 gr1 r1 => ?_, he⟩
  refine ⟨g, S1, H01, _, Ed, rel.grow st1 gr1, hf, fun b S2 hf2 w H2 H02 st2 gr2 r2 => ?_, fun x S' ex => (he x S' ex).grow st1 gr1⟩
  exact hq _ S2 hf2 _ H2 H02 st2 (gr1.trans st1 gr2) (.cons (Rp.sub gr2.sub r1) r2)
theorem ab_nil : XAB X E [] args0 := pa_w pa_nil fun σ H Q ⟨g, S, H0, Qd, Ed, rel, hm, hq, he⟩ => hq [] S hm [] H H0 rel.st (Grow.refl _ _ _) .nil
theorem RBs.grow {K : PySem.W.Frag} {H H0 : Hp} {S : Sto} {H' H0' : Hp} {S' : Sto} (g : Grow H H0 S H' H0' S') : ∀ {v : List V} {d : List D}, RBs K H H0 S v d → RBs K H' H0' S' v d
  | _, _, .nil => .nil
  | _, _, .cons a b => .cons (a.grow g) (RBs.grow g b)
theorem RBs.of {K : PySem.W.Frag} {H H0 : Hp} {S : Sto} : ∀ {v : List V} {d : List D}, Rps K H0 v d → RBs K H H0 S v d
  | _, _, .nil => .nil
  | _, _, .cons a b => .cons (.inl a) (RBs.of b)
theorem ab_cons {es : List Expr} {m : ME} {r : MA} (ha : XB X E e m) (hr : XAB X E es r) (hs : starEach (e :: es) X.env = (false, eval e X.env) :: starEach es X.env := by rfl) : XAB X E (e :: es) (argsC m r) := by
  refine pa_w (pa_cons ha hr hs) fun σ H Q ⟨g, S, H0, Qd, Ed, rel, hm, hq, he⟩ => ?_
  refine ⟨g, S, H0, _, Ed, rel, hm, fun a S1 hf v H1 H01 st1 gr1 r1 => ?_, he⟩
  refine ⟨g, S1, H01, _, Ed, rel.grow st1 gr1, hf, fun b S2 hf2 w H2 H02 st2 gr2 r2 => ?_, fun x S' ex => (he x S' ex).grow st1 gr1⟩
  exact hq _ S2 hf2 _ H2 H02 st2 (gr1.trans st1 gr2) (.cons (r1.grow gr2) r2)
def needSize (n : Nat) : T Unit := fun S Q _ => n ≤ sizeLine ∧ Q () S
theorem x_tup {es : List Expr} {m : MA} {k} (h : XA X E es m) : XE X E (.Tuple es k pos) (fun g => T.bind (m g) fun xs => T.bind (needSize xs.length) fun _ => T.pure (.tup xs)) := by
  refine pe_w (pe_tup h) fun σ H Q ⟨g, S, H0, Qd, Ed, rel, hm, hq, he⟩ => ?_
  refine ⟨g, S, H0, _, Ed, rel, hm, fun ds S1 hf vs H1 H01 st1 gr1 r1 => ?_, he⟩
  obtain ⟨hz, hf⟩ := hf
  refine ⟨by rw [r1.length]; exact hz, fun p hp => ?_⟩
  obtain ⟨st2, gr2⟩ := alloc_f st1 hp (.tup vs)
  exact hq _ S1 hf _ _ _ st2 (gr1.trans st1 gr2) (.tup (.of upd_same) (r1.sub gr2.sub))
theorem x_lst {es : List Expr} {m : MA} (h : XA X E es m) : XN X E (.List es pos) (fun g => T.bind (m g) fun xs => T.bind (needSize xs.length) fun _ => T.pure (.lst xs)) := by
  refine pe_w (pe_lst h) fun σ H Q ⟨g, S, H0, Qd, Ed, rel, hm, hq, he⟩ => ?_
  refine ⟨g, S, H0, _, Ed, rel, hm, fun ds S1 hf vs H1 H01 st1 gr1 r1 => ?_, he⟩
  obtain ⟨hz, hf⟩ := hf
  refine ⟨by rw [r1.length]; exact hz, fun p hp => ?_⟩
  obtain ⟨st2, gr2, n0, nS⟩ := alloc_n st1 hp (.lst vs)
  have nH : H p = none := by
    cases q : H p with
    | none => rfl
    | some o => exact absurd hp (gr1.there st1 (by rw [q]; exact fun z => nomatch z))
  exact hq _ S1 hf _ _ _ st2 (gr1.trans st1 gr2) (.inl ⟨p, vs, ds, rfl, rfl, nH, upd_same, n0, nS, r1.sub gr2.sub⟩)

/-! ### operators -/
/-- an operator's rule answers in data -/
def OpS (K : PySem.W.Frag) (R : RR) (r : R2) (f : D → D → T D) : Prop := ∀ (v w : V) (a b : D) (H H0 : Hp) (S : Sto) (Qd : D → Sto → Prop) (Ed : Xn → Sto → Prop) (Q : VK), StR K H H0 S → RB K H H H0 S v a → RB K H H H0 S w b → f a b S Qd Ed →
  (∀ d S', Qd d S' → ∀ u H' H0', StR K H' H0' S' → Grow H H0 S H' H0' S' → R H H' H0' S' u d → Q u H') → r v w H Q
theorem opS_lf {K : PySem.W.Frag} {R : RR} {r : R2} {f : D → D → T D} {ma mb : ME} (bk : Back K R) (hs : OpS K R r f) {σ : L2.St} {H : Hp} {Q : VK} (h : lf K E R (fun g => T.bind (ma g) fun x => T.bind (mb g) fun y => f x y) σ H Q) :
    tOp r (lf K E (RB K) ma) (lf K E (RB K) mb) σ H Q := by
  obtain ⟨g, S, H0, Qd, Ed, rel, hm, hq, he⟩ := h
  refine ⟨g, S, H0, _, Ed, rel, hm, fun a S1 hf v H1 H01 st1 gr1 r1 => ?_, he⟩
  refine ⟨g, S1, H01, _, Ed, rel.grow st1 gr1, hf, fun b S2 hf2 w H2 H02 st2 gr2 r2 => ?_, fun x S' ex => (he x S' ex).grow st1 gr1⟩
  refine hs v w a b H2 H02 S2 Qd Ed Q st2 (r1.grow gr2) r2 hf2 fun d S' qd u H' H0' st' gr' r' => ?_
  exact hq d S' qd u H' H0' st' ((gr1.trans st1 gr2).trans st2 gr') (bk st2 (gr1.trans st1 gr2) r')
theorem x_op {op : Operator} {R : RR} {r : R2} {f : D → D → T D} {ma mb : ME} (bk : Back X.K R) (ho : OpR X (binaryOp op) r) (hs : OpS X.K R r f) (ha : XB X E a ma) (hb : XB X E b mb) :
    PE X (.BinOp a op b pos) (lf X.K E R fun g => T.bind (ma g) fun x => T.bind (mb g) fun y => f x y) := pe_w (pe_op ho ha hb) fun _ _ _ h => opS_lf bk hs h
theorem x_cmp {op : CmpOp} {r : R2} {f : D → D → T D} {ma mb : ME} (ho : OpR X (compareOp op) r) (hs : OpS X.K (RF X.K) r f) (ha : XB X E a ma) (hb : XB X E b mb) (hm : behindInMarks op b = false) :
    XE X E (.Compare a [op] [b] pos) (fun g => T.bind (ma g) fun x => T.bind (mb g) fun y => f x y) := pe_w (pe_cmpR ho ha hb hm) fun _ _ _ h => opS_lf back_F hs h
end

/-! what the operators answer -/
theorem RB.int {K : PySem.W.Frag} {Ha H H0 : Hp} {S : Sto} {v : V} {i : Int} (h : RB K Ha H H0 S v (.int i)) : v = .int i := by
  rcases h with h | ⟨p, xs, ds, e1, e2, _⟩ | ⟨p, kvs, ks, ds, e1, e2, _⟩
  · cases h; rfl
  · cases e2
  · cases e2
theorem RB.bl {K : PySem.W.Frag} {Ha H H0 : Hp} {S : Sto} {v : V} {i : Bool} (h : RB K Ha H H0 S v (.bl i)) : v = .bl i := by
  rcases h with h | ⟨p, xs, ds, e1, e2, _⟩ | ⟨p, kvs, ks, ds, e1, e2, _⟩
  · cases h; rfl
  · cases e2
  · cases e2
theorem RB.str {K : PySem.W.Frag} {Ha H H0 : Hp} {S : Sto} {v : V} {i : Str} (h : RB K Ha H H0 S v (.str i)) : v = .str i := by
  rcases h with h | ⟨p, xs, ds, e1, e2, _⟩ | ⟨p, kvs, ks, ds, e1, e2, _⟩
  · cases h; rfl
  · cases e2
  · cases e2
theorem RB.non {K : PySem.W.Frag} {Ha H H0 : Hp} {S : Sto} {v : V} (h : RB K Ha H H0 S v .non) : v = .non := by
  rcases h with h | ⟨p, xs, ds, e1, e2, _⟩ | ⟨p, kvs, ks, ds, e1, e2, _⟩
  · cases h; rfl
  · cases e2
  · cases e2
theorem RB.ref {K : PySem.W.Frag} {Ha H H0 : Hp} {S : Sto} {v : V} {a : Addr} (h : RB K Ha H H0 S v (.ref a)) : v = .ref a := by
  rcases h with h | ⟨p, xs, ds, e1, e2, _⟩ | ⟨p, kvs, ks, ds, e1, e2, _⟩
  · cases h; rfl
  · cases e2
  · cases e2
theorem RB.glo {K : PySem.W.Frag} {Ha H H0 : Hp} {S : Sto} {v : V} {a : Str} (h : RB K Ha H H0 S v (.glo a)) : v = .ref (He.ga K a) := by
  rcases h with h | ⟨_, _, _, _, e, _⟩ | ⟨_, _, _, _, _, e, _⟩
  · cases h; rfl
  · cases e
  · cases e
theorem RB.ty {K : PySem.W.Frag} {Ha H H0 : Hp} {S : Sto} {v : V} {n : String} (h : RB K Ha H H0 S v (.ty n)) : v = .ty n := by
  rcases h with h | ⟨p, xs, ds, e1, e2, _⟩ | ⟨p, kvs, ks, ds, e1, e2, _⟩
  · cases h; rfl
  · cases e2
  · cases e2
theorem RB.tup {K : PySem.W.Frag} {Ha H H0 : Hp} {S : Sto} {v : V} {ds : List D} (h : RB K Ha H H0 S v (.tup ds)) : ∃ a xs, v = .ref a ∧ SqT K H0 a xs ∧ Rps K H0 xs ds := by
  rcases h with h | ⟨p, xs, es, e1, e2, _⟩ | ⟨p, kvs, ks, es, e1, e2, _⟩
  · cases h with
    | tup h r => exact ⟨_, _, rfl, h, r⟩
  · cases e2
  · cases e2
theorem RB.lst {K : PySem.W.Frag} {Ha H H0 : Hp} {S : Sto} (st : StR K H H0 S) {v : V} {ds : List D} (h : RB K Ha H H0 S v (.lst ds)) : ∃ a xs, v = .ref a ∧ H a = some (.lst xs) ∧ S a = none ∧ Rps K H0 xs ds := by
  rcases h with h | ⟨p, xs, es, e1, e2, h1, h2, r⟩ | ⟨p, kvs, ks, es, e1, e2, _⟩
  · cases h with
    | lst h r =>
      refine ⟨_, _, rfl, st.sub _ _ h, ?_, r⟩
      rename_i a xs
      cases q : S a with
      | none => rfl
      | some m =>
        have := st.nos a (by rw [q]; exact fun z => nomatch z)
        rw [h] at this; cases this
  · cases e2
    exact ⟨p, xs, e1, h1, h2, r⟩
  · cases e2
theorem RB.frz {K : PySem.W.Frag} {Ha H H0 : Hp} {S : Sto} (st : StR K H H0 S) {v : V} {ds : List D} (h : RB K Ha H H0 S v (.frz ds)) : ∃ a xs, v = .ref a ∧ SqL K H a xs ∧ Rps K H0 xs ds := by
  rcases h with h | ⟨p, xs, es, e1, e2, h1, h2, r⟩ | ⟨p, kvs, ks, es, e1, e2, _⟩
  · cases h with
    | frz h r => exact ⟨_, _, rfl, sqL_sub st.sub h, r⟩
  · cases e2
  · cases e2
theorem RB.dic {K : PySem.W.Frag} {Ha H H0 : Hp} {S : Sto} (st : StR K H H0 S) {v : V} {ks : List Str} {ds : List D} (h : RB K Ha H H0 S v (.dic ks ds)) : ∃ a kvs, v = .ref a ∧ H a = some (.dK kvs) ∧ kvs.map (·.1) = ks.map Sum.inr ∧ Rps K H0 (kvs.map (·.2)) ds := by
  rcases h with h | ⟨p, xs, es, e1, e2, h1, h2, r⟩ | ⟨p, kvs, ks, es, e1, e2, h1, h2, k, r⟩
  · cases h with
    | dic h k r => exact ⟨_, _, rfl, st.sub _ _ h, k, r⟩
  · cases e2
  · cases e2
    exact ⟨p, kvs, e1, h1, k, r⟩
theorem RBs.one {K : PySem.W.Frag} {H H0 : Hp} {S : Sto} {vs : List V} {d : D} (h : RBs K H H0 S vs [d]) : ∃ v, vs = [v] ∧ RB K H H H0 S v d := by
  cases h with
  | cons a b => cases b; exact ⟨_, rfl, a⟩
theorem RBs.two {K : PySem.W.Frag} {H H0 : Hp} {S : Sto} {vs : List V} {d e : D} (h : RBs K H H0 S vs [d, e]) : ∃ v w, vs = [v, w] ∧ RB K H H H0 S v d ∧ RB K H H H0 S w e := by
  cases h with
  | cons a b =>
    cases b with
    | cons b c => cases c; exact ⟨_, _, rfl, a, b⟩

section
variable {K : PySem.W.Frag}
def dNeed (p : Prop) : T Unit := fun S Q _ => p ∧ Q () S
/-- a + b -/
def dAdd : D → D → T D
  | .int i, .int j => T.pure (.int (i + j))
  | .str x, .str y => T.bind (dNeed (x.length + y.length ≤ sizeLine)) fun _ => T.pure (.str (x ++ y))
  | .tup xs, .tup ys => T.bind (dNeed (xs.length + ys.length ≤ sizeLine)) fun _ => T.pure (.tup (xs ++ ys))
  | _, _ => T.fail
def rAddAll (K : PySem.W.Frag) : R2 := fun x y H Q => (∃ i j, x = .int i ∧ y = .int j ∧ Q (.int (i + j)) H) ∨ (∃ i j, x = .str i ∧ y = .str j ∧ i.length + j.length ≤ sizeLine ∧ Q (.str (i ++ j)) H) ∨ rCatA K x y H Q
theorem op_addAll {X : Cx} : OpR X (binaryOp .Add) (rAddAll X.K) := op_add.or (op_add_str.or op_catA)
theorem s_addAll : OpS K (RF K) (rAddAll K) dAdd := by
  intro v w a b H H0 S Qd Ed Q st ra rb hf hq
  unfold dAdd at hf
  split at hf
  · rename_i i j
    cases ra.int; cases rb.int
    exact .inl ⟨i, j, rfl, rfl, hq _ S hf _ H H0 st (Grow.refl _ _ _) (.int _)⟩
  · rename_i x y
    cases ra.str; cases rb.str
    obtain ⟨hz, hf⟩ := hf
    exact .inr (.inl ⟨x, y, rfl, rfl, hz, hq _ S hf _ H H0 st (Grow.refl _ _ _) (.str _)⟩)
  · rename_i xs ys
    obtain ⟨pa, va, rfl, ha, ra⟩ := ra.tup
    obtain ⟨pb, vb, rfl, hb, rb⟩ := rb.tup
    obtain ⟨hz, hf⟩ := hf
    have la := ra.length
    have lb := rb.length
    refine .inr (.inr ⟨pa, pb, va, vb, rfl, rfl, sqT_sub st.sub ha, sqT_sub st.sub hb, by rw [la, lb]; exact hz, fun e => ?_, fun e1 e2 => ?_, fun e1 e2 p hp => ?_⟩)
    · subst e
      have : xs = [] := List.length_eq_zero_iff.mp la.symm
      subst this
      exact hq _ S hf _ H H0 st (Grow.refl _ _ _) (.tup hb rb)
    · subst e2
      have : ys = [] := List.length_eq_zero_iff.mp lb.symm
      subst this
      rw [List.append_nil] at hf
      exact hq _ S hf _ H H0 st (Grow.refl _ _ _) (.tup ha ra)
    · obtain ⟨st2, gr2⟩ := alloc_f st hp (.tup (va ++ vb))
      exact hq _ S hf _ _ _ st2 gr2 (.tup (.of upd_same) ((ra.append rb).sub gr2.sub))
  · exact hf.elim
/-- a + b, lists -/
def dCat : D → D → T D
  | .lst xs, .lst ys => T.bind (dNeed (xs.length + ys.length ≤ sizeLine)) fun _ => T.pure (.lst (xs ++ ys))
  | _, _ => T.fail
theorem s_cat : OpS K (RN K) rCat dCat := by
  intro v w a b H H0 S Qd Ed Q st ra rb hf hq
  unfold dCat at hf
  split at hf
  · rename_i xs ys
    obtain ⟨pa, va, rfl, ha, sa, ra⟩ := ra.lst st
    obtain ⟨pb, vb, rfl, hb, sb, rb⟩ := rb.lst st
    obtain ⟨hz, hf⟩ := hf
    refine ⟨pa, pb, va, vb, rfl, rfl, ha, hb, by rw [ra.length, rb.length]; exact hz, fun p hp => ?_⟩
    obtain ⟨st2, gr2, n0, nS⟩ := alloc_n st hp (.lst (va ++ vb))
    exact hq _ S hf _ _ _ st2 gr2 (.inl ⟨p, _, _, rfl, rfl, hp, upd_same, n0, nS, (ra.append rb).sub gr2.sub⟩)
  · exact hf.elim
/-- numbers: C what is asked, g the answer -/
def dI (C : Int → Int → Prop) (g : Int → Int → D) : D → D → T D
  | .int i, .int j => T.bind (dNeed (C i j)) fun _ => T.pure (g i j)
  | _, _ => T.fail
theorem s_I {C : Int → Int → Prop} {g : Int → Int → V} {g' : Int → Int → D} (hg : ∀ i j H0, Rp K H0 (g i j) (g' i j)) : OpS K (RF K) (rI C g) (dI C g') := by
  intro v w a b H H0 S Qd Ed Q st ra rb hf hq
  unfold dI at hf
  split at hf
  · rename_i i j
    cases ra.int; cases rb.int
    obtain ⟨hz, hf⟩ := hf
    exact ⟨i, j, rfl, rfl, hz, hq _ S hf _ H H0 st (Grow.refl _ _ _) (hg _ _ _)⟩
  · exact hf.elim
def dI0 (g : Int → Int → D) : D → D → T D
  | .int i, .int j => T.pure (g i j)
  | _, _ => T.fail
theorem s_I0 {g : Int → Int → V} {g' : Int → Int → D} (hg : ∀ i j H0, Rp K H0 (g i j) (g' i j)) : OpS K (RF K) (rI0 g) (dI0 g') := by
  intro v w a b H H0 S Qd Ed Q st ra rb hf hq
  unfold dI0 at hf
  split at hf
  · rename_i i j
    cases ra.int; cases rb.int
    exact ⟨i, j, rfl, rfl, hq _ S hf _ H H0 st (Grow.refl _ _ _) (hg _ _ _)⟩
  · exact hf.elim
abbrev dSub := dI0 fun i j => D.int (i - j)
abbrev dMod := dI (fun _ j => 0 < j) fun i j => D.int (i % j)
abbrev dFdiv := dI CDiv fun i j => D.int (i / j)
abbrev dPow := dI CPow fun i j => D.int (i ^ j.toNat)
end
end DL

set_option Elab.async false
set_option linter.all false
set_option maxRecDepth 100000
set_option maxHeartbeats 4000000
namespace DL
open PySem PySem.Spec PyProof.Rows L2

/-! ### equality -/
mutual
def toP : D → Option PyData
  | .non => some .none
  | .bl b => some (.bool b)
  | .int i => some (.int i)
  | .str x => some (.str x)
  | .tup xs => (toPs xs).map .tuple
  | .lst xs => (toPs xs).map .list
  | _ => none
def toPs : List D → Option (List PyData)
  | [] => some []
  | x :: r => match toP x, toPs r with
    | some p, some q => some (p :: q)
    | _, _ => none
end
def eqD (d e : D) : Bool := match toP d, toP e with
  | some p, some q => PyData.eqv p q
  | _, _ => false
def okD (d : D) : Bool := match toP d with
  | some p => SeqAt.shaped p
  | none => false
def scalD : D → D → Bool
  | .non, .non => true | .non, .int _ => true | .int _, .non => true | .non, .bl _ => true | .bl _, .non => true | .non, .str _ => true | .str _, .non => true
  | .int _, .int _ => true | .bl _, .bl _ => true | .str _, .str _ => true
  | .int _, .str _ => true | .str _, .int _ => true | .bl _, .str _ => true | .str _, .bl _ => true
  | _, _ => false
def flatD : D → Bool
  | .non => true | .bl _ => true | .int _ => true | .str _ => true
  | _ => false
mutual
theorem Rp.dp {K : PySem.W.Frag} {H0 H : Hp} (e : Sub H0 H) : ∀ {v : V} {d : D} {p : PyData}, Rp K H0 v d → toP d = some p → Dp K H v p
  | _, _, _, .non, h => by cases h; exact .non
  | _, _, _, .bl b, h => by cases h; exact .bl b
  | _, _, _, .int i, h => by cases h; exact .int i
  | _, _, _, .str x, h => by cases h; exact .str x
  | _, _, _, .ref a, h => by simp [toP] at h
  | _, _, _, .glo a, h => by simp [toP] at h
  | _, _, _, .ty n, h => by simp [toP] at h
  | _, _, _, .tup (ds := ds) h1 r, h => by
    rw [toP] at h
    cases q : toPs ds with
    | none => rw [q] at h; cases h
    | some ps => rw [q] at h; cases h; exact .tup (sqT_sub e h1) (Rps.dps e r q)
  | _, _, _, .lst (ds := ds) h1 r, h => by
    rw [toP] at h
    cases q : toPs ds with
    | none => rw [q] at h; cases h
    | some ps => rw [q] at h; cases h; exact .lst (.of (e _ _ h1)) (Rps.dps e r q)
  | _, _, _, .frz h1 r, h => by simp [toP] at h
  | _, _, _, .dic _ _ _, h => by simp [toP] at h
theorem Rps.dps {K : PySem.W.Frag} {H0 H : Hp} (e : Sub H0 H) : ∀ {v : List V} {d : List D} {p : List PyData}, Rps K H0 v d → toPs d = some p → DpAll K H v p
  | _, _, _, .nil, h => by rw [toPs] at h; cases h; exact .nil
  | _, _, _, .cons (d := d) (ds := ds) a b, h => by
    rw [toPs] at h
    cases q : toP d with
    | none => rw [q] at h; cases h
    | some p =>
      cases q2 : toPs ds with
      | none => rw [q, q2] at h; cases h
      | some ps => rw [q, q2] at h; cases h; exact .cons (Rp.dp e a q) (Rps.dps e b q2)
end
theorem RB.dp {K : PySem.W.Frag} {Ha H H0 : Hp} {S : Sto} (st : StR K H H0 S) {v : V} {d : D} {p : PyData} (h : RB K Ha H H0 S v d) (hp : toP d = some p) : Dp K H v p := by
  rcases h with h | ⟨q, xs, ds, e1, e2, h1, h2, r⟩ | ⟨q, kvs, ks, ds, e1, e2, _⟩
  · exact Rp.dp st.sub h hp
  · subst e1 e2
    rw [toP] at hp
    cases z : toPs ds with
    | none => rw [z] at hp; cases hp
    | some ps => rw [z] at hp; cases hp; exact .lst (.of h1) (Rps.dps st.sub r z)
  · subst e2; simp [toP] at hp
theorem RB.scal {K : PySem.W.Frag} {Ha Hb H H0 : Hp} {S : Sto} {v w : V} {d e : D} (hv : RB K Ha H H0 S v d) (hw : RB K Hb H H0 S w e) (hs : scalD d e = true) : L2.scal v w = true ∧ decide (v = w) = eqD d e := by
  cases d <;> cases e <;> first
    | (simp [scalD] at hs; done)
    | (first | cases hv.int | cases hv.bl | cases hv.str | cases hv.non
       first | cases hw.int | cases hw.bl | cases hw.str | cases hw.non
       refine ⟨rfl, ?_⟩
       first
         | rfl
         | (show decide (V.int _ = V.int _) = (_ == _); rw [dec_int])
         | (show decide (V.bl _ = V.bl _) = (_ == _); rw [dec_bl])
         | (show decide (V.str _ = V.str _) = (_ == _); rw [dec_str]))
def dEq (d e : D) : T D := T.bind (dNeed (scalD d e = true ∨ (okD d = true ∧ okD e = true))) fun _ => T.pure (.bl (eqD d e))
def dNe (d e : D) : T D := T.bind (dNeed (scalD d e = true ∨ (okD d = true ∧ okD e = true))) fun _ => T.pure (.bl (!eqD d e))
theorem okD_some {d : D} (h : okD d = true) : ∃ p, toP d = some p ∧ SeqAt.shaped p = true := by
  unfold okD at h
  cases q : toP d with
  | none => rw [q] at h; cases h
  | some p => rw [q] at h; exact ⟨p, rfl, h⟩
theorem eqD_of {d e : D} {p q : PyData} (h1 : toP d = some p) (h2 : toP e = some q) : eqD d e = PyData.eqv p q := by
  unfold eqD; rw [h1, h2]
section
variable {K : PySem.W.Frag}
theorem s_eq : OpS K (RF K) (fun x y H Q => rEq x y H Q ∨ rEqD K x y H Q) dEq := by
  intro v w a b H H0 S Qd Ed Q st ra rb hf hq
  obtain ⟨hc, hf⟩ := hf
  rcases hc with hs | ⟨ha, hb⟩
  · obtain ⟨s1, s2⟩ := RB.scal ra rb hs
    exact .inl ⟨s1, by rw [s2]; exact hq _ S hf _ H H0 st (Grow.refl _ _ _) (.bl _)⟩
  · obtain ⟨p, h1, s1⟩ := okD_some ha
    obtain ⟨q, h2, s2⟩ := okD_some hb
    refine .inr ⟨p, q, ra.dp st h1, rb.dp st h2, s1, s2, ?_⟩
    rw [← eqD_of h1 h2]
    exact hq _ S hf _ H H0 st (Grow.refl _ _ _) (.bl _)
theorem s_ne : OpS K (RF K) (fun x y H Q => rNe x y H Q ∨ rNeD K x y H Q) dNe := by
  intro v w a b H H0 S Qd Ed Q st ra rb hf hq
  obtain ⟨hc, hf⟩ := hf
  rcases hc with hs | ⟨ha, hb⟩
  · obtain ⟨s1, s2⟩ := RB.scal ra rb hs
    exact .inl ⟨s1, by rw [s2]; exact hq _ S hf _ H H0 st (Grow.refl _ _ _) (.bl _)⟩
  · obtain ⟨p, h1, s1⟩ := okD_some ha
    obtain ⟨q, h2, s2⟩ := okD_some hb
    refine .inr ⟨p, q, ra.dp st h1, rb.dp st h2, s1, s2, ?_⟩
    rw [← eqD_of h1 h2]
    exact hq _ S hf _ H H0 st (Grow.refl _ _ _) (.bl _)
/-- < of texts, ints -/
def dLt : D → D → T D
  | .int i, .int j => T.pure (.bl (decide (i < j)))
  | .str x, .str y => T.pure (.bl (decide (x.cps.toList < y.cps.toList)))
  | _, _ => T.fail
theorem s_lt : OpS K (RF K) (fun x y H Q => rI0 (fun i j => .bl (decide (i < j))) x y H Q ∨ ∃ i j, x = .str i ∧ y = .str j ∧ Q (.bl (decide (i.cps.toList < j.cps.toList))) H) dLt := by
  intro v w a b H H0 S Qd Ed Q st ra rb hf hq
  unfold dLt at hf
  split at hf
  · cases ra.int; cases rb.int
    exact .inl ⟨_, _, rfl, rfl, hq _ S hf _ H H0 st (Grow.refl _ _ _) (.bl _)⟩
  · cases ra.str; cases rb.str
    exact .inr ⟨_, _, rfl, rfl, hq _ S hf _ H H0 st (Grow.refl _ _ _) (.bl _)⟩
  · exact hf.elim
abbrev dLe := dI0 fun i j => D.bl (decide (i ≤ j))
abbrev dGt := dI0 fun i j => D.bl (decide (j < i))
abbrev dGe := dI0 fun i j => D.bl (decide (j ≤ i))
/-- in -/
def strIn (x y : Str) : Bool := !(Builtin.Str.occurrences y x 0 y.length 1).isEmpty
def seqOf : D → Option (List D)
  | .tup ys => some ys
  | .lst ys => some ys
  | _ => none
def isL : D → Bool
  | .lst _ => true
  | _ => false
def dInB (x y : D) : T Bool := match x, y with
  | .str i, .str j => T.pure (strIn i j)
  | x, y => match seqOf y with
    | some ys => T.bind (dNeed ((flatD x = true ∧ ys.all flatD = true) ∨ (isL y = true ∧ okD x = true ∧ okD y = true))) fun _ => T.pure (ys.any fun z => eqD z x)
    | none => T.fail
def dIn (neg : Bool) (x y : D) : T D := T.bind (dInB x y) fun b => T.pure (.bl (if neg then !b else b))
theorem rp_flat {K : PySem.W.Frag} {H0 : Hp} {v : V} {d : D} (h : Rp K H0 v d) (hf : flatD d = true) : flatV v = true := by
  cases h <;> first | rfl | cases hf
theorem rp_eqV {K : PySem.W.Frag} {H0 : Hp} {v w : V} {d e : D} (h : Rp K H0 v d) (h' : Rp K H0 w e) (hf : flatD d = true) (hf' : flatD e = true) : eqV v w = eqD d e := by
  cases h <;> first | (cases hf; done) | (cases h' <;> first | (cases hf'; done) | rfl)
theorem RB.flat {K : PySem.W.Frag} {Ha H H0 : Hp} {S : Sto} {v : V} {d : D} (h : RB K Ha H H0 S v d) (hf : flatD d = true) : Rp K H0 v d := by
  rcases h with h | ⟨q, xs, ds, e1, e2, _⟩ | ⟨q, kvs, ks, ds, e1, e2, _⟩
  · exact h
  · subst e2; cases hf
  · subst e2; cases hf
theorem rps_flat {K : PySem.W.Frag} {H0 : Hp} : ∀ {xs : List V} {ds : List D}, Rps K H0 xs ds → ds.all flatD = true → xs.all flatV = true
  | _, _, .nil, _ => rfl
  | _, _, .cons a b, h => by
    rw [List.all_cons, Bool.and_eq_true] at h
    rw [List.all_cons, rp_flat a h.1, rps_flat b h.2]; rfl
theorem rps_inV {K : PySem.W.Frag} {H0 : Hp} {v : V} {d : D} (hv : Rp K H0 v d) (hd : flatD d = true) : ∀ {xs : List V} {ds : List D}, Rps K H0 xs ds → ds.all flatD = true → inV v xs = ds.any fun z => eqD z d
  | _, _, .nil, _ => rfl
  | _, _, .cons (v := w) (d := z) a b, h => by
    rw [List.all_cons, Bool.and_eq_true] at h
    show (eqV w v || inV v _) = _
    rw [List.any_cons, rp_eqV a hv h.1 hd, rps_inV hv hd b h.2]
theorem toPs_any {x : D} {p : PyData} (hx : toP x = some p) : ∀ {ds : List D} {ps : List PyData}, toPs ds = some ps → (ps.any fun z => PyData.eqv z p) = ds.any fun z => eqD z x
  | [], ps, h => by rw [toPs] at h; cases h; rfl
  | d :: ds, ps, h => by
    rw [toPs] at h
    cases q : toP d with
    | none => rw [q] at h; cases h
    | some p' =>
      cases q2 : toPs ds with
      | none => rw [q, q2] at h; cases h
      | some ps' =>
        rw [q, q2] at h
        cases h
        rw [List.any_cons, List.any_cons, toPs_any hx q2, eqD_of q hx]
def rInAll (K : PySem.W.Frag) (neg : Bool) : R2 := fun x y H Q => (∃ i j, x = .str i ∧ y = .str j ∧ Q (.bl (if neg then !(!(Builtin.Str.occurrences j i 0 j.length 1).isEmpty) else !(Builtin.Str.occurrences j i 0 j.length 1).isEmpty)) H) ∨ rIn K neg x y H Q ∨
  ∃ d ds, Dp K H x d ∧ Dp K H y (.list ds) ∧ SeqAt.shaped d = true ∧ SeqAt.shaped (.list ds) = true ∧ Q (.bl (if neg then !(ds.any fun z => PyData.eqv z d) else ds.any fun z => PyData.eqv z d)) H
theorem op_inAll {X : Cx} (hu : X.A.units + 65 < cLine) : OpR X (compareOp .In) (rInAll X.K false) := by
  intro pins s σ H x y v u Q I rx ry h
  rcases h with h | h | h
  · exact op_in_str pins s σ H x y v u Q I rx ry h
  · exact op_in_seq pins s σ H x y v u Q I rx ry h
  · exact op_inD hu pins s σ H x y v u Q I rx ry h
theorem op_notInAll {X : Cx} (hu : X.A.units + 65 < cLine) : OpR X (compareOp .NotIn) (rInAll X.K true) := by
  intro pins s σ H x y v u Q I rx ry h
  rcases h with h | h | h
  · exact op_notIn_str pins s σ H x y v u Q I rx ry h
  · exact op_notIn_seq pins s σ H x y v u Q I rx ry h
  · exact op_notInD hu pins s σ H x y v u Q I rx ry h
theorem s_in (neg : Bool) : OpS K (RF K) (rInAll K neg) (dIn neg) := by
  intro v w a b H H0 S Qd Ed Q st ra rb hf hq
  have key : dInB a b S (fun c S' => Qd (.bl (if neg then !c else c)) S') Ed := hf
  unfold dInB at key
  split at key
  · cases ra.str; cases rb.str
    refine .inl ⟨_, _, rfl, rfl, ?_⟩
    exact hq _ S key _ H H0 st (Grow.refl _ _ _) (.bl _)
  · cases hb : seqOf b with
    | none => rw [hb] at key; exact key.elim
    | some ys =>
      rw [hb] at key
      obtain ⟨hc, key⟩ := key
      rcases hc with ⟨fx, fy⟩ | ⟨hl, ox, oy⟩
      · have rv := RB.flat ra fx
        have fin : ∀ {p xs}, (SqL K H p xs ∨ SqT K H p xs) → Rps K H0 xs ys → rIn K neg v (.ref p) H Q := fun {p xs} hs r => by
          refine ⟨p, xs, rfl, hs, rp_flat rv fx, rps_flat r fy, ?_⟩
          rw [rps_inV rv fx r fy]
          exact hq _ S key _ H H0 st (Grow.refl _ _ _) (.bl _)
        cases b with
        | tup zs =>
          cases hb
          obtain ⟨p, xs, rfl, h1, r⟩ := rb.tup
          exact .inr (.inl (fin (.inr (sqT_sub st.sub h1)) r))
        | lst zs =>
          cases hb
          obtain ⟨p, xs, rfl, h1, _, r⟩ := rb.lst st
          exact .inr (.inl (fin (.inl (.of h1)) r))
        | _ => cases hb
      · cases b with
        | lst zs =>
          cases hb
          obtain ⟨p, h1, s1⟩ := okD_some ox
          obtain ⟨q, h2, s2⟩ := okD_some oy
          have h2' := h2
          rw [toP] at h2'
          cases z : toPs ys with
          | none => rw [z] at h2'; cases h2'
          | some ps =>
            rw [z] at h2'
            cases h2'
            refine .inr (.inr ⟨p, ps, ra.dp st h1, rb.dp st h2, s1, s2, ?_⟩)
            rw [toPs_any h1 z]
            exact hq _ S key _ H H0 st (Grow.refl _ _ _) (.bl _)
        | _ => cases hl
/-- is None -/
def isNon : D → Bool
  | .non => true
  | _ => false
theorem RB.isNon {Ha H H0 : Hp} {S : Sto} {v : V} {d : D} (h : RB K Ha H H0 S v d) : decide (v = .non) = isNon d := by
  rcases h with h | ⟨q, xs, ds, e1, e2, _⟩ | ⟨q, kvs, ks, ds, e1, e2, _⟩
  · cases h <;> rfl
  · subst e1 e2; rfl
  · subst e1 e2; rfl
def dIsN (neg : Bool) : D → D → T D
  | d, .non => T.pure (.bl (if neg then !isNon d else isNon d))
  | _, _ => T.fail
theorem s_notN : OpS K (RF K) (fun x y H Q => y = .non ∧ Q (.bl (!decide (x = .non))) H) (dIsN true) := by
  intro v w a b H H0 S Qd Ed Q st ra rb hf hq
  unfold dIsN at hf
  split at hf
  · cases rb.non
    exact ⟨rfl, by rw [RB.isNon ra]; exact hq _ S hf _ H H0 st (Grow.refl _ _ _) (.bl _)⟩
  · exact hf.elim
end
section
variable {X : Cx} {E : XK} {a b c : Expr} {pos : Pos} {ma mb mc : ME} {k : Nat}
abbrev mb2 (f : D → D → T D) (ma mb : ME) : ME := fun g => T.bind (ma g) fun x => T.bind (mb g) fun y => f x y
theorem hu64 (hr : Room k X.A) : X.A.units + 64 < cLine := hr.units
theorem hu65 (hr : Room k X.A) : X.A.units + 65 < cLine := by have := hr.un; omega
theorem x_eq (hr : Room k X.A) (ha : XB X E a ma) (hb : XB X E b mb) : XE X E (.Compare a [.Eq] [b] pos) (mb2 dEq ma mb) := x_cmp (op_eq.or (op_eqD (hu64 hr))) s_eq ha hb (nomark _)
theorem x_ne (hr : Room k X.A) (ha : XB X E a ma) (hb : XB X E b mb) : XE X E (.Compare a [.NotEq] [b] pos) (mb2 dNe ma mb) := x_cmp (op_ne.or (op_neD (hu64 hr))) s_ne ha hb (nomark _)
theorem x_lt (ha : XB X E a ma) (hb : XB X E b mb) : XE X E (.Compare a [.Lt] [b] pos) (mb2 dLt ma mb) := x_cmp (op_lt.or op_lt_str) s_lt ha hb (nomark _)
theorem x_in (hr : Room k X.A) (ha : XB X E a ma) (hb : XB X E b mb) (hm : behindInMarks .In b = false := by rfl) : XE X E (.Compare a [.In] [b] pos) (mb2 (dIn false) ma mb) := x_cmp (op_inAll (hu65 hr)) (s_in false) ha hb hm
theorem x_add (ha : XB X E a ma) (hb : XB X E b mb) : XE X E (.BinOp a .Add b pos) (mb2 dAdd ma mb) := x_op back_F op_addAll s_addAll ha hb
theorem x_cat (ha : XB X E a ma) (hb : XB X E b mb) : XN X E (.BinOp a .Add b pos) (mb2 dCat ma mb) := x_op back_N op_cat s_cat ha hb
theorem x_sub (ha : XB X E a ma) (hb : XB X E b mb) : XE X E (.BinOp a .Sub b pos) (mb2 dSub ma mb) := x_op back_F op_sub (s_I0 fun _ _ _ => .int _) ha hb
theorem x_mod (ha : XB X E a ma) (hb : XB X E b mb) : XE X E (.BinOp a .Mod b pos) (mb2 dMod ma mb) := x_op back_F op_mod (s_I fun _ _ _ => .int _) ha hb
theorem x_fdiv (ha : XB X E a ma) (hb : XB X E b mb) : XE X E (.BinOp a .FloorDiv b pos) (mb2 dFdiv ma mb) := x_op back_F op_fdiv (s_I fun _ _ _ => .int _) ha hb
theorem x_pow (ha : XB X E a ma) (hb : XB X E b mb) : XE X E (.BinOp a .Pow b pos) (mb2 dPow ma mb) := x_op back_F op_pow (s_I fun _ _ _ => .int _) ha hb

/-- a op b op' c -/
def dAsB : D → T Bool
  | .bl b => T.pure b
  | _ => T.fail
theorem dAsB_inv {d : D} {S : Sto} {Qd : Bool → Sto → Prop} {Ed : Xn → Sto → Prop} (h : dAsB d S Qd Ed) : ∃ b, d = .bl b ∧ Qd b S := by
  cases d with
  | bl b => exact ⟨b, rfl, h⟩
  | _ => exact h.elim
theorem x_chain {op op' : CmpOp} {r r' : R2} {f f' : D → D → T D} (ho : OpR X (compareOp op) r) (hs : OpS X.K (RF X.K) r f) (ho' : OpR X (compareOp op') r') (hs' : OpS X.K (RF X.K) r' f') (ha : XB X E a ma) (hb : XB X E b mb) (hc : XB X E c mc)
    (hm : lastMarks [op, op'] [b, c] = false := by with_unfolding_all rfl) :
    XE X E (.Compare a [op, op'] [b, c] pos) (fun g => T.bind (ma g) fun x => T.bind (mb g) fun y => T.bind (f x y) fun z => T.bind (dAsB z) fun k => T.ite k (T.bind (mc g) fun w => f' y w) (T.pure (.bl false))) := by
  refine pe_w (pe_chain ho ho' ha hb hc hm) fun σ H Q ⟨g, S, H0, Qd, Ed, rel, hm, hq, he⟩ => ?_
  refine ⟨g, S, H0, _, Ed, rel, hm, fun x S1 hf v H1 H01 st1 gr1 r1 => ?_, he⟩
  refine ⟨g, S1, H01, _, Ed, rel.grow st1 gr1, hf, fun y S2 hf2 w H2 H02 st2 gr2 r2 => ?_, fun x S' ex => (he x S' ex).grow st1 gr1⟩
  refine hs v w x y H2 H02 S2 _ Ed _ st2 (r1.grow gr2) r2 hf2 fun z S3 hz u H3 H03 st3 gr3 r3 => ?_
  obtain ⟨k, rfl, hz⟩ := dAsB_inv hz
  cases r3
  refine ⟨k, rfl, ?_⟩
  have g13 := (gr1.trans st1 gr2).trans st2 gr3
  cases k with
  | false =>
    have hz := T.iteF hz
    exact hq _ S3 hz _ H3 H03 st3 g13 (.bl _)
  | true =>
    have hz := T.iteT hz
    refine ⟨g, S3, H03, _, Ed, (rel.grow st2 (gr1.trans st1 gr2)).grow st3 gr3, hz, fun w' S4 h4 u4 H4 H04 st4 gr4 r4 => ?_, fun x S' ex => (he x S' ex).grow st3 g13⟩
    refine hs' w u4 y w' H4 H04 S4 Qd Ed Q st4 (r2.grow (gr3.trans st3 gr4)) r4 h4 fun d S' qd u H' H0' st' gr' r' => ?_
    exact hq d S' qd u H' H0' st' ((g13.trans st3 gr4).trans st4 gr') r'
theorem x_lele (ha : XB X E a ma) (hb : XB X E b mb) (hc : XB X E c mc) (hm : lastMarks [.LtE, .LtE] [b, c] = false := by with_unfolding_all rfl) :
    XE X E (.Compare a [.LtE, .LtE] [b, c] pos) (fun g => T.bind (ma g) fun x => T.bind (mb g) fun y => T.bind (dLe x y) fun z => T.bind (dAsB z) fun k => T.ite k (T.bind (mc g) fun w => dLe y w) (T.pure (.bl false))) :=
  x_chain op_le (s_I0 fun _ _ _ => .bl _) op_le (s_I0 fun _ _ _ => .bl _) ha hb hc hm

/-! ### tests -/
def dTru : D → T Bool
  | .non => T.pure false
  | .bl b => T.pure b
  | .int i => T.pure (i != 0)
  | .str x => T.bind (dNeed (x.length ≤ sizeLine)) fun _ => T.pure ((x.length : Int) != 0)
  | .tup xs => T.pure (!xs.isEmpty)
  | .lst xs => T.pure (!xs.isEmpty)
  | _ => T.fail
theorem rps_empty {K : PySem.W.Frag} {H0 : Hp} {xs : List V} {ds : List D} (r : Rps K H0 xs ds) : xs.isEmpty = ds.isEmpty := by cases r <;> rfl
theorem t_val {e : Expr} {m : ME} (h : XB X E e m) (he : ∀ whole, isTrue e X.env whole = (do let v ← whole; standAt e.pos; holding [v] (truthy v)) := by intro _; rfl) : XT X E e (fun g => T.bind (m g) dTru) := by
  refine pt_w (pt_truth h he) fun σ H Q ⟨g, S, H0, Qd, Ed, rel, hm, hq, he⟩ => ?_
  refine ⟨g, S, H0, _, Ed, rel, hm, fun d S1 hf v H1 H01 st1 gr1 r1 => ?_, he⟩
  cases d with
  | non => cases r1.non; exact ⟨false, rfl, hq _ S1 hf H1 H01 st1 gr1⟩
  | bl b => cases r1.bl; exact ⟨b, rfl, hq _ S1 hf H1 H01 st1 gr1⟩
  | int i => cases r1.int; exact ⟨_, rfl, hq _ S1 hf H1 H01 st1 gr1⟩
  | str x => cases r1.str; obtain ⟨hz, hf⟩ := hf; exact ⟨_, ⟨hz, rfl⟩, hq _ S1 hf H1 H01 st1 gr1⟩
  | tup xs =>
    obtain ⟨p, vs, rfl, h1, r⟩ := r1.tup
    exact ⟨_, .inr (.inl ⟨vs, sqT_sub st1.sub h1, by rw [rps_empty r]⟩), hq _ S1 hf H1 H01 st1 gr1⟩
  | lst xs =>
    obtain ⟨p, vs, rfl, h1, _, r⟩ := r1.lst st1
    exact ⟨_, .inl ⟨vs, .of h1, by rw [rps_empty r]⟩, hq _ S1 hf H1 H01 st1 gr1⟩
  | _ => exact hf.elim
/-- a comparison as a test -/
theorem t_cmp {op : CmpOp} {r : R2} {f : D → D → T D} (ho : OpR X (compareOp op) r) (hs : OpS X.K (RF X.K) r f) (ha : XB X E a ma) (hb : XB X E b mb) (hm : behindInMarks op b = false) :
    XT X E (.Compare a [op] [b] pos) (fun g => T.bind (mb2 f ma mb g) dAsB) := by
  refine pt_w (pt_cmpR ho ha hb hm) fun σ H Q ⟨g, S, H0, Qd, Ed, rel, hm, hq, he⟩ => ?_
  refine opS_lf (R := RF X.K) (E := E) (f := f) back_F hs ⟨g, S, H0, _, Ed, rel, hm, fun d S1 hf v H1 H01 st1 gr1 r1 => ?_, he⟩
  obtain ⟨k, rfl, hf⟩ := dAsB_inv hf
  cases r1
  exact ⟨k, rfl, hq _ S1 hf H1 H01 st1 gr1⟩
theorem t_eq (hr : Room k X.A) (ha : XB X E a ma) (hb : XB X E b mb) : XT X E (.Compare a [.Eq] [b] pos) (fun g => T.bind (mb2 dEq ma mb g) dAsB) := t_cmp (op_eq.or (op_eqD (hu64 hr))) s_eq ha hb (nomark _)
theorem t_ne (hr : Room k X.A) (ha : XB X E a ma) (hb : XB X E b mb) : XT X E (.Compare a [.NotEq] [b] pos) (fun g => T.bind (mb2 dNe ma mb g) dAsB) := t_cmp (op_ne.or (op_neD (hu64 hr))) s_ne ha hb (nomark _)
theorem t_lt (ha : XB X E a ma) (hb : XB X E b mb) : XT X E (.Compare a [.Lt] [b] pos) (fun g => T.bind (mb2 dLt ma mb g) dAsB) := t_cmp (op_lt.or op_lt_str) s_lt ha hb (nomark _)
theorem t_gt (ha : XB X E a ma) (hb : XB X E b mb) : XT X E (.Compare a [.Gt] [b] pos) (fun g => T.bind (mb2 dGt ma mb g) dAsB) := t_cmp op_gt (s_I0 fun _ _ _ => .bl _) ha hb (nomark _)
theorem t_ge (ha : XB X E a ma) (hb : XB X E b mb) : XT X E (.Compare a [.GtE] [b] pos) (fun g => T.bind (mb2 dGe ma mb g) dAsB) := t_cmp op_ge (s_I0 fun _ _ _ => .bl _) ha hb (nomark _)
theorem t_in (hr : Room k X.A) (ha : XB X E a ma) (hb : XB X E b mb) (hm : behindInMarks .In b = false := by rfl) : XT X E (.Compare a [.In] [b] pos) (fun g => T.bind (mb2 (dIn false) ma mb g) dAsB) := t_cmp (op_inAll (hu65 hr)) (s_in false) ha hb hm
theorem t_nin (hr : Room k X.A) (ha : XB X E a ma) (hb : XB X E b mb) (hm : behindInMarks .NotIn b = false := by rfl) : XT X E (.Compare a [.NotIn] [b] pos) (fun g => T.bind (mb2 (dIn true) ma mb g) dAsB) := t_cmp (op_notInAll (hu65 hr)) (s_in true) ha hb hm
theorem t_notN (ha : XB X E a ma) (hb : XB X E b mb) : XT X E (.Compare a [.IsNot] [b] pos) (fun g => T.bind (mb2 (dIsN true) ma mb g) dAsB) := t_cmp op_notN s_notN ha hb (nomark _)
abbrev XW (X : Cx) (E : XK) (e : Expr) (m : MT) : Prop := PW X e (lt X.K E m)
variable {ta tb : MT} {rest : List Expr}
theorem XW.t {e : Expr} (h : XW X E e ta) : XT X E e ta := PW.pt h
theorem w_and1 (ha : XT X E a ta) : XW X E (.BoolOp .And [a] pos) ta := pw_and1 ha
theorem w_or1 (ha : XT X E a ta) : XW X E (.BoolOp .Or [a] pos) ta := pw_or1 ha
theorem w_and (ha : XT X E a ta) (hb : XW X E (.BoolOp .And (b :: rest) pos) tb) : XW X E (.BoolOp .And (a :: b :: rest) pos) (fun g => T.bind (ta g) fun k => T.ite k (tb g) (T.pure false)) := by
  refine pw_w (pw_and ha hb) fun σ H Q ⟨g, S, H0, Qd, Ed, rel, hm, hq, he⟩ => ?_
  refine ⟨g, S, H0, _, Ed, rel, hm, fun k S1 hf H1 H01 st1 gr1 => ?_, he⟩
  cases k with
  | false =>
    have hf := T.iteF hf
    exact hq _ S1 hf H1 H01 st1 gr1
  | true =>
    have hf := T.iteT hf
    exact ⟨g, S1, H01, Qd, Ed, rel.grow st1 gr1, hf, fun b S' q H' H0' st' gr' => hq b S' q H' H0' st' (gr1.trans st1 gr'), fun x S' ex => (he x S' ex).grow st1 gr1⟩
theorem w_or (ha : XT X E a ta) (hb : XW X E (.BoolOp .Or (b :: rest) pos) tb) : XW X E (.BoolOp .Or (a :: b :: rest) pos) (fun g => T.bind (ta g) fun k => T.ite k (T.pure true) (tb g)) := by
  refine pw_w (pw_or ha hb) fun σ H Q ⟨g, S, H0, Qd, Ed, rel, hm, hq, he⟩ => ?_
  refine ⟨g, S, H0, _, Ed, rel, hm, fun k S1 hf H1 H01 st1 gr1 => ?_, he⟩
  cases k with
  | true =>
    have hf := T.iteT hf
    exact hq _ S1 hf H1 H01 st1 gr1
  | false =>
    have hf := T.iteF hf
    exact ⟨g, S1, H01, Qd, Ed, rel.grow st1 gr1, hf, fun b S' q H' H0' st' gr' => hq b S' q H' H0' st' (gr1.trans st1 gr'), fun x S' ex => (he x S' ex).grow st1 gr1⟩
theorem t_not (ha : XT X E a ta) : XT X E (.UnaryOp .Not a pos) (fun g => T.bind (ta g) fun k => T.pure (!k)) := by
  refine pt_w (pt_not ha) fun σ H Q ⟨g, S, H0, Qd, Ed, rel, hm, hq, he⟩ => ?_
  exact ⟨g, S, H0, _, Ed, rel, hm, fun k S1 hf H1 H01 st1 gr1 => hq _ S1 hf H1 H01 st1 gr1, he⟩
/-! ### and, or, not, if-else as values -/
theorem x_one {op} (h : XE X E a ma) : XE X E (.BoolOp op [a] pos) ma := pe_one h
theorem x_and (ha : XE X E a ma) (hb : XE X E (.BoolOp .And (b :: rest) pos) mb) : XE X E (.BoolOp .And (a :: b :: rest) pos) (fun g => T.bind (ma g) fun x => T.bind (dAsB x) fun k => T.ite k (mb g) (T.pure (.bl false))) := by
  refine pe_w (pe_and ha hb) fun σ H Q ⟨g, S, H0, Qd, Ed, rel, hm, hq, he⟩ => ?_
  refine ⟨g, S, H0, _, Ed, rel, hm, fun d S1 hf v H1 H01 st1 gr1 r1 => ?_, he⟩
  obtain ⟨k, rfl, hf⟩ := dAsB_inv hf
  cases r1
  refine ⟨k, rfl, ?_⟩
  cases k with
  | false =>
    have hf := T.iteF hf
    exact hq _ S1 hf _ H1 H01 st1 gr1 (.bl _)
  | true =>
    have hf := T.iteT hf
    exact ⟨g, S1, H01, Qd, Ed, rel.grow st1 gr1, hf, fun b S' q v H' H0' st' gr' r' => hq b S' q v H' H0' st' (gr1.trans st1 gr') r', fun x S' ex => (he x S' ex).grow st1 gr1⟩
theorem x_not (ha : XE X E a ma) : XE X E (.UnaryOp .Not a pos) (fun g => T.bind (ma g) fun x => T.bind (dAsB x) fun k => T.pure (.bl (!k))) := by
  refine pe_w (pe_not ha) fun σ H Q ⟨g, S, H0, Qd, Ed, rel, hm, hq, he⟩ => ?_
  refine ⟨g, S, H0, _, Ed, rel, hm, fun d S1 hf v H1 H01 st1 gr1 r1 => ?_, he⟩
  obtain ⟨k, rfl, hf⟩ := dAsB_inv hf
  cases r1
  exact ⟨k, rfl, hq _ S1 hf _ H1 H01 st1 gr1 (.bl _)⟩
theorem x_ife (hc : XT X E c ta) (ha : XE X E a ma) (hb : XE X E b mb) : XE X E (.IfExp c a b pos) (fun g => T.bind (ta g) fun k => T.ite k (ma g) (mb g)) := by
  refine pe_w (pe_ifExp hc ha hb) fun σ H Q ⟨g, S, H0, Qd, Ed, rel, hm, hq, he⟩ => ?_
  refine ⟨g, S, H0, _, Ed, rel, hm, fun k S1 hf H1 H01 st1 gr1 => ?_, he⟩
  cases k with
  | true =>
    have hf := T.iteT hf
    exact ⟨g, S1, H01, Qd, Ed, rel.grow st1 gr1, hf, fun b S' q v H' H0' st' gr' r' => hq b S' q v H' H0' st' (gr1.trans st1 gr') r', fun x S' ex => (he x S' ex).grow st1 gr1⟩
  | false =>
    have hf := T.iteF hf
    exact ⟨g, S1, H01, Qd, Ed, rel.grow st1 gr1, hf, fun b S' q v H' H0' st' gr' r' => hq b S' q v H' H0' st' (gr1.trans st1 gr') r', fun x S' ex => (he x S' ex).grow st1 gr1⟩
end
end DL

set_option Elab.async false
set_option linter.all false
set_option maxRecDepth 100000
set_option maxHeartbeats 4000000
/-! Sets of texts: made of a list or a tuple, sorted, counted. -/
namespace STx
open PySem PySem.Spec PyProof.Rows L2

def tOf (e : Int × Value) : Str := match e.2 with
  | .str x _ => x
  | _ => Str.empty
def TextE (w : World) (e : Int × Value) : Prop := ∃ x tk, e.2 = Value.str x tk ∧ e.1 = hashStr w x
/-- the members are xs, each once; what is asked of the table that it may be walked -/
structure TextSet (w : World) (h : Heap) (a : Addr) (M : Str → Prop) (n : Nat) (o : Obj) (es : Array (Int × Value)) (ep : Nat) (t : SetTable) : Prop where
  at_ : h.get? a = some o
  ex : o.ExactSet
  dat : o.data = .set es ep t
  el : ∀ e ∈ es.toList, TextE w e
  nd : (es.toList.map tOf).Nodup
  mem : ∀ x, M x ↔ x ∈ es.toList.map tOf
  few : es.size < scanBound
  fit : t.fits es.size = true
  num : es.size = n
  ris : Ris t.place.toList
  ord : w.params.followText "set-order" = true ∨ t.led = true
def TSet (w : World) (h : Heap) (a : Addr) (M : Str → Prop) (n : Nat) : Prop := ∃ o es ep t, TextSet w h a M n o es ep t
section
variable {P : Program} {w : World} {h h' : Heap} {a : Addr} {M : Str → Prop} {n : Nat}
theorem TSet.at' (R : TSet w h a M n) (k : ∀ o, h.get? a = some o → h'.get? a = some o) : TSet w h' a M n := by
  obtain ⟨o, es, ep, t, R⟩ := R
  exact ⟨o, es, ep, t, k o R.at_, R.ex, R.dat, R.el, R.nd, R.mem, R.few, R.fit, R.num, R.ris, R.ord⟩
theorem TSet.iff {M' : Str → Prop} (R : TSet w h a M n) (e : ∀ x, M' x ↔ M x) : TSet w h a M' n := by
  obtain ⟨o, es, ep, t, R⟩ := R
  exact ⟨o, es, ep, t, R.at_, R.ex, R.dat, R.el, R.nd, fun x => (e x).trans (R.mem x), R.few, R.fit, R.num, R.ris, R.ord⟩
theorem tx_elems {l : List (Int × Value)} (g : ∀ e ∈ l, TextE w e) : ElemsOf (strKind P w) l := fun e he => by
  obtain ⟨x, tk, h1, h2⟩ := g e he
  refine ⟨⟨x, by rw [h1]; exact strKind_is P w x tk, h2⟩, ?_⟩
  rw [h1] <;> rfl
theorem tx_is {e : Int × Value} (g : TextE w e) (x : Str) : (strKind P w).is x e.2 = true ↔ tOf e = x := by
  obtain ⟨y, tk, h1, _⟩ := g
  have e1 : tOf e = y := by unfold tOf; rw [h1]
  rw [e1, h1]
  constructor
  · intro q
    have q2 : Value.isStrOf x (.str y tk) = true := q
    simp [Value.isStrOf] at q2
    exact q2
  · rintro rfl
    exact strKind_is P w y tk
theorem tx_mem {l : List (Int × Value)} (g : ∀ e ∈ l, TextE w e) (x : Str) : x ∈ l.map tOf ↔ ∃ e ∈ l, (strKind P w).is x e.2 = true := by
  rw [List.mem_map]
  exact ⟨fun ⟨e, he, q⟩ => ⟨e, he, (tx_is (g e he) x).2 q⟩, fun ⟨e, he, q⟩ => ⟨e, he, (tx_is (g e he) x).1 q⟩⟩
end
abbrev newS (w : World) : Obj := { cls := .type "set", dict := none, data := .set #[] 0 (.fresh 0 0 (!w.params.followText "set-order")) }
theorem tset_new {w : World} {h : Heap} {a : Addr} {M : Str → Prop} (ho : h.get? a = some (newS w)) (hM : ∀ x, ¬ M x) : TSet w h a M 0 := by
  refine ⟨_, #[], 0, _, ho, ⟨rfl, rfl, rfl⟩, rfl, fun e he => by simp at he, by simp, fun x => ⟨fun q => absurd q (hM x), fun q => by simp at q⟩, by decide, by rfl, rfl, List.Pairwise.nil, ?_⟩
  cases q : w.params.followText "set-order" with
  | true => exact .inl rfl
  | false => exact .inr rfl
section
variable {P : Program} {w : World} {A : Around} {E : Value → Shared → Prop} {s : Shared} {a : Addr} {M : Str → Prop} {n : Nat}
/-- the store behind a new member, and the table laid anew where it is too full -/
theorem tx_tail {g : Bool → Sem Unit} (hg : ∀ (b : Bool) (s₁ : Shared) (Q' : Unit → Shared → Prop), Q' () s₁ → wpAny (model P w) A (g b) Q' E s₁)
    {o : Obj} {es : Array (Int × Value)} {ep : Nat} {t : SetTable} (ho : s.heap.get? a = some o) (hex : o.ExactSet) (hd : o.data = .set es ep t)
    {fs : Array (Int × Value)} {t2 : SetTable} {M' : Str → Prop} (g1 : ∀ e ∈ fs.toList, TextE w e) (nd1 : (fs.toList.map tOf).Nodup) (m1 : ∀ x, M' x ↔ x ∈ fs.toList.map tOf)
    (hb1 : fs.size < scanBound) (hf2 : t2.fits fs.size = true) (hr : Ris t2.place.toList) (hl : w.params.followText "set-order" = true ∨ t2.led = true) {dm : Bool} {R : Option Bool → Shared → Prop}
    (hR : ∀ h', Heap.SameBut a s.heap h' → TSet w h' a M' fs.size → R (some true) { s with heap := h' }) :
    wpAny (model P w) A (do
      storeSet a fs t2
      if (!dm && t2.tooFull) = true then do
        g (relayAll t2 fs (SetTable.grown fs.size)).2.2
        storeSet a (relayAll t2 fs (SetTable.grown fs.size)).1 (relayAll t2 fs (SetTable.grown fs.size)).2.1
        pure (some true)
      else pure (some true)) R E s := by
  refine wpAny_bind (wpAny_storeSet_of ho hd ?_ (fits_of_scanBound hb1))
  have q1 := store_at (es' := fs) (t' := t2) ho hd
  have sb := Heap.SameBut.update s.heap a (Obj.putSet fs t2)
  by_cases hc : (!dm && t2.tooFull) = true
  · rw [if_pos hc]
    have p := relayAll_perm t2 fs (SetTable.grown fs.size)
    have f3 := relayAll_fits t2 fs (SetTable.grown fs.size)
    have r3 := relayAll_ris t2 fs (SetTable.grown fs.size)
    have l3 := relayAll_led t2 fs (SetTable.grown fs.size)
    generalize relayAll t2 fs (SetTable.grown fs.size) = Z at p f3 r3 l3 ⊢
    obtain ⟨fs2, t3, gv⟩ := Z
    dsimp only at p f3 r3 l3 ⊢
    have hz : fs2.size = fs.size := by
      have := p.length_eq
      simpa using this
    refine wpAny_bind (hg _ _ _ (wpAny_bind (wpAny_storeSet_of q1 rfl ?_ (fits_of_scanBound (by rw [hz]; exact hb1)))))
    have q2 := store_at (es' := fs2) (t' := t3) q1 rfl
    refine wpAny_pure (hR _ (sb.trans (Heap.SameBut.update _ a _)) ⟨_, fs2, _, t3, q2, hex, rfl, fun e he => g1 e (p.mem_iff.mp he), (p.map tOf).nodup_iff.mpr nd1, fun x => (m1 x).trans (p.map tOf).mem_iff.symm, by rw [hz]; exact hb1, f3, hz, r3, ?_⟩)
    exact hl.imp id fun z => by rw [l3]; exact z
  · rw [if_neg hc]
    exact wpAny_pure (hR _ sb ⟨_, fs, _, t2, q1, hex, rfl, g1, nd1, m1, hb1, hf2, rfl, hr, hl⟩)
theorem tx_add {x : Str} {tk : Tok} {Q : Bool → Shared → Prop} (R : TSet w s.heap a M n) (room : n + 1 < scanBound)
    (hQ : ∀ h' b m, Heap.SameBut a s.heap h' → m ≤ n + 1 → TSet w h' a (fun y => M y ∨ y = x) m → Q b { s with heap := h' }) :
    wpAny (model P w) A (setAddHashed a (.str x tk) ((strKind P w).hash x)) Q E s := by
  obtain ⟨o, es, ep, t, R⟩ := R
  have hkey : (strKind P w).is x (.str x tk) = true := strKind_is P w x tk
  have hsc : (Value.str x tk).scannable = true := rfl
  have hel : ElemsOf (strKind P w) es.toList := tx_elems R.el
  unfold setAddHashed setAddHashedIn
  refine wpAny_holding (wpAny_bind (wpAny_setState_of R.at_ R.dat R.fit ?_))
  dsimp only
  rw [byScan_of hsc R.few hel]
  simp only [↓reduceIte]
  unfold setAddByScan
  refine wpAny_bind (wpAny_bind (wpAny_rule (wpAny_bind (wpAny_setScan_of hkey R.at_ R.dat R.fit hel ?_))))
  cases hfi : List.findIdx? (fun e => (strKind P w).is x e.2) es.toList with
  | some j =>
    dsimp only
    obtain ⟨hj, pj, _⟩ := List.findIdx?_eq_some_iff_getElem.mp hfi
    have hx : M x := (R.mem x).2 ((tx_mem (P := P) (w := w) R.el x).2 ⟨es.toList[j], List.getElem_mem hj, pj⟩)
    refine wpAny_pure (wpAny_pure ?_)
    exact hQ s.heap _ n (Heap.SameBut.refl a s.heap) (Nat.le_succ _) (TSet.iff ⟨o, es, ep, t, R⟩ fun y => ⟨fun z => z.elim id fun e => e ▸ hx, .inl⟩)
  | none =>
    dsimp only
    have hnx : x ∉ es.toList.map tOf := fun z => by
      obtain ⟨e, he, q⟩ := (tx_mem (P := P) (w := w) R.el x).1 z
      have c := List.findIdx?_eq_none_iff.mp hfi e he
      rw [q] at c
      cases c
    have gw : ∀ (b : Bool) {s₁ : Shared} {Q' : Unit → Shared → Prop}, Q' () s₁ → wpAny (model P w) A (match b with | true => rule "set.scan.the-table-gave-way" | false => pure ()) Q' E s₁ :=
      fun b _ _ q => by cases b <;> first | exact wpAny_pure q | exact wpAny_rule q
    have p0 := layNew_perm t es ((strKind P w).hash x) (.str x tk)
    have f1 := layNew_fits t es ((strKind P w).hash x) (.str x tk)
    have r1 := layNew_ris t es ((strKind P w).hash x) (.str x tk) R.ris
    have l1 := layNew_led t es ((strKind P w).hash x) (.str x tk)
    generalize layNew t es ((strKind P w).hash x) (.str x tk) = Z at p0 f1 r1 l1 ⊢
    obtain ⟨fs, t1, dm, gv⟩ := Z
    dsimp only at p0 f1 r1 l1 ⊢
    rw [Array.toList_push] at p0
    have pc : fs.toList.Perm (((strKind P w).hash x, Value.str x tk) :: es.toList) := p0.trans (List.perm_append_singleton _ _)
    have pk : (fs.toList.map tOf).Perm (x :: es.toList.map tOf) := pc.map tOf
    have g1 : ∀ e ∈ fs.toList, TextE w e := fun e he => by
      rcases List.mem_cons.mp (pc.mem_iff.mp he) with z | z
      · subst z; exact ⟨x, tk, rfl, rfl⟩
      · exact R.el e z
    have nd1 : (fs.toList.map tOf).Nodup := pk.nodup_iff.mpr (List.nodup_cons.mpr ⟨hnx, R.nd⟩)
    have m1 : ∀ y, (M y ∨ y = x) ↔ y ∈ fs.toList.map tOf := fun y => by
      rw [R.mem y, pk.mem_iff, List.mem_cons]
      exact Or.comm
    have hz : fs.size = n + 1 := by
      have := pc.length_eq
      rw [List.length_cons, Array.length_toList, Array.length_toList, R.num] at this
      exact this
    have hb1 : fs.size < scanBound := by rw [hz]; exact room
    have hl1 : w.params.followText "set-order" = true ∨ t1.led = true := R.ord.imp id fun z => by rw [l1]; exact z
    have fin : ∀ h', Heap.SameBut a s.heap h' → TSet w h' a (fun y => M y ∨ y = x) fs.size → Q true { s with heap := h' } := fun h' sb r => hQ h' true fs.size sb (Nat.le_of_eq hz) r
    refine wpAny_bind (gw _ ?_)
    split
    · refine wpAny_bind ?_
      rw [hashByValue_scannable 8 hsc]
      refine wpAny_pure (tx_tail ?_ R.at_ R.ex R.dat g1 nd1 m1 hb1 ?_ ?_ ?_ ?_)
      · intro b s₁ Q' q; cases b <;> first | exact wpAny_pure q | exact wpAny_rule q
      · first | (split <;> first | exact f1 | exact SetTable.fits_plain_off f1) | exact f1
      · first | (split <;> exact r1) | exact r1
      · first | (split <;> exact hl1) | exact hl1
      · intro h' sb r; dsimp only; exact wpAny_pure (fin h' sb r)
    · refine wpAny_bind (wpAny_pure ?_)
      simp only [↓reduceIte]
      refine tx_tail ?_ R.at_ R.ex R.dat g1 nd1 m1 hb1 f1 r1 hl1 ?_
      · intro b s₁ Q' q; cases b <;> first | exact wpAny_pure q | exact wpAny_rule q
      · intro h' sb r; dsimp only; exact wpAny_pure (fin h' sb r)
/-- the loop of set(iterable) -/
theorem tx_update {I : Addr} {fp wr : List Addr} {G : Array GenState → Array GenState → Prop} {N : Nat} {Pv : Nat → Value → Prop} {St : Nat → Shared → Prop} {R : Result → Shared → Prop}
    (W : WalksS P w A.in1 I fp wr G N Pv St) (S : Addr) (hSf : S ∉ fp) (xs : List Str) (hn : N = xs.length) (hb : xs.length + 1 < scanBound) (hval : ∀ (i : Nat) v, Pv i v → ∃ x t, xs[i]? = some x ∧ v = .str x t) :
    ∀ (k i : Nat) (s : Shared), N - i = k → i ≤ N → St i s → (∃ c, c ≤ i ∧ TSet w s.heap S (fun y => y ∈ xs.take i) c) →
      (∀ s' c, Moved (S :: wr) G s s' → c ≤ N → TSet w s'.heap S (fun y => y ∈ xs) c → R (.ok (.ret .none)) s') →
      codeAny (model P w) A (.builtin "set.update.loop" ⟨[.ref S, .ref I], []⟩) R s := by
  have sw : S ∉ wr := fun q => hSf (W.sub _ q)
  have sub : ∀ b ∈ wr, b ∈ S :: wr := fun b q => List.mem_cons_of_mem _ q
  intro k
  induction k with
  | zero =>
    intro i s hk hi hst ⟨c, hc, hS⟩ hR
    obtain rfl : i = N := by omega
    refine codeAny_builtin F.entry_set_update_loop ?_
    rw [Around.under_plainId F.plain_set_update_loop _]
    show wpAny _ A.in1 (pyNext (.ref I) >>= _) _ _ s
    refine wpAny_bind (W.done s _ _ hst fun s' hm => ?_)
    show wpAny _ A.in1 (ret Value.none) _ _ s'
    rw [List.take_of_length_le (by omega : xs.length ≤ i)] at hS
    exact wpAny_pure (hR s' c (hm.mono sub) hc (hS.at' fun o e => hm.heap S o sw e))
  | succ k ih =>
    intro i s hk hi hst ⟨c, hc, hS⟩ hR
    have hlt : i < N := by omega
    refine codeAny_builtin F.entry_set_update_loop ?_
    rw [Around.under_plainId F.plain_set_update_loop _]
    show wpAny _ A.in1 (pyNext (.ref I) >>= _) _ _ s
    refine wpAny_bind (W.item i s _ _ hlt hst fun v s' hP hst' hm => ?_)
    obtain ⟨z, t, hz, rfl⟩ := hval i v hP
    have hS' : TSet w s'.heap S (fun y => y ∈ xs.take i) c := hS.at' fun o e => hm.heap S o sw e
    show wpAny _ A.in1 (holding [Value.str z t] (setAdd S (.str z t)) >>= _) _ _ s'
    refine wpAny_bind (wpAny_holding ?_)
    unfold setAdd
    refine wpAny_holding (wpAny_bind ((strKind P w).pyHash (k := z) (strKind_is _ _ _ _) ?_))
    refine tx_add (s := { s' with toks := s'.toks + 1 }) hS' (by omega) fun h' b m hsb hm' hS2 => ?_
    have hS3 : TSet w h' S (fun y => y ∈ xs.take (i + 1)) m := hS2.iff fun y => by
      rw [List.take_add_one, hz]
      simp [List.mem_append]
    refine wpAny_pure ⟨plainId_quiet F.plain_set_update_loop _, ih (i + 1) _ (by omega) hlt (W.frame _ s' _ _ hst' (Nat.le_succ _) fun b hb o e => ?_) ⟨m, by omega, hS3⟩ fun s'' c2 hm'' hc'' hS'' => ?_⟩
    · rw [hsb.2 b (fun q : b = S => hSf (by rw [← q]; exact hb))]; exact e
    · refine hR s'' c2 (Moved.trans W.gtrans ((hm.mono sub).then_heap (Nat.le_succ _) fun b o hb e => ?_) hm'') hc'' hS''
      rw [hsb.2 b (fun q : b = S => hb (by rw [q]; exact List.mem_cons_self))]; exact e
end

/-- set.__init__ of a new set and v takes up xs -/
def SetInit (P : Program) (w : World) (A : Around) (E : Value → Shared → Prop) (s : Shared) (v : Value) (xs : List Str) : Prop :=
  ∀ R : Result → Shared → Prop, (∀ (h' : Heap) (tk c : Nat), TSet w h' s.heap.objs.size (fun y => y ∈ xs) c → c ≤ xs.length → (∀ b o, s.heap.get? b = some o → h'.get? b = some o) → R (.ok (.ret .none)) { s with heap := h', toks := tk }) →
    wpAny (model P w) A.in1.in1 (Builtin.«set.__init__» ⟨[.ref s.heap.objs.size, v], []⟩) (fun fin s' => match fin with
      | .done f => R (.ok f) s'
      | .again c' => c'.quiet = true ∧ codeAny (model P w) A.in1 c' R s') (fun e s' => R (.error e) s') { s with heap := s.heap.push (newS w) }
set_option maxHeartbeats 4000000 in
/-- set(x): what is left is the loop over x -/
theorem call_set1 {P : Program} {w : World} {A : Around} {E : Value → Shared → Prop} {s : Shared} {v : Value} {xs : List Str} {Q : Value → Shared → Prop}
    (h : ∀ (h' : Heap) (tk c : Nat), TSet w h' s.heap.objs.size (fun y => y ∈ xs) c → c ≤ xs.length → (∀ b o, s.heap.get? b = some o → h'.get? b = some o) → Q (.ref s.heap.objs.size) { s with heap := h', toks := tk })
    (hrun : SetInit P w A E s v xs) :
    wpAny (model P w) A (call (.type "set") [v]) Q E s := by
  obtain ⟨c, tl, hmro⟩ := F.called_set.mro
  have hmade := F.called_set.made
  have hsub := F.called_set.sub
  refine wpAny_call (codeAny_of_tree ?_)
  show wpAny _ _ (callAny (.type "set") _) _ _ _
  refine wpAny_pure ⟨Code.quiet_builtin _ (by decide +kernel), codeAny_builtin F.entry_type_call ?_⟩
  rw [Around.under_plain (weight_type_call_type "set" [v] []) rfl]
  have h1 := F.called_set.notType
  have h2 := F.called_set.canCreate
  have hct := F.typeCall_set_1 v
  repeat (any_goals (first | assumption | wp_step))
  refine codeAny_mono (code_set_led1 v (E := E) (Q₁ := fun obj s₁ => obj = .ref s.heap.objs.size ∧ s₁ = { s with heap := s.heap.push (newS w) }) ⟨rfl, rfl⟩) fun r s₁ hr => ?_
  cases r with
  | error e => exact hr
  | ok fl =>
    cases fl with
    | ret obj =>
      obtain ⟨rfl, rfl⟩ := hr
      have hS : (s.heap.push (newS w)).get? s.heap.objs.size = some (newS w) := Heap.get?_push_size _ rfl
      have hT : Shared.TypeIs { s with heap := s.heap.push (newS w) } (.ref s.heap.objs.size) "set" := ⟨_, hS, rfl⟩
      have hli := F.called_set.init.lookup
      have hbi := F.called_set.init.bind (.ref s.heap.objs.size)
      repeat (any_goals (first | assumption | wp_step))
      refine codeAny_mono (codeAny_call_builtin (R := wants (fun r s₂ => r = .none ∧ ∃ h' tk c, s₂ = { s with heap := h', toks := tk } ∧ TSet w h' s.heap.objs.size (fun y => y ∈ xs) c ∧ c ≤ xs.length ∧
          (∀ b o, s.heap.get? b = some o → h'.get? b = some o)) E) F.called_set.init.plain F.entry_set_init (check_set_init_1 hT ?_)) fun r₂ s₂ hr₂ => ?_
      · exact hrun _ fun h' tk c q1 q2 q3 => ⟨rfl, h', tk, c, rfl, q1, q2, q3⟩
      · cases r₂ with
        | error e => exact hr₂
        | ok fl₂ =>
          cases fl₂ with
          | ret r =>
            obtain ⟨rfl, h', tk, c', rfl, hS', hc', hk'⟩ := hr₂
            repeat (any_goals (first | assumption | wp_step))
            exact h _ _ _ hS' hc' hk'
          | _ => exact hr₂.elim
    | _ => exact hr.elim

set_option maxHeartbeats 4000000 in
theorem init_list {P : Program} {w : World} {A : Around} {E : Value → Shared → Prop} {s : Shared} {l : Addr} {items : Array Value} {xs : List Str} (hh : A.handled = none) (hl : s.heap.IsList l items) (hit : StrsAre items.toList xs) (hb : xs.length + 1 < scanBound) :
    SetInit P w A E s (.ref l) xs := by
  intro R hR
  have hsz : items.size = xs.length := by rw [← StrsAre.len_eq hit, Array.length_toList]
  have hS : (s.heap.push (newS w)).get? s.heap.objs.size = some (newS w) := Heap.get?_push_size _ rfl
  have hT : Shared.TypeIs { s with heap := s.heap.push (newS w) } (.ref s.heap.objs.size) "set" := ⟨_, hS, rfl⟩
  obtain ⟨ol, hol, hcl, nl, hdl⟩ := hl
  obtain ⟨ocls, odict, odata, oslots⟩ := ol
  simp only at hcl hdl
  subst hcl; subst hdl
  have hol' : (s.heap.push (newS w)).get? l = some { cls := .type "list", dict := odict, data := .seq items nl, slots := oslots } := Heap.get?_push_of_some _ hol
  have hsls := F.sub_list_set
  have hslf := F.sub_list_frozenset
  have hne : (Value.type "list" == Value.type "dict") = false := by decide
  have hl1 : (s.heap.push (newS w)).IsList l items := ⟨_, hol', rfl, nl, rfl⟩
  unfold Builtin.«set.__init__» noKeywords Builtin.Frozenset.updateFrom
  generalize hPI : pyIter = PI
  wp_walk
  subst hPI
  refine wpAny_pyIter_list hl1 (wpAny_bind (wpAny_runValue ?_))
  have ls : l < s.heap.objs.size := Heap.lt_size hol
  have hh3 : A.in1.in1.in1.handled = none := by simp [hh]
  have z1 : (s.heap.push (newS w)).objs.size = s.heap.objs.size + 1 := Heap.size_push ..
  have nI : l ≠ (s.heap.push (newS w)).objs.size := by rw [z1]; exact Nat.ne_of_lt (Nat.lt_succ_of_lt ls)
  have hSf : s.heap.objs.size ∉ [(s.heap.push (newS w)).objs.size, l] := by
    rw [z1]
    simp only [List.mem_cons, List.mem_singleton, List.not_mem_nil, or_false, not_or]
    exact ⟨Nat.ne_of_lt (Nat.lt_succ_self _), Nat.ne_of_gt ls⟩
  have hval : ∀ (i : Nat) (v : Value), items[i]? = some v → ∃ x t, xs[i]? = some x ∧ v = .str x t := fun i v hv => by
    have hi : i < xs.length := by rw [← hsz]; exact (Array.getElem?_eq_some_iff.mp hv).1
    obtain ⟨t, e⟩ := SS.strs_at hit i v (by rw [Array.getElem?_toList]; exact hv)
    refine ⟨xs[i], t, List.getElem?_eq_getElem hi, ?_⟩
    rw [e, List.getD_eq_getElem?_getD, List.getElem?_eq_getElem hi] <;> rfl
  refine tx_update ((Walks.list hh3 _ l nI items).toS) s.heap.objs.size hSf xs hsz hb hval (items.size - 0) 0 _ (by omega) (Nat.zero_le _)
    ⟨⟨_, Heap.get?_push_size _ rfl, rfl, rfl⟩, (hl1.push _)⟩ ?hS0 ?hR
  case hS0 =>
    have hget : ((s.heap.push (newS w)).push { cls := .type "list_iterator", data := .fields #[.ref l, .int 0 0] }).get? s.heap.objs.size = some (newS w) := Heap.get?_push_of_some _ hS
    exact ⟨0, Nat.le_refl 0, tset_new hget fun x q => by simp at q⟩
  case hR =>
    intro s' c' hm hc' hS'
    obtain ⟨h', g2, d', tk', os'⟩ := s'
    have eg : g2 = s.gens := hm.gens
    have ed : d' = s.drawn := hm.drawn
    have eo : os' = s.os := hm.os
    subst eg; subst ed; subst eo
    show wpAny _ _ _ _ _ _
    refine wpAny_pure ?_
    show wpAny _ _ (ret Value.none) _ _ _
    rw [hsz] at hc'
    refine wpAny_pure (hR h' tk' c' hS' hc' fun b o e => ?_)
    have b0 : b < s.heap.objs.size := Heap.lt_size e
    have b2 : b ≠ (s.heap.push (newS w)).objs.size := by rw [z1]; exact Nat.ne_of_lt (Nat.lt_succ_of_lt b0)
    refine hm.heap b o ?_ (Heap.get?_push_of_some _ (Heap.get?_push_of_some _ e))
    simp only [List.mem_cons, List.mem_singleton, List.not_mem_nil, or_false, not_or]
    exact ⟨Nat.ne_of_lt b0, b2⟩

set_option maxHeartbeats 4000000 in
theorem init_tuple {P : Program} {w : World} {A : Around} {E : Value → Shared → Prop} {s : Shared} {l : Addr} {items : Array Value} {xs : List Str} (hh : A.handled = none) (hl : s.heap.IsTuple l items) (hit : StrsAre items.toList xs) (hb : xs.length + 1 < scanBound) :
    SetInit P w A E s (.ref l) xs := by
  intro R hR
  have hsz : items.size = xs.length := by rw [← StrsAre.len_eq hit, Array.length_toList]
  have hS : (s.heap.push (newS w)).get? s.heap.objs.size = some (newS w) := Heap.get?_push_size _ rfl
  have hT : Shared.TypeIs { s with heap := s.heap.push (newS w) } (.ref s.heap.objs.size) "set" := ⟨_, hS, rfl⟩
  obtain ⟨ol, hol, hcl, nl, hdl⟩ := hl
  obtain ⟨ocls, odict, odata, oslots⟩ := ol
  simp only at hcl hdl
  subst hcl; subst hdl
  have hol' : (s.heap.push (newS w)).get? l = some { cls := .type "tuple", dict := odict, data := .seq items nl, slots := oslots } := Heap.get?_push_of_some _ hol
  have hsls := F.sub_tuple_set
  have hslf := F.sub_tuple_frozenset
  have hne : (Value.type "tuple" == Value.type "dict") = false := by decide
  have hl1 : (s.heap.push (newS w)).IsTuple l items := ⟨_, hol', rfl, nl, rfl⟩
  unfold Builtin.«set.__init__» noKeywords Builtin.Frozenset.updateFrom
  generalize hPI : pyIter = PI
  wp_walk
  subst hPI
  refine wpAny_pyIter_tuple hl1 (wpAny_bind (wpAny_runValue ?_))
  have ls : l < s.heap.objs.size := Heap.lt_size hol
  have hh3 : A.in1.in1.in1.handled = none := by simp [hh]
  have z1 : (s.heap.push (newS w)).objs.size = s.heap.objs.size + 1 := Heap.size_push ..
  have nI : l ≠ (s.heap.push (newS w)).objs.size := by rw [z1]; exact Nat.ne_of_lt (Nat.lt_succ_of_lt ls)
  have hSf : s.heap.objs.size ∉ [(s.heap.push (newS w)).objs.size, l] := by
    rw [z1]
    simp only [List.mem_cons, List.mem_singleton, List.not_mem_nil, or_false, not_or]
    exact ⟨Nat.ne_of_lt (Nat.lt_succ_self _), Nat.ne_of_gt ls⟩
  have hval : ∀ (i : Nat) (v : Value), items[i]? = some v → ∃ x t, xs[i]? = some x ∧ v = .str x t := fun i v hv => by
    have hi : i < xs.length := by rw [← hsz]; exact (Array.getElem?_eq_some_iff.mp hv).1
    obtain ⟨t, e⟩ := SS.strs_at hit i v (by rw [Array.getElem?_toList]; exact hv)
    refine ⟨xs[i], t, List.getElem?_eq_getElem hi, ?_⟩
    rw [e, List.getD_eq_getElem?_getD, List.getElem?_eq_getElem hi] <;> rfl
  refine tx_update ((Walks.tuple hh3 _ l nI items).toS) s.heap.objs.size hSf xs hsz hb hval (items.size - 0) 0 _ (by omega) (Nat.zero_le _)
    ⟨⟨_, Heap.get?_push_size _ rfl, rfl, rfl⟩, (hl1.push _)⟩ ?hS0 ?hR
  case hS0 =>
    have hget : ((s.heap.push (newS w)).push { cls := .type "tuple_iterator", data := .fields #[.ref l, .int 0 0] }).get? s.heap.objs.size = some (newS w) := Heap.get?_push_of_some _ hS
    exact ⟨0, Nat.le_refl 0, tset_new hget fun x q => by simp at q⟩
  case hR =>
    intro s' c' hm hc' hS'
    obtain ⟨h', g2, d', tk', os'⟩ := s'
    have eg : g2 = s.gens := hm.gens
    have ed : d' = s.drawn := hm.drawn
    have eo : os' = s.os := hm.os
    subst eg; subst ed; subst eo
    show wpAny _ _ _ _ _ _
    refine wpAny_pure ?_
    show wpAny _ _ (ret Value.none) _ _ _
    rw [hsz] at hc'
    refine wpAny_pure (hR h' tk' c' hS' hc' fun b o e => ?_)
    have b0 : b < s.heap.objs.size := Heap.lt_size e
    have b2 : b ≠ (s.heap.push (newS w)).objs.size := by rw [z1]; exact Nat.ne_of_lt (Nat.lt_succ_of_lt b0)
    refine hm.heap b o ?_ (Heap.get?_push_of_some _ (Heap.get?_push_of_some _ e))
    simp only [List.mem_cons, List.mem_singleton, List.not_mem_nil, or_false, not_or]
    exact ⟨Nat.ne_of_lt b0, b2⟩

/-- sorted(a set of texts): the members, rising -/
theorem sorted_tset {P : Program} {w : World} {A : Around} {E : Value → Shared → Prop} {s : Shared} {a : Addr} {M : Str → Prop} {n : Nat} {Q : Value → Shared → Prop} (R : TSet w s.heap a M n) (hh : A.handled = none) (h64 : n < 64)
    (hQ : ∀ s' p (out : Array Value) (c : Nat) (ys : List Str), (∀ b o, s.heap.get? b = some o → s'.heap.get? b = some o) → s'.gens = s.gens → s'.os = s.os → s.heap.objs.size ≤ p →
      s'.heap.get? p = some (seqObj "list" out c) → StrsAre out.toList ys → sortedS ys = true → ys.Nodup → (∀ x, x ∈ ys ↔ M x) → Q (.ref p) s') :
    wpAny (model P w) A (call (.builtin "sorted") [.ref a]) Q E s := by
  obtain ⟨o, es, ep, t, R⟩ := R
  refine Calls.call_function_entry kind_sorted plain_sorted entry_sorted (args_sorted1 _) ?_
  unfold Builtin.«sorted»
  refine wpAny_bind (m := checkCount "sorted" 1 1 _) (wpAny_pure ?_)
  refine wpAny_bind (collect_set (A := A.in1) hh ⟨o, R.at_, R.ex.1, R.dat⟩ R.fit R.few R.ris R.ord fun s1 vs k1 hz g1 o1 pm => ?_)
  have hvl : vs.length = n := by rw [pm.length_eq, List.length_map, Array.length_toList]; exact R.num
  have all : ∀ l : List Value, (∀ v ∈ l, ∃ e ∈ es.toList, v = e.2) → StrsAre l (l.map fun v => tOf (0, v)) := by
    intro l
    induction l with
    | nil => intro _; exact .nil
    | cons v l ih =>
      intro hv
      obtain ⟨e, he, q⟩ := hv v List.mem_cons_self
      obtain ⟨x, tk, h1, _⟩ := R.el e he
      have hv' : v = .str x tk := q.trans h1
      subst hv'
      exact .cons x tk (ih fun u hu => hv u (List.mem_cons_of_mem _ hu))
  have hI := all vs fun v hv => by
    obtain ⟨e, he, q⟩ := List.mem_map.mp (pm.mem_iff.mp hv)
    exact ⟨e, he, q.symm⟩
  have pk : (vs.map fun v => tOf (0, v)).Perm (es.toList.map tOf) := by
    have q := pm.map fun v => tOf (0, v)
    rw [List.map_map] at q
    exact q
  refine wpAny_bind (wpAny_newList ?_ (by rw [hvl, sizeLine_eq]; omega))
  have hoL : (s1.heap.push (seqObj "list" vs.toArray 0)).get? s1.heap.objs.size = some (seqObj "list" vs.toArray 0) := Heap.get?_push_size _ rfl
  refine wpAny_bind (wpAny_holding (wpAny_call_entry slot_list_sort ⟨_, hoL, rfl⟩ entry_list_sort (list_sort_treeK strKind_oneLt hoL hI.keysOf (fun v₁ v₂ rest e => keyKind_strs (by rw [← e]; exact hI)) (by rw [hvl]; exact h64) fun st' hp hs => ?_) (args_list_sort _)))
  obtain ⟨ys, q1, q2, q3⟩ := sorted_out_str hI hp hs
  obtain ⟨c, hc⟩ := sortedHeap_at (vs := vs) (out := (arrOf st').map (·.2)) hoL
  have pn : ys.Perm (es.toList.map tOf) := q2.trans pk
  refine ⟨_, rfl, wpAny_pure ⟨_, rfl, hQ _ s1.heap.objs.size _ c ys (fun b u e => ?_) g1 o1 hz hc q1 q3 (pn.nodup_iff.mpr R.nd) fun x => by rw [pn.mem_iff, R.mem x]⟩⟩
  have q := k1 b u e
  have hlt := Heap.lt_size q
  show (sortedHeap (s1.heap.push (seqObj "list" vs.toArray 0)) s1.heap.objs.size vs _).get? b = some u
  rw [sortedHeap_old (Nat.ne_of_lt hlt) (by rw [size_push']; exact Nat.lt_succ_of_lt hlt)]
  exact Heap.get?_push_of_some _ q
end STx

set_option Elab.async false
set_option linter.all false
/-! The order of texts; sorting by insertion. -/
namespace OrdS
open PySem PySem.Spec PyProof.Rows

theorem lt_irr : ∀ a : List Nat, ltCps a a = false
  | [] => rfl
  | x :: r => by simp [ltCps, lt_irr r]
theorem lt_tr : ∀ {a b c : List Nat}, ltCps a b = true → ltCps b c = true → ltCps a c = true
  | [], [], _, h, _ => by simp [ltCps] at h
  | [], _ :: _, [], _, h => by simp [ltCps] at h
  | [], _ :: _, _ :: _, _, _ => rfl
  | _ :: _, [], _, h, _ => by simp [ltCps] at h
  | _ :: _, _ :: _, [], _, h => by simp [ltCps] at h
  | x :: a, y :: b, z :: c, h1, h2 => by
    simp only [ltCps, Bool.or_eq_true, Bool.and_eq_true, decide_eq_true_eq, beq_iff_eq] at *
    rcases h1 with h1 | ⟨h1, h1'⟩
    · rcases h2 with h2 | ⟨h2, _⟩
      · exact .inl (Nat.lt_trans h1 h2)
      · exact .inl (h2 ▸ h1)
    · rcases h2 with h2 | ⟨h2, h2'⟩
      · exact .inl (h1 ▸ h2)
      · exact .inr ⟨h1.trans h2, lt_tr h1' h2'⟩
theorem lt_tot : ∀ {a b : List Nat}, ltCps a b = false → ltCps b a = false → a = b
  | [], [], _, _ => rfl
  | [], _ :: _, h, _ => by simp [ltCps] at h
  | _ :: _, [], _, h => by simp [ltCps] at h
  | x :: a, y :: b, h1, h2 => by
    simp only [ltCps, Bool.or_eq_false_iff, Bool.and_eq_false_iff, decide_eq_false_iff_not, beq_eq_false_iff_ne] at h1 h2
    have e : x = y := by omega
    subst e
    have h1' : ltCps a b = false := by rcases h1.2 with q | q; exact absurd rfl q; exact q
    have h2' : ltCps b a = false := by rcases h2.2 with q | q; exact absurd rfl q; exact q
    rw [lt_tot h1' h2']

/-- x < y -/
def lts (x y : Str) : Bool := ltCps x.cps.toList y.cps.toList
theorem lts_irr (x : Str) : lts x x = false := lt_irr _
theorem lts_tr {x y z : Str} (h : lts x y = true) (h' : lts y z = true) : lts x z = true := lt_tr h h'
theorem cps_ext {x y : Str} (h : x.cps.toList = y.cps.toList) : x = y := Str.ext' (Array.toList_inj.mp h)
theorem lts_tot {x y : Str} (h : lts x y = false) (h' : lts y x = false) : x = y := cps_ext (lt_tot h h')
theorem lts_asym {x y : Str} (h : lts x y = true) : lts y x = false := by
  cases q : lts y x with
  | false => rfl
  | true => have := lts_tr h q; rw [lts_irr] at this; cases this
theorem lts_dec (x y : Str) : decide (x.cps.toList < y.cps.toList) = lts x y := (ltCps_eq _ _).symm
/-- not y < x -/
theorem le_tr {x y z : Str} (h : lts y x = false) (h' : lts z y = false) : lts z x = false := by
  cases q : lts z x with
  | false => rfl
  | true =>
    cases r : lts x y with
    | true => rw [lts_tr q r] at h'; cases h'
    | false => rw [lts_tot h r, q] at h'; cases h'
def Le (x y : Str) : Prop := lts y x = false
theorem rising_pw : ∀ (p : Str) (l : List Str), risingS p l = true → (p :: l).Pairwise Le
  | p, [], _ => List.pairwise_singleton _ _
  | p, x :: r, h => by
    have h' : (!lts x p && risingS x r) = true := h
    rw [Bool.and_eq_true, Bool.not_eq_true'] at h'
    have ih := rising_pw x r h'.2
    refine List.pairwise_cons.mpr ⟨fun y hy => ?_, ih⟩
    rcases List.mem_cons.mp hy with e | hy
    · rw [e]; exact h'.1
    · exact le_tr h'.1 ((List.pairwise_cons.mp ih).1 y hy)
theorem sorted_pw : ∀ (l : List Str), sortedS l = true → l.Pairwise Le
  | [], _ => List.Pairwise.nil
  | x :: r, h => rising_pw x r h
theorem pw_eq : ∀ {l m : List Str}, l.Pairwise Le → m.Pairwise Le → l.Perm m → l = m
  | [], m, _, _, h => by rw [List.nil_perm.mp h]
  | x :: l, [], _, _, h => by have := h.length_eq; simp at this
  | x :: l, y :: m, h1, h2, h => by
    have hx : x ∈ y :: m := h.mem_iff.mp List.mem_cons_self
    have hy : y ∈ x :: l := h.mem_iff.mpr List.mem_cons_self
    have e : x = y := by
      rcases List.mem_cons.mp hx with e | hx
      · exact e
      · rcases List.mem_cons.mp hy with e | hy
        · exact e.symm
        · exact lts_tot ((List.pairwise_cons.mp h2).1 x hx) ((List.pairwise_cons.mp h1).1 y hy)
    subst e
    rw [pw_eq (List.pairwise_cons.mp h1).2 (List.pairwise_cons.mp h2).2 (List.perm_cons x |>.mp h)]

/-! insertion -/
def insS (x : Str) : List Str → List Str
  | [] => [x]
  | y :: r => if lts y x then y :: insS x r else x :: y :: r
def ssort (l : List Str) : List Str := l.foldr insS []
theorem insS_perm (x : Str) : ∀ l, (insS x l).Perm (x :: l)
  | [] => List.Perm.refl _
  | y :: r => by
    unfold insS
    split
    · exact ((insS_perm x r).cons y).trans (List.Perm.swap x y r)
    · exact List.Perm.refl _
theorem ssort_perm : ∀ l, (ssort l).Perm l
  | [] => List.Perm.refl _
  | x :: r => (insS_perm x _).trans ((ssort_perm r).cons x)
theorem insS_pw (x : Str) : ∀ {l}, l.Pairwise Le → (insS x l).Pairwise Le
  | [], _ => List.pairwise_singleton _ _
  | y :: r, h => by
    obtain ⟨h1, h2⟩ := List.pairwise_cons.mp h
    unfold insS
    split
    · rename_i hlt
      refine List.pairwise_cons.mpr ⟨fun z hz => ?_, insS_pw x h2⟩
      rcases List.mem_cons.mp ((insS_perm x r).mem_iff.mp hz) with e | hz
      · rw [e]; exact lts_asym hlt
      · exact h1 z hz
    · rename_i hlt
      have hlt : lts y x = false := by simpa using hlt
      refine List.pairwise_cons.mpr ⟨fun z hz => ?_, h⟩
      rcases List.mem_cons.mp hz with e | hz
      · rw [e]; exact hlt
      · exact le_tr hlt (h1 z hz)
theorem ssort_pw : ∀ l, (ssort l).Pairwise Le
  | [] => List.Pairwise.nil
  | x :: r => insS_pw x (ssort_pw r)
theorem ssort_of {l ys : List Str} (h : ys.Perm l) (hs : sortedS ys = true) : ys = ssort l := pw_eq (sorted_pw _ hs) (ssort_pw _) (h.trans (ssort_perm l).symm)
/-- each once -/
def insD (x : Str) : List Str → List Str
  | [] => [x]
  | y :: r => if lts x y then x :: y :: r else if lts y x then y :: insD x r else y :: r
def sset (l : List Str) : List Str := l.foldr insD []
theorem insD_mem (x z : Str) : ∀ l, z ∈ insD x l ↔ z = x ∨ z ∈ l
  | [] => by simp [insD]
  | y :: r => by
    unfold insD
    split
    · simp
    · split
      · rw [List.mem_cons, insD_mem x z r, List.mem_cons]
        constructor
        · rintro (h | h | h)
          · exact .inr (.inl h)
          · exact .inl h
          · exact .inr (.inr h)
        · rintro (h | h | h)
          · exact .inr (.inl h)
          · exact .inl h
          · exact .inr (.inr h)
      · rename_i h1 h2
        have e : x = y := lts_tot (by simpa using h1) (by simpa using h2)
        subst e
        simp
theorem sset_mem (z : Str) : ∀ l, z ∈ sset l ↔ z ∈ l
  | [] => Iff.rfl
  | x :: r => by
    show z ∈ insD x (sset r) ↔ _
    rw [insD_mem, sset_mem z r, List.mem_cons]
def Lt (x y : Str) : Prop := lts x y = true
theorem insD_pw (x : Str) : ∀ {l}, l.Pairwise Lt → (insD x l).Pairwise Lt
  | [], _ => List.pairwise_singleton _ _
  | y :: r, h => by
    obtain ⟨h1, h2⟩ := List.pairwise_cons.mp h
    unfold insD
    split
    · rename_i hlt
      refine List.pairwise_cons.mpr ⟨fun z hz => ?_, h⟩
      rcases List.mem_cons.mp hz with e | hz
      · rw [e]; exact hlt
      · exact lts_tr hlt (h1 z hz)
    · split
      · rename_i hlt
        refine List.pairwise_cons.mpr ⟨fun z hz => ?_, insD_pw x h2⟩
        rcases (insD_mem x z r).mp hz with e | hz
        · rw [e]; exact hlt
        · exact h1 z hz
      · exact h
theorem sset_pw : ∀ l, (sset l).Pairwise Lt
  | [] => List.Pairwise.nil
  | x :: r => insD_pw x (sset_pw r)
theorem pw_nodup {l : List Str} (h : l.Pairwise Lt) : l.Nodup := h.imp fun {a b} q e => by
  subst e
  have q : lts a a = true := q
  rw [lts_irr] at q; cases q
theorem pw_le {l : List Str} (h : l.Pairwise Lt) : l.Pairwise Le := h.imp fun q => lts_asym q
theorem sset_nodup (l : List Str) : (sset l).Nodup := pw_nodup (sset_pw l)
theorem nodup_perm {α : Type} [DecidableEq α] : ∀ {l m : List α}, l.Nodup → m.Nodup → (∀ x, x ∈ l ↔ x ∈ m) → l.Perm m
  | [], m, _, _, h => by
    cases m with
    | nil => exact List.Perm.refl _
    | cons x r => have := (h x).mpr List.mem_cons_self; simp at this
  | x :: l, m, h1, h2, h => by
    obtain ⟨n1, n2⟩ := List.nodup_cons.mp h1
    have hx : x ∈ m := (h x).mp List.mem_cons_self
    have p := List.perm_cons_erase hx
    refine ((nodup_perm n2 (h2.erase x) fun z => ?_).cons x).trans p.symm
    rw [h2.mem_erase_iff]
    constructor
    · intro hz
      exact ⟨fun e => n1 (e ▸ hz), (h z).mp (List.mem_cons_of_mem _ hz)⟩
    · rintro ⟨ne, hz⟩
      rcases List.mem_cons.mp ((h z).mpr hz) with e | hz
      · exact absurd e ne
      · exact hz
theorem sset_of {l ys : List Str} (hs : sortedS ys = true) (nd : ys.Nodup) (hm : ∀ x, x ∈ ys ↔ x ∈ l) : ys = sset l :=
  pw_eq (sorted_pw _ hs) (pw_le (sset_pw l)) (nodup_perm nd (sset_nodup l) fun x => (hm x).trans (sset_mem x l).symm)
theorem sset_unique {l ys : List Str} (hp : ys.Pairwise Lt) (hm : ∀ x, x ∈ ys ↔ x ∈ l) : ys = sset l :=
  pw_eq (pw_le hp) (pw_le (sset_pw l)) (nodup_perm (pw_nodup hp) (sset_nodup l) fun x => (hm x).trans (sset_mem x l).symm)
theorem sset_self {l : List Str} (h : l.Pairwise Lt) : sset l = l := (sset_unique h fun _ => Iff.rfl).symm
end OrdS

set_option Elab.async false
set_option linter.all false
set_option maxRecDepth 100000
set_option maxHeartbeats 4000000
namespace DL
open PySem PySem.Spec PyProof.Rows L2 STx OrdS

theorem dOpt_inv {α β : Type} {o : Option α} {f : α → T β} {S : Sto} {Qd : β → Sto → Prop} {Ed : Xn → Sto → Prop} (h : dOpt o f S Qd Ed) : ∃ a, o = some a ∧ f a S Qd Ed := by
  cases o with
  | some a => exact ⟨a, rfl, h⟩
  | none => exact h.elim
/-! ### calls of what is built in -/
def CallS (K : PySem.W.Frag) (R : RR) (r : List V → Hp → VK → Prop) (f : List D → T D) : Prop := ∀ (vs : List V) (ds : List D) (H H0 : Hp) (S : Sto) (Qd : D → Sto → Prop) (Ed : Xn → Sto → Prop) (Q : VK), StR K H H0 S → RBs K H H0 S vs ds → f ds S Qd Ed →
  (∀ d S', Qd d S' → ∀ u H' H0', StR K H' H0' S' → Grow H H0 S H' H0' S' → R H H' H0' S' u d → Q u H') → r vs H Q
theorem callS_lf {K : PySem.W.Frag} {E : XK} {R : RR} {r : List V → Hp → VK → Prop} {f : List D → T D} {m : MA} (bk : Back K R) (hs : CallS K R r f) {σ : L2.St} {H : Hp} {Q : VK} (h : lf K E R (fun g => T.bind (m g) f) σ H Q) : tCB r (lab K E m) σ H Q := by
  obtain ⟨g, S, H0, Qd, Ed, rel, hm, hq, he⟩ := h
  refine ⟨g, S, H0, _, Ed, rel, hm, fun ds S1 hf vs H1 H01 st1 gr1 r1 => ?_, he⟩
  exact hs vs ds H1 H01 S1 Qd Ed Q st1 r1 hf fun d S' qd u H' H0' st' gr' r' => hq d S' qd u H' H0' st' (gr1.trans st1 gr') (bk st1 gr1 r')
section
variable {X : Cx} {E : XK} {x : Str} {p pos : Pos} {e : Expr} {es : List Expr} {m : MA} {id Ty : String} {r : List V → Hp → VK → Prop} {f : List D → T D} {R : RR}
theorem x_callB (bk : Back X.K R) (hc : CallR X (.builtin id) r) (hs : CallS X.K R r f) (hm : X.mg x = none) (hv : bootBuiltins x = some (.builtin id)) (ha : XAB X E (e :: es) m) (hg : Gl X x := by rfl) (hn : x ≠ "__name__" := by decide) (hdb : (x == ("__debug__" : Str)) = false := by decide)
    (he : starEach (e :: es) X.env = (false, eval e X.env) :: starEach es X.env := by rfl) (hpl : (backTo pos (starEach es X.env)).any (·.1) = false := by rfl) : PE X (.Call (.Name x p) (e :: es) [] pos) (lf X.K E R fun g => T.bind (m g) f) :=
  pe_w (pe_callB hc hg hm hv ha hn hdb he hpl) fun _ _ _ h => callS_lf bk hs h
theorem x_callTy (bk : Back X.K R) (hc : CallR X (.type Ty) r) (hs : CallS X.K R r f) (hm : X.mg x = none) (hv : bootBuiltins x = some (.type Ty)) (ha : XAB X E (e :: es) m) (hg : Gl X x := by rfl) (hn : x ≠ "__name__" := by decide) (hdb : (x == ("__debug__" : Str)) = false := by decide)
    (he : starEach (e :: es) X.env = (false, eval e X.env) :: starEach es X.env := by rfl) (hpl : (backTo pos (starEach es X.env)).any (·.1) = false := by rfl) : PE X (.Call (.Name x p) (e :: es) [] pos) (lf X.K E R fun g => T.bind (m g) f) :=
  pe_w (pe_callTy hc hg hm hv ha hn hdb he hpl) fun _ _ _ h => callS_lf bk hs h
end
section
variable {K : PySem.W.Frag}
def dLen : List D → T D
  | [.str x] => T.bind (dNeed (x.length ≤ sizeLine)) fun _ => T.pure (.int x.length)
  | [.tup xs] => T.pure (.int xs.length)
  | [.lst xs] => T.pure (.int xs.length)
  | [.frz xs] => T.pure (.int xs.length)
  | _ => T.fail
theorem s_len : CallS K (RF K) (fun xs H Q => ∃ x n, xs = [x] ∧ LenV K x H n ∧ Q (.int n) H) dLen := by
  intro vs ds H H0 S Qd Ed Q st rs hf hq
  unfold dLen at hf
  split at hf
  · obtain ⟨v, rfl, rv⟩ := rs.one
    cases rv.str
    obtain ⟨hz, hf⟩ := hf
    exact ⟨_, _, rfl, ⟨hz, rfl⟩, hq _ S hf _ H H0 st (Grow.refl _ _ _) (.int _)⟩
  · obtain ⟨v, rfl, rv⟩ := rs.one
    obtain ⟨a, xs, rfl, h1, r⟩ := rv.tup
    refine ⟨_, xs.length, rfl, .inr ⟨xs, sqT_sub st.sub h1, rfl⟩, ?_⟩
    rw [r.length]
    exact hq _ S hf _ H H0 st (Grow.refl _ _ _) (.int _)
  · obtain ⟨v, rfl, rv⟩ := rs.one
    obtain ⟨a, xs, rfl, h1, _, r⟩ := rv.lst st
    refine ⟨_, xs.length, rfl, .inl ⟨xs, .of h1, rfl⟩, ?_⟩
    rw [r.length]
    exact hq _ S hf _ H H0 st (Grow.refl _ _ _) (.int _)
  · obtain ⟨v, rfl, rv⟩ := rs.one
    obtain ⟨a, xs, rfl, h1, r⟩ := rv.frz st
    refine ⟨_, xs.length, rfl, .inl ⟨xs, h1, rfl⟩, ?_⟩
    rw [r.length]
    exact hq _ S hf _ H H0 st (Grow.refl _ _ _) (.int _)
  · exact hf.elim
/-- lists of True, False -/
def blsOf : List D → Option (List Bool)
  | [] => some []
  | .bl b :: r => (blsOf r).map (b :: ·)
  | _ => none
theorem blsOf_eq : ∀ {ds : List D} {bs : List Bool}, blsOf ds = some bs → ds = bs.map D.bl
  | [], bs, h => by cases h; rfl
  | .bl b :: r, bs, h => by
    rw [blsOf] at h
    cases q : blsOf r with
    | none => rw [q] at h; cases h
    | some cs => rw [q] at h; cases h; rw [blsOf_eq q]; rfl
  | .non :: _, _, h => by cases h
  | .int _ :: _, _, h => by cases h
  | .str _ :: _, _, h => by cases h
  | .ref _ :: _, _, h => by cases h
  | .ty _ :: _, _, h => by cases h
  | .tup _ :: _, _, h => by cases h
  | .lst _ :: _, _, h => by cases h
  | .frz _ :: _, _, h => by cases h
  | .dic _ _ :: _, _, h => by cases h
theorem blsOf_map : ∀ bs : List Bool, blsOf (bs.map D.bl) = some bs
  | [] => rfl
  | b :: r => by rw [List.map_cons, blsOf, blsOf_map r]; rfl
def dAll : List D → T D
  | [.lst xs] => dOpt (blsOf xs) fun bs => T.pure (.bl (bs.all id))
  | _ => T.fail
theorem s_all : CallS K (RF K) (rAll K) dAll := by
  intro vs ds H H0 S Qd Ed Q st rs hf hq
  unfold dAll at hf
  split at hf
  · obtain ⟨v, rfl, rv⟩ := rs.one
    obtain ⟨a, xs, rfl, h1, _, r⟩ := rv.lst st
    obtain ⟨bs, hb, hf⟩ := dOpt_inv hf
    rw [blsOf_eq hb] at r
    exact ⟨a, bs, rfl, by rw [← r.bls]; exact .of h1, hq _ S hf _ H H0 st (Grow.refl _ _ _) (.bl _)⟩
  · exact hf.elim
/-- lists of texts -/
def strsOf : List D → Option (List Str)
  | [] => some []
  | .str b :: r => (strsOf r).map (b :: ·)
  | _ => none
theorem strsOf_eq : ∀ {ds : List D} {bs : List Str}, strsOf ds = some bs → ds = bs.map D.str
  | [], bs, h => by cases h; rfl
  | .str b :: r, bs, h => by
    rw [strsOf] at h
    cases q : strsOf r with
    | none => rw [q] at h; cases h
    | some cs => rw [q] at h; cases h; rw [strsOf_eq q]; rfl
  | .non :: _, _, h => by cases h
  | .bl _ :: _, _, h => by cases h
  | .int _ :: _, _, h => by cases h
  | .ref _ :: _, _, h => by cases h
  | .ty _ :: _, _, h => by cases h
  | .tup _ :: _, _, h => by cases h
  | .lst _ :: _, _, h => by cases h
  | .frz _ :: _, _, h => by cases h
  | .dic _ _ :: _, _, h => by cases h
theorem strsOf_map : ∀ bs : List Str, strsOf (bs.map D.str) = some bs
  | [] => rfl
  | b :: r => by rw [List.map_cons, strsOf, strsOf_map r]; rfl
def dSorted : List D → T D
  | [.lst xs] => dOpt (strsOf xs) fun ss => T.bind (dNeed (ss.length < 64)) fun _ => T.pure (.lst ((ssort ss).map D.str))
  | _ => T.fail
theorem s_sorted : CallS K (RN K) (rSortedS K) dSorted := by
  intro vs ds H H0 S Qd Ed Q st rs hf hq
  unfold dSorted at hf
  split at hf
  · obtain ⟨v, rfl, rv⟩ := rs.one
    obtain ⟨a, xs, rfl, h1, _, r⟩ := rv.lst st
    obtain ⟨ss, hb, hf⟩ := dOpt_inv hf
    rw [strsOf_eq hb] at r
    obtain ⟨hz, hf⟩ := hf
    refine ⟨a, ss, rfl, by rw [← r.strs]; exact .of h1, hz, fun ys q hp hs hn => ?_⟩
    obtain rfl := ssort_of hp hs
    obtain ⟨st2, gr2, n0, nS⟩ := alloc_n st hn (.lst ((ssort ss).map V.str))
    exact hq _ S hf _ _ _ st2 gr2 (.inl ⟨q, _, _, rfl, rfl, hn, upd_same, n0, nS, Rps.ofStrs _⟩)
  · exact hf.elim
def dMin2 : List D → T D
  | [.int i, .int j] => T.pure (.int (if j < i then j else i))
  | _ => T.fail
theorem s_min2 : CallS K (RF K) (fun xs H Q => ∃ i j, xs = [.int i, .int j] ∧ Q (.int (if j < i then j else i)) H) dMin2 := by
  intro vs ds H H0 S Qd Ed Q st rs hf hq
  unfold dMin2 at hf
  split at hf
  · obtain ⟨v, w, rfl, rv, rw'⟩ := rs.two
    cases rv.int; cases rw'.int
    exact ⟨_, _, rfl, hq _ S hf _ H H0 st (Grow.refl _ _ _) (.int _)⟩
  · exact hf.elim
def dAbs : List D → T D
  | [.int i] => T.pure (.int (if i < 0 then -i else i))
  | _ => T.fail
theorem s_abs : CallS K (RF K) (fun xs H Q => ∃ i, xs = [.int i] ∧ Q (.int (if i < 0 then -i else i)) H) dAbs := by
  intro vs ds H H0 S Qd Ed Q st rs hf hq
  unfold dAbs at hf
  split at hf
  · obtain ⟨v, rfl, rv⟩ := rs.one
    cases rv.int
    exact ⟨_, rfl, hq _ S hf _ H H0 st (Grow.refl _ _ _) (.int _)⟩
  · exact hf.elim
def dInt1 : List D → T D
  | [.int i] => T.pure (.int i)
  | [.str x] => dOpt (PySem.intText? x) fun n => T.bind (dNeed (x.length ≤ 640)) fun _ => T.pure (.int n)
  | _ => T.fail
theorem s_int1 : CallS K (RF K) (fun xs H Q => ((∃ i, xs = [.int i] ∧ Q (.int i) H) ∨ ∃ k, xs = [.bl k] ∧ Q (.int (if k then 1 else 0)) H) ∨ ∃ a n, xs = [.str a] ∧ PySem.intText? a = some n ∧ a.length ≤ 640 ∧ Q (.int n) H) dInt1 := by
  intro vs ds H H0 S Qd Ed Q st rs hf hq
  unfold dInt1 at hf
  split at hf
  · obtain ⟨v, rfl, rv⟩ := rs.one
    cases rv.int
    exact .inl (.inl ⟨_, rfl, hq _ S hf _ H H0 st (Grow.refl _ _ _) (.int _)⟩)
  · obtain ⟨v, rfl, rv⟩ := rs.one
    cases rv.str
    obtain ⟨n, hn, hf⟩ := dOpt_inv hf
    obtain ⟨hz, hf⟩ := hf
    exact .inr ⟨_, n, rfl, hn, hz, hq _ S hf _ H H0 st (Grow.refl _ _ _) (.int _)⟩
  · exact hf.elim
def dStrI : List D → T D
  | [.int i] => T.bind (dNeed (i.natAbs.log2 < 1920)) fun _ => T.pure (.str (toString i))
  | _ => T.fail
theorem s_strI : CallS K (RF K) (fun xs H Q => ∃ i, xs = [.int i] ∧ i.natAbs.log2 < 1920 ∧ Q (.str (toString i)) H) dStrI := by
  intro vs ds H H0 S Qd Ed Q st rs hf hq
  unfold dStrI at hf
  split at hf
  · obtain ⟨v, rfl, rv⟩ := rs.one
    cases rv.int
    obtain ⟨hz, hf⟩ := hf
    exact ⟨_, rfl, hz, hq _ S hf _ H H0 st (Grow.refl _ _ _) (.str _)⟩
  · exact hf.elim
def dTuple : List D → T D
  | [.lst xs] => T.pure (.tup xs)
  | [.tup xs] => T.pure (.tup xs)
  | _ => T.fail
theorem s_tuple : CallS K (RF K) (fun xs H Q => ∃ p ys, xs = [.ref p] ∧ ((SqL K H p ys ∧ ∀ l, H l = none → Q (.ref l) (upd H l (.tup ys))) ∨ (SqT K H p ys ∧ Q (.ref p) H))) dTuple := by
  intro vs ds H H0 S Qd Ed Q st rs hf hq
  unfold dTuple at hf
  split at hf
  · obtain ⟨v, rfl, rv⟩ := rs.one
    obtain ⟨a, xs, rfl, h1, _, r⟩ := rv.lst st
    refine ⟨a, xs, rfl, .inl ⟨.of h1, fun l hl => ?_⟩⟩
    obtain ⟨st2, gr2⟩ := alloc_f st hl (.tup xs)
    exact hq _ S hf _ _ _ st2 gr2 (.tup (.of upd_same) (r.sub gr2.sub))
  · obtain ⟨v, rfl, rv⟩ := rs.one
    obtain ⟨a, xs, rfl, h1, r⟩ := rv.tup
    exact ⟨a, xs, rfl, .inr ⟨sqT_sub st.sub h1, hq _ S hf _ H H0 st (Grow.refl _ _ _) (.tup h1 r)⟩⟩
  · exact hf.elim
/-- isinstance -/
def tyN : D → Option String
  | .non => some "NoneType"
  | .bl _ => some "bool"
  | .int _ => some "int"
  | .str _ => some "str"
  | .tup _ => some "tuple"
  | .lst _ => some "list"
  | _ => none
def dIsi : List D → T D
  | [d, .ty n] => dOpt (tyN d) fun t => dOpt (kitB t n) fun b => T.pure (.bl b)
  | _ => T.fail
theorem RB.tyX {Ha H H0 : Hp} {S : Sto} (st : StR K H H0 S) {v : V} {d : D} {t : String} (h : RB K Ha H H0 S v d) (ht : tyN d = some t) : TyX K H v (.type t) := by
  cases d with
  | non => cases h.non; cases ht; exact .base .non
  | bl b => cases h.bl; cases ht; exact .base (.bl b)
  | int b => cases h.int; cases ht; exact .base (.int b)
  | str b => cases h.str; cases ht; exact .base (.str b)
  | tup xs =>
    obtain ⟨a, ys, rfl, h1, r⟩ := h.tup
    cases ht
    rcases h1 with (h1 | ⟨o, h1⟩) | ⟨o, its, n, h1, h2, _⟩
    · exact .base (.tup (st.sub _ _ h1))
    · exact .fTuple (st.sub _ _ h1)
    · exact .kTuple h1 h2
  | lst xs =>
    obtain ⟨a, ys, rfl, h1, _, r⟩ := h.lst st
    cases ht
    exact .base (.lst h1)
  | _ => cases ht
theorem s_isi : CallS K (RF K) (rIsi K) dIsi := by
  intro vs ds H H0 S Qd Ed Q st rs hf hq
  unfold dIsi at hf
  split at hf
  · rename_i d n
    obtain ⟨v, w, rfl, rv, rw'⟩ := rs.two
    cases rw'.ty
    obtain ⟨t, ht, hf⟩ := dOpt_inv hf
    obtain ⟨b, hb, hf⟩ := dOpt_inv hf
    exact ⟨v, _, .type t, .type n, b, rfl, .ty n, rv.tyX st ht, kit_ty hb, hq _ S hf _ H H0 st (Grow.refl _ _ _) (.bl _)⟩
  · exact hf.elim
end

/-! ### sets of texts -/
abbrev TSO (w : World) (a : Addr) (M : Str → Prop) (n : Nat) : HO := .ext fun h => TSet w h a M n
def rSetTx (K : PySem.W.Frag) (w : World) : List V → Hp → VK → Prop := fun xs H Q => ∃ (p : Addr) (ys : List Str), xs = [.ref p] ∧ (SqL K H p (ys.map V.str) ∨ SqT K H p (ys.map V.str)) ∧ ys.length + 1 < scanBound ∧
  ∀ a n, H a = none → Q (.ref a) (upd H a (TSO w a (fun y => y ∈ ys) n))
theorem sh_same (s s' : Shared) (h : s'.os = s.os) : ({ s with heap := s'.heap, gens := s'.gens, drawn := s'.drawn, toks := s'.toks } : Shared) = s' := by
  cases s; cases s'; cases h; rfl
theorem tso_new {w : World} {P : Program} {H : Hp} {h : Heap} {a : Addr} {M : Str → Prop} {n : Nat} (R : TSet w h a M n) : ObjOk P w H h a (TSO w a M n) := by
  obtain ⟨o, es, ep, t, R'⟩ := id R
  exact ⟨R, ⟨o, R'.at_⟩, fun h1 h2 q k => q.at' k⟩
theorem cr_setTx {X : Cx} (hc : X.calm = true) : CallR X (.type "set") (rSetTx X.K X.w) := by
  intro pins s σ H xs us Q I r h
  obtain ⟨p, ys, rfl, hs, hz, q⟩ := h
  rw [Vals.ref1 r]
  have fin : ∀ (h' : Heap) (tk c : Nat), TSet X.w h' s.heap.objs.size (fun y => y ∈ ys) c → c ≤ ys.length → (∀ b o, s.heap.get? b = some o → h'.get? b = some o) → EP X pins σ Q (.ref s.heap.objs.size) { s with heap := h', toks := tk } := fun h' tk c R _ k =>
    ⟨.ref _, _, I.laid (t' := tk) k (Nat.le_refl _) (tso_new R), rfl, q _ c (I.hok.fresh (Nat.le_refl _))⟩
  refine call_set1 (xs := ys) fin ?_
  rcases hs with hs | hs
  · obtain ⟨its, rv, pl, _⟩ := I.list hs
    exact init_list (I.ok.hd hc) pl.isList (by simpa using rv.strs) hz
  · obtain ⟨its, rv, pl, _⟩ := I.tuple hs
    exact init_tuple (I.ok.hd hc) (show s.heap.IsTuple p its.toArray from pl) (by simpa using rv.strs) hz
def rSortedTx (w : World) : List V → Hp → VK → Prop := fun vs H Q => ∃ (a : Addr) (ys : List Str) (n : Nat), vs = [.ref a] ∧ H a = some (TSO w a (fun y => y ∈ ys) n) ∧ (sset ys).length < 64 ∧
  ∀ q, H q = none → Q (.ref q) (upd H q (.lst ((sset ys).map V.str)))
theorem cr_sortedTx {X : Cx} (hc : X.calm = true) : CallR X (.builtin "sorted") (rSortedTx X.w) := by
  intro pins s σ H xs us Q I r h
  obtain ⟨a, ys, n, rfl, ha, hz, q⟩ := h
  rw [Vals.ref1 r]
  have R : TSet X.w s.heap a (fun y => y ∈ ys) n := (I.hok a _ ha).1
  have hn : n = (sset ys).length := by
    obtain ⟨o, es, ep, t, R'⟩ := id R
    have p := nodup_perm R'.nd (sset_nodup ys) fun x => (R'.mem x).symm.trans (sset_mem x ys).symm
    rw [← p.length_eq, List.length_map, Array.length_toList, R'.num]
  refine sorted_tset R (I.ok.hd hc) (by rw [hn]; exact hz) fun s' p out c zs k g o hp ho hS hs nd hm => ?_
  obtain rfl := sset_of hs nd hm
  have nH : H p = none := I.hok.fresh hp
  have hlen : ((sset ys).map V.str).length ≤ sizeLine := by rw [List.length_map]; exact small64 hz
  have J : Inv X pins σ (upd H p (.lst ((sset ys).map V.str))) { s with heap := s'.heap, gens := s'.gens, drawn := s'.drawn, toks := s'.toks } :=
    I.call (ch := []) (Un.laid k hp nH) (I.hok.laid k hp ⟨hlen, out.toList, c, vals_of_strs hS, ho⟩) (by rw [g]; exact I.bare) (fun _ z => nomatch z)
  rw [sh_same s s' o] at J
  exact ⟨.ref p, _, J, rfl, q p nH⟩
def strsIn : D → Option (List Str)
  | .lst xs => strsOf xs
  | .tup xs => strsOf xs
  | _ => none
theorem RB.strsIn {K : PySem.W.Frag} {Ha H H0 : Hp} {S : Sto} (st : StR K H H0 S) {v : V} {d : D} {ss : List Str} (h : RB K Ha H H0 S v d) (hd : strsIn d = some ss) : ∃ p, v = .ref p ∧ (SqL K H p (ss.map V.str) ∨ SqT K H p (ss.map V.str)) := by
  cases d with
  | lst xs =>
    obtain ⟨a, ys, rfl, h1, _, r⟩ := h.lst st
    rw [strsOf_eq (show strsOf xs = some ss from hd)] at r
    exact ⟨a, rfl, .inl (by rw [← r.strs]; exact .of h1)⟩
  | tup xs =>
    obtain ⟨a, ys, rfl, h1, r⟩ := h.tup
    rw [strsOf_eq (show strsOf xs = some ss from hd)] at r
    exact ⟨a, rfl, .inr (by rw [← r.strs]; exact sqT_sub st.sub h1)⟩
  | _ => cases hd
/-- sorted(set(e)), texts -/
def dSset (d : D) : T D := dOpt (strsIn d) fun ss => T.bind (dNeed (ss.length + 1 < scanBound ∧ (sset ss).length < 64)) fun _ => T.pure (.lst ((sset ss).map D.str))
theorem x_sset {X : Cx} {E : XK} {e : Expr} {m : ME} {p p2 pos pos2 : Pos} (hc : X.calm = true) (hm1 : X.mg "sorted" = none) (hm2 : X.mg "set" = none) (ha : XB X E e m) (hg1 : Gl X "sorted" := by rfl) (hg2 : Gl X "set" := by rfl)
    (hs : starEach [e] X.env = (false, eval e X.env) :: starEach [] X.env := by rfl)
    (hs2 : starEach [Expr.Call (.Name "set" p2) [e] [] pos2] X.env = (false, eval (Expr.Call (.Name "set" p2) [e] [] pos2) X.env) :: starEach [] X.env := by rfl) :
    XN X E (.Call (.Name "sorted" p) [.Call (.Name "set" p2) [e] [] pos2] [] pos) (fun g => T.bind (m g) dSset) := by
  refine pe_w (pe_callB (cr_sortedTx hc) hg1 hm1 (by decide +kernel) (pa_cons (pe_callTy (cr_setTx hc) hg2 hm2 (by decide +kernel) (pa_cons ha pa_nil hs) (by decide) (by decide) hs rfl) pa_nil hs2) (by decide) (by decide) hs2 rfl) fun σ H Q ⟨g, S, H0, Qd, Ed, rel, hm, hq, he⟩ => ?_
  refine ⟨g, S, H0, _, Ed, rel, hm, fun d S1 hf v H1 H01 st1 gr1 r1 => ?_, he⟩
  obtain ⟨ss, hd, hf⟩ := dOpt_inv (show dOpt (strsIn d) _ S1 Qd Ed from hf)
  · skip
    obtain ⟨⟨z1, z2⟩, hf⟩ := hf
    obtain ⟨q, rfl, hp⟩ := r1.strsIn st1 hd
    refine ⟨q, ss, rfl, hp, z1, fun a n ha => ⟨a, ss, n, rfl, upd_same, z2, fun b hb => ?_⟩⟩
    obtain ⟨st2, gr2, n0, nS⟩ := alloc_n st1 ha (TSO X.w a (fun y => y ∈ ss) n)
    obtain ⟨st3, gr3, n03, nS3⟩ := alloc_n st2 hb (.lst ((sset ss).map V.str))
    have g13 := (gr1.trans st1 gr2).trans st2 gr3
    have nH : H b = none := by
      cases z : H b with
      | none => rfl
      | some o => exact absurd hb ((gr1.trans st1 gr2).there st2 (by rw [z]; exact fun z => nomatch z))
    exact hq _ S1 hf _ _ _ st3 g13 (.inl ⟨b, _, _, rfl, rfl, nH, upd_same, n03, nS3, Rps.ofStrs _⟩)
end DL

set_option Elab.async false
set_option linter.all false
set_option maxRecDepth 100000
set_option maxHeartbeats 4000000
namespace DL
open PySem PySem.Spec PyProof.Rows L2 STx OrdS

/-! ### slots stored, wiped -/
theorem Rel.set {K : PySem.W.Frag} {σ : L2.St} {H H0 : Hp} {S : Sto} {g : Sg} (r : Rel K σ H H0 S g) {v : V} {d : D} (h : Rp K H0 v d) (i : Nat) : Rel K (σ.set i (some v)) H H0 S (g.set i (.va d)) where
  st := r.st
  len := by rw [List.length_set, List.length_set, r.len]
  sl := fun j s e => by
    by_cases hj : i = j
    · subst hj
      by_cases hi : i < g.length
      · rw [List.getElem?_set_self hi] at e
        cases e
        exact ⟨v, by rw [List.getElem?_set_self (by rw [r.len]; exact hi)], h⟩
      · rw [List.getElem?_eq_none (by rw [List.length_set]; omega)] at e; cases e
    · rw [List.getElem?_set_ne hj] at e ⊢
      exact r.sl j s e
  di := fun a b sa sb p hab ha hb oa ob h1 h2 => by
    have na : i ≠ a := fun z => by
      subst z
      by_cases hi : i < g.length
      · rw [List.getElem?_set_self hi] at ha; cases ha; cases oa
      · rw [List.getElem?_eq_none (by rw [List.length_set]; omega)] at ha; cases ha
    have nb : i ≠ b := fun z => by
      subst z
      by_cases hi : i < g.length
      · rw [List.getElem?_set_self hi] at hb; cases hb; cases ob
      · rw [List.getElem?_eq_none (by rw [List.length_set]; omega)] at hb; cases hb
    rw [List.getElem?_set_ne na] at ha h1
    rw [List.getElem?_set_ne nb] at hb h2
    exact r.di a b sa sb p hab ha hb oa ob h1 h2
/-- a slot forgotten -/
theorem Rel.un {K : PySem.W.Frag} {σ : L2.St} {H H0 : Hp} {S : Sto} {g : Sg} (r : Rel K σ H H0 S g) (o : Option V) (i : Nat) : Rel K (σ.set i o) H H0 S (g.set i .un) where
  st := r.st
  len := by rw [List.length_set, List.length_set, r.len]
  sl := fun j s e => by
    by_cases hj : i = j
    · subst hj
      by_cases hi : i < g.length
      · rw [List.getElem?_set_self hi] at e; cases e; exact True.intro
      · rw [List.getElem?_eq_none (by rw [List.length_set]; omega)] at e; cases e
    · rw [List.getElem?_set_ne hj] at e ⊢
      exact r.sl j s e
  di := fun a b sa sb p hab ha hb oa ob h1 h2 => by
    have na : i ≠ a := fun z => by
      subst z
      by_cases hi : i < g.length
      · rw [List.getElem?_set_self hi] at ha; cases ha; cases oa
      · rw [List.getElem?_eq_none (by rw [List.length_set]; omega)] at ha; cases ha
    have nb : i ≠ b := fun z => by
      subst z
      by_cases hi : i < g.length
      · rw [List.getElem?_set_self hi] at hb; cases hb; cases ob
      · rw [List.getElem?_eq_none (by rw [List.length_set]; omega)] at hb; cases hb
    rw [List.getElem?_set_ne na] at ha h1
    rw [List.getElem?_set_ne nb] at hb h2
    exact r.di a b sa sb p hab ha hb oa ob h1 h2
def wipeG (g : Sg) : List Nat → Sg
  | [] => g
  | v :: vs => (wipeG g vs).set v .un
theorem Rel.wipe {K : PySem.W.Frag} {σ : L2.St} {H H0 : Hp} {S : Sto} {g : Sg} (r : Rel K σ H H0 S g) : ∀ vs : List Nat, Rel K (L2.wipe σ vs) H H0 S (wipeG g vs)
  | [] => r
  | v :: vs => (r.wipe vs).un none v
theorem wipe_get {σ : L2.St} (j : Nat) : ∀ vs : List Nat, (L2.wipe σ vs)[j]? = if j ∈ vs then (σ[j]?).map fun _ => none else σ[j]?
  | [] => by simp [L2.wipe]
  | v :: vs => by
    unfold L2.wipe
    by_cases hv : v = j
    · subst hv
      rw [if_pos List.mem_cons_self]
      by_cases hl : v < σ.length
      · rw [List.getElem?_set_self (by rw [wipe_length]; exact hl), List.getElem?_eq_getElem hl] <;> rfl
      · rw [List.getElem?_eq_none (by rw [List.length_set, wipe_length]; omega), List.getElem?_eq_none (by omega)] <;> rfl
    · rw [List.getElem?_set_ne hv, wipe_get j vs]
      have e : (j ∈ v :: vs) ↔ j ∈ vs := by simp [Ne.symm hv]
      by_cases hj : j ∈ vs
      · rw [if_pos hj, if_pos (e.mpr hj)]
      · rw [if_neg hj, if_neg (fun z => hj (e.mp z))]
theorem wipe_same {σ σ' : L2.St} {vs is : List Nat} (hi : ∀ i ∈ is, i ∈ vs) (hl : σ'.length = σ.length) (h : ∀ j, j ∉ is → σ'[j]? = σ[j]?) : L2.wipe σ' vs = L2.wipe σ vs := by
  refine List.ext_getElem? fun j => ?_
  rw [wipe_get, wipe_get]
  by_cases hj : j ∈ vs
  · rw [if_pos hj, if_pos hj]
    by_cases hlt : j < σ.length
    · rw [List.getElem?_eq_getElem hlt, List.getElem?_eq_getElem (by rw [hl]; exact hlt)] <;> rfl
    · rw [List.getElem?_eq_none (by omega), List.getElem?_eq_none (by omega)]
  · rw [if_neg hj, if_neg hj]
    exact h j fun z => hj (hi j z)
theorem wipe_wipe {σ : L2.St} {vs : List Nat} : L2.wipe (L2.wipe σ vs) vs = L2.wipe σ vs := by
  refine List.ext_getElem? fun j => ?_
  rw [wipe_get, wipe_get]
  by_cases hj : j ∈ vs
  · rw [if_pos hj, if_pos hj]; cases σ[j]? <;> rfl
  · rw [if_neg hj, if_neg hj]

/-! ### subscripts, slices -/
def dIx : D → D → T D
  | .tup xs, .int i => dOpt (atI xs i) fun d => T.pure d
  | .lst xs, .int i => dOpt (atI xs i) fun d => T.pure d
  | .frz xs, .int i => dOpt (atI xs i) fun d => T.pure d
  | .str x, .int i => T.bind (dNeed (x.length ≤ sizeLine)) fun _ => dOpt (atI x.cps.toList i) fun c => T.pure (.str ⟨#[c]⟩)
  | .ref a, .int i => dIxR a i
  | _, _ => T.fail
theorem Rps.atI {K : PySem.W.Frag} {H0 : Hp} {xs : List V} {ds : List D} (r : Rps K H0 xs ds) {i : Int} {d : D} (h : L2.atI ds i = some d) : ∃ v, L2.atI xs i = some v ∧ Rp K H0 v d := by
  unfold L2.atI at h ⊢
  rw [r.length]
  cases q : ixN ds.length i with
  | none => rw [q] at h; cases h
  | some j => rw [q] at h; exact r.get h
section
variable {K : PySem.W.Frag}
theorem s_ix : OpS K (RF K) (rIx K) dIx := by
  intro v w a b H H0 S Qd Ed Q st ra rb hf hq
  unfold dIx at hf
  split at hf
  · obtain ⟨d, hd, hf⟩ := dOpt_inv hf
    obtain ⟨p, xs, rfl, h1, r⟩ := ra.tup
    cases rb.int
    obtain ⟨u, hu, ru⟩ := r.atI hd
    exact .inr (.inl ⟨p, xs, _, u, rfl, rfl, sqT_sub st.sub h1, hu, hq _ S hf _ H H0 st (Grow.refl _ _ _) ru⟩)
  · obtain ⟨d, hd, hf⟩ := dOpt_inv hf
    obtain ⟨p, xs, rfl, h1, _, r⟩ := ra.lst st
    cases rb.int
    obtain ⟨u, hu, ru⟩ := r.atI hd
    exact .inl ⟨p, xs, _, u, rfl, rfl, .of h1, hu, hq _ S hf _ H H0 st (Grow.refl _ _ _) ru⟩
  · obtain ⟨d, hd, hf⟩ := dOpt_inv hf
    obtain ⟨p, xs, rfl, h1, r⟩ := ra.frz st
    cases rb.int
    obtain ⟨u, hu, ru⟩ := r.atI hd
    exact .inl ⟨p, xs, _, u, rfl, rfl, h1, hu, hq _ S hf _ H H0 st (Grow.refl _ _ _) ru⟩
  · cases ra.str; cases rb.int
    obtain ⟨hz, hf⟩ := hf
    obtain ⟨c, hc, hf⟩ := dOpt_inv hf
    exact .inr (.inr ⟨_, _, c, rfl, rfl, hz, hc, hq _ S hf _ H H0 st (Grow.refl _ _ _) (.str _)⟩)
  · rename_i a i
    cases ra.ref; cases rb.int
    unfold dIxR at hf
    cases e : S a with
    | none => rw [e] at hf; exact hf.elim
    | some mo =>
      rw [e] at hf
      have rm := st.sto a mo e
      cases mo with
      | src =>
        obtain ⟨c, s, h1, c0, c1, s0, s1⟩ := rm
        rcases hf with ⟨rfl, hf⟩ | ⟨rfl, hf⟩
        · exact .inl ⟨a, _, 0, .int c, rfl, rfl, .of h1, rfl, hq _ S (hf c c0 c1) _ H H0 st (Grow.refl _ _ _) (.int _)⟩
        · exact .inl ⟨a, _, 1, .int s, rfl, rfl, .of h1, rfl, hq _ S (hf s s0 s1) _ H H0 st (Grow.refl _ _ _) (.int _)⟩
      | lst ds =>
        obtain ⟨xs, h1, r⟩ := rm
        obtain ⟨d, hd, hf⟩ := dOpt_inv hf
        obtain ⟨u, hu, ru⟩ := r.atI hd
        exact .inl ⟨a, xs, _, u, rfl, rfl, .of h1, hu, hq _ S hf _ H H0 st (Grow.refl _ _ _) ru⟩
      | _ => exact hf.elim
  · exact hf.elim
end
def cutD {α : Type} (xs : List α) (lo hi : Option Int) : List α := (xs.drop (HT.sIx xs.length 0 lo)).take (HT.sIx xs.length xs.length hi - HT.sIx xs.length 0 lo)
theorem Rps.cut {K : PySem.W.Frag} {H0 : Hp} {xs : List V} {ds : List D} (r : Rps K H0 xs ds) (lo hi : Option Int) : Rps K H0 (cutV xs lo hi) (cutD ds lo hi) := by
  unfold cutV cutD
  rw [r.length]
  exact (r.drop _).take _
abbrev MO' := Sg → T (Option Int)
def lo (K : PySem.W.Frag) (E : XK) (m : MO') : TO := fun σ H Q => ∃ g S H0 Qd Ed, Rel K σ H H0 S g ∧ m g S Qd Ed ∧
  (∀ o S', Qd o S' → ∀ H' H0', StR K H' H0' S' → Grow H H0 S H' H0' S' → Q o H') ∧ ∀ x S', Ed x S' → EX K E H H0 S x S'
abbrev XO (X : Cx) (E : XK) (e : Option Expr) (m : MO') : Prop := PO X e (lo X.K E m)
theorem po_w {X : Cx} {e : Option Expr} {t t' : TO} (h : PO X e t) (w : ∀ σ H Q, t' σ H Q → t σ H Q) : PO X e t' := ⟨fun pins s σ H Q I q => h.run pins s σ H Q I (w σ H Q q)⟩
def dAsI : D → T Int
  | .int i => T.pure i
  | _ => T.fail
theorem dAsI_inv {d : D} {S : Sto} {Qd : Int → Sto → Prop} {Ed : Xn → Sto → Prop} (h : dAsI d S Qd Ed) : ∃ b, d = .int b ∧ Qd b S := by
  cases d with
  | int b => exact ⟨b, rfl, h⟩
  | _ => exact h.elim
def dSl (d : D) (l u : Option Int) : T D := match d with
  | .str x => T.bind (dNeed (x.length ≤ sizeLine)) fun _ => T.pure (.str (cutS x l u))
  | .tup xs => T.pure (.tup (cutD xs l u))
  | .lst xs => T.pure (.lst (cutD xs l u))
  | _ => T.fail
section
variable {X : Cx} {E : XK} {e a b : Expr} {l u : Option Expr} {pos p2 : Pos} {m ma mb : ME} {ml mu : MO'}
theorem o_non : XO X E none (fun _ => T.pure none) := po_w po_none fun σ H Q ⟨g, S, H0, Qd, Ed, rel, hm, hq, he⟩ => hq none S hm H H0 rel.st (Grow.refl _ _ _)
theorem o_som (h : XB X E e m) : XO X E (some e) (fun g => T.bind (m g) fun d => T.bind (dAsI d) fun i => T.pure (some i)) := by
  refine po_w (po_some h) fun σ H Q ⟨g, S, H0, Qd, Ed, rel, hm, hq, he⟩ => ?_
  refine ⟨g, S, H0, _, Ed, rel, hm, fun d S1 hf v H1 H01 st1 gr1 r1 => ?_, he⟩
  obtain ⟨i, rfl, hf⟩ := dAsI_inv hf
  cases r1.int
  exact ⟨i, rfl, hq _ S1 hf H1 H01 st1 gr1⟩
theorem x_ix (ha : XB X E a ma) (hb : XB X E b mb) (hs : PlainIx b := by intro _ _; rfl) : XE X E (.Subscript a b pos) (mb2 dIx ma mb) := pe_w (pe_ix ix_seq ha hb hs) fun _ _ _ h => opS_lf back_F s_ix h
theorem x_slice (ha : XB X E e m) (hl : XO X E l ml) (hu : XO X E u mu) : XE X E (.Subscript e (.Slice l u none p2) pos) (fun g => T.bind (m g) fun d => T.bind (ml g) fun i => T.bind (mu g) fun j => dSl d i j) := by
  refine pe_w (pe_slice (sl_str.or (sl_tupA.or sl_list)) ha hl hu) fun σ H Q ⟨g, S, H0, Qd, Ed, rel, hm, hq, he⟩ => ?_
  refine ⟨g, S, H0, _, Ed, rel, hm, fun d S1 hf v H1 H01 st1 gr1 r1 => ?_, he⟩
  refine ⟨g, S1, H01, _, Ed, rel.grow st1 gr1, hf, fun i S2 hf2 H2 H02 st2 gr2 => ?_, fun x S' ex => (he x S' ex).grow st1 gr1⟩
  have g12 := gr1.trans st1 gr2
  refine ⟨g, S2, H02, _, Ed, rel.grow st2 g12, hf2, fun j S3 hf3 H3 H03 st3 gr3 => ?_, fun x S' ex => (he x S' ex).grow st2 g12⟩
  have g13 := g12.trans st2 gr3
  have r3 := RB.grow (Hb := H3) (gr2.trans st2 gr3) r1
  unfold dSl at hf3
  split at hf3
  · cases r3.str
    obtain ⟨hz, hf3⟩ := hf3
    exact .inl ⟨_, rfl, hz, hq _ S3 hf3 _ H3 H03 st3 g13 (.str _)⟩
  · obtain ⟨p, xs, rfl, h1, r⟩ := r3.tup
    refine .inr (.inl ⟨p, xs, rfl, sqT_sub st3.sub h1, fun hw => ?_, fun hw q hn => ?_⟩)
    · have e1 : cutV xs i j = xs := by
        unfold cutV
        rw [hw.1, hw.2, List.drop_zero, Nat.sub_zero, List.take_length]
      have r' := r.cut i j
      rw [e1] at r'
      exact hq _ S3 hf3 _ H3 H03 st3 g13 (.tup h1 r')
    · obtain ⟨st4, gr4⟩ := alloc_f st3 hn (.tup (cutV xs i j))
      exact hq _ S3 hf3 _ _ _ st4 (g13.trans st3 gr4) (.tup (.of upd_same) ((r.cut i j).sub gr4.sub))
  · obtain ⟨p, xs, rfl, h1, _, r⟩ := r3.lst st3
    refine .inr (.inr ⟨p, xs, rfl, .of h1, fun q hn => ?_⟩)
    obtain ⟨st4, gr4⟩ := alloc_f st3 hn (.lst (cutV xs i j))
    exact hq _ S3 hf3 _ _ _ st4 (g13.trans st3 gr4) (.lst upd_same ((r.cut i j).sub gr4.sub))
  · exact hf3.elim
/-! ### join, index -/
def dAsS : D → T Str
  | .str i => T.pure i
  | _ => T.fail
theorem dAsS_inv {d : D} {S : Sto} {Qd : Str → Sto → Prop} {Ed : Xn → Sto → Prop} (h : dAsS d S Qd Ed) : ∃ b, d = .str b ∧ Qd b S := by
  cases d with
  | str b => exact ⟨b, rfl, h⟩
  | _ => exact h.elim
def dJoin (a : Str) (d : D) : T D := dOpt (strsIn d) fun ys => T.bind (dNeed ((ys.map (·.length)).sum + ys.length * a.length ≤ 16777216)) fun _ => T.pure (.str (Str.join a ys))
theorem x_join {apos : Pos} (ho : XB X E a ma) (he : XB X E b mb) (hs : starEach [b] X.env = [(false, eval b X.env)] := by rfl) (hbase : attributeBase a "join" X.env (eval a X.env) = eval a X.env := by rfl) (hline : (apos.endLine == pos.line) = true := by rfl) :
    XE X E (.Call (.Attribute a "join" apos) [b] [] pos) (fun g => T.bind (ma g) fun x => T.bind (dAsS x) fun s => T.bind (mb g) fun y => dJoin s y) := by
  refine pe_w (pe_join ho he hs hbase hline) fun σ H Q ⟨g, S, H0, Qd, Ed, rel, hm, hq, he⟩ => ?_
  refine ⟨g, S, H0, _, Ed, rel, hm, fun d S1 hf v H1 H01 st1 gr1 r1 => ?_, he⟩
  obtain ⟨s, rfl, hf⟩ := dAsS_inv hf
  cases r1.str
  refine ⟨⟨_, rfl⟩, g, S1, H01, _, Ed, rel.grow st1 gr1, hf, fun d2 S2 hf2 w H2 H02 st2 gr2 r2 => ?_, fun x S' ex => (he x S' ex).grow st1 gr1⟩
  obtain ⟨ys, hy, hf2⟩ := dOpt_inv hf2
  obtain ⟨hz, hf2⟩ := hf2
  obtain ⟨p, rfl, hp⟩ := r2.strsIn st2 hy
  refine ⟨s, p, ys, rfl, rfl, hp, hz, ?_⟩
  rw [TL.join_eq]
  exact hq _ S2 hf2 _ H2 H02 st2 (gr1.trans st1 gr2) (.str _)
end

/-! ### what is walked -/
def Wlk (K : PySem.W.Frag) (J : It) (H0' : Hp) (ds : List D) : Prop := ∀ H'' H0'' S'', StR K H'' H0'' S'' → Sub H0' H0'' → ∀ i : Nat,
  (∀ d, ds[i]? = some d → J.go i H'' ∧ ∀ x H3, J.yld i H'' x H3 → ∃ H03, StR K H3 H03 S'' ∧ Grow H'' H0'' S'' H3 H03 S'' ∧ Rp K H03 x d) ∧ (i = ds.length → J.stop i H'')
abbrev MI := Sg → T (List D)
def li (K : PySem.W.Frag) (E : XK) (m : MI) : TI := fun σ H R => ∃ g S H0 Qd Ed, Rel K σ H H0 S g ∧ m g S Qd Ed ∧
  (∀ ds S', Qd ds S' → ∀ J H' H0', StR K H' H0' S' → Grow H H0 S H' H0' S' → Wlk K J H0' ds → R J H') ∧ ∀ x S', Ed x S' → EX K E H H0 S x S'
abbrev XI (X : Cx) (E : XK) (tg e : Expr) (m : MI) : Prop := PI X tg e (li X.K E m)
theorem pi_w {X : Cx} {tg e : Expr} {t t' : TI} (h : PI X tg e t) (w : ∀ σ H Q, t' σ H Q → t σ H Q) : PI X tg e t' := ⟨fun pins s σ H Q I q => h.run pins s σ H Q I (w σ H Q q)⟩
def dItL : D → T (List D)
  | .lst xs => T.pure xs
  | _ => T.fail
def dItT : D → T (List D)
  | .tup xs => T.pure xs
  | _ => T.fail
def chars (x : Str) : List D := x.cps.toList.map fun c => D.str ⟨#[c]⟩
def dItS : D → T (List D)
  | .str x => T.pure (chars x)
  | _ => T.fail
theorem wlk_list {K : PySem.W.Frag} {H0 : Hp} {a : Addr} {xs : List V} {ds : List D} (h : H0 a = some (.lst xs)) (r : Rps K H0 xs ds) : Wlk K (Itl K a) H0 ds := by
  intro H2 H02 S2 st2 gr2 i
  have h2 := st2.sub _ _ (gr2 a _ h)
  refine ⟨fun d hd => ?_, fun hi => ⟨xs, .of h2, by rw [r.length, hi]; exact Nat.le_refl _⟩⟩
  obtain ⟨v, hv, rv⟩ := r.get hd
  refine ⟨⟨xs, v, .of h2, hv⟩, fun x H3 hy => ?_⟩
  obtain ⟨rfl, hy⟩ := hy
  obtain rfl := Option.some.inj ((hy xs (.of h2)).symm.trans hv)
  exact ⟨H02, st2, Grow.refl _ _ _, rv.sub gr2⟩
theorem wlk_tup {K : PySem.W.Frag} {H0 : Hp} {a : Addr} {xs : List V} {ds : List D} (h : SqT K H0 a xs) (r : Rps K H0 xs ds) : Wlk K (Itt K a) H0 ds := by
  intro H2 H02 S2 st2 gr2 i
  have h2 := sqT_sub st2.sub (sqT_sub gr2 h)
  refine ⟨fun d hd => ?_, fun hi => ⟨xs, h2, by rw [r.length, hi]; exact Nat.le_refl _⟩⟩
  obtain ⟨v, hv, rv⟩ := r.get hd
  refine ⟨⟨xs, v, h2, hv⟩, fun x H3 hy => ?_⟩
  obtain ⟨rfl, hy⟩ := hy
  obtain rfl := Option.some.inj ((hy xs h2).symm.trans hv)
  exact ⟨H02, st2, Grow.refl _ _ _, rv.sub gr2⟩
section
variable {X : Cx} {E : XK} {tg e a b : Expr} {pos p : Pos} {m ma mb : ME} {mar : MA}
theorem i_lst (h : XE X E e m) : XI X E tg e (fun g => T.bind (m g) dItL) := by
  refine pi_w (pi_list h) fun σ H Q ⟨g, S, H0, Qd, Ed, rel, hm, hq, he⟩ => ?_
  refine ⟨g, S, H0, _, Ed, rel, hm, fun d S1 hf v H1 H01 st1 gr1 r1 => ?_, he⟩
  unfold dItL at hf
  split at hf
  · cases r1 with
    | lst h1 r => exact ⟨_, rfl, ⟨_, .of (st1.sub _ _ h1)⟩, hq _ S1 hf _ H1 H01 st1 gr1 (wlk_list h1 r)⟩
  · exact hf.elim
theorem i_tup (h : XE X E e m) : XI X E tg e (fun g => T.bind (m g) dItT) := by
  refine pi_w (pi_tup h) fun σ H Q ⟨g, S, H0, Qd, Ed, rel, hm, hq, he⟩ => ?_
  refine ⟨g, S, H0, _, Ed, rel, hm, fun d S1 hf v H1 H01 st1 gr1 r1 => ?_, he⟩
  unfold dItT at hf
  split at hf
  · cases r1 with
    | tup h1 r => exact ⟨_, rfl, ⟨_, sqT_sub st1.sub h1⟩, hq _ S1 hf _ H1 H01 st1 gr1 (wlk_tup h1 r)⟩
  · exact hf.elim
theorem i_str (h : XB X E e m) : XI X E tg e (fun g => T.bind (m g) dItS) := by
  refine pi_w (pi_str h) fun σ H Q ⟨g, S, H0, Qd, Ed, rel, hm, hq, he⟩ => ?_
  refine ⟨g, S, H0, _, Ed, rel, hm, fun d S1 hf v H1 H01 st1 gr1 r1 => ?_, he⟩
  unfold dItS at hf
  split at hf
  · rename_i x
    cases r1.str
    refine ⟨x, rfl, hq _ S1 hf _ H1 H01 st1 gr1 ?_⟩
    intro H2 H02 S2 st2 gr2 i
    have hl : (chars x).length = x.cps.size := by unfold chars; rw [List.length_map, Array.length_toList]
    refine ⟨fun d hd => ?_, fun hi => ?_⟩
    · unfold chars at hd
      rw [List.getElem?_map, Array.getElem?_toList] at hd
      cases q : x.cps[i]? with
      | none => rw [q] at hd; cases hd
      | some c =>
        rw [q] at hd
        cases hd
        refine ⟨(Array.getElem?_eq_some_iff.mp q).1, fun y H3 hy => ?_⟩
        obtain ⟨rfl, c', hc, rfl⟩ := hy
        rw [q] at hc; cases hc
        exact ⟨H02, st2, Grow.refl _ _ _, .str _⟩
    · show x.cps.size ≤ i
      rw [hi, hl]; exact Nat.le_refl _
  · exact hf.elim
def dRng1 : List D → T (List D)
  | [.int j] => T.bind (dNeed (-(2 ^ 62) ≤ j ∧ j < 2 ^ 62)) fun _ => T.pure ((List.range j.toNat).map fun (k : Nat) => D.int (0 + (k : Int)))
  | _ => T.fail
theorem wlk_rng {K : PySem.W.Frag} {H0 : Hp} (lo : Int) (n : Nat) : Wlk K (Itr lo n) H0 ((List.range n).map fun (k : Nat) => D.int (lo + (k : Int))) := by
  intro H2 H02 S2 st2 gr2 i
  refine ⟨fun d hd => ?_, fun hi => ?_⟩
  · rw [List.getElem?_map] at hd
    cases q : (List.range n)[i]? with
    | none => rw [q] at hd; cases hd
    | some c =>
      rw [q] at hd
      cases hd
      have q2 := List.getElem?_eq_some_iff.mp q
      obtain ⟨hi, e⟩ := q2
      rw [List.getElem_range] at e
      subst e
      rw [List.length_range] at hi
      refine ⟨hi, fun y H3 hy => ?_⟩
      obtain ⟨rfl, rfl⟩ := hy
      exact ⟨H02, st2, Grow.refl _ _ _, .int _⟩
  · show n ≤ i
    rw [hi, List.length_map, List.length_range]; exact Nat.le_refl _
theorem i_rng1 (hm : X.mg "range" = none) (ha : XAB X E [a] mar) (hg : Gl X "range" := by rfl) (hs : starEach [a] X.env = [(false, eval a X.env)] := by rfl) : XI X E tg (.Call (.Name "range" p) [a] [] pos) (fun g => T.bind (mar g) dRng1) := by
  refine pi_w (pi_range1 hg hm ha hs) fun σ H Q ⟨g, S, H0, Qd, Ed, rel, hm, hq, he⟩ => ?_
  refine ⟨g, S, H0, _, Ed, rel, hm, fun ds S1 hf vs H1 H01 st1 gr1 r1 => ?_, he⟩
  unfold dRng1 at hf
  split at hf
  · rename_i j
    obtain ⟨v, rfl, rv⟩ := r1.one
    cases rv.int
    obtain ⟨⟨h1, h2⟩, hf⟩ := hf
    exact ⟨j, rfl, h1, h2, hq _ S1 hf _ H1 H01 st1 gr1 (wlk_rng 0 _)⟩
  · exact hf.elim
/-- zip of two lists, of two tuples -/
def zipD (xs ys : List D) : List D := List.zipWith (fun a b => D.tup [a, b]) xs ys
def dZip : List D → T (List D)
  | [.lst xs, .lst ys] => T.pure (zipD xs ys)
  | [.tup xs, .tup ys] => T.pure (zipD xs ys)
  | _ => T.fail
theorem zipD_get {xs ys : List D} {i : Nat} {d : D} (h : (zipD xs ys)[i]? = some d) : ∃ a b, xs[i]? = some a ∧ ys[i]? = some b ∧ d = .tup [a, b] := by
  unfold zipD at h
  rw [List.getElem?_zipWith] at h
  cases q1 : xs[i]? with
  | none => rw [q1] at h; cases h
  | some a =>
    cases q2 : ys[i]? with
    | none => rw [q1, q2] at h; cases h
    | some b => rw [q1, q2] at h; cases h; exact ⟨a, b, rfl, rfl, rfl⟩
theorem zipD_len (xs ys : List D) : (zipD xs ys).length = min xs.length ys.length := by unfold zipD; rw [List.length_zipWith]
theorem pair_rep {K : PySem.W.Frag} {H H0 : Hp} {S : Sto} (st : StR K H H0 S) {q : Addr} (hq : H q = none) {x y : V} {a b : D} (ra : Rp K H0 x a) (rb : Rp K H0 y b) :
    ∃ H03, StR K (upd H q (.tup [x, y])) H03 S ∧ Grow H H0 S (upd H q (.tup [x, y])) H03 S ∧ Rp K H03 (.ref q) (.tup [a, b]) := by
  obtain ⟨st2, gr2⟩ := alloc_f st hq (.tup [x, y])
  exact ⟨_, st2, gr2, .tup (.of upd_same) (.cons (ra.sub gr2.sub) (.cons (rb.sub gr2.sub) .nil))⟩
theorem i_zip {elts : List Expr} {kk : Nat} {tpos : Pos} (hm : X.mg "zip" = none) (ha : XA X E [a, b] mar) (hg : Gl X "zip" := by rfl)
    (hs : starEach [a, b] X.env = (false, eval a X.env) :: starEach [b] X.env := by rfl) (hpl : (backTo pos (starEach [b] X.env)).any (·.1) = false := by rfl) : XI X E (.Tuple elts kk tpos) (.Call (.Name "zip" p) [a, b] [] pos) (fun g => T.bind (mar g) dZip) := by
  refine pi_w (RZ.pi_zipA hg hm ha hs hpl) fun σ H Q ⟨g, S, H0, Qd, Ed, rel, hm, hq, he⟩ => ?_
  refine ⟨g, S, H0, _, Ed, rel, hm, fun ds S1 hf vs H1 H01 st1 gr1 r1 => ?_, he⟩
  unfold dZip at hf
  split at hf
  · rename_i xs ys
    cases r1 with
    | cons r1 r2 =>
      cases r2 with
      | cons r2 r3 =>
        cases r3
        cases r1 with
        | @lst pa va _ ha ra =>
          cases r2 with
          | @lst pb vb _ hb rb =>
            refine ⟨pa, pb, va, vb, rfl, .inl ⟨.of (st1.sub _ _ ha), .of (st1.sub _ _ hb), hq _ S1 hf _ H1 H01 st1 gr1 ?_⟩⟩
            intro H2 H02 S2 st2 gr2 i
            have h1 := st2.sub _ _ (gr2 pa _ ha)
            have h2 := st2.sub _ _ (gr2 pb _ hb)
            refine ⟨fun d hd => ?_, fun hi => ⟨va, vb, .of h1, .of h2, ?_⟩⟩
            · obtain ⟨x, y, hx, hy, rfl⟩ := zipD_get hd
              obtain ⟨vx, hvx, rx⟩ := ra.get hx
              obtain ⟨vy, hvy, ry⟩ := rb.get hy
              refine ⟨⟨va, vb, vx, vy, .of h1, .of h2, hvx, hvy⟩, fun z H3 hz => ?_⟩
              obtain ⟨q, x', y', rfl, hqn, rfl, e1, e2⟩ := hz
              obtain rfl := Option.some.inj ((e1 va (.of h1)).symm.trans hvx)
              obtain rfl := Option.some.inj ((e2 vb (.of h2)).symm.trans hvy)
              exact pair_rep st2 hqn (rx.sub gr2) (ry.sub gr2)
            · rw [zipD_len] at hi
              rw [ra.length, rb.length]; omega
  · rename_i xs ys
    cases r1 with
    | cons r1 r2 =>
      cases r2 with
      | cons r2 r3 =>
        cases r3
        cases r1 with
        | @tup pa va _ ha ra =>
          cases r2 with
          | @tup pb vb _ hb rb =>
            refine ⟨pa, pb, va, vb, rfl, .inr ⟨sqT_sub st1.sub ha, sqT_sub st1.sub hb, hq _ S1 hf _ H1 H01 st1 gr1 ?_⟩⟩
            intro H2 H02 S2 st2 gr2 i
            have h1 := sqT_sub st2.sub (sqT_sub gr2 ha)
            have h2 := sqT_sub st2.sub (sqT_sub gr2 hb)
            refine ⟨fun d hd => ?_, fun hi => ⟨va, vb, h1, h2, ?_⟩⟩
            · obtain ⟨x, y, hx, hy, rfl⟩ := zipD_get hd
              obtain ⟨vx, hvx, rx⟩ := ra.get hx
              obtain ⟨vy, hvy, ry⟩ := rb.get hy
              refine ⟨⟨va, vb, vx, vy, h1, h2, hvx, hvy⟩, fun z H3 hz => ?_⟩
              obtain ⟨q, x', y', rfl, hqn, rfl, e1, e2⟩ := hz
              obtain rfl := Option.some.inj ((e1 va h1).symm.trans hvx)
              obtain rfl := Option.some.inj ((e2 vb h2).symm.trans hvy)
              exact pair_rep st2 hqn (rx.sub gr2) (ry.sub gr2)
            · rw [zipD_len] at hi
              rw [ra.length, rb.length]; omega
  · exact hf.elim
end

/-! ### targets -/
/-- what is owned was owned -/
def OwnIn (g : Sg) (σ : L2.St) (g' : Sg) (σ' : L2.St) : Prop := ∀ (j : Nat) s, g'[j]? = some s → owns s = true → g[j]? = some s ∧ σ'[j]? = σ[j]?
theorem OwnIn.refl (g : Sg) (σ : L2.St) : OwnIn g σ g σ := fun _ _ h _ => ⟨h, rfl⟩
theorem OwnIn.set {g0 : Sg} {σ0 : L2.St} {g : Sg} {σ : L2.St} (h : OwnIn g0 σ0 g σ) (i : Nat) (d : D) (o : Option V) : OwnIn g0 σ0 (g.set i (.va d)) (σ.set i o) := fun j s e ow => by
  by_cases hj : i = j
  · subst hj
    by_cases hi : i < g.length
    · rw [List.getElem?_set_self hi] at e; cases e; cases ow
    · rw [List.getElem?_eq_none (by rw [List.length_set]; omega)] at e; cases e
  · rw [List.getElem?_set_ne hj] at e ⊢
    exact h j s e ow
def TgS (K : PySem.W.Frag) (is : List Nat) (t : TG) (f : D → Sg → T Sg) : Prop := ∀ (v : V) (d : D) (σ : L2.St) (g : Sg) (H H0 : Hp) (S : Sto) (Qd : Sg → Sto → Prop) (Ed : Xn → Sto → Prop) (Q : L2.St → Hp → Prop), Rel K σ H H0 S g → Rp K H0 v d → f d g S Qd Ed →
  (∀ g', Qd g' S → ∀ σ' : L2.St, σ'.length = σ.length → (∀ j, j ∉ is → σ'[j]? = σ[j]?) → (∀ H' H0' S', Rel K σ H' H0' S' g → Sub H0 H0' → Rel K σ' H' H0' S' g') → OwnIn g σ g' σ' → Q σ' H) → t v σ H Q
def gN (i : Nat) (d : D) (g : Sg) : T Sg := T.pure (g.set i (.va d))
theorem tg_name {K : PySem.W.Frag} (i : Nat) : TgS K [i] (gName i) (gN i) := by
  intro v d σ g H H0 S Qd Ed Q rel rv hf hq
  refine hq _ hf (σ.set i (some v)) (by rw [List.length_set]) (fun j hj => ?_) (fun _ _ _ rel' sb => rel'.set (rv.sub sb) i) ((OwnIn.refl g σ).set i d (some v))
  exact List.getElem?_set_ne (fun e => hj (by rw [e]; exact List.mem_singleton.mpr rfl))
def gT2 (i j : Nat) (d : D) (g : Sg) : T Sg := match d with
  | .tup [a, b] => T.pure ((g.set i (.va a)).set j (.va b))
  | _ => T.fail
theorem tg_two {K : PySem.W.Frag} (i j : Nat) : TgS K [i, j] (gTup K 2 (gCons (gName i) (gCons (gName j) gNil))) (gT2 i j) := by
  intro v d σ g H H0 S Qd Ed Q rel rv hf hq
  unfold gT2 at hf
  split at hf
  · rename_i a b
    cases rv with
    | tup h1 r =>
      cases r with
      | cons ra r =>
        cases r with
        | cons rb r =>
          cases r
          refine ⟨_, _, rfl, sqT_sub rel.st.sub h1, rfl, _, _, rfl, _, _, rfl, rfl, hq _ hf _ (by rw [List.length_set, List.length_set]) (fun k hk => ?_) (fun _ _ _ rel' sb => (rel'.set (ra.sub sb) i).set (rb.sub sb) j) (((OwnIn.refl g σ).set i a _).set j b _)⟩
          rw [List.getElem?_set_ne, List.getElem?_set_ne]
          · exact fun e => hk (by rw [e]; exact List.mem_cons_self)
          · exact fun e => hk (by rw [e]; exact List.mem_cons_of_mem _ List.mem_cons_self)
  · exact hf.elim
end DL

set_option Elab.async false
set_option linter.all false
set_option maxRecDepth 100000
set_option maxHeartbeats 4000000
namespace DL
open PySem PySem.Spec PyProof.Rows L2 STx OrdS

/-! ### comprehensions -/
def noX {α : Type} (m : T α) : T α := fun S Q _ => m S Q (fun _ _ => False)
noncomputable def lcT (f : D → Sg → T Sg) (t : MT) (e : ME) (g : Sg) : List D → T (List D)
  | [] => T.pure []
  | d :: r => T.bind (noX (f d g)) fun g1 => T.bind (noX (t g1)) fun k => T.ite k (T.bind (noX (e g1)) fun x => T.bind (lcT f t e g r) fun xs => T.pure (x :: xs)) (lcT f t e g r)
noncomputable def dLc (ms : MI) (vs : List Nat) (f : D → Sg → T Sg) (t : MT) (e : ME) : ME := fun g => T.bind (ms g) fun ds => T.bind (dNeed (ds.length ≤ sizeLine)) fun _ => T.bind (lcT f t e (wipeG g vs) ds) fun xs => T.pure (.lst xs)
def tY : MT := fun _ => T.pure true
/-- a cell that neither stays nor is of the store is written -/
theorem upd_free {K : PySem.W.Frag} {H H0 : Hp} {S : Sto} (st : StR K H H0 S) {p : Addr} (n0 : H0 p = none) (nS : S p = none) (o : HO) (nc : NoCode H p) : StR K (upd H p o) H0 S := by
  refine ⟨fun a u e => ?_, st.nos, fun a m e => ?_⟩
  · rw [upd_ne (ne_of_none e n0)]; exact st.sub a u e
  · have ha : a ≠ p := fun z => by rw [z, nS] at e; cases e
    exact (st.sto a m e).keep (fun _ _ q => q) (upd_ne ha) (keepC_upd nc o)
theorem grow_free {H H0 : Hp} {S : Sto} {H' H0' : Hp} {S' : Sto} (g : Grow H H0 S H' H0' S') {p : Addr} (hp : H p = none) (o : HO) : Grow H H0 S (upd H' p o) H0' S' :=
  ⟨fun a u e n => by rw [upd_ne (ne_of_none e hp)]; exact g.keep a u e n, g.old, g.sub, g.more, g.new⟩
theorem Grow.fresh {K : PySem.W.Frag} {H H0 : Hp} {S : Sto} {H' H0' : Hp} {S' : Sto} (g : Grow H H0 S H' H0' S') (s' : StR K H' H0' S') {a : Addr} (h : H' a = none) : H a = none := by
  cases z : H a with
  | none => rfl
  | some o => exact absurd h (g.there s' (by rw [z]; exact fun z => nomatch z))
/-- the list that a comprehension makes, so far -/
structure Acc (K : PySem.W.Frag) (Dl : Addr) (H1 H01 : Hp) (S1 : Sto) (H H0 : Hp) (S : Sto) (acc : List D) : Prop where
  st : StR K H H0 S
  gr : Grow H1 H01 S1 H H0 S
  at_ : ∃ xs, H Dl = some (.lst xs) ∧ Rps K H0 xs acc
  n0 : H0 Dl = none
  nS : S Dl = none
theorem Acc.grow {K : PySem.W.Frag} {Dl : Addr} {H1 H01 : Hp} {S1 : Sto} {H H0 : Hp} {S : Sto} {acc : List D} (a : Acc K Dl H1 H01 S1 H H0 S acc) {H' H0' : Hp} {S' : Sto} (st : StR K H' H0' S') (g : Grow H H0 S H' H0' S') : Acc K Dl H1 H01 S1 H' H0' S' acc := by
  obtain ⟨xs, e, r⟩ := a.at_
  have nn : H Dl ≠ none := by rw [e]; exact fun z => nomatch z
  exact ⟨st, a.gr.trans a.st g, ⟨xs, g.keep Dl _ e a.nS, r.sub g.sub⟩, g.old Dl a.n0 nn, g.isN a.nS nn⟩
theorem Acc.put {K : PySem.W.Frag} {Dl : Addr} {H1 H01 : Hp} {S1 : Sto} {H H0 : Hp} {S : Sto} {acc : List D} (a : Acc K Dl H1 H01 S1 H H0 S acc) (hD : H1 Dl = none) {v : V} {d : D} (r : Rp K H0 v d) {xs : List V} (e : H Dl = some (.lst xs)) :
    Acc K Dl H1 H01 S1 (upd H Dl (.lst (xs ++ [v]))) H0 S (acc ++ [d]) := by
  obtain ⟨xs', e', r'⟩ := a.at_
  rw [e] at e'
  cases e'
  exact ⟨upd_free a.st a.n0 a.nS _ (noCode_lst e), grow_free a.gr hD _, ⟨_, upd_same, r'.append (.cons r .nil)⟩, a.n0, a.nS⟩
theorem lc_lf {K : PySem.W.Frag} {E : XK} {ms : MI} {vs is : List Nat} {t : TG} {f : D → Sg → T Sg} {mt : MT} {me : ME} {tt : TT} {te : TE} (hs : TgS K is t f) (hi : ∀ i ∈ is, i ∈ vs)
    (htt : ∀ σ H Q, lt K E0 mt σ H Q → tt σ H Q) (hte : ∀ σ H Q, lf K E0 (RF K) me σ H Q → te σ H Q)
    {σ : L2.St} {H : Hp} {Q : VK} (h : lf K E (RN K) (dLc ms vs f mt me) σ H Q) : tLc (li K E ms) t tt te vs σ H Q := by
  obtain ⟨g, S, H0, Qd, Ed, rel, hm, hq, he⟩ := h
  refine ⟨g, S, H0, _, Ed, rel, hm, fun ds S1 hf J H1 H01 st1 gr1 wk Dl hD => ?_, he⟩
  obtain ⟨hz, hf⟩ := hf
  obtain ⟨stA, grA, n0, nS⟩ := alloc_n st1 hD (.lst [])
  have nH : H Dl = none := gr1.fresh st1 hD
  refine ⟨fun i k H2 => k = ds.length - i ∧ i ≤ ds.length ∧ ∃ S2 H02 acc, Acc K Dl H1 H01 S1 H2 H02 S2 acc ∧ acc.length ≤ i ∧ lcT f mt me (wipeG g vs) (ds.drop i) S2 (fun xs S' => Qd (.lst (acc ++ xs)) S') Ed,
    ⟨ds.length, by simp, Nat.zero_le _, S1, H01, [], ⟨stA, grA, ⟨[], upd_same, .nil⟩, n0, nS⟩, Nat.le_refl _, hf⟩, ?_⟩
  rintro i k H2 ⟨rfl, hle, S2, H02, acc, A, hacc, hr⟩
  by_cases hlt : i < ds.length
  · have hd : ds[i]? = some ds[i] := List.getElem?_eq_getElem hlt
    rw [List.drop_eq_getElem_cons hlt] at hr
    obtain ⟨go, yld⟩ := (wk H2 H02 S2 A.st A.gr.sub i).1 _ hd
    refine .inr ⟨go, fun H3 => i + 1 ≤ ds.length ∧ ∃ S3 H03 acc', Acc K Dl H1 H01 S1 H3 H03 S3 acc' ∧ acc'.length ≤ i + 1 ∧ lcT f mt me (wipeG g vs) (ds.drop (i + 1)) S3 (fun xs S' => Qd (.lst (acc' ++ xs)) S') Ed,
      fun H3 q => ⟨ds.length - (i + 1), by omega, rfl, q⟩, fun x H3 hy => ?_⟩
    obtain ⟨H03, st3, gr3, rx⟩ := yld x H3 hy
    have A3 := A.grow st3 gr3
    have rel3 := ((rel.grow st1 gr1).grow A3.st A3.gr).wipe vs
    refine hs x ds[i] _ _ H3 H03 S2 _ (fun _ _ => False) _ rel3 rx hr fun g1 hg1 σ1 hl1 ha1 un1 _ => ?_
    have rel1 := un1 _ _ _ rel3 (fun _ _ q => q)
    refine ⟨by rw [wipe_same hi hl1 ha1, wipe_wipe], htt _ _ _ ⟨g1, S2, H03, _, fun _ _ => False, rel1, hg1, fun b S4 hb H4 H04 st4 gr4 => ?_, fun _ _ z => z.elim⟩⟩
    have A4 := A3.grow st4 gr4
    cases b with
    | false =>
      have hb := T.iteF hb
      exact ⟨hlt, S4, H04, acc, A4, Nat.le_succ_of_le hacc, hb⟩
    | true =>
      have hb := T.iteT hb
      refine hte _ _ _ ⟨g1, S4, H04, _, fun _ _ => False, rel1.grow st4 gr4, hb, fun y S5 hy5 v H5 H05 st5 gr5 rv => ?_, fun _ _ z => z.elim⟩
      have A5 := A4.grow st5 gr5
      obtain ⟨xs, ex, rxs⟩ := A5.at_
      refine ⟨xs, ex, by rw [rxs.length]; omega, hlt, S5, H05, acc ++ [y], A5.put hD rv ex, by simp; omega, ?_⟩
      have e : (fun zs S' => Qd (.lst ((acc ++ [y]) ++ zs)) S') = fun zs S' => Qd (.lst (acc ++ (y :: zs))) S' := by
        funext zs S'
        rw [List.append_assoc]; rfl
      rw [e]
      exact hy5
  · obtain rfl : i = ds.length := by omega
    refine .inl ⟨(wk H2 H02 S2 A.st A.gr.sub _).2 rfl, ?_⟩
    rw [List.drop_length] at hr
    obtain ⟨xs, ex, rxs⟩ := A.at_
    have hr : Qd (.lst (acc ++ [])) S2 := hr
    rw [List.append_nil] at hr
    exact hq _ S2 hr _ H2 H02 A.st (gr1.trans st1 A.gr) (.inl ⟨Dl, xs, acc, rfl, rfl, nH, ex, A.n0, A.nS, rxs⟩)
section
variable {X : Cx} {E : XK}
theorem x_lc {elt tg iter : Expr} {ifs : List Expr} {scope : Scope} (own : List (Str × Nat)) {pos : Pos} {ms : MI} {is : List Nat} {t : TG} {f : D → Sg → T Sg} {mt : MT} {me : ME} (hc : X.calm = true) (hN : X.N.Nodup) (hi : XI X E tg iter ms) (ok : blkC X.N X.env.scope scope own = true)
    (hs : TgS X.K is t f) (his : ∀ i ∈ is, i ∈ own.map (·.2))
    (hg : ∀ (s : Shared) (H : Hp) (C : Addr) (cl : List (Str × Addr)) (fp : List Addr), PG (X.blk s H scope (compEnvC scope cl C X.env) fp) tg t) (ht : ∀ (s : Shared) (H : Hp) (C : Addr) (cl : List (Str × Addr)) (fp : List Addr), PTs (X.blk s H scope (compEnvC scope cl C X.env) fp) ifs (lt X.K E0 mt))
    (he : ∀ (s : Shared) (H : Hp) (C : Addr) (cl : List (Str × Addr)) (fp : List Addr), PE (X.blk s H scope (compEnvC scope cl C X.env) fp) elt (lf X.K E0 (RF X.K) me)) (hf : ∀ x, foldedSetIterable iter X.env x = pure x := by intro _; rfl) :
    XN X E (.ListComp elt [⟨tg, iter, ifs, 0⟩] scope pos) (dLc ms (own.map (·.2)) f mt me) :=
  pe_w (pe_lc hc hN hi (blkOk_by ok) hg ht he hf) fun _ _ _ h => lc_lf hs his (fun _ _ _ q => q) (fun _ _ _ q => q) h
theorem ts_nil : PTs X [] (lt X.K E tY) := ⟨fun pins s σ H Q I ⟨g, S, H0, Qd, Ed, rel, hm, hq, he⟩ => pts_nil.run pins s σ H Q I (hq true S hm H H0 rel.st (Grow.refl _ _ _))⟩
theorem ts_one {c : Expr} {m : MT} (h : XT X E c m) : PTs X [c] (lt X.K E m) := pts_one h
end

/-! ### two sources -/
noncomputable def lc2T (f : D → Sg → T Sg) (t : MT) (ms1 : MI) (vs1 : List Nat) (f1 : D → Sg → T Sg) (t1 : MT) (e : ME) (g : Sg) : List D → T (List D)
  | [] => T.pure []
  | d :: r => T.bind (noX (f d g)) fun g1 => T.bind (noX (t g1)) fun k => T.ite k (T.bind (noX (ms1 g1)) fun ds1 => T.bind (dNeed (ds1.length ≤ 1000)) fun _ => T.bind (lcT f1 t1 e (wipeG g1 vs1) ds1) fun ys =>
      T.bind (lc2T f t ms1 vs1 f1 t1 e g r) fun xs => T.pure (ys ++ xs)) (lc2T f t ms1 vs1 f1 t1 e g r)
noncomputable def dLc2 (ms : MI) (vs : List Nat) (f : D → Sg → T Sg) (t : MT) (ms1 : MI) (vs1 : List Nat) (f1 : D → Sg → T Sg) (t1 : MT) (e : ME) : ME := fun g =>
  T.bind (ms g) fun ds => T.bind (dNeed (ds.length ≤ 1000)) fun _ => T.bind (lc2T f t ms1 vs1 f1 t1 e (wipeG g vs) ds) fun xs => T.pure (.lst xs)
theorem big_line : 1000000 < sizeLine := by rw [sizeLine_eq]; decide
theorem lc2_lf {K : PySem.W.Frag} {E : XK} {ms ms1 : MI} {vs is vs1 is1 : List Nat} {t t1 : TG} {f f1 : D → Sg → T Sg} {mt mt1 : MT} {me : ME} {wi1 : TI} {tt tt1 : TT} {te : TE} (hs : TgS K is t f) (hi : ∀ i ∈ is, i ∈ vs) (hs1 : TgS K is1 t1 f1) (hi1 : ∀ i ∈ is1, i ∈ vs1)
    (htt : ∀ σ H Q, lt K E0 mt σ H Q → tt σ H Q) (hwi : ∀ σ H Q, li K E0 ms1 σ H Q → wi1 σ H Q) (htt1 : ∀ σ H Q, lt K E0 mt1 σ H Q → tt1 σ H Q) (hte : ∀ σ H Q, lf K E0 (RF K) me σ H Q → te σ H Q)
    {σ : L2.St} {H : Hp} {Q : VK} (h : lf K E (RN K) (dLc2 ms vs f mt ms1 vs1 f1 mt1 me) σ H Q) : tLc2 (li K E ms) t tt wi1 t1 tt1 te vs vs1 σ H Q := by
  obtain ⟨g, S, H0, Qd, Ed, rel, hm, hq, he⟩ := h
  refine ⟨g, S, H0, _, Ed, rel, hm, fun ds S1 hf J H1 H01 st1 gr1 wk Dl hD => ?_, he⟩
  obtain ⟨hz, hf⟩ := hf
  obtain ⟨stA, grA, n0, nS⟩ := alloc_n st1 hD (.lst [])
  have nH : H Dl = none := gr1.fresh st1 hD
  have big := big_line
  refine ⟨fun i k H2 => k = ds.length - i ∧ i ≤ ds.length ∧ ∃ S2 H02 acc, Acc K Dl H1 H01 S1 H2 H02 S2 acc ∧ acc.length ≤ i * 1000 ∧ lc2T f mt ms1 vs1 f1 mt1 me (wipeG g vs) (ds.drop i) S2 (fun xs S' => Qd (.lst (acc ++ xs)) S') Ed,
    ⟨ds.length, by simp, Nat.zero_le _, S1, H01, [], ⟨stA, grA, ⟨[], upd_same, .nil⟩, n0, nS⟩, Nat.zero_le _, hf⟩, ?_⟩
  rintro i k H2 ⟨rfl, hle, S2, H02, acc, A, hacc, hr⟩
  by_cases hlt : i < ds.length
  · have hd : ds[i]? = some ds[i] := List.getElem?_eq_getElem hlt
    rw [List.drop_eq_getElem_cons hlt] at hr
    obtain ⟨go, yld⟩ := (wk H2 H02 S2 A.st A.gr.sub i).1 _ hd
    refine .inr ⟨go, fun H3 => i + 1 ≤ ds.length ∧ ∃ S3 H03 acc', Acc K Dl H1 H01 S1 H3 H03 S3 acc' ∧ acc'.length ≤ (i + 1) * 1000 ∧ lc2T f mt ms1 vs1 f1 mt1 me (wipeG g vs) (ds.drop (i + 1)) S3 (fun xs S' => Qd (.lst (acc' ++ xs)) S') Ed,
      fun H3 q => ⟨ds.length - (i + 1), by omega, rfl, q⟩, fun x H3 hy => ?_⟩
    obtain ⟨H03, st3, gr3, rx⟩ := yld x H3 hy
    have A3 := A.grow st3 gr3
    have rel3 := ((rel.grow st1 gr1).grow A3.st A3.gr).wipe vs
    refine hs x ds[i] _ _ H3 H03 S2 _ (fun _ _ => False) _ rel3 rx hr fun g1 hg1 σ1 hl1 ha1 un1 _ => ?_
    have rel1 := un1 _ _ _ rel3 (fun _ _ q => q)
    refine ⟨by rw [wipe_same hi hl1 ha1, wipe_wipe], htt _ _ _ ⟨g1, S2, H03, _, fun _ _ => False, rel1, hg1, fun b S4 hb H4 H04 st4 gr4 => ?_, fun _ _ z => z.elim⟩⟩
    have A4 := A3.grow st4 gr4
    cases b with
    | false =>
      have hb := T.iteF hb
      refine ⟨hlt, S4, H04, acc, A4, by omega, hb⟩
    | true =>
      have hb := T.iteT hb
      refine hwi _ _ _ ⟨g1, S4, H04, _, fun _ _ => False, rel1.grow st4 gr4, hb, fun ds1 S5 hf1 J1 H5 H05 st5 gr5 wk1 => ?_, fun _ _ z => z.elim⟩
      obtain ⟨hz1, hf1⟩ := hf1
      have A5 := A4.grow st5 gr5
      have rel1' : ∀ {H6 H06 S6 acc6}, Acc K Dl H1 H01 S1 H6 H06 S6 acc6 → Sub H03 H06 → Rel K σ1 H6 H06 S6 g1 := fun {H6 H06 S6 acc6} B sb => un1 _ _ _ (((rel.grow st1 gr1).grow B.st B.gr).wipe vs) sb
      have s35 : Sub H03 H05 := fun a o q => gr5.sub a o (gr4.sub a o q)
      refine ⟨fun j k H6 => k = ds1.length - j ∧ j ≤ ds1.length ∧ ∃ S6 H06 acc1, Acc K Dl H1 H01 S1 H6 H06 S6 acc1 ∧ Sub H05 H06 ∧ acc1.length ≤ i * 1000 + j ∧
          lcT f1 mt1 me (wipeG g1 vs1) (ds1.drop j) S6 (fun ys S' => lc2T f mt ms1 vs1 f1 mt1 me (wipeG g vs) (ds.drop (i + 1)) S' (fun xs S'' => Qd (.lst (acc1 ++ (ys ++ xs))) S'') Ed) Ed,
        ⟨ds1.length, by simp, Nat.zero_le _, S5, H05, acc, A5, fun _ _ q => q, by omega, hf1⟩, ?_⟩
      rintro j k H6 ⟨rfl, hle1, S6, H06, acc1, A6, s56, hacc1, hr1⟩
      by_cases hlt1 : j < ds1.length
      · have hd1 : ds1[j]? = some ds1[j] := List.getElem?_eq_getElem hlt1
        rw [List.drop_eq_getElem_cons hlt1] at hr1
        obtain ⟨go1, yld1⟩ := (wk1 H6 H06 S6 A6.st s56 j).1 _ hd1
        refine .inr ⟨go1, fun H7 => j + 1 ≤ ds1.length ∧ ∃ S7 H07 acc2, Acc K Dl H1 H01 S1 H7 H07 S7 acc2 ∧ Sub H05 H07 ∧ acc2.length ≤ i * 1000 + (j + 1) ∧
            lcT f1 mt1 me (wipeG g1 vs1) (ds1.drop (j + 1)) S7 (fun ys S' => lc2T f mt ms1 vs1 f1 mt1 me (wipeG g vs) (ds.drop (i + 1)) S' (fun xs S'' => Qd (.lst (acc2 ++ (ys ++ xs))) S'') Ed) Ed,
          fun H7 q => ⟨ds1.length - (j + 1), by omega, rfl, q⟩, fun x1 H7 hy1 => ?_⟩
        obtain ⟨H07, st7, gr7, rx1⟩ := yld1 x1 H7 hy1
        have A7 := A6.grow st7 gr7
        have s57 : Sub H05 H07 := fun a o q => gr7.sub a o (s56 a o q)
        have rel7 := rel1' A7 fun a o q => s57 a o (s35 a o q)
        refine hs1 x1 ds1[j] _ _ H7 H07 S6 _ (fun _ _ => False) _ (rel7.wipe vs1) rx1 hr1 fun g2 hg2 σ2 hl2 ha2 un2 _ => ?_
        have rel2 := un2 _ _ _ (rel7.wipe vs1) fun _ _ q => q
        refine ⟨by rw [wipe_same hi1 hl2 ha2, wipe_wipe], htt1 _ _ _ ⟨g2, S6, H07, _, fun _ _ => False, rel2, hg2, fun b S8 hb H8 H08 st8 gr8 => ?_, fun _ _ z => z.elim⟩⟩
        have A8 := A7.grow st8 gr8
        have s58 : Sub H05 H08 := fun a o q => gr8.sub a o (s57 a o q)
        cases b with
        | false =>
          have hb := T.iteF hb
          exact ⟨hlt1, S8, H08, acc1, A8, s58, by omega, hb⟩
        | true =>
          have hb := T.iteT hb
          refine hte _ _ _ ⟨g2, S8, H08, _, fun _ _ => False, rel2.grow st8 gr8, hb, fun y S9 hy9 v H9 H09 st9 gr9 rv => ?_, fun _ _ z => z.elim⟩
          have A9 := A8.grow st9 gr9
          obtain ⟨xs, ex, rxs⟩ := A9.at_
          refine ⟨xs, ex, ?_, hlt1, S9, H09, acc1 ++ [y], A9.put hD rv ex, fun a o q => gr9.sub a o (s58 a o q), by simp; omega, ?_⟩
          · have h1 : i * 1000 ≤ 999 * 1000 := Nat.mul_le_mul_right _ (by omega)
            rw [rxs.length]; omega
          · have e : (fun ys S' => lc2T f mt ms1 vs1 f1 mt1 me (wipeG g vs) (ds.drop (i + 1)) S' (fun xs S'' => Qd (.lst ((acc1 ++ [y]) ++ (ys ++ xs))) S'') Ed) =
                fun ys S' => lc2T f mt ms1 vs1 f1 mt1 me (wipeG g vs) (ds.drop (i + 1)) S' (fun xs S'' => Qd (.lst (acc1 ++ ((y :: ys) ++ xs))) S'') Ed := by
              funext ys S'
              congr 1
              funext xs S''
              rw [List.append_assoc]; rfl
            rw [e]
            exact hy9
      · obtain rfl : j = ds1.length := by omega
        refine .inl ⟨(wk1 H6 H06 S6 A6.st s56 _).2 rfl, hlt, S6, H06, acc1, A6, by omega, ?_⟩
        rw [List.drop_length] at hr1
        exact hr1
  · obtain rfl : i = ds.length := by omega
    refine .inl ⟨(wk H2 H02 S2 A.st A.gr.sub _).2 rfl, ?_⟩
    rw [List.drop_length] at hr
    obtain ⟨xs, ex, rxs⟩ := A.at_
    have hr : Qd (.lst (acc ++ [])) S2 := hr
    rw [List.append_nil] at hr
    exact hq _ S2 hr _ H2 H02 A.st (gr1.trans st1 A.gr) (.inl ⟨Dl, xs, acc, rfl, rfl, nH, ex, A.n0, A.nS, rxs⟩)
section
variable {X : Cx} {E : XK}
theorem x_lc2 {elt tg iter tg1 iter1 : Expr} {ifs ifs1 : List Expr} {scope : Scope} (own : List (Str × Nat)) {vs1 : List Nat} {pos : Pos} {ms ms1 : MI} {is is1 : List Nat} {t t1 : TG} {f f1 : D → Sg → T Sg} {mt mt1 : MT} {me : ME} (hc : X.calm = true) (hN : X.N.Nodup) (hi : XI X E tg iter ms) (ok : blkC X.N X.env.scope scope own = true)
    (hs : TgS X.K is t f) (his : ∀ i ∈ is, i ∈ own.map (·.2)) (hv : ∀ i ∈ vs1, i ∈ own.map (·.2)) (hs1 : TgS X.K is1 t1 f1) (his1 : ∀ i ∈ is1, i ∈ vs1)
    (hg : ∀ (s : Shared) (H : Hp) (C : Addr) (cl : List (Str × Addr)) (fp : List Addr), PG (X.blk s H scope (compEnvC scope cl C X.env) fp) tg t) (ht : ∀ (s : Shared) (H : Hp) (C : Addr) (cl : List (Str × Addr)) (fp : List Addr), PTs (X.blk s H scope (compEnvC scope cl C X.env) fp) ifs (lt X.K E0 mt))
    (hi1 : ∀ (s : Shared) (H : Hp) (C : Addr) (cl : List (Str × Addr)) (fp : List Addr), PI (X.blk s H scope (compEnvC scope cl C X.env) fp) tg1 iter1 (li X.K E0 ms1))
    (hg1 : ∀ (s : Shared) (H : Hp) (C : Addr) (cl : List (Str × Addr)) (fp : List Addr), PG (X.blk s H scope (compEnvC scope cl C X.env) fp) tg1 t1) (ht1 : ∀ (s : Shared) (H : Hp) (C : Addr) (cl : List (Str × Addr)) (fp : List Addr), PTs (X.blk s H scope (compEnvC scope cl C X.env) fp) ifs1 (lt X.K E0 mt1))
    (he : ∀ (s : Shared) (H : Hp) (C : Addr) (cl : List (Str × Addr)) (fp : List Addr), PE (X.blk s H scope (compEnvC scope cl C X.env) fp) elt (lf X.K E0 (RF X.K) me)) (hf : ∀ x, foldedSetIterable iter X.env x = pure x := by intro _; rfl) (hf1 : ∀ env x, foldedSetIterable iter1 env x = pure x := by intro _ _; rfl) :
    XN X E (.ListComp elt [⟨tg, iter, ifs, 0⟩, ⟨tg1, iter1, ifs1, 0⟩] scope pos) (dLc2 ms (own.map (·.2)) f mt ms1 vs1 f1 mt1 me) :=
  pe_w (pe_lc2 hc hN hi (blkOk_by ok) hv hg ht hi1 hg1 ht1 he hf hf1) fun _ _ _ h => lc2_lf hs his hs1 his1 (fun _ _ _ q => q) (fun _ _ _ q => q) (fun _ _ _ q => q) (fun _ _ _ q => q) h
end
end DL

set_option Elab.async false
set_option linter.all false
set_option maxRecDepth 100000
set_option maxHeartbeats 4000000
namespace DL
open PySem PySem.Spec PyProof.Rows L2 STx OrdS

/-! ### statements -/
/-- where a def began -/
structure Bs where
  H : Hp
  H0 : Hp
  S : Sto
structure RelB (K : PySem.W.Frag) (b : Bs) (σ : L2.St) (H H0 : Hp) (S : Sto) (g : Sg) : Prop where
  rel : Rel K σ H H0 S g
  gb : Grow b.H b.H0 b.S H H0 S
  ob : ∀ (i : Nat) s p, g[i]? = some s → owns s = true → σ[i]? = some (some (.ref p)) → b.H p = none
theorem RelB.grow {K : PySem.W.Frag} {b : Bs} {σ : L2.St} {H H0 : Hp} {S : Sto} {g : Sg} (r : RelB K b σ H H0 S g) {H' H0' : Hp} {S' : Sto} (st : StR K H' H0' S') (w : Grow H H0 S H' H0' S') : RelB K b σ H' H0' S' g :=
  ⟨r.rel.grow st w, r.gb.trans r.rel.st w, r.ob⟩
theorem RelB.owned {K : PySem.W.Frag} {b : Bs} {σ σ' : L2.St} {H H0 : Hp} {S : Sto} {g g' : Sg} (r : RelB K b σ H H0 S g) (rel : Rel K σ' H H0 S g') (o : OwnIn g σ g' σ') : RelB K b σ' H H0 S g' :=
  ⟨rel, r.gb, fun i s p h1 h2 h3 => by
    obtain ⟨e1, e2⟩ := o i s h1 h2
    exact r.ob i s p e1 h2 (e2 ▸ h3)⟩
theorem RelB.set {K : PySem.W.Frag} {b : Bs} {σ : L2.St} {H H0 : Hp} {S : Sto} {g : Sg} (r : RelB K b σ H H0 S g) {v : V} {d : D} (h : Rp K H0 v d) (i : Nat) : RelB K b (σ.set i (some v)) H H0 S (g.set i (.va d)) :=
  r.owned (r.rel.set h i) ((OwnIn.refl g σ).set i d (some v))
/-- a new list, a new dict to a slot of its own -/
theorem RelB.own {K : PySem.W.Frag} {b : Bs} {σ : L2.St} {H H0 : Hp} {S : Sto} {g : Sg} (r : RelB K b σ H H0 S g) {H' H0' : Hp} {S' : Sto} (st : StR K H' H0' S') (w : Grow H H0 S H' H0' S') {p : Addr} {sl : Sl} (hn : H p = none) (i : Nat)
    (hs : RpS K H' H0' S' (some (some (.ref p))) sl) : RelB K b (σ.set i (some (.ref p))) H' H0' S' (g.set i sl) := by
  have bn : b.H p = none := r.gb.fresh r.rel.st hn
  have r1 := r.grow st w
  -- what is owned elsewhere stood in H
  have apart : ∀ (j : Nat) s, j ≠ i → g[j]? = some s → owns s = true → σ[j]? ≠ some (some (.ref p)) := fun j s _ h1 h2 h3 => by
    have q := r.rel.sl j s h1
    cases s with
    | ow ds => obtain ⟨p', xs, e, e1, _⟩ := q; rw [h3] at e; cases e; rw [hn] at e1; cases e1
    | od ks ds => obtain ⟨p', xs, e, e1, _⟩ := q; rw [h3] at e; cases e; rw [hn] at e1; cases e1
    | _ => cases h2
  refine ⟨⟨st, by rw [List.length_set, List.length_set, r.rel.len], fun j s e => ?_, fun j k sj sk q hjk hj hk oj ok h1 h2 => ?_⟩, r1.gb, fun j s q e1 e2 e3 => ?_⟩
  · by_cases hj : i = j
    · subst hj
      by_cases hi : i < g.length
      · rw [List.getElem?_set_self hi] at e
        cases e
        rw [List.getElem?_set_self (by rw [r.rel.len]; exact hi)]
        exact hs
      · rw [List.getElem?_eq_none (by rw [List.length_set]; omega)] at e; cases e
    · rw [List.getElem?_set_ne hj] at e ⊢
      exact r1.rel.sl j s e
  · by_cases hij : i = j
    · subst hij
      have hik : i ≠ k := hjk
      rw [List.getElem?_set_ne hik] at hk h2
      by_cases hi : i < σ.length
      · rw [List.getElem?_set_self hi] at h1
        cases h1
        exact apart k sk (Ne.symm hik) hk ok h2
      · rw [List.getElem?_eq_none (by rw [List.length_set]; omega)] at h1; cases h1
    · rw [List.getElem?_set_ne hij] at hj h1
      by_cases hik : i = k
      · subst hik
        by_cases hi : i < σ.length
        · rw [List.getElem?_set_self hi] at h2
          cases h2
          exact apart j sj (Ne.symm hij) hj oj h1
        · rw [List.getElem?_eq_none (by rw [List.length_set]; omega)] at h2; cases h2
      · rw [List.getElem?_set_ne hik] at hk h2
        exact r.rel.di j k sj sk q hjk hj hk oj ok h1 h2
  · by_cases hij : i = j
    · subst hij
      by_cases hi : i < σ.length
      · rw [List.getElem?_set_self hi] at e3
        cases e3
        exact bn
      · rw [List.getElem?_eq_none (by rw [List.length_set]; omega)] at e3; cases e3
    · rw [List.getElem?_set_ne hij] at e1 e3
      exact r.ob j s q e1 e2 e3
/-- the cell of an owned slot is written -/
theorem RelB.write {K : PySem.W.Frag} {b : Bs} {σ : L2.St} {H H0 : Hp} {S : Sto} {g : Sg} (r : RelB K b σ H H0 S g) {i : Nat} {p : Addr} {s0 sl : Sl} (hi : g[i]? = some s0) (ho : owns s0 = true) (hp : σ[i]? = some (some (.ref p))) {o : HO}
    (hs : RpS K (upd H p o) H0 S (some (some (.ref p))) sl) (hsl : owns sl = true) : RelB K b σ (upd H p o) H0 S (g.set i sl) := by
  have key : H0 p = none ∧ S p = none ∧ NoCode H p := by
    have q := r.rel.sl i s0 hi
    cases s0 with
    | ow ds => obtain ⟨p', xs, e, e0, e1, e2, _⟩ := q; rw [hp] at e; cases e; exact ⟨e1, e2, noCode_lst e0⟩
    | od ks ds => obtain ⟨p', xs, e, e0, e1, e2, _⟩ := q; rw [hp] at e; cases e; exact ⟨e1, e2, noCode_dK e0⟩
    | _ => cases ho
  have bn := r.ob i s0 p hi ho hp
  have hig : i < g.length := (List.getElem?_eq_some_iff.mp hi).1
  have st' := upd_free r.rel.st key.1 key.2.1 o key.2.2
  refine ⟨⟨st', by rw [List.length_set, r.rel.len], fun j s e => ?_, fun j k sj sk q hjk hj hk oj ok h1 h2 => ?_⟩, ⟨fun a u e n => ?_, r.gb.old, r.gb.sub, r.gb.more, r.gb.new⟩, fun j s q e1 e2 e3 => ?_⟩
  · by_cases hj : i = j
    · subst hj
      rw [List.getElem?_set_self hig] at e
      cases e
      rw [hp]; exact hs
    · rw [List.getElem?_set_ne hj] at e
      have q := r.rel.sl j s e
      cases s with
      | un => exact True.intro
      | va d => exact q
      | ow ds =>
        obtain ⟨p', xs, e0, e1, e2⟩ := q
        have ne : p' ≠ p := fun z => r.rel.di j i _ _ p (Ne.symm hj) e hi rfl ho (by rw [e0, z]) hp
        exact ⟨p', xs, e0, by rw [upd_ne ne]; exact e1, e2⟩
      | od ks ds =>
        obtain ⟨p', xs, e0, e1, e2⟩ := q
        have ne : p' ≠ p := fun z => r.rel.di j i _ _ p (Ne.symm hj) e hi rfl ho (by rw [e0, z]) hp
        exact ⟨p', xs, e0, by rw [upd_ne ne]; exact e1, e2⟩
  · have was : ∀ (j : Nat) s, (g.set i sl)[j]? = some s → owns s = true → ∃ s', g[j]? = some s' ∧ owns s' = true := fun j s e ow => by
      by_cases hj : i = j
      · subst hj; exact ⟨s0, hi, ho⟩
      · rw [List.getElem?_set_ne hj] at e; exact ⟨s, e, ow⟩
    obtain ⟨a, a1, a2⟩ := was j sj hj oj
    obtain ⟨c, c1, c2⟩ := was k sk hk ok
    exact r.rel.di j k a c q hjk a1 c1 a2 c2 h1 h2
  · have ne : a ≠ p := ne_of_none e bn
    rw [upd_ne ne]
    exact r.gb.keep a u e n
  · by_cases hj : i = j
    · subst hj; exact r.ob i s0 q hi ho e3
    · rw [List.getElem?_set_ne hj] at e1; exact r.ob j s q e1 e2 e3
/-- what an owned slot holds stays from here on -/
def frzG (i : Nat) (g : Sg) : Sg := match g[i]? with
  | some (.ow xs) => g.set i (.va (.lst xs))
  | some (.od ks xs) => g.set i (.va (.dic ks xs))
  | _ => g
theorem RelB.frz1 {K : PySem.W.Frag} {b : Bs} {σ : L2.St} {H H0 : Hp} {S : Sto} {g : Sg} (r : RelB K b σ H H0 S g) {i : Nat} {s : Sl} {p : Addr} {o : HO} {d : D} (hi : g[i]? = some s) (ow : owns s = true) (hp : σ[i]? = some (some (.ref p))) (ho : H p = some o) (n0 : H0 p = none) (nS : S p = none)
    (rd : Rp K (upd H0 p o) (.ref p) d) : RelB K b σ H (upd H0 p o) S (g.set i (.va d)) := by
  obtain ⟨st, s0⟩ := freeze r.rel.st ho n0 nS
  have bn := r.ob i s p hi ow hp
  refine ⟨⟨st, by rw [List.length_set, r.rel.len], fun j sj e => ?_, fun j k sj sk q hjk hj hk oj ok h1 h2 => ?_⟩, ⟨r.gb.keep, fun a ha n => ?_, fun a u e => s0 a u (r.gb.sub a u e), r.gb.more, r.gb.new⟩, fun j sj q e1 e2 e3 => ?_⟩
  · by_cases hj : i = j
    · subst hj
      rw [List.getElem?_set_self (List.getElem?_eq_some_iff.mp hi).1] at e
      cases e
      exact ⟨_, hp, rd⟩
    · rw [List.getElem?_set_ne hj] at e
      have q := r.rel.sl j sj e
      cases sj with
      | un => exact True.intro
      | va d => obtain ⟨v, e1, e2⟩ := q; exact ⟨v, e1, e2.sub s0⟩
      | ow ds =>
        obtain ⟨p', xs, e0, e1, e2, e3, e4⟩ := q
        have ne : p' ≠ p := fun z => r.rel.di j i _ _ p (Ne.symm hj) e hi rfl ow (by rw [e0, z]) hp
        exact ⟨p', xs, e0, e1, by rw [upd_ne ne]; exact e2, e3, e4.sub s0⟩
      | od ks ds =>
        obtain ⟨p', xs, e0, e1, e2, e3, k, e4⟩ := q
        have ne : p' ≠ p := fun z => r.rel.di j i _ _ p (Ne.symm hj) e hi rfl ow (by rw [e0, z]) hp
        exact ⟨p', xs, e0, e1, by rw [upd_ne ne]; exact e2, e3, k, e4.sub s0⟩
  · have was : ∀ (j : Nat) s, (g.set i (.va d))[j]? = some s → owns s = true → g[j]? = some s := fun j s' e ow' => by
      by_cases hj : i = j
      · subst hj
        rw [List.getElem?_set_self (List.getElem?_eq_some_iff.mp hi).1] at e
        cases e; cases ow'
      · rw [List.getElem?_set_ne hj] at e; exact e
    exact r.rel.di j k sj sk q hjk (was j sj hj oj) (was k sk hk ok) oj ok h1 h2
  · have ne : a ≠ p := fun z => n (by rw [z]; exact bn)
    rw [upd_ne ne]; exact r.gb.old a ha n
  · by_cases hj : i = j
    · subst hj
      rw [List.getElem?_set_self (List.getElem?_eq_some_iff.mp hi).1] at e1
      cases e1; cases e2
    · rw [List.getElem?_set_ne hj] at e1; exact r.ob j sj q e1 e2 e3
theorem RelB.frz {K : PySem.W.Frag} {b : Bs} {σ : L2.St} {H H0 : Hp} {S : Sto} {g : Sg} (r : RelB K b σ H H0 S g) (i : Nat) : ∃ H0', RelB K b σ H H0' S (frzG i g) := by
  unfold frzG
  cases hg : g[i]? with
  | none => exact ⟨H0, r⟩
  | some s =>
    cases s with
    | un => exact ⟨H0, r⟩
    | va d => exact ⟨H0, r⟩
    | ow ds =>
      obtain ⟨p, xs, e0, e1, e2, e3, e4⟩ := r.rel.sl i _ hg
      obtain ⟨st, s0⟩ := freeze r.rel.st e1 e2 e3
      exact ⟨_, r.frz1 hg rfl e0 e1 e2 e3 (.lst upd_same (e4.sub s0))⟩
    | od ks ds =>
      obtain ⟨p, xs, e0, e1, e2, e3, k, e4⟩ := r.rel.sl i _ hg
      obtain ⟨st, s0⟩ := freeze r.rel.st e1 e2 e3
      exact ⟨_, r.frz1 hg rfl e0 e1 e2 e3 (.dic upd_same k (e4.sub s0))⟩

def Fin (K : PySem.W.Frag) (b : Bs) (Hs : Hp) (D : Ends) (o : Out) (S' : Sto) : Prop := match o with
  | .nx g' => ∀ σ' H' H0', RelB K b σ' H' H0' S' g' → Sub Hs H0' → D.nx σ' H'
  | .bk g' => ∀ σ' H' H0', RelB K b σ' H' H0' S' g' → Sub Hs H0' → D.bk σ' H'
  | .ct g' => ∀ σ' H' H0', RelB K b σ' H' H0' S' g' → Sub Hs H0' → D.ct σ' H'
  | .rt d => ∀ v H' H0', StR K H' H0' S' → Grow b.H b.H0 b.S H' H0' S' → Rp K H0' v d → D.rt v H'
theorem Fin.mono {K : PySem.W.Frag} {b : Bs} {Hs Ht : Hp} (sb : Sub Hs Ht) {D : Ends} {o : Out} {S' : Sto} (h : Fin K b Hs D o S') : Fin K b Ht D o S' := by
  cases o with
  | nx g => exact fun σ' H' H0' r q => h σ' H' H0' r fun a o z => q a o (sb a o z)
  | bk g => exact fun σ' H' H0' r q => h σ' H' H0' r fun a o z => q a o (sb a o z)
  | ct g => exact fun σ' H' H0' r q => h σ' H' H0' r fun a o z => q a o (sb a o z)
  | rt d => exact h
abbrev MS := Sg → T Out
def ls (K : PySem.W.Frag) (E : XK) (b : Bs) (m : MS) : TS := fun D σ H => ∃ g S H0 Qd Ed, RelB K b σ H H0 S g ∧ m g S Qd Ed ∧ (∀ o S', Qd o S' → Fin K b H0 D o S') ∧ ∀ x S', Ed x S' → EX K E b.H b.H0 b.S x S'
abbrev XS (X : Cx) (E : XK) (b : Bs) (st : Stmt) (m : MS) : Prop := PS X st (ls X.K E b m)
abbrev XSs (X : Cx) (E : XK) (b : Bs) (st : List Stmt) (m : MS) : Prop := PSs X st (ls X.K E b m)
section
variable {X : Cx} {E : XK} {b : Bs} {st : Stmt} {rest sa sb : List Stmt} {m ma mb : MS} {e c : Expr} {me : ME} {mt : MT} {pos : Pos}
def thenO (o : Out) (k : Sg → T Out) : T Out := match o with
  | .nx g => k g
  | o => T.pure o
theorem sbr {H : Hp} : Sub H H := fun _ _ q => q
theorem ss_nil : XSs X E b [] (fun g => T.pure (.nx g)) := pss_w pss_nil fun D σ H ⟨g, S, H0, Qd, Ed, r, hm, hq, he⟩ => hq _ S hm σ H H0 r sbr
theorem ss_cons (h1 : XS X E b st ma) (h2 : XSs X E b rest mb) : XSs X E b (st :: rest) (fun g => T.bind (ma g) fun o => thenO o mb) := by
  refine pss_w (pss_cons h1 h2) fun D σ H ⟨g, S, H0, Qd, Ed, r, hm, hq, he⟩ => ?_
  refine ⟨g, S, H0, _, Ed, r, hm, fun o S1 hf => ?_, he⟩
  cases o with
  | nx g1 => exact fun σ1 H1 H01 r1 sb => ⟨g1, S1, H01, Qd, Ed, r1, hf, fun o S' q => (hq o S' q).mono sb, he⟩
  | rt d => exact hq _ S1 hf
  | bk g1 => exact hq _ S1 hf
  | ct g1 => exact hq _ S1 hf
theorem ss_one (h1 : XS X E b st ma) : XSs X E b [st] ma := pss_one h1
theorem exb {K : PySem.W.Frag} {σ : L2.St} {H H0 : Hp} {S : Sto} {g : Sg} (r : RelB K b σ H H0 S g) {Ed : Xn → Sto → Prop} (he : ∀ x S', Ed x S' → EX K E b.H b.H0 b.S x S') : ∀ x S', Ed x S' → EX K E H H0 S x S' := fun x S' ex => (he x S' ex).grow r.rel.st r.gb
theorem s_ret (h : XE X E e me) : XS X E b (.Return (some e) pos) (fun g => T.bind (me g) fun d => T.pure (.rt d)) := by
  refine ps_w (ps_ret h) fun D σ H ⟨g, S, H0, Qd, Ed, r, hm, hq, he⟩ => ?_
  exact ⟨g, S, H0, _, Ed, r.rel, hm, fun d S1 hf v H1 H01 st1 gr1 r1 => hq _ S1 hf v H1 H01 st1 (r.gb.trans r.rel.st gr1) r1, exb r he⟩
theorem s_if (hc : XT X E c mt) (ha : XSs X E b sa ma) (hb : XSs X E b sb mb) : XS X E b (.If c sa sb pos) (fun g => T.bind (mt g) fun k => T.ite k (ma g) (mb g)) := by
  refine ps_w (ps_if hc ha hb) fun D σ H ⟨g, S, H0, Qd, Ed, r, hm, hq, he⟩ => ?_
  refine ⟨g, S, H0, _, Ed, r.rel, hm, fun k S1 hf H1 H01 st1 gr1 => ?_, exb r he⟩
  cases k with
  | true =>
    have hf := T.iteT hf
    exact ⟨g, S1, H01, Qd, Ed, r.grow st1 gr1, hf, fun o S' q => (hq o S' q).mono gr1.sub, he⟩
  | false =>
    have hf := T.iteF hf
    exact ⟨g, S1, H01, Qd, Ed, r.grow st1 gr1, hf, fun o S' q => (hq o S' q).mono gr1.sub, he⟩
theorem s_drop (h : XE X E e me) (hs : swapsWith e none pos.line X.env = pure false := by rfl) : XS X E b (.Expr e pos) (fun g => T.bind (me g) fun _ => T.pure (.nx g)) := by
  refine ps_w (ps_expr h hs) fun D σ H ⟨g, S, H0, Qd, Ed, r, hm, hq, he⟩ => ?_
  exact ⟨g, S, H0, _, Ed, r.rel, hm, fun d S1 hf v H1 H01 st1 gr1 r1 => hq _ S1 hf σ H1 H01 (r.grow st1 gr1) gr1.sub, exb r he⟩
/-- name = e -/
def setV (me : ME) (i : Nat) : MS := fun g => T.bind (me g) fun d => T.pure (.nx (g.set i (.va d)))
def ownD (g : Sg) (i : Nat) : D → T Out
  | .lst xs => T.pure (.nx (g.set i (.ow xs)))
  | .dic ks xs => T.pure (.nx (g.set i (.od ks xs)))
  | _ => T.fail
def setO (me : ME) (i : Nat) : MS := fun g => T.bind (me g) fun d => ownD g i d
theorem asg_v {i : Nat} {te : TE} (hw : ∀ σ H Q, lf X.K E (RF X.K) me σ H Q → te σ H Q) : ∀ D σ H, ls X.K E b (setV me i) D σ H → tAsg te (gName i) D σ H := fun D σ H ⟨g, S, H0, Qd, Ed, r, hm, hq, he⟩ =>
  hw _ _ _ ⟨g, S, H0, _, Ed, r.rel, hm, fun d S1 hf v H1 H01 st1 gr1 r1 => hq _ S1 hf _ H1 H01 ((r.grow st1 gr1).set r1 i) gr1.sub, exb r he⟩
theorem asg_o {i : Nat} {te : TE} (hw : ∀ σ H Q, lf X.K E (RN X.K) me σ H Q → te σ H Q) : ∀ D σ H, ls X.K E b (setO me i) D σ H → tAsg te (gName i) D σ H := fun D σ H ⟨g, S, H0, Qd, Ed, r, hm, hq, he⟩ =>
  hw _ _ _ ⟨g, S, H0, _, Ed, r.rel, hm, fun d S1 hf v H1 H01 st1 gr1 r1 => by
    rcases r1 with ⟨p, xs, ds, rfl, rfl, h0, h1, h2, h3, rr⟩ | ⟨p, kvs, ks, ds, rfl, rfl, h0, h1, h2, h3, k, rr⟩
    · exact hq _ S1 hf _ H1 H01 (r.own st1 gr1 h0 i ⟨p, xs, rfl, h1, h2, h3, rr⟩) gr1.sub
    · exact hq _ S1 hf _ H1 H01 (r.own st1 gr1 h0 i ⟨p, kvs, rfl, h1, h2, h3, k, rr⟩) gr1.sub, exb r he⟩
theorem s_set (i : Nat) {x : Str} {pos' : Pos} (hN : X.N.Nodup) (h : XE X E e me) (hi : X.N[i]? = some x := by rfl) (hx : Loc X.env.scope x := by first | exact .inl rfl | exact .inr rfl) (hs : swapsWith e (some (.Name x pos')) pos.line X.env = pure false := by rfl)
    (hf : X.fn x = true ∨ X.env.scope.names.lookup x = some .local := by first | exact .inl rfl | exact .inr rfl) : XS X E b (.Assign [.Name x pos'] e pos) (setV me i) := ps_w (ps_set hN hi hx h hs hf) (asg_v fun _ _ _ q => q)
theorem s_setN (i : Nat) {x : Str} {pos' : Pos} (hN : X.N.Nodup) (h : XN X E e me) (hi : X.N[i]? = some x := by rfl) (hx : Loc X.env.scope x := by first | exact .inl rfl | exact .inr rfl) (hs : swapsWith e (some (.Name x pos')) pos.line X.env = pure false := by rfl)
    (hf : X.fn x = true ∨ X.env.scope.names.lookup x = some .local := by first | exact .inl rfl | exact .inr rfl) : XS X E b (.Assign [.Name x pos'] e pos) (setO me i) := ps_w (ps_set hN hi hx h hs hf) (asg_o fun _ _ _ q => q)
/-- a target of any kind -/
theorem s_asg {tg : Expr} {is : List Nat} {t : TG} {f : D → Sg → T Sg} (h : XE X E e me) (hg : PG X tg t) (ht : TgS X.K is t f) (hs : swapsWithSole [tg] e pos.line X.env = pure false := by rfl) (hw : swappedStores [tg] e X.env = pure none := by rfl)
    (h1 : (assignEach [tg] X.env).map (·.2) = [assign tg X.env] := by rfl) : XS X E b (.Assign [tg] e pos) (fun g => T.bind (me g) fun d => T.bind (f d g) fun g' => T.pure (.nx g')) := by
  refine ps_w (ps_asg h hg hs hw h1) fun D σ H ⟨g, S, H0, Qd, Ed, r, hm, hq, he⟩ => ?_
  refine ⟨g, S, H0, _, Ed, r.rel, hm, fun d S1 hf v H1 H01 st1 gr1 r1 => ?_, exb r he⟩
  have r2 := r.grow st1 gr1
  exact ht v d σ g H1 H01 S1 _ Ed _ r2.rel r1 hf fun g' hg' σ' hl ha un ow => hq _ S1 hg' σ' H1 H01 (r2.owned (un _ _ _ r2.rel sbr) ow) gr1.sub
/-! ### loops -/
def forT (f : D → Sg → T Sg) (body : MS) : List D → MS
  | [], g => T.pure (.nx g)
  | d :: r, g => T.bind (f d g) fun g1 => T.bind (body g1) fun o => match o with
    | .nx g2 => forT f body r g2
    | .ct g2 => forT f body r g2
    | .bk g2 => T.pure (.nx g2)
    | .rt d => T.pure (.rt d)
theorem s_for {tg iter : Expr} {body : List Stmt} {is : List Nat} {t : TG} {f : D → Sg → T Sg} {mi : MI} {mb : MS} (hp : PassesOwn (model X.prog X.w) X.A X.env X.xe) (hc : X.calm = true) (hi : XI X E tg iter mi) (hg : PG X tg t) (ht : TgS X.K is t f) (hb : XSs X E b body mb)
    (hs : ∀ x, foldedSetIterable iter X.env x = pure x := by intro _; rfl) : XS X E b (.For tg iter body [] pos) (fun g => T.bind (mi g) fun ds => forT f mb ds g) := by
  refine ps_w (ps_for hp hc hi hg hb hs) fun D σ H ⟨g, S, H0, Qd, Ed, r, hm, hq, he⟩ => ?_
  refine ⟨g, S, H0, _, Ed, r.rel, hm, fun ds S1 hf J H1 H01 st1 gr1 wk => ?_, exb r he⟩
  have hq1 : ∀ o S', Qd o S' → Fin X.K b H01 D o S' := fun o S' q => (hq o S' q).mono gr1.sub
  refine ⟨fun i k σ2 H2 => k = ds.length - i ∧ i ≤ ds.length ∧ ∃ g2 S2 H02, RelB X.K b σ2 H2 H02 S2 g2 ∧ Sub H01 H02 ∧ forT f mb (ds.drop i) g2 S2 Qd Ed,
    ⟨ds.length, by simp, Nat.zero_le _, g, S1, H01, r.grow st1 gr1, sbr, hf⟩, ?_⟩
  rintro i k σ2 H2 ⟨rfl, hle, g2, S2, H02, r2, s2, hr⟩
  by_cases hlt : i < ds.length
  · have hd : ds[i]? = some ds[i] := List.getElem?_eq_getElem hlt
    rw [List.drop_eq_getElem_cons hlt] at hr
    obtain ⟨go, yld⟩ := (wk H2 H02 S2 r2.rel.st s2 i).1 _ hd
    refine .inr ⟨go, fun σ3 H3 => i + 1 ≤ ds.length ∧ ∃ g3 S3 H03, RelB X.K b σ3 H3 H03 S3 g3 ∧ Sub H01 H03 ∧ forT f mb (ds.drop (i + 1)) g3 S3 Qd Ed, fun σ3 H3 q => ⟨ds.length - (i + 1), by omega, rfl, q⟩, fun x H3 hy => ?_⟩
    obtain ⟨H03, st3, gr3, rx⟩ := yld x H3 hy
    have r3 := r2.grow st3 gr3
    have s3 : Sub H01 H03 := fun a o q => gr3.sub a o (s2 a o q)
    refine ht x ds[i] σ2 g2 H3 H03 S2 _ Ed _ r3.rel rx hr fun g4 hg4 σ4 hl ha un ow => ?_
    have r4 := r3.owned (un _ _ _ r3.rel sbr) ow
    refine ⟨g4, S2, H03, _, Ed, r4, hg4, fun o S5 hf5 => ?_, he⟩
    cases o with
    | nx g5 => exact fun σ5 H5 H05 r5 s5 => ⟨hlt, g5, S5, H05, r5, fun a o q => s5 a o (s3 a o q), hf5⟩
    | ct g5 => exact fun σ5 H5 H05 r5 s5 => ⟨hlt, g5, S5, H05, r5, fun a o q => s5 a o (s3 a o q), hf5⟩
    | bk g5 => exact fun σ5 H5 H05 r5 s5 => hq1 _ S5 hf5 σ5 H5 H05 r5 fun a o q => s5 a o (s3 a o q)
    | rt d => exact hq1 _ S5 hf5
  · obtain rfl : i = ds.length := by omega
    rw [List.drop_length] at hr
    exact .inl ⟨(wk H2 H02 S2 r2.rel.st s2 _).2 rfl, hq1 _ S2 hr σ2 H2 H02 r2 s2⟩
/-! ### x.append(e), x[i] = e; x a slot of its own -/
def appO (i : Nat) (me : ME) : MS := fun g => match g[i]? with
  | some (.ow xs) => T.bind (me g) fun d => T.bind (dNeed (xs.length < sizeLine)) fun _ => T.pure (.nx (g.set i (.ow (xs ++ [d]))))
  | _ => T.fail
theorem appO_inv {i : Nat} {me : ME} {g : Sg} {S : Sto} {Qd : Out → Sto → Prop} {Ed : Xn → Sto → Prop} (h : appO i me g S Qd Ed) : ∃ xs, g[i]? = some (.ow xs) ∧ me g S (fun d S' => xs.length < sizeLine ∧ Qd (.nx (g.set i (.ow (xs ++ [d])))) S') Ed := by
  unfold appO at h
  cases hg : g[i]? with
  | none => rw [hg] at h; exact h.elim
  | some s =>
    rw [hg] at h
    cases s with
    | ow xs => exact ⟨xs, rfl, h⟩
    | _ => exact h.elim
theorem s_app (i : Nat) {x : Str} {px apos cpos epos : Pos} (hv : PE X (.Name x px) (tVar i)) (h : XE X E e me) (hbase : attributeBase (.Name x px) "append" X.env (eval (.Name x px) X.env) = eval (.Name x px) X.env := by rfl)
    (hfew : ((backTo cpos (starEach [e] X.env)).all (fun x => !x.1) && (backToKw cpos (keywordEach [] X.env)).all (fun x => x.1.isSome)
      && decide ([e].length + ([] : List Keyword).length + (if ([] : List Keyword).isEmpty then 0 else 1) < 30)) = true := by rfl)
    (hline : (apos.endLine == cpos.line) = true := by rfl) (hs : starEach [e] X.env = (false, eval e X.env) :: starEach [] X.env := by rfl) (hsw : swapsWith (.Call (.Attribute (.Name x px) "append" apos) [e] [] cpos) none epos.line X.env = pure false := by rfl) :
    XS X E b (.Expr (.Call (.Attribute (.Name x px) "append" apos) [e] [] cpos) epos) (appO i me) := by
  refine ps_w (ps_expr (pe_bm PySem.F.plainAttrs_list PySem.F.slot_list_append PySem.F.type_list_append mt_append hv (pa_cons h pa_nil hs) hbase hfew hline hs rfl) hsw) fun D σ H ⟨g, S, H0, Qd, Ed, r, hm, hq, he⟩ => ?_
  obtain ⟨xs, hg, hm⟩ := appO_inv hm
  obtain ⟨p, vs, e0, e1, e2, e3, e4⟩ := r.rel.sl i _ hg
  refine ⟨_, e0, .inl ⟨rfl, vs, .of e1⟩, g, S, H0, _, Ed, r.rel, hm, fun d S1 hf v H1 H01 st1 gr1 r1 => ?_, exb r he⟩
  obtain ⟨hz, hf⟩ := hf
  have r2 := r.grow st1 gr1
  obtain ⟨p', vs', e0', e1', e2', e3', e4'⟩ := r2.rel.sl i _ hg
  rw [e0] at e0'
  cases e0'
  refine ⟨p, vs', v, rfl, rfl, e1', by rw [e4'.length]; exact hz, ?_⟩
  exact hq _ S1 hf σ _ H01 (r2.write hg rfl e0 ⟨p, _, rfl, upd_same, e2', e3', e4'.append (.cons r1 .nil)⟩ rfl) gr1.sub
end

/-! ### defs -/
/-- a def's promise, in data -/
def SpT (K : PySem.W.Frag) (n : Nat) (F : List D → T D) : Sp := fun vs H Q E => ∃ ds S H0 Qd Ed, StR K H H0 S ∧ Rps K H0 vs ds ∧ ds.length = n ∧ F ds S Qd Ed ∧
  (∀ d S', Qd d S' → ∀ v H' H0', StR K H' H0' S' → Grow H H0 S H' H0' S' → Rp K H0' v d → Q v H') ∧ ∀ x S', Ed x S' → EX K E H H0 S x S'
def startG (m : Nat) (ds : List D) : Sg := ds.map Sl.va ++ List.replicate (m - ds.length) .un
def outD : Out → T D
  | .nx _ => T.pure .non
  | .rt d => T.pure d
  | _ => T.fail
/-- a body run at arguments -/
def runD (m : MS) (k : Nat) (ds : List D) : T D := T.bind (m (startG k ds)) outD
theorem rel_start {K : PySem.W.Frag} {H H0 : Hp} {S : Sto} (st : StR K H H0 S) {N : List Str} {vs : List V} {ds : List D} (r : Rps K H0 vs ds) : Rel K (L2.start N vs) H H0 S (startG N.length ds) := by
  have hl := r.length
  refine ⟨st, by unfold L2.start startG; simp [hl], fun i s e => ?_, fun i j si sj p _ hi hj oi => ?_⟩
  · unfold startG at e
    unfold L2.start
    by_cases hi : i < ds.length
    · rw [List.getElem?_append_left (by simpa using hi), List.getElem?_map, List.getElem?_eq_getElem hi] at e
      cases e
      obtain ⟨v, hv, rv⟩ := r.get (List.getElem?_eq_getElem hi)
      refine ⟨v, ?_, rv⟩
      rw [List.getElem?_append_left (by simpa [hl] using hi), List.getElem?_map, hv]; rfl
    · rw [List.getElem?_append_right (by simpa using hi), List.getElem?_replicate] at e
      split at e
      · cases e; exact True.intro
      · cases e
  · unfold startG at hi
    by_cases h : i < ds.length
    · rw [List.getElem?_append_left (by simpa using h), List.getElem?_map, List.getElem?_eq_getElem h] at hi
      cases hi; cases oi
    · rw [List.getElem?_append_right (by simpa using h), List.getElem?_replicate] at hi
      split at hi
      · cases hi; cases oi
      · cases hi
theorem relB_start {K : PySem.W.Frag} {H H0 : Hp} {S : Sto} (st : StR K H H0 S) {N : List Str} {vs : List V} {ds : List D} (r : Rps K H0 vs ds) : RelB K ⟨H, H0, S⟩ (L2.start N vs) H H0 S (startG N.length ds) :=
  ⟨rel_start st r, Grow.refl _ _ _, fun i s p e ow => by
    unfold startG at e
    by_cases h : i < ds.length
    · rw [List.getElem?_append_left (by simpa using h), List.getElem?_map, List.getElem?_eq_getElem h] at e
      cases e; cases ow
    · rw [List.getElem?_append_right (by simpa using h), List.getElem?_replicate] at e
      split at e
      · cases e; cases ow
      · cases e⟩
section
variable {P : Program} {w : World} {K : PySem.W.Frag} {mg : Str → Option Value} {base : Heap}
abbrev FnP (K : PySem.W.Frag) (x qual : Str) (st : Stmt) (f : Addr) (fd : FuncData) : Prop := FunD K x qual (defArgs st) (defBody st) (defScope st) [] [] f fd
abbrev bodyCx (P : Program) (w : World) (K : PySem.W.Frag) (mg : Str → Option Value) (base : Heap) (N : List Str) (qual : Str) (st : Stmt) (f : Addr) (cdv : Value) (A : Around) (outer : List Env) (s : Shared) (H : Hp) (E : XK) : Cx := cxOf (L2N.CX P w) P w K mg base N qual (defScope st) f cdv A outer s H E
/-- THE RULE for a def -/
theorem mk_fn {x qual : Str} {st : Stmt} {f : Addr} {fd : FuncData} {N ps : List Str} {k n : Nat} {F : List D → T D} {m : MS} (Fn : FnP K x qual st f fd) (Sc : FnScope N ps (defScope st)) (hn : n = ps.length)
    (hbody : ∀ (cdv : Value) (A : Around) (outer : List Env) (s : Shared) (H : Hp) (E : XK) (b : Bs), Room k (bodyCx P w K mg base N qual st f cdv A outer s H E).A → XSs (bodyCx P w K mg base N qual st f cdv A outer s H E) E b (defBody st) m)
    (hF : ∀ ds S Qd Ed, ds.length = n → F ds S Qd Ed → runD m N.length ds S Qd Ed) : FnOk P w K mg base (L2N.CX P w) (k + 1) f fd ps (SpT K n F) := by
  refine FunD.ok Fn Sc (fun vs H Q E h => ?_) fun cdv A outer s H vs Q E hr h => ?_
  · obtain ⟨ds, S, H0, Qd, Ed, st', r, hl, _⟩ := h
    rw [r.length, hl, hn]
  · obtain ⟨ds, S, H0, Qd, Ed, st', r, hl, hf, hq, he⟩ := h
    refine ⟨_, hbody cdv A outer s H E ⟨H, H0, S⟩ hr, startG N.length ds, S, H0, _, Ed, relB_start st' r, hF ds S Qd Ed hl hf, fun o S' q => ?_, he⟩
    cases o with
    | nx g => exact fun σ' H' H0' r' _ => hq _ S' q _ H' H0' r'.rel.st r'.gb .non
    | rt d => exact fun v H' H0' st2 gr2 rv => hq _ S' q v H' H0' st2 gr2 rv
    | bk g => exact q.elim
    | ct g => exact q.elim
end
section
variable {X : Cx} {k n : Nat} {f : Addr} {fd : FuncData} {ps : List Str} {F : List D → T D} {E : XK} {x : Str} {p pos : Pos} {e : Expr} {es : List Expr} {m : MA}
theorem x_call (G : FnOk X.prog X.w X.K X.mg X.base (L2N.CX X.prog X.w) k f fd ps (SpT X.K n F)) (hr : Room k X.A) (hm : X.mg x = some (.ref f)) (hk : PySem.W.keepIn X.K (.ref f) = true) (hb : Binds X.K fd ps []) (hx : Passes (L2N.CX X.prog X.w) X E) (ha : XA X E (e :: es) m) (hg : Gl X x := by rfl)
    (hdb : (x == ("__debug__" : Str)) = false := by decide) (he : starEach (e :: es) X.env = (false, eval e X.env) :: starEach es X.env := by rfl) (hpl : (backTo pos (starEach es X.env)).any (·.1) = false := by rfl) :
    XE X E (.Call (.Name x p) (e :: es) [] pos) (fun g => T.bind (m g) fun ds => T.bind (dNeed (ds.length = n)) fun _ => F ds) := by
  refine pe_w (pe_call G hr hg hm hk hb .nil hx ha hdb he hpl) fun σ H Q ⟨g, S, H0, Qd, Ed, rel, hm, hq, he⟩ => ?_
  refine ⟨g, S, H0, _, Ed, rel, hm, fun ds S1 hf vs H1 H01 st1 gr1 r1 => ?_, he⟩
  obtain ⟨hn, hf⟩ := hf
  rw [List.append_nil]
  exact ⟨ds, S1, H01, Qd, Ed, st1, r1, hn, hf, fun d S' q v H' H0' st' gr' rv => hq d S' q v H' H0' st' (gr1.trans st1 gr') rv, fun x S' ex => (he x S' ex).grow st1 gr1⟩
theorem x_call0 (G : FnOk X.prog X.w X.K X.mg X.base (L2N.CX X.prog X.w) k f fd ps (SpT X.K 0 F)) (hr : Room k X.A) (hm : X.mg x = some (.ref f)) (hk : PySem.W.keepIn X.K (.ref f) = true) (hb : Binds X.K fd ps []) (hx : Passes (L2N.CX X.prog X.w) X E) (hg : Gl X x := by rfl)
    (hdb : (x == ("__debug__" : Str)) = false := by decide) : XE X E (.Call (.Name x p) [] [] pos) (fun _ => F []) := by
  refine pe_w (pe_call0 G hr hg hm hk hb .nil hx hdb) fun σ H Q ⟨g, S, H0, Qd, Ed, rel, hm, hq, he⟩ => ?_
  exact ⟨[], S, H0, Qd, Ed, rel.st, .nil, rfl, hm, hq, he⟩
end
end DL

set_option Elab.async false
set_option linter.all false
set_option maxRecDepth 100000
/-! several except clauses, each with a name of its own for what it caught -/
namespace TryN
open PySem PySem.Spec PyProof.Rows L2
/-- a clause: its class, its name's slot, what its suite does -/
structure Cl where
  c : Value
  i : Nat
  ts : Addr → Value → Option Addr → TS
def gone (D : Ends) (i : Nat) : Ends where
  nx := fun σ H => D.nx (σ.set i none) H
  rt := D.rt
  bk := fun σ H => D.bk (σ.set i none) H
  ct := fun σ H => D.ct (σ.set i none) H
def wish (K : PySem.W.Frag) (L : Nat) (Wout : WX) (D : Ends) : List Cl → WX
  | [] => Wout
  | k :: r => fun cls d σ H => ∃ b, PySem.W.exmOne K cls k.c = some b ∧ (b = true → ∀ a, H a = none → σ.length = L → k.ts a cls d (gone D k.i) (σ.set k.i (some (.ref a))) H) ∧ (b = false → wish K L Wout D r cls d σ H)
end TryN

set_option Elab.async false
set_option linter.all false
set_option maxRecDepth 100000
set_option maxHeartbeats 4000000
namespace DL
open PySem PySem.Spec PyProof.Rows L2 STx OrdS

/-! ### raise -/
/-- what is known of an error's class -/
structure ExcF (K : PySem.W.Frag) (mg : Str → Option Value) (x : Str) : Prop where
  gl : mg x = some (.ref (He.ga K x))
  ex : (He.Fa.exc x).ok K = true
section
variable {X : Cx} {E : XK} {b : Bs} {C : Addr} {x m : Str} {j : Nat} {p p2 pos pos2 : Pos}
theorem s_raise (hc : X.calm = true) (tk : L2N.Takes X (fun cls d _ H => E cls d H)) (F : ExcF X.K X.mg x) (hg : Gl X x := by rfl) (hdb : (x == ("__debug__" : Str)) = false := by decide) :
    XS X E b (.Raise (some (.Call (.Name x p) [.Constant (.str m) j p2] [] pos)) none pos2) (fun _ => T.raise ⟨x, []⟩) :=
  ps_w (L2N.ps_raise hc tk (L2N.pmk_own PySem.F.excBase_ValueError (He.exc_ok F.ex).1 F.gl (He.exc_ok F.ex).2.1 (raises_own (He.exc_ok F.ex).2.2.1 (He.exc_ok F.ex).2.2.2) hg hdb)) fun D σ H ⟨g, S, H0, Qd, Ed, r, hm, hq, he⟩ => he _ _ hm none H H0 r.rel.st r.gb (.inl ⟨rfl, rfl⟩)
end

/-! ### products, sums -/
section
variable {X : Cx} {E : XK} {a b : Expr} {pos : Pos} {ma mb : ME}
abbrev dMul := dI CMul fun i j => D.int (i * j)
theorem x_mul (ha : XB X E a ma) (hb : XB X E b mb) : XE X E (.BinOp a .Mult b pos) (mb2 dMul ma mb) := x_op back_F op_mul (s_I fun _ _ _ => .int _) ha hb
end

/-! ### the store's lists and sources, written -/
theorem StR.upS {K : PySem.W.Frag} {H H0 : Hp} {S : Sto} (st : StR K H H0 S) {a : Addr} {m m' : MO} (ha : S a = some m) (hn : NoCode H a) {o : HO} (hm : RpM K H0 (upd H a o) a m') : StR K (upd H a o) H0 (S.up a m') ∧ Grow H H0 S (upd H a o) H0 (S.up a m') := by
  have n0 : H0 a = none := st.nos a (by rw [ha]; exact fun z => nomatch z)
  refine ⟨⟨fun b u e => ?_, fun b n => ?_, fun b u e => ?_⟩, ⟨fun b u e n => ?_, fun b e _ => e, fun _ _ e => e, fun b n => ?_, fun b n => ?_⟩⟩
  · rw [upd_ne (ne_of_none e n0)]; exact st.sub b u e
  · unfold Sto.up at n
    by_cases hb : b = a
    · rw [hb]; exact n0
    · rw [if_neg hb] at n; exact st.nos b n
  · unfold Sto.up at e
    by_cases hb : b = a
    · subst hb
      rw [if_pos rfl] at e
      cases e; exact hm
    · rw [if_neg hb] at e
      exact (st.sto b u e).keep (fun _ _ q => q) (upd_ne hb) (keepC_upd hn o)
  · have hb : b ≠ a := fun z => by rw [z, ha] at n; cases n
    rw [upd_ne hb]; exact e
  · unfold Sto.up
    by_cases hb : b = a
    · rw [if_pos hb]; exact fun z => nomatch z
    · rw [if_neg hb]; exact n
  · unfold Sto.up at n
    by_cases hb : b = a
    · exact .inl (by rw [hb, ha]; exact fun z => nomatch z)
    · rw [if_neg hb] at n; exact .inl n
theorem sto_same {S : Sto} {a : Addr} {m : MO} (h : S a = some m) : S.up a m = S := by
  funext b
  unfold Sto.up
  by_cases hb : b = a
  · rw [if_pos hb, hb, h]
  · rw [if_neg hb]
def dPut (o i d : D) (g : Sg) : T Out := match o, i with
  | .ref a, .int k => dPutR a k d g
  | _, _ => T.fail
theorem dPut_inv {o i d : D} {g : Sg} {S : Sto} {Qd : Out → Sto → Prop} {Ed : Xn → Sto → Prop} (h : dPut o i d g S Qd Ed) : ∃ a k, o = .ref a ∧ i = .int k ∧ dPutR a k d g S Qd Ed := by
  unfold dPut at h
  split at h
  · exact ⟨_, _, rfl, rfl, h⟩
  · exact h.elim
section
variable {X : Cx} {E : XK} {b : Bs} {e o i : Expr} {pos tpos : Pos} {me mo mi : ME}
/-- o[i] = e -/
theorem s_put (he : XE X E e me) (ho : XE X E o mo) (hi : XE X E i mi) (hs : swapsWithSole [.Subscript o i tpos] e pos.line X.env = pure false := by rfl) (hw : swappedStores [.Subscript o i tpos] e X.env = pure none := by rfl)
    (h1 : (assignEach [.Subscript o i tpos] X.env).map (·.2) = [assign (.Subscript o i tpos) X.env] := by rfl)
    (ha : ∀ v, assign (.Subscript o i tpos) X.env v = (do
      let ov ← holding [v] (eval o X.env)
      let iv ← holding [v, ov] (eval i X.env)
      standAt tpos
      holding [v, ov, iv] (setItem ov iv v)
      release [v, ov, iv] []) := by intro _; rfl) :
    XS X E b (.Assign [.Subscript o i tpos] e pos) (fun g => T.bind (me g) fun d => T.bind (mo g) fun x => T.bind (mi g) fun y => dPut x y d g) := by
  refine ps_w (ps_asg he (pg_sub ho hi set_list ha) hs hw h1) fun D σ H ⟨g, S, H0, Qd, Ed, r, hm, hq, he⟩ => ?_
  refine ⟨g, S, H0, _, Ed, r.rel, hm, fun d S1 hf v H1 H01 st1 gr1 r1 => ?_, exb r he⟩
  have g1 := r.grow st1 gr1
  refine ⟨g, S1, H01, _, Ed, g1.rel, hf, fun x S2 hf2 w H2 H02 st2 gr2 r2 => ?_, exb g1 he⟩
  have g2 := g1.grow st2 gr2
  refine ⟨g, S2, H02, _, Ed, g2.rel, hf2, fun y S3 hf3 u H3 H03 st3 gr3 r3 => ?_, exb g2 he⟩
  have g3 := g2.grow st3 gr3
  have rv : Rp X.K H03 v d := r1.sub fun a o q => gr3.sub a o (gr2.sub a o q)
  have ro : Rp X.K H03 w x := r2.sub gr3.sub
  have sbA : Sub H0 H03 := fun a o q => gr3.sub a o (gr2.sub a o (gr1.sub a o q))
  obtain ⟨a, k, e1, e2, hf5⟩ := dPut_inv hf3
  clear hf3
  have hf3 := hf5
  clear hf5
  subst e1 e2
  cases ro
  cases r3
  unfold dPutR at hf3
  cases q : S3 a with
  | none => rw [q] at hf3; exact hf3.elim
  | some mo =>
    rw [q] at hf3
    have rm := st3.sto a mo q
    cases mo with
    | src =>
      obtain ⟨c, s, h1, c0, c1, s0, s1⟩ := rm
      rcases hf3 with ⟨rfl, z, rfl, z0, z1, hf3⟩ | ⟨rfl, z, rfl, z0, z1, hf3⟩
      · cases rv
        obtain ⟨st4, gr4⟩ := st3.upS (m' := .src) q (noCode_lst h1) (o := .lst [.int z, .int s]) ⟨z, s, upd_same, z0, z1, s0, s1⟩
        rw [sto_same q] at st4 gr4
        exact ⟨a, _, 0, 0, rfl, rfl, h1, rfl, hq _ _ hf3 _ _ _ (g3.grow st4 gr4) (fun a o q => gr4.sub a o (sbA a o q))⟩
      · cases rv
        obtain ⟨st4, gr4⟩ := st3.upS (m' := .src) q (noCode_lst h1) (o := .lst [.int c, .int z]) ⟨c, z, upd_same, c0, c1, z0, z1⟩
        rw [sto_same q] at st4 gr4
        exact ⟨a, _, 1, 1, rfl, rfl, h1, rfl, hq _ _ hf3 _ _ _ (g3.grow st4 gr4) (fun a o q => gr4.sub a o (sbA a o q))⟩
    | lst xs =>
      obtain ⟨vs, h1, rs⟩ := rm
      obtain ⟨j, hj, hf3⟩ := hf3
      obtain ⟨st4, gr4⟩ := st3.upS (m' := .lst (xs.set j d)) q (noCode_lst h1) (o := .lst (vs.set j v)) ⟨_, upd_same, rs.set rv j⟩
      exact ⟨a, _, k, j, rfl, rfl, h1, by rw [rs.length]; exact hj, hq _ _ hf3 _ _ _ (g3.grow st4 gr4) (fun a o q => gr4.sub a o (sbA a o q))⟩
    | _ => exact hf3.elim
/-- return [c, s]: a new source -/
def srcR (c s : Int) : T Out := fun S Q E => (0 ≤ c ∧ c < 2 ^ srcBits ∧ 0 ≤ s ∧ s < 2147483648) ∧ ∀ a, S a = none → Q (.rt (.ref a)) (S.up a .src)
def srcD : D → T Out
  | .lst [.int c, .int s] => srcR c s
  | _ => T.fail
theorem StR.newS {K : PySem.W.Frag} {H H0 : Hp} {S : Sto} (st : StR K H H0 S) {a : Addr} {m' : MO} (n0 : H0 a = none) (hm : RpM K H0 H a m') : StR K H H0 (S.up a m') := by
  refine ⟨st.sub, fun b n => ?_, fun b u e => ?_⟩
  · unfold Sto.up at n
    by_cases hb : b = a
    · rw [hb]; exact n0
    · rw [if_neg hb] at n; exact st.nos b n
  · unfold Sto.up at e
    by_cases hb : b = a
    · subst hb
      rw [if_pos rfl] at e
      cases e; exact hm
    · rw [if_neg hb] at e
      exact st.sto b u e
theorem Grow.newS {H H0 : Hp} {S : Sto} {H' H0' : Hp} {S' : Sto} (g : Grow H H0 S H' H0' S') {a : Addr} {m' : MO} (hn : H a = none) : Grow H H0 S H' H0' (S'.up a m') := by
  refine ⟨g.keep, g.old, g.sub, fun b n => ?_, fun b n => ?_⟩
  · unfold Sto.up
    by_cases hb : b = a
    · rw [if_pos hb]; exact fun z => nomatch z
    · rw [if_neg hb]; exact g.more b n
  · unfold Sto.up at n
    by_cases hb : b = a
    · exact .inr (by rw [hb]; exact hn)
    · rw [if_neg hb] at n; exact g.new b n
theorem s_retSrc (h : XN X E e me) : XS X E b (.Return (some e) pos) (fun g => T.bind (me g) srcD) := by
  refine ps_w (ps_ret h) fun D σ H ⟨g, S, H0, Qd, Ed, r, hm, hq, he⟩ => ?_
  refine ⟨g, S, H0, _, Ed, r.rel, hm, fun d S1 hf v H1 H01 st1 gr1 r1 => ?_, exb r he⟩
  have gb := r.gb.trans r.rel.st gr1
  unfold srcD at hf
  split at hf
  · rename_i c s
    obtain ⟨⟨c0, c1, s0, s1⟩, hf⟩ := hf
    rcases r1 with ⟨p, xs, ds, rfl, e2, h0, h1, h2, h3, rr⟩ | ⟨p, kvs, ks, ds, e1, e2, _⟩
    · cases e2
      cases rr with
      | cons ra rr => cases rr with
        | cons rb rr =>
          cases rr; cases ra; cases rb
          have bn : b.H p = none := r.gb.fresh r.rel.st h0
          exact hq _ _ (hf p h3) _ H1 H01 (st1.newS h2 (m' := .src) ⟨c, s, h1, c0, c1, s0, s1⟩) (gb.newS bn) (.ref p)
    · cases e2
  · exact hf.elim
end
end DL

set_option Elab.async false
set_option linter.all false
set_option maxRecDepth 100000
set_option maxHeartbeats 4000000
/-! a lambda made, handed on: the heap told in full -/
namespace Lam3
open PySem PySem.Spec PyProof.Rows L2 LamX
/-- nothing new, or a code object at c' that the table at P tells -/
def Step (H H1 : Hp) (P : Addr) (q : Str) : Prop := H1 = H ∨ ∃ ps ps' c', H P = some (.tbl ps) ∧ H c' = none ∧ H1 = upd (upd H P (.tbl ps')) c' (CodeO c' q) ∧ TabS H1 P q
theorem tabS_more {H : Hp} {P c' : Addr} {q : Str} {ps : Array Value} {pos : Pos} (hP : H P = some (.tbl ps)) (ht : TriplesOk ps.toList) (ha : ∀ (pos : Pos) (cv : Value), codeAmong pos ps.toList = some cv → ∃ c, cv = .ref c ∧ H c = some (CodeO c q)) (nC : H c' = none) :
    TabS (upd (upd H P (.tbl (ps ++ #[rawInt pos.line, rawInt pos.col, .ref c']))) c' (CodeO c' q)) P q := by
  have eL : (ps ++ #[rawInt pos.line, rawInt pos.col, Value.ref c']).toList = ps.toList ++ [rawInt pos.line, rawInt pos.col, .ref c'] := by simp
  refine ⟨_, by rw [upd_ne (ne_of_none hP nC), upd_same], ?_, fun p' cv hcv => ?_⟩
  · rw [eL]
    exact PySem.TriplesOk_snoc _ _ _ _ ht
  · rw [eL] at hcv
    rcases among_app _ ht hcv with z | z
    · obtain ⟨c0, e1, e2⟩ := ha p' cv z
      have n1 : c0 ≠ c' := fun w => by rw [w, nC] at e2; cases e2
      have n2 : c0 ≠ P := fun w => by
        rw [w, hP] at e2
        exact codeO_ne ps (Option.some.inj e2).symm
      exact ⟨c0, e1, by rw [upd_ne n1, upd_ne n2]; exact e2⟩
    · exact ⟨c', z, upd_same⟩
section
variable {X : Cx} {pins : List (Addr × Obj)} {σ : L2.St} {H : Hp} {s : Shared}
theorem make {c P : Addr} {q : Str} {params : Arguments} {body : Expr} {scope : Scope} {pos : Pos} {E : Value → Shared → Prop} {Q : Value → Shared → Prop} (I : L2.Inv X pins σ H s) (TB : TabB X.base X.mg c P) (hcode : X.env.code = .ref c) (hq : q = X.env.qual ++ "<lambda>")
    (hT : TabS H P q) (hdef : defaultsOf params X.env = ([], [])) (hfree : ∀ y ∈ scope.names, y.2 = .free → ∃ c, X.env.cells.lookup y.1 = some c)
    (h : ∀ (f c' : Addr) (pm ctv : Value) (H1 : Hp) (s' : Shared), L2.Inv X pins σ H1 s' → Step H H1 P q →
      s'.heap.get? f = some (PySem.W.kla_obj "<lambda>" (X.env.qual ++ "<lambda>") params body scope (cloFrom X.env.cells scope.names []) pm c' ctv) → H1 f = none → f ∉ frs X.stack → H1 c' = some (CodeO c' q) → Q (.ref f) s') :
    wpAny (model X.prog X.w) X.A (eval (.Lambda params body scope pos) X.env) Q E s := by
  subst hq
  obtain ⟨ps, hP, ht, ha⟩ := hT
  refine PySem.W.kla_eval hdef ?_
  have bP : s.heap.BuiltinsAt X.mg P := TB.bm.keeps I.bk
  have oP : s.heap.get? P = some { cls := .none, data := .fields ps } := I.hok P _ hP
  have away : ∀ f, s.heap.objs.size ≤ f → f ∉ frs X.stack := fun f hf z => by
    rcases List.mem_cons.mp (I.stkSub _ z) with e | e
    · have h1 := I.lt
      rw [← e] at h1
      exact Nat.lt_irrefl _ (Nat.lt_of_lt_of_le h1 hf)
    · exact I.nofs hf e
  cases hc : codeAmong pos ps.toList with
  | some cv =>
    obtain ⟨c', rfl, hco⟩ := ha pos cv hc
    refine PySem.W.kla_makeFunctionHit (mg := X.mg) (c := c) (P := P) (ps := ps) (closure_ok hfree) I.ok.glob (I.mod.glob.keeps I.bk) hcode (TB.code.keeps I.bk) oP ht hc bP fun ctv h' tk hx hsz => ?_
    refine h h'.objs.size c' _ ctv H _ (I.kept fun b o e => Heap.get?_push_of_some _ (hx b o e)) (.inl rfl) (Heap.get?_push_size _ rfl) (I.hok.fresh hsz) (away _ hsz) hco
  | none =>
    refine PySem.W.kla_makeFunction (mg := X.mg) (c := c) (P := P) (ps := ps) (closure_ok hfree) I.ok.glob (I.mod.glob.keeps I.bk) hcode (TB.code.keeps I.bk) oP ht hc TB.gP bP fun c' ctv h' tk hx hge hlt hrec htb => ?_
    obtain ⟨c2, oc, vs, t, e2, hoc, hd, hv⟩ := hrec
    cases e2
    have hsz : s.heap.objs.size ≤ h'.objs.size := Nat.le_trans hge (Nat.le_of_lt hlt)
    have nC : H c' = none := I.hok.fresh hge
    refine h h'.objs.size c' _ ctv _ _ (inv_table (t' := tk) (more := #[rawInt pos.line, rawInt pos.col, .ref c']) I hP (fun b o hb e => Heap.get?_push_of_some _ (hx b o hb e)) (Heap.get?_push_of_some _ htb) hge ⟨oc, vs, t, Heap.get?_push_of_some _ hoc, hd, hv⟩)
      (.inr ⟨ps, _, c', hP, nC, rfl, tabS_more hP ht ha nC⟩) (Heap.get?_push_size _ rfl) ?_ (away _ hsz) upd_same
    have n1 : h'.objs.size ≠ c' := Nat.ne_of_gt hlt
    have n2 : h'.objs.size ≠ P := Nat.ne_of_gt (Nat.lt_of_lt_of_le (Heap.lt_size oP) hsz)
    rw [upd_ne n1, upd_ne n2]
    exact I.hok.fresh hsz
/-- what x(lambda: body) does -/
def tCall (P : Addr) (q : Str) (TT : (XK → Hp → VK → Prop) → Hp → VK → Prop) (t : XK → TE) : TE := fun σ H Q => TabS H P q ∧ ∀ H1, Step H H1 P q → TT (fun E H' Q' => t E σ H' Q') H1 Q
theorem call {TT : (XK → Hp → VK → Prop) → Hp → VK → Prop} {x a q : Str} {g c P : Addr} {k : Nat} {pg : Arguments} {bg : List Stmt} {sg : Scope} {dV kV doc pm cdv ct oc : Value} {an od : Option Addr} {osl : Array (Option Value)} {Ng : List Str}
    {params : Arguments} {body : Expr} {scope : Scope} {t : XK → TE} {p lpos pos : Pos} (hg : Gl X x) (hm : X.mg x = some (.ref g)) (hk : PySem.W.keepIn X.K (.ref g) = true)
    (lk : X.K.lookup g = some ⟨oc, od, .func (PySem.W.fnOf x x pg bg sg dV kV doc pm an cdv ct), osl⟩) (hcg : PySem.W.codeIn X.K cdv x = true) (hb : L2.Binds X.K (PySem.W.fnOf x x pg bg sg dV kV doc pm an cdv ct) [a] []) (Sg : FnScope Ng [a] sg) (hNg : Ng[0]? = some a) (hva : Vis sg a)
    (hq : q = X.env.qual ++ "<lambda>") (hG : GivesTo X Ng x sg g cdv bg a q TT) (TB : TabB X.base X.mg c P) (hcode : X.env.code = .ref c) (hr : Room (k + 2) X.A) (L : LamS X.env.scope scope) (hdef : defaultsOf params X.env = ([], []))
    (hbind : ∀ (q : Str) (cl : List (Str × Addr)) (pm cv ctv : Value), bindArgs (PySem.W.kla_fn "<lambda>" q params body scope cl pm cv ctv) ⟨[], []⟩ = pure [])
    (hbody : ∀ (A : Around) (outer : List Env) (s : Shared) (H : Hp) (E : XK) (f c' : Addr), Room k (A.deeper (lamEnv X scope s.heap.objs.size f c')) → PE (lamCx X A outer s H E scope f c') body (t E))
    (hdb : (x == ("__debug__" : Str)) = false) (hd : (a == ("__debug__" : Str)) = false) (hcd : (a == ("__classdict__" : Str)) = false) :
    PE X (.Call (.Name x p) [.Lambda params body scope lpos] [] pos) (tCall P q TT t) := by
  refine ⟨fun pins s σ H Q I ⟨hT, h⟩ => ?_⟩
  refine wpAny_Call_Name_kw (ld_glob I hg hm ?_ hdb)
  refine PySem.W.callWith_K (h₀ := X.base) I.ok.mod.kin hk ?_ (by rfl) (by rfl)
  show wpAny _ _ (spliced ((false, eval (.Lambda params body scope lpos) X.env) :: backTo pos (starEach [] X.env))) _ _ s
  refine Calls.spliced_cons (make I TB hcode hq hT hdef (L.has I.ok) fun f c' pm' ctv H1 s' I1 st hf hfn hfr hco => ?_)
  refine Calls.spliced_nil ⟨I1.kIn, ?_⟩
  have rc : codeAny (model X.prog X.w) X.A (.call (.ref g) ⟨[.ref f], []⟩) (CR C8.CX0 X.stack X.prog X.w H1 s' Q C8.E0) s' := by
    refine run_ofS (N := Ng) (ps := [a]) (us := [.ref f]) (vs := [.ref f]) lk hcg Sg hr I1.env0 (hb s' [.ref f] I1.kIn rfl) (.cons rfl .nil) rfl fun hr' => ?_
    subst hq
    obtain ⟨t', ht', hq'⟩ := hG f c' s' H1 Q (fun E H' Q' => t E σ H' Q') (fun W pn xe E p1 p2 tk hW => pe_act (i := 0) I1 L hf hfn hfr (hbind _ _ _ _ _) tk hW hr' (fun A outer s H hr2 => hbody A outer s H E f c' hr2) hNg hva hd hcd) hco (h H1 st)
    exact ⟨t', ht'.nox, hq'⟩
  refine wpAny_call (codeAny_mono rc fun r s2 hq => ?_)
  match r, hq with
  | .error e, hq => exact (show False from hq).elim
  | .ok (.ret u), hq => exact I1.after hq
  | .ok .next, hq => exact False.elim hq
  | .ok .brk, hq => exact False.elim hq
  | .ok .cont, hq => exact False.elim hq
end
end Lam3

set_option Elab.async false
set_option linter.all false
set_option maxRecDepth 100000
set_option maxHeartbeats 4000000
namespace DL
open PySem PySem.Spec PyProof.Rows L2 STx OrdS

/-! ### the word of a call: try: a() / except C as e: return 'w' if isinstance(e, M) else .. / return 'none' -/
/-- own errors, plain: classes told apart, all of the class M -/
structure ExcT (K : PySem.W.Frag) (M : Str) (ns : List Str) : Prop where
  cl : ∀ x ∈ ns, ExcC K (He.ga K x)
  isM : ∀ x ∈ ns, PySem.W.kitOne K (.ref (He.ga K x)) (.ref (He.ga K M)) = some true
  ex : ∀ x ∈ ns, ∀ y ∈ ns, PySem.W.exmOne K (.ref (He.ga K x)) (.ref (He.ga K y)) = some (decide (x = y))

/-! ### x(lambda: body), x such a def -/
/-- the table at P is one of the store's -/
def lamD {α : Type} (P : Addr) (q : Str) (m : T α) : T α := fun S Q E => S P = some (.tab q) ∧ m S Q E
theorem StR.lam {K : PySem.W.Frag} {H H0 : Hp} {S : Sto} (st : StR K H H0 S) {P : Addr} {q : Str} (hT : S P = some (.tab q)) {H1 : Hp} (e : Lam3.Step H H1 P q) : StR K H1 H0 S ∧ Grow H H0 S H1 H0 S := by
  rcases e with rfl | ⟨ps, ps', c', hP, nC, e, ht⟩
  · exact ⟨st, Grow.refl _ _ _⟩
  have nP : H0 P = none := st.nos P (by rw [hT]; exact fun z => nomatch z)
  have nC0 : H0 c' = none := by
    cases q : H0 c' with
    | none => rfl
    | some o => rw [st.sub _ _ q] at nC; cases nC
  have ne : P ≠ c' := ne_of_none hP nC
  have at_ : ∀ b, b ≠ P → b ≠ c' → H1 b = H b := fun b h1 h2 => by rw [e, upd_ne h2, upd_ne h1]
  have kc : KeepC H H1 := fun c q h => by
    have h1 : c ≠ P := fun z => by rw [z, hP] at h; cases h
    rw [at_ c h1 (ne_of_none h nC)]; exact h
  refine ⟨⟨fun a o h => ?_, st.nos, fun a m h => ?_⟩, ⟨fun a o h n => ?_, fun a h _ => h, fun _ _ h => h, fun a h => h, fun a h => .inl h⟩⟩
  · rw [at_ a (ne_of_none h nP) (ne_of_none h nC0)]; exact st.sub a o h
  · by_cases hb : a = P
    · subst hb
      rw [hT] at h
      cases h
      exact ht
    · have rm := st.sto a m h
      have hc : a ≠ c' := fun z => rm.there (by rw [z]; exact nC)
      exact rm.keep (fun _ _ q => q) (at_ a hb hc) kc
  · have hb : a ≠ P := fun z => by rw [z, hT] at n; cases n
    rw [at_ a hb (ne_of_none h nC)]; exact h
/-- what is told of such a def -/
structure WordDef (K : PySem.W.Frag) (mg : Str → Option Value) (x a : Str) (st : Stmt) (Ng : List Str) (fd : FuncData) : Prop where
  gl : mg x = some (.ref (He.ga K x))
  fn : FnP K x x st (He.ga K x) fd
  bi : L2.Binds K fd [a] []
  sc : FnScope Ng [a] (defScope st)
  n0 : Ng[0]? = some a
  vs : Vis (defScope st) a
  da : (a == ("__debug__" : Str)) = false
  ca : (a == ("__classdict__" : Str)) = false
end DL

set_option Elab.async false
set_option linter.all false
set_option maxRecDepth 100000
set_option maxHeartbeats 4000000
namespace DL
open PySem PySem.Spec PyProof.Rows L2 STx OrdS

/-! ### defs by name -/
structure Ok (P : Program) (w : World) (K : PySem.W.Frag) (mg : Str → Option Value) (base : Heap) (k : Nat) (x : Str) (ps : List Str) (F : List D → T D) : Prop where
  ex : ∃ fd, FnOk P w K mg base (L2N.CX P w) k (He.ga K x) fd ps (SpT K ps.length F) ∧ L2.Binds K fd ps [] ∧ ∃ oc od osl, K.lookup (He.ga K x) = some ⟨oc, od, .func fd, osl⟩
  gl : mg x = some (.ref (He.ga K x))
  kp : PySem.W.keepIn K (.ref (He.ga K x)) = true
/-- what the head tells of a def -/
structure DefF (K : PySem.W.Frag) (mg : Str → Option Value) (x : Str) (st : Stmt) : Prop where
  fn : ∃ fd, FnP K x x st (He.ga K x) fd
  gl : mg x = some (.ref (He.ga K x))
section
variable {P : Program} {w : World} {K : PySem.W.Frag} {mg : Str → Option Value} {base : Heap}
theorem mk_ok {x : Str} {st : Stmt} {N ps : List Str} {k : Nat} {F : List D → T D} {m : MS} (Fn : DefF K mg x st) (Sc : FnScope N ps (defScope st))
    (hb : ∀ (kV doc pm : Value) (an : Option Addr) (cdv ct : Value) (us : List Value), us.length = ps.length → bindArgs (PySem.W.fnOf x x (defArgs st) (defBody st) (defScope st) .none kV doc pm an cdv ct) ⟨us, []⟩ = pure (ps.zip us))
    (hbody : ∀ (cdv : Value) (A : Around) (outer : List Env) (s : Shared) (H : Hp) (E : XK) (b : Bs), cdv = .ref (He.codeOf K (x, none)) → Room k (bodyCx P w K mg base N x st (He.ga K x) cdv A outer s H E).A → XSs (bodyCx P w K mg base N x st (He.ga K x) cdv A outer s H E) E b (defBody st) m)
    (hF : ∀ ds S Qd Ed, ds.length = ps.length → F ds S Qd Ed → runD m N.length ds S Qd Ed) : Ok P w K mg base (k + 1) x ps F := by
  obtain ⟨fd, Fn', gl⟩ := show ∃ fd, FnP K x x st (He.ga K x) fd ∧ mg x = some (.ref (He.ga K x)) from let ⟨fd, h⟩ := Fn.fn; ⟨fd, h, Fn.gl⟩
  have bi := FunD.bindsN Fn' hb
  obtain ⟨oc, od, dV, kV, doc, pm, an, cdv, ct, osl, rfl, lk, hcd, _, _⟩ := Fn'.ex
  refine ⟨⟨_, ?_, bi, _, _, _, lk⟩, gl, Fn'.kp⟩
  have hc : cdv = .ref (He.codeOf K (x, none)) := by
    obtain ⟨c, rfl⟩ := He.codeIn_ref hcd
    exact congrArg Value.ref (He.codeOf_eq (p := (x, none)) lk rfl).symm
  refine fn_of lk hcd Sc (fun vs H Q E h => ?_) fun A outer s H vs Q E hr h => ?_
  · obtain ⟨ds, S, H0, Qd, Ed, st', r, hl, _⟩ := h
    rw [r.length, hl]
  · obtain ⟨ds, S, H0, Qd, Ed, st', r, hl, hf, hq, he⟩ := h
    refine ⟨_, hbody cdv A outer s H E ⟨H, H0, S⟩ hc hr, startG N.length ds, S, H0, _, Ed, relB_start st' r, hF ds S Qd Ed hl hf, fun o S' q => ?_, he⟩
    cases o with
    | nx g => exact fun σ' H' H0' r' _ => hq _ S' q _ H' H0' r'.rel.st r'.gb .non
    | rt d => exact fun v H' H0' st2 gr2 rv => hq _ S' q v H' H0' st2 gr2 rv
    | bk g => exact q.elim
    | ct g => exact q.elim
theorem Ok.mono {j k : Nat} {x : Str} {ps : List Str} {F : List D → T D} (O : Ok P w K mg base j x ps F) (h : j ≤ k) : Ok P w K mg base k x ps F :=
  let ⟨fd, G, b⟩ := O.ex
  ⟨⟨fd, G.mono h, b⟩, O.gl, O.kp⟩
end
section
variable {X : Cx} {j k : Nat} {ps : List Str} {F : List D → T D} {E : XK} {x : Str} {p pos : Pos} {e : Expr} {es : List Expr} {m : MA}
theorem x_fn (O : Ok X.prog X.w X.K X.mg X.base j x ps F) (hr : Room k X.A) (hj : j ≤ k) (hx : Passes (L2N.CX X.prog X.w) X E) (ha : XA X E (e :: es) m) (hg : Gl X x := by rfl)
    (hdb : (x == ("__debug__" : Str)) = false := by decide) (he : starEach (e :: es) X.env = (false, eval e X.env) :: starEach es X.env := by rfl) (hpl : (backTo pos (starEach es X.env)).any (·.1) = false := by rfl) :
    XE X E (.Call (.Name x p) (e :: es) [] pos) (fun g => T.bind (m g) fun ds => T.bind (dNeed (ds.length = ps.length)) fun _ => F ds) := by
  obtain ⟨fd, G, b, _⟩ := O.ex
  exact x_call G (hr.mono hj) O.gl O.kp b hx ha hg hdb he hpl
theorem x_fn0 (O : Ok X.prog X.w X.K X.mg X.base j x [] F) (hr : Room k X.A) (hj : j ≤ k) (hx : Passes (L2N.CX X.prog X.w) X E) (hg : Gl X x := by rfl) (hdb : (x == ("__debug__" : Str)) = false := by decide) : XE X E (.Call (.Name x p) [] [] pos) (fun _ => F []) := by
  obtain ⟨fd, G, b, _⟩ := O.ex
  exact x_call0 G (hr.mono hj) O.gl O.kp b hx hg hdb
end

/-! ### a law's end -/
/-- the store in which a law begins: its tables -/
def S0 (K : PySem.W.Frag) (tq : List (He.Defn × Str)) : Sto := fun a => ((tq.map fun p => ((He.cT K p.1).2, p.2)).lookup a).map MO.tab
theorem lookup_of {α β : Type} [BEq α] [LawfulBEq α] : ∀ {l : List (α × β)}, (l.map (·.1)).Nodup → ∀ {p : α × β}, p ∈ l → l.lookup p.1 = some p.2
  | [], _, _, h => by cases h
  | (a, b) :: r, nd, p, h => by
    rw [List.map_cons, List.nodup_cons] at nd
    rcases List.mem_cons.mp h with e | h
    · subst e; simp [List.lookup]
    · have ne : p.1 ≠ a := fun e => nd.1 (by rw [← e]; exact List.mem_map.mpr ⟨p, h, rfl⟩)
      have e' : (p.1 == a) = false := by simpa using ne
      simp only [List.lookup, e']
      exact lookup_of nd.2 h
theorem mem_lookup' {α β : Type} [BEq α] [LawfulBEq α] {a : α} {b : β} : ∀ {l : List (α × β)}, l.lookup a = some b → (a, b) ∈ l
  | [], h => by cases h
  | (c, d) :: r, h => by
    by_cases e : a = c
    · subst e
      simp [List.lookup] at h
      subst h
      exact List.mem_cons_self
    · have e' : (a == c) = false := by simpa using e
      simp only [List.lookup, e'] at h
      exact List.mem_cons_of_mem _ (mem_lookup' h)
end DL

set_option Elab.async false
set_option linter.all false
set_option maxRecDepth 100000
set_option maxHeartbeats 4000000
/-! t[::-1], t a tuple -/

set_option Elab.async false
set_option linter.all false
set_option maxRecDepth 100000
set_option maxHeartbeats 4000000
namespace DL
open PySem PySem.Spec PyProof.Rows L2 STx OrdS

/-! ### built-ins' names -/
theorem bb_len : bootBuiltins "len" = some (.builtin "len") := by decide +kernel
theorem bb_all : bootBuiltins "all" = some (.builtin "all") := by decide +kernel
theorem bb_sorted : bootBuiltins "sorted" = some (.builtin "sorted") := by decide +kernel
theorem bb_min : bootBuiltins "min" = some (.builtin "min") := by decide +kernel
theorem bb_abs : bootBuiltins "abs" = some (.builtin "abs") := by decide +kernel
theorem bb_isinstance : bootBuiltins "isinstance" = some (.builtin "isinstance") := by decide +kernel
theorem bb_int : bootBuiltins "int" = some (.type "int") := by decide +kernel
theorem bb_bool : bootBuiltins "bool" = some (.type "bool") := by decide +kernel
theorem bb_str : bootBuiltins "str" = some (.type "str") := by decide +kernel
theorem bb_tuple : bootBuiltins "tuple" = some (.type "tuple") := by decide +kernel
/-! ### the ways out of a body -/
section
variable {P : Program} {w : World} {K : PySem.W.Frag} {mg : Str → Option Value} {base : Heap} {N : List Str} {x : Str} {st : Stmt} {f : Addr} {cdv : Value} {A : Around} {outer : List Env} {s : Shared} {H : Hp} {E : XK}
theorem takeB : L2N.Takes (bodyCx P w K mg base N x st f cdv A outer s H E) (fun cls d _ H => E cls d H) := L2N.takes_of (E := E) rfl rfl rfl rfl
theorem passB : Passes (L2N.CX P w) (bodyCx P w K mg base N x st f cdv A outer s H E) E := L2N.passes_call takeB fun _ _ _ _ h => h
theorem ownB : PassesOwn (model P w) (bodyCx P w K mg base N x st f cdv A outer s H E).A (bodyCx P w K mg base N x st f cdv A outer s H E).env (bodyCx P w K mg base N x st f cdv A outer s H E).xe := passes_of (X := bodyCx P w K mg base N x st f cdv A outer s H E) rfl
end

/-! ### t[::-1], xs[::-1] -/

/-! ### what the head tells -/
structure Hd (fa : List He.Fa) (fn : List He.DefD) (ex : PySem.W.Frag → Bool) (K : PySem.W.Frag) (mg : Str → Option Value) : Prop where
  h : ∃ h : Heap, K.In h ∧ h.Ns mainGlobals mg
  c : He.SaysD fa fn K
  x : ex K = true
section
variable {fa : List He.Fa} {fn : List He.DefD} {ex : PySem.W.Frag → Bool} {K : PySem.W.Frag} {mg : Str → Option Value} (W : Hd fa fn ex K mg) (i : Nat)
include W
theorem Hd.free {x : Str} (h : fa[i]? = some (.free x)) : mg x = none := let ⟨_, X, G⟩ := W.h; He.free_ok X G (W.c.fact i h)
theorem Hd.glo {x : Str} (h : fa[i]? = some (.glo x)) : mg x = some (.ref (He.ga K x)) := let ⟨_, X, G⟩ := W.h; He.glo_ok X G (W.c.fact i h)
theorem Hd.str {x z : Str} (h : fa[i]? = some (.str x z)) : ∃ t, mg x = some (.str z t) := let ⟨_, X, G⟩ := W.h; He.str_ok X G (W.c.fact i h)
theorem Hd.int {x : Str} {z : Int} (h : fa[i]? = some (.int x z)) : ∃ t, mg x = some (.int z t) := let ⟨_, X, G⟩ := W.h; He.int_ok X G (W.c.fact i h)
theorem Hd.exc {x : Str} (j : Nat) (h : fa[i]? = some (.glo x)) (h2 : fa[j]? = some (.exc x)) : ExcF K mg x := ⟨W.glo i h, W.c.fact j h2⟩
theorem Hd.def_ {x : Str} {st : Stmt} (j : Nat) (h : fa[i]? = some (.glo x)) (h2 : fn[j]? = some ⟨(x, none), x, x, defArgs st, defBody st, defScope st, [], []⟩) : DefF K mg x st := ⟨W.c.def_ j h2, W.glo i h⟩
theorem Hd.word {x a : Str} {st : Stmt} {Ng : List Str} (j : Nat) (h : fa[i]? = some (.glo x)) (h2 : fn[j]? = some ⟨(x, none), x, x, defArgs st, defBody st, defScope st, [], []⟩)
    (hb : ∀ (kV doc pm : Value) (an : Option Addr) (cdv ct : Value) (us : List Value), us.length = ([a] : List Str).length → bindArgs (PySem.W.fnOf x x (defArgs st) (defBody st) (defScope st) .none kV doc pm an cdv ct) ⟨us, []⟩ = pure (([a] : List Str).zip us))
    (sc : FnScope Ng [a] (defScope st)) (n0 : Ng[0]? = some a) (vs : Vis (defScope st) a) (da : (a == ("__debug__" : Str)) = false) (ca : (a == ("__classdict__" : Str)) = false) : ∃ fd, WordDef K mg x a st Ng fd :=
  let ⟨fd, F⟩ := W.c.def_ j h2
  ⟨fd, W.glo i h, F, FunD.bindsN F hb, sc, n0, vs, da, ca⟩
end
section
variable {X : Cx} {E : XK} {pos : Pos}
theorem x_gstr' {x z : Str} (hm : ∃ t, X.mg x = some (.str z t)) (hg : Gl X x := by rfl) (hd : (x == ("__debug__" : Str)) = false := by decide) : XE X E (.Name x pos) (fun _ => T.pure (.str z)) := let ⟨_, h⟩ := hm; x_gstr h hg hd
theorem x_gint' {x : Str} {z : Int} (hm : ∃ t, X.mg x = some (.int z t)) (hg : Gl X x := by rfl) (hd : (x == ("__debug__" : Str)) = false := by decide) : XE X E (.Name x pos) (fun _ => T.pure (.int z)) := let ⟨_, h⟩ := hm; x_gint h hg hd
end
/-! ### errors told apart: a test of the written part -/
theorem excCB_ok {K : PySem.W.Frag} {D : Addr} (h : excCB K D = true) : ExcC K D := by
  obtain ⟨h1, h⟩ := He.ba h
  obtain ⟨h2, h⟩ := He.ba h
  obtain ⟨h3, h⟩ := He.ba h
  obtain ⟨h4, h⟩ := He.ba h
  obtain ⟨h5, h⟩ := He.ba h
  obtain ⟨h6, h⟩ := He.ba h
  obtain ⟨h7, h8⟩ := He.ba h
  exact ⟨He.eqO_ok h1, He.eqO_ok h2, of_decide_eq_true h3, h4, He.eqO_ok h5, He.eqO_ok h6, of_decide_eq_true h7, of_decide_eq_true h8⟩
theorem excTB_ok {K : PySem.W.Frag} {M : Str} {ns : List Str} (h : excTB M ns K = true) : ExcT K M ns := by
  have k := List.all_eq_true.mp h
  refine ⟨fun x hx => excCB_ok (He.ba (k x hx)).1, fun x hx => of_decide_eq_true (He.ba (He.ba (k x hx)).2).1, fun x hx y hy => of_decide_eq_true (List.all_eq_true.mp (He.ba (He.ba (k x hx)).2).2 y hy)⟩
end DL

set_option Elab.async false
set_option linter.all false
set_option maxRecDepth 100000
set_option maxHeartbeats 4000000
namespace DL
open PySem PySem.Spec PyProof.Rows L2 STx OrdS

/-! ### xs * n -/
theorem Rps.rep {K : PySem.W.Frag} {H : Hp} {xs : List V} {ds : List D} (r : Rps K H xs ds) : ∀ n, Rps K H (List.replicate n xs).flatten (List.replicate n ds).flatten
  | 0 => .nil
  | n + 1 => by
    rw [List.replicate_succ, List.replicate_succ, List.flatten_cons, List.flatten_cons]
    exact r.append (Rps.rep r n)

/-! ### a call of a name that holds one of several defs -/
inductive TabV (X : Cx) (j a : Nat) : List (Str × (List D → T D)) → Prop
  | nil : TabV X j a []
  | cons {i : Nat} {n : Str} {ps : List Str} {F : List D → T D} {fs : List (Str × (List D → T D))} (O : Ok X.prog X.w X.K X.mg X.base i n ps F) (hi : i ≤ j) (hl : ps.length = a) (r : TabV X j a fs) : TabV X j a ((n, F) :: fs)
theorem TabV.get {X : Cx} {j a : Nat} {n : Str} {F : List D → T D} : ∀ {fs : List (Str × (List D → T D))}, TabV X j a fs → fs.lookup n = some F → ∃ ps, Ok X.prog X.w X.K X.mg X.base j n ps F ∧ ps.length = a
  | _, .nil, h => by cases h
  | _, .cons (n := m) (ps := ps) (F := G) O hi hl r, h => by
    by_cases e : n = m
    · subst e
      simp [List.lookup] at h
      subst h
      exact ⟨ps, O.mono hi, hl⟩
    · have e' : (n == m) = false := by simpa using e
      simp only [List.lookup, e'] at h
      exact r.get h
end DL

set_option Elab.async false
set_option linter.all false
set_option maxRecDepth 100000
set_option maxHeartbeats 4000000

set_option Elab.async false
set_option linter.all false
set_option maxRecDepth 100000
set_option maxHeartbeats 4000000
namespace DL
open PySem PySem.Spec PyProof.Rows L2 STx OrdS

/-! ### what is asked of a data program -/
/-- it returns v and leaves the store -/
def Ret {α : Type} (m : T α) (S : Sto) (v : α) : Prop := ∀ (Q : α → Sto → Prop) (E : Xn → Sto → Prop), Q v S → m S Q E
/-- it returns one of these and leaves the store -/
def Rets {α : Type} (m : T α) (S : Sto) (P : α → Prop) : Prop := ∀ (Q : α → Sto → Prop) (E : Xn → Sto → Prop), (∀ v, P v → Q v S) → m S Q E
theorem ite_i {α : Type} {k : Bool} {a b : T α} {S : Sto} {Q : α → Sto → Prop} {E : Xn → Sto → Prop} (h1 : k = true → a S Q E) (h2 : k = false → b S Q E) : T.ite k a b S Q E := by
  cases k
  · exact T.iteF_ (h2 rfl)
  · exact T.iteT_ (h1 rfl)
theorem ite_t {α : Type} {k : Bool} {a b : T α} {S : Sto} {Q : α → Sto → Prop} {E : Xn → Sto → Prop} (hk : k = true) (h1 : a S Q E) : T.ite k a b S Q E := by subst hk; exact T.iteT_ h1
theorem ite_f {α : Type} {k : Bool} {a b : T α} {S : Sto} {Q : α → Sto → Prop} {E : Xn → Sto → Prop} (hk : k = false) (h1 : b S Q E) : T.ite k a b S Q E := by subst hk; exact T.iteF_ h1

theorem opt_s {α β : Type} {o : Option α} {f : α → T β} {a : α} {S : Sto} {Q : β → Sto → Prop} {E : Xn → Sto → Prop} (h : o = some a) (k : f a S Q E) : dOpt o f S Q E := by subst h; exact k
/-! ### loops -/
/-! ### comprehensions -/
theorem lc_f {f : D → Sg → T Sg} {t : MT} {e : ME} {g : Sg} {S : Sto} (G : D → Sg) (p : D → Bool) (v : D → D) : ∀ {ds : List D}, (∀ d ∈ ds, Ret (f d g) S (G d)) → (∀ d ∈ ds, Ret (t (G d)) S (p d)) → (∀ d ∈ ds, p d = true → Ret (e (G d)) S (v d)) → Ret (lcT f t e g ds) S ((ds.filter p).map v)
  | [], _, _, _ => fun Q E h => h
  | d :: r, h1, h2, h3 => fun Q E h => by
    have ih := lc_f G p v (ds := r) (fun d hd => h1 d (List.mem_cons_of_mem _ hd)) (fun d hd => h2 d (List.mem_cons_of_mem _ hd)) fun d hd => h3 d (List.mem_cons_of_mem _ hd)
    refine h1 d List.mem_cons_self _ _ (h2 d List.mem_cons_self _ _ ?_)
    cases hp : p d with
    | true =>
      rw [List.filter_cons_of_pos hp, List.map_cons] at h
      exact T.iteT_ (h3 d List.mem_cons_self hp _ _ (ih _ _ h))
    | false =>
      rw [List.filter_cons_of_neg (by rw [hp]; exact Bool.false_ne_true)] at h
      exact T.iteF_ (ih _ _ h)
theorem lc_n {i : Nat} {t : MT} {e : ME} {g : Sg} {S : Sto} (p : D → Bool) (v : D → D) {ds : List D} (h2 : ∀ d ∈ ds, Ret (t (g.set i (.va d))) S (p d)) (h3 : ∀ d ∈ ds, p d = true → Ret (e (g.set i (.va d))) S (v d)) : Ret (lcT (gN i) t e g ds) S ((ds.filter p).map v) :=
  lc_f (fun d => g.set i (.va d)) p v (fun _ _ _ _ h => h) h2 h3
theorem lc_m {i : Nat} {e : ME} {g : Sg} {S : Sto} (v : D → D) {ds : List D} (h3 : ∀ d ∈ ds, Ret (e (g.set i (.va d))) S (v d)) : Ret (lcT (gN i) tY e g ds) S (ds.map v) := by
  have h := lc_n (t := tY) (S := S) (ds := ds) (fun _ => true) v (fun d _ Q E h => h) fun d hd _ => h3 d hd
  rwa [List.filter_eq_self.mpr fun _ _ => rfl] at h
def pairG (i j : Nat) (g : Sg) : D → Sg
  | .tup [a, b] => (g.set i (.va a)).set j (.va b)
  | _ => g
theorem pair_ret {i j : Nat} {g : Sg} {S : Sto} {a b : D} : Ret (gT2 i j (.tup [a, b]) g) S (pairG i j g (.tup [a, b])) := fun Q E h => h
theorem lc_2 {i j : Nat} {t : MT} {e : ME} {g : Sg} {S : Sto} (p : D → Bool) (v : D → D) {ds : List D} (hp : ∀ d ∈ ds, ∃ a b, d = .tup [a, b]) (h2 : ∀ d ∈ ds, Ret (t (pairG i j g d)) S (p d)) (h3 : ∀ d ∈ ds, p d = true → Ret (e (pairG i j g d)) S (v d)) : Ret (lcT (gT2 i j) t e g ds) S ((ds.filter p).map v) :=
  lc_f (pairG i j g) p v (fun d hd => by obtain ⟨a, b, rfl⟩ := hp d hd; exact pair_ret) h2 h3
theorem lc_2m {i j : Nat} {e : ME} {g : Sg} {S : Sto} (v : D → D) {ds : List D} (hp : ∀ d ∈ ds, ∃ a b, d = .tup [a, b]) (h3 : ∀ d ∈ ds, Ret (e (pairG i j g d)) S (v d)) : Ret (lcT (gT2 i j) tY e g ds) S (ds.map v) := by
  have h := lc_2 (t := tY) (S := S) (ds := ds) (fun _ => true) v hp (fun d _ Q E h => h) fun d hd _ => h3 d hd
  rwa [List.filter_eq_self.mpr fun _ _ => rfl] at h
/-! ### sizes -/
theorem sz {n : Nat} (h : n ≤ 16777216) : n ≤ sizeLine := by rw [sizeLine_eq]; exact h
/-! ### sources -/
theorem ix_src0 {a : Addr} {S : Sto} {Q : D → Sto → Prop} {E : Xn → Sto → Prop} (h : S a = some .src) (k : ∀ c : Int, 0 ≤ c → c < 2 ^ srcBits → Q (.int c) S) : dIx (.ref a) (.int 0) S Q E := by
  show dIxR a 0 S Q E
  unfold dIxR
  rw [h]
  exact .inl ⟨rfl, k⟩
theorem ix_src1 {a : Addr} {S : Sto} {Q : D → Sto → Prop} {E : Xn → Sto → Prop} (h : S a = some .src) (k : ∀ c : Int, 0 ≤ c → c < 2147483648 → Q (.int c) S) : dIx (.ref a) (.int 1) S Q E := by
  show dIxR a 1 S Q E
  unfold dIxR
  rw [h]
  exact .inr ⟨rfl, k⟩
theorem put_src0 {a : Addr} {S : Sto} {c : Int} {g : Sg} {Q : Out → Sto → Prop} {E : Xn → Sto → Prop} (h : S a = some .src) (c0 : 0 ≤ c) (c1 : c < 2 ^ srcBits) (k : Q (.nx g) S) : dPut (.ref a) (.int 0) (.int c) g S Q E := by
  show dPutR a 0 (.int c) g S Q E
  unfold dPutR
  rw [h]
  exact .inl ⟨rfl, c, rfl, c0, c1, k⟩
theorem put_src1 {a : Addr} {S : Sto} {c : Int} {g : Sg} {Q : Out → Sto → Prop} {E : Xn → Sto → Prop} (h : S a = some .src) (c0 : 0 ≤ c) (c1 : c < 2147483648) (k : Q (.nx g) S) : dPut (.ref a) (.int 1) (.int c) g S Q E := by
  show dPutR a 1 (.int c) g S Q E
  unfold dPutR
  rw [h]
  exact .inr ⟨rfl, c, rfl, c0, c1, k⟩
theorem bits_lt {z : Int} {n : Nat} (h : Builtin.Int.intBits z ≤ n) : z.natAbs < 2 ^ n := by
  unfold Builtin.Int.intBits at h
  by_cases hz : z = 0
  · subst hz; exact Nat.pow_pos (by decide)
  · rw [if_neg (by simpa using hz)] at h
    have hn : z.natAbs ≠ 0 := by omega
    exact (Nat.log2_lt hn).mp (by omega)
theorem src_lt {z : Int} (h : Builtin.Int.intBits z ≤ 1048576) : (if z < 0 then -z else z) < 2 ^ srcBits ∧ 0 ≤ (if z < 0 then -z else z) := by
  have h3 : z.natAbs < 2 ^ srcBits := bits_lt (Nat.le_trans h (by unfold srcBits; omega))
  have e : (if z < 0 then -z else z) = (z.natAbs : Int) := by split <;> omega
  rw [e]
  exact ⟨by exact_mod_cast h3, Int.natCast_nonneg _⟩
end DL

set_option Elab.async false
set_option linter.all false
set_option maxRecDepth 100000
set_option maxHeartbeats 4000000

set_option Elab.async false
set_option linter.all false
set_option maxRecDepth 100000
set_option maxHeartbeats 4000000
namespace DL
open PySem PySem.Spec PyProof.Rows L2 STx OrdS

/-! ### len(set(e)), texts -/
/-! ### xs.index(x), s.index(c) -/

/-! ### t * k -/
section
variable {K : PySem.W.Frag}
def dRepT : D → D → T D
  | .tup xs, .int k => T.bind (dNeed (xs ≠ [] ∧ 2 ≤ k ∧ k ≤ 1000 ∧ xs.length ≤ 1000)) fun _ => T.pure (.tup (List.replicate k.toNat xs).flatten)
  | _, _ => T.fail
theorem s_repT : OpS K (RF K) (rRepT K) dRepT := by
  intro v w a b H H0 S Qd Ed Q st ra rb hf hq
  unfold dRepT at hf
  split at hf
  · rename_i xs k
    obtain ⟨⟨h1, h2, h3, h4⟩, hf⟩ := hf
    obtain ⟨p, vs, rfl, hs, r⟩ := ra.tup
    cases rb.int
    have rl := r.length
    refine ⟨p, k, vs, rfl, rfl, sqT_sub st.sub hs, fun e => ?_, h2, h3, by rw [rl]; exact h4, fun q hn => ?_⟩
    · subst e
      exact h1 (List.length_eq_zero_iff.mp rl.symm)
    · obtain ⟨st2, gr2⟩ := alloc_f st hn (.tup (List.replicate k.toNat vs).flatten)
      exact hq _ S hf _ _ _ st2 gr2 (.tup (.of upd_same) ((r.rep _).sub gr2.sub))
  · exact hf.elim
end
section
variable {X : Cx} {E : XK} {a b : Expr} {pos : Pos} {ma mb : ME}
theorem x_repT (ha : XB X E a ma) (hb : XB X E b mb) : XE X E (.BinOp a .Mult b pos) (mb2 dRepT ma mb) := x_op back_F op_repT s_repT ha hb
end

/-! ### sum(t) -/

/-! ### a <= b <= c as a test -/

/-! ### a tuple of texts of the module -/
end DL

set_option Elab.async false
set_option linter.all false
set_option maxRecDepth 100000
set_option maxHeartbeats 4000000
namespace NU
open PySem PySem.Spec PyProof.Rows L2
/-- an exception with an empty context, seen from before what a def was given -/
theorem cxUp {P : Program} {w : World} : StX.CXUp (L2N.CX P w) := by
  intro outer s H s2 H2 E e s' un kp ho hc
  obtain ⟨a, B, H', cls, d, ea, fl, hok, ub, na, os, ag, he⟩ := hc
  refine ⟨a, B, H', cls, d, ea, fl, hok, ?_, na, os.trans ho, ag, he⟩
  constructor
  · exact fun b o q n hb => ub.keep b o (kp b o q) (un.free b o q n (by simp)) hb
  · exact fun b o q hb => ub.slot b o (kp b o q) hb
  · exact fun b o q n => ub.free b o (kp b o q) (un.free b o q n (by simp))
  · exact fun b o q hb => ub.there b o (kp b o q) hb
  · exact fun b xs q => ub.tups b xs (un.tups b xs q)
  · exact fun b o u q => ub.frzs b o u (un.frzs b o u q)
  · intro b ps q
    obtain ⟨m1, e1⟩ := un.tbls b ps q
    obtain ⟨m2, e2⟩ := ub.tbls b _ e1
    exact ⟨m1 ++ m2, by rw [e2, Array.append_assoc]⟩
end NU

set_option Elab.async false
set_option linter.all false
set_option maxRecDepth 100000
set_option maxHeartbeats 4000000
namespace DL
open PySem PySem.Spec PyProof.Rows L2 STx OrdS

/-! ### instances in the store -/
theorem StR.newI {K : PySem.W.Frag} {H H0 : Hp} {S : Sto} (st : StR K H H0 S) {x dx : Addr} (hx : H x = none) (hd : H dx = none) (ne : dx ≠ x) (c : Str) :
    StR K (upd (upd H dx (.own x)) x (.ins (He.ga K c) dx [])) H0 (S.up x (.ins c [])) ∧ Grow H H0 S (upd (upd H dx (.own x)) x (.ins (He.ga K c) dx [])) H0 (S.up x (.ins c [])) ∧ S x = none := by
  obtain ⟨stA, grA, _, _⟩ := alloc_n st hd (.own x)
  have hx1 : upd H dx (.own x) x = none := by rw [upd_ne (Ne.symm ne)]; exact hx
  obtain ⟨stB, grB, n0, nS⟩ := alloc_n stA hx1 (.ins (He.ga K c) dx [])
  exact ⟨stB.newS n0 (m' := .ins c []) ⟨dx, [], upd_same, rfl, .nil⟩, (grA.trans stA grB).newS hx, nS⟩
/-- a def's promise without a number of parameters -/
def SpA (K : PySem.W.Frag) (F : List D → T D) : Sp := fun vs H Q E => ∃ ds S H0 Qd Ed, StR K H H0 S ∧ Rps K H0 vs ds ∧ F ds S Qd Ed ∧
  (∀ d S', Qd d S' → ∀ v H' H0', StR K H' H0' S' → Grow H H0 S H' H0' S' → Rp K H0' v d → Q v H') ∧ ∀ x S', Ed x S' → EX K E H H0 S x S'
/-- a def that stands at f -/
structure OkM (P : Program) (w : World) (K : PySem.W.Frag) (mg : Str → Option Value) (base : Heap) (k : Nat) (f : Addr) (F : List D → T D) : Prop where
  fn : FnR P w K mg base (L2N.CX P w) k f (SpA K F)
def needN (n : Nat) (F : List D → T D) : List D → T D := fun ds => T.bind (dNeed (ds.length = n)) fun _ => F ds
def starF (n : Nat) (F : List D → T D) : List D → T D := fun ds => T.bind (dNeed (n ≤ ds.length ∧ (ds.drop n).length ≤ sizeLine)) fun _ => F (ds.take n ++ [.tup (ds.drop n)])
section
variable {P : Program} {w : World} {K : PySem.W.Frag} {mg : Str → Option Value} {base : Heap}
theorem OkM.mono {j k : Nat} {f : Addr} {F : List D → T D} (O : OkM P w K mg base j f F) (h : j ≤ k) : OkM P w K mg base k f F := ⟨O.fn.mono h⟩
/-- a def of a class: its promise by number -/
theorem mk_okn {x qual : Str} {st : Stmt} {f : Addr} {N ps : List Str} {k : Nat} {F : List D → T D} {m : MS} (Fn : ∃ fd, FnP K x qual st f fd) (Sc : FnScope N ps (defScope st))
    (hb : ∀ (kV doc pm : Value) (an : Option Addr) (cdv ct : Value) (us : List Value), us.length = ps.length → bindArgs (PySem.W.fnOf x qual (defArgs st) (defBody st) (defScope st) .none kV doc pm an cdv ct) ⟨us, []⟩ = pure (ps.zip us))
    (hbody : ∀ (cdv : Value) (A : Around) (outer : List Env) (s : Shared) (H : Hp) (E : XK) (b : Bs), Room k (bodyCx P w K mg base N qual st f cdv A outer s H E).A → XSs (bodyCx P w K mg base N qual st f cdv A outer s H E) E b (defBody st) m)
    (hF : ∀ ds S Qd Ed, ds.length = ps.length → F ds S Qd Ed → runD m N.length ds S Qd Ed) : ∃ fd, FnOk P w K mg base (L2N.CX P w) (k + 1) f fd ps (SpT K ps.length F) ∧ L2.Binds K fd ps [] := by
  obtain ⟨fd, Fn⟩ := Fn
  have bi := FunD.bindsN Fn hb
  exact ⟨fd, mk_fn Fn Sc rfl hbody hF, bi⟩
theorem okm_of {f : Addr} {ps : List Str} {k : Nat} {F : List D → T D} (h : ∃ fd, FnOk P w K mg base (L2N.CX P w) k f fd ps (SpT K ps.length F) ∧ L2.Binds K fd ps []) : OkM P w K mg base k f (needN ps.length F) := by
  obtain ⟨fd, G, b⟩ := h
  refine ⟨(G.raw b .nil).imp fun vs H Q E z => ?_⟩
  obtain ⟨ds, S, H0, Qd, Ed, st, r, ⟨hl, hf⟩, hq, he⟩ := z
  rw [List.append_nil]
  exact ⟨ds, S, H0, Qd, Ed, st, r, hl, hf, hq, he⟩
theorem Rps.split {H : Hp} : ∀ (n : Nat) {vs : List V} {ds : List D}, Rps K H vs ds → Rps K H (vs.take n) (ds.take n) ∧ Rps K H (vs.drop n) (ds.drop n) := fun n _ _ r => ⟨r.take n, r.drop n⟩
/-- def m(self, a, *v) -/
theorem okm_star {x qual pv : Str} {st : Stmt} {f : Addr} {N ps : List Str} {k : Nat} {F : List D → T D} {m : MS} (Fn : ∃ fd, FnP K x qual st f fd) (Sc : FnScope N (ps ++ [pv]) (defScope st))
    (hb : ∀ (kV doc pm : Value) (an : Option Addr) (cdv ct : Value) (us rest : List Value), us.length = ps.length → bindArgs (PySem.W.fnOf x qual (defArgs st) (defBody st) (defScope st) .none kV doc pm an cdv ct) ⟨us ++ rest, []⟩ = (newTuple rest >>= fun t => pure (ps.zip us ++ [(pv, t)])))
    (hbody : ∀ (cdv : Value) (A : Around) (outer : List Env) (s : Shared) (H : Hp) (E : XK) (b : Bs), Room k (bodyCx P w K mg base N qual st f cdv A outer s H E).A → XSs (bodyCx P w K mg base N qual st f cdv A outer s H E) E b (defBody st) m)
    (hF : ∀ ds S Qd Ed, ds.length = ps.length + 1 → F ds S Qd Ed → runD m N.length ds S Qd Ed) : OkM P w K mg base (k + 1) f (starF ps.length F) := by
  obtain ⟨fd, Fn⟩ := Fn
  obtain ⟨oc, od, dV, kV, doc, pm, an, cdv, ct, osl, rfl, lk, hcd, hdv, _⟩ := Fn.ex
  have hdN : dV = .none := by
    rcases hdv with ⟨_, h⟩ | ⟨h, _⟩
    · exact h
    · exact absurd rfl h
  subst hdN
  have G := StX.fn_star (k := k) (ps := ps) (pv := pv) (sp := SpT K (ps.length + 1) F) lk hcd Sc (NU.cxUp (P := P) (w := w)) (hb kV doc pm an cdv ct) (fun A outer s H vs Q E hr h => by
    obtain ⟨ds, S, H0, Qd, Ed, st', r, hl, hf, hq, he⟩ := h
    refine ⟨_, hbody cdv A outer s H E ⟨H, H0, S⟩ hr, startG N.length ds, S, H0, _, Ed, relB_start st' r, hF ds S Qd Ed hl hf, fun o S' q => ?_, he⟩
    cases o with
    | nx g => exact fun σ' H' H0' r' _ => hq _ S' q _ H' H0' r'.rel.st r'.gb .non
    | rt d => exact fun v H' H0' st2 gr2 rv => hq _ S' q v H' H0' st2 gr2 rv
    | bk g => exact q.elim
    | ct g => exact q.elim)
  refine ⟨G.imp fun vs H Q E z => ?_⟩
  obtain ⟨ds, S, H0, Qd, Ed, st, r, ⟨⟨hl, hz⟩, hf⟩, hq, he⟩ := z
  have rl := r.length
  refine ⟨vs.take ps.length, vs.drop ps.length, (List.take_append_drop _ _).symm, by rw [List.length_take]; omega, by rw [List.length_drop] at hz ⊢; omega, fun p hp => ?_⟩
  obtain ⟨st2, gr2⟩ := alloc_f st hp (.tup (vs.drop ps.length))
  refine ⟨ds.take ps.length ++ [.tup (ds.drop ps.length)], S, _, Qd, Ed, st2, ((r.take _).sub gr2.sub).append (.cons (.tup (.of upd_same) ((r.drop _).sub gr2.sub)) .nil), ?_, hf, fun d S' q v H' H0' st' gr' rv => hq d S' q v H' H0' st' (gr2.trans st2 gr') rv, fun y S' ey => (he y S' ey).grow st2 gr2⟩
  rw [List.length_append, List.length_take, Nat.min_eq_left hl]; rfl
end
/-! ### making an instance -/
def mkT (c : Str) (F : List D → T D) (ds : List D) : T D := fun S Q E => ∀ x, S x = none → F (.ref x :: ds) (S.up x (.ins c [])) (fun d S' => d = .non ∧ Q (.ref x) S') E
theorem mkT_sp {K : PySem.W.Frag} {E : XK} {c : Str} {F : List D → T D} {H1 H01 : Hp} {S1 : Sto} {vs : List V} {ds : List D} {Qd : D → Sto → Prop} {Ed : Xn → Sto → Prop} {Q : VK} (st1 : StR K H1 H01 S1) (r1 : Rps K H01 vs ds) (hf : mkT c F ds S1 Qd Ed)
    (hq : ∀ d S', Qd d S' → ∀ v H' H0', StR K H' H0' S' → Grow H1 H01 S1 H' H0' S' → Rp K H0' v d → Q v H') (he : ∀ x S', Ed x S' → EX K E H1 H01 S1 x S') (x dx : Addr) (hx : H1 x = none) (hd : H1 dx = none) (ne : dx ≠ x) :
    SpA K F (.ref x :: vs) (upd (upd H1 dx (.own x)) x (.ins (He.ga K c) dx [])) (fun v H2 => v = .non ∧ Q (.ref x) H2) E := by
  obtain ⟨st2, gr2, nS⟩ := st1.newI hx hd ne c
  refine ⟨.ref x :: ds, _, H01, _, Ed, st2, .cons (.ref x) r1, hf x nS, fun d S' h v H' H0' st' gr' rv => ?_, fun y S' ey => (he y S' ey).grow st2 gr2⟩
  obtain ⟨rfl, h⟩ := h
  cases rv
  exact ⟨rfl, hq _ S' h _ H' H0' st' (gr2.trans st2 gr') (.ref x)⟩
section
variable {X : Cx} {j k : Nat} {E : XK} {c x : Str} {f : Addr} {F : List D → T D} {p pos : Pos} {e : Expr} {es : List Expr} {m : MA}
theorem x_make (M : Mk X.K (He.ga X.K c) f) (O : OkM X.prog X.w X.K X.mg X.base j f F) (hm : X.mg c = some (.ref (He.ga X.K c))) (hr : Room k X.A) (hj : j + 1 ≤ k) (hx : Passes (L2N.CX X.prog X.w) X E) (ha : XA X E (e :: es) m) (hg : Gl X c := by rfl)
    (hdb : (c == ("__debug__" : Str)) = false := by decide) (he : starEach (e :: es) X.env = (false, eval e X.env) :: starEach es X.env := by rfl) (hpl : (backTo pos (starEach es X.env)).any (·.1) = false := by rfl) :
    XE X E (.Call (.Name c p) (e :: es) [] pos) (fun g => T.bind (m g) (mkT c F)) := by
  refine pe_w (StX.pe_makeR M O.fn (hr.mono hj) hg hm hx ha hdb he hpl) fun σ H Q ⟨g, S, H0, Qd, Ed, rel, hm, hq, hexc⟩ => ?_
  exact ⟨g, S, H0, _, Ed, rel, hm, fun ds S1 hf vs H1 H01 st1 gr1 r1 => mkT_sp st1 r1 hf (fun d S' h v H' H0' st' gr' rv => hq d S' h v H' H0' st' (gr1.trans st1 gr') rv) fun y S' ey => (hexc y S' ey).grow st1 gr1, hexc⟩
/-- C(a, *b), by the module's name -/
theorem x_makeS (M : Mk X.K (He.ga X.K c) f) (O : OkM X.prog X.w X.K X.mg X.base j f F) (hm : X.mg c = some (.ref (He.ga X.K c))) (hr : Room k X.A) (hj : j + 1 ≤ k) (hx : Passes (L2N.CX X.prog X.w) X E) (ha : XA X E (e :: es) m) (hg : Gl X c := by rfl)
    (hdb : (c == ("__debug__" : Str)) = false := by decide) (he : starEach (e :: es) X.env = (false, eval e X.env) :: starEach es X.env := by rfl) (hst : (backTo pos (starEach es X.env)).any (·.1) = true := by rfl) :
    XE X E (.Call (.Name c p) (e :: es) [] pos) (fun g => T.bind (m g) (mkT c F)) := by
  refine ⟨fun pins s σ H Q I ⟨g, S, H0, Qd, Ed, rel, hm2, hq, hexc⟩ => wpAny_Call_Name_kw (ld_glob I hg hm (PySem.W.callWith_S2 (h₀ := X.base) I.ok.mod.kin M.kp (thn (ha.run pos pins s σ H (fun vs H1 => ∀ x dx, H1 x = none → H1 dx = none → dx ≠ x →
    SpA X.K F (.ref x :: vs) (upd (upd H1 dx (.own x)) x (.ins (He.ga X.K c) dx [])) (fun v H2 => v = .non ∧ Q (.ref x) H2) E) I ?_) fun us s1 ⟨vs, H1, I1, r, q⟩ => ⟨I1.kIn, StX.run_makeR M O.fn (hr.mono hj) hx I1 r q⟩) he hst) hdb)⟩
  exact ⟨g, S, H0, _, Ed, rel, hm2, fun ds S1 hf vs H1 H01 st1 gr1 r1 => mkT_sp st1 r1 hf (fun d S' h v H' H0' st' gr' rv => hq d S' h v H' H0' st' (gr1.trans st1 gr') rv) fun y S' ey => (hexc y S' ey).grow st1 gr1, hexc⟩
/-- cls(a, *b), cls a local that holds the class -/
theorem x_makeL (i : Nat) (M : Mk X.K (He.ga X.K c) f) (O : OkM X.prog X.w X.K X.mg X.base j f F) (hr : Room k X.A) (hj : j + 1 ≤ k) (hx : Passes (L2N.CX X.prog X.w) X E) (ha : XA X E (e :: es) m) (hN : X.N[i]? = some x := by rfl) (hv : Vis X.env.scope x := by first | exact Or.inl rfl | exact Or.inr (Or.inl rfl) | exact Or.inr (Or.inr rfl))
    (hdb : (x == ("__debug__" : Str)) = false := by decide) (hcd : (x == ("__classdict__" : Str)) = false := by decide) (he : starEach (e :: es) X.env = (false, eval e X.env) :: starEach es X.env := by rfl) (hst : (backTo pos (starEach es X.env)).any (·.1) = true := by rfl) :
    XE X E (.Call (.Name x p) (e :: es) [] pos) (fun g => T.bind (getv g i) fun d => T.bind (dNeed (d = .glo c)) fun _ => T.bind (m g) (mkT c F)) := by
  refine ⟨fun pins s σ H Q I ⟨g, S, H0, Qd, Ed, rel, hm2, hq, hexc⟩ => ?_⟩
  obtain ⟨d, hgi, rfl, hm2⟩ := getv_inv hm2
  obtain ⟨v, e1, rv⟩ := rel.sl i _ hgi
  cases rv
  refine wpAny_Call_Name_kw (thn ((pe_var (pos := p) hN hv hdb hcd).run pins s σ H (fun v H1 => v = .ref (He.ga X.K c) ∧ H1 = H) I ⟨_, e1, rfl, rfl⟩) fun u s0 ⟨v, H1, I1, ru, hv1, hH⟩ => ?_)
  subst hv1 hH
  cases ru
  refine PySem.W.callWith_S2 (h₀ := X.base) I.ok.mod.kin M.kp (thn (ha.run pos pins s0 σ _ (fun vs H1 => ∀ x dx, H1 x = none → H1 dx = none → dx ≠ x →
    SpA X.K F (.ref x :: vs) (upd (upd H1 dx (.own x)) x (.ins (He.ga X.K c) dx [])) (fun v H2 => v = .non ∧ Q (.ref x) H2) E) I1 ?_) fun us s1 ⟨vs, H1, I2, r, q⟩ => ⟨I2.kIn, StX.run_makeR M O.fn (hr.mono hj) hx I2 r q⟩) he hst
  exact ⟨g, S, H0, _, Ed, rel, hm2, fun ds S1 hf vs H1 H01 st1 gr1 r1 => mkT_sp st1 r1 hf (fun d S' h v H' H0' st' gr' rv => hq d S' h v H' H0' st' (gr1.trans st1 gr') rv) fun y S' ey => (hexc y S' ey).grow st1 gr1, hexc⟩
/-- f(.., *e) -/
def starD : D → T (List D)
  | .tup xs => T.pure xs
  | .lst xs => T.pure xs
  | _ => T.fail
theorem a_star {me : ME} {r : MA} (ha : XE X E e me) (hr : XA X E es r) (hs : starEach (.Starred e p :: es) X.env = (true, eval e X.env) :: starEach es X.env := by rfl) :
    XA X E (.Starred e p :: es) (fun g => T.bind (me g) fun d => T.bind (starD d) fun xs => T.bind (r g) fun ys => T.pure (xs ++ ys)) := by
  refine pa_w (StX.pa_star ha hr hs) fun σ H Q ⟨g, S, H0, Qd, Ed, rel, hm, hq, hexc⟩ => ?_
  refine ⟨g, S, H0, _, Ed, rel, hm, fun d S1 hf v H1 H01 st1 gr1 r1 => ?_, hexc⟩
  have go : ∀ (xs : List D) (vs : List V), Rps X.K H01 vs xs → T.bind (r g) (fun ys => T.pure (xs ++ ys)) S1 Qd Ed → la X.K E r σ H1 fun ys H2 => Q (vs ++ ys) H2 := fun xs vs rx hf => by
    refine ⟨g, S1, H01, _, Ed, rel.grow st1 gr1, hf, fun ys S2 h ws H2 H02 st2 gr2 r2 => ?_, fun y S' ey => (hexc y S' ey).grow st1 gr1⟩
    exact hq _ S2 h _ H2 H02 st2 (gr1.trans st1 gr2) ((rx.sub gr2.sub).append r2)
  cases d with
  | tup xs =>
    cases r1 with
    | tup h1 rx => exact ⟨_, _, rfl, .inl (sqT_sub st1.sub h1), go xs _ rx hf⟩
  | lst xs =>
    cases r1 with
    | lst h1 rx => exact ⟨_, _, rfl, .inr (.of (st1.sub _ _ h1)), go xs _ rx hf⟩
  | _ => exact hf.elim
end
/-! ### fields -/
def putD (f : Str) (v : D) : List (Str × D) → List (Str × D)
  | [] => [(f, v)]
  | (g, u) :: r => if g = f then (g, v) :: r else (g, u) :: putD f v r
end DL

set_option Elab.async false
set_option linter.all false
set_option maxRecDepth 100000
set_option maxHeartbeats 4000000
namespace DL
open PySem PySem.Spec PyProof.Rows L2 STx OrdS

/-! ### fields of instances in the store -/
theorem flds_lookup {K : PySem.W.Frag} {H0 : Hp} {f : Str} {d : D} : ∀ {vs : List (Str × V)} {fs : List (Str × D)}, vs.map (·.1) = fs.map (·.1) → Rps K H0 (vs.map (·.2)) (fs.map (·.2)) → fs.lookup f = some d → ∃ v, vs.lookup f = some v ∧ Rp K H0 v d
  | [], [], _, _, h => by cases h
  | [], _ :: _, h, _, _ => by cases h
  | _ :: _, [], h, _, _ => by cases h
  | (g, v) :: vs, (g', u) :: fs, hk, hr, h => by
    rw [List.map_cons, List.map_cons] at hk
    injection hk with e1 e2
    have e1 : g = g' := e1
    subst e1
    cases hr with
    | cons ra rr =>
      by_cases e : f = g
      · subst e
        simp [List.lookup] at h ⊢
        subst h
        exact ra
      · have e' : (f == g) = false := by simpa using e
        simp only [List.lookup, e'] at h ⊢
        exact flds_lookup e2 rr h
theorem flds_none {f : Str} : ∀ {vs : List (Str × V)} {fs : List (Str × D)}, vs.map (·.1) = fs.map (·.1) → fs.lookup f = none → vs.lookup f = none
  | [], [], _, _ => rfl
  | [], _ :: _, h, _ => by cases h
  | _ :: _, [], h, _ => by cases h
  | (g, v) :: vs, (g', u) :: fs, hk, h => by
    rw [List.map_cons, List.map_cons] at hk
    injection hk with e1 e2
    have e1 : g = g' := e1
    subst e1
    by_cases e : f = g
    · subst e
      simp [List.lookup] at h
    · have e' : (f == g) = false := by simpa using e
      simp only [List.lookup, e'] at h ⊢
      exact flds_none e2 h
theorem flds_put {K : PySem.W.Frag} {H0 : Hp} {f : Str} {w : V} {d : D} (rw_ : Rp K H0 w d) : ∀ {vs : List (Str × V)} {fs : List (Str × D)}, vs.map (·.1) = fs.map (·.1) → Rps K H0 (vs.map (·.2)) (fs.map (·.2)) →
    (putF f w vs).map (·.1) = (putD f d fs).map (·.1) ∧ Rps K H0 ((putF f w vs).map (·.2)) ((putD f d fs).map (·.2))
  | [], [], _, _ => ⟨rfl, .cons rw_ .nil⟩
  | [], _ :: _, h, _ => by cases h
  | _ :: _, [], h, _ => by cases h
  | (g, v) :: vs, (g', u) :: fs, hk, hr => by
    rw [List.map_cons, List.map_cons] at hk
    injection hk with e1 e2
    have e1 : g = g' := e1
    subst e1
    cases hr with
    | cons ra rr =>
      unfold putF putD
      by_cases e : g = f
      · rw [if_pos e, if_pos e]
        exact ⟨by rw [List.map_cons, List.map_cons, e2], .cons rw_ rr⟩
      · rw [if_neg e, if_neg e]
        obtain ⟨h1, h2⟩ := flds_put rw_ e2 rr
        exact ⟨by rw [List.map_cons, List.map_cons, h1], .cons ra h2⟩
/-- the instance at a is of the class c; its fields -/
def insOf {α : Type} (c : Str) (d : D) (f : Addr → List (Str × D) → T α) : T α := fun S Q E => ∃ a fs, d = .ref a ∧ S a = some (.ins c fs) ∧ f a fs S Q E
def dFld (c f : Str) (d : D) : T D := insOf c d fun _ fs => dOpt (fs.lookup f) T.pure
def setI (a : Addr) (m : MO) (g : Sg) : T Out := fun S Q _ => Q (.nx g) (S.up a m)
def dSetF (c f : Str) (o v : D) (g : Sg) : T Out := insOf c o fun a fs => T.bind (dNeed (fs.length < 1000)) fun _ => setI a (.ins c (putD f v fs)) g
section
variable {X : Cx} {E : XK} {b : Bs} {c f : Str} {e o : Expr} {pos pos' : Pos} {me mo : ME}
theorem x_fld (C : Cls X.K (He.ga X.K c)) (n : NoAttr X.K (He.ga X.K c) f) (h : XE X E e me) (hb : attributeBase e f X.env (eval e X.env) = eval e X.env := by rfl) : XE X E (.Attribute e f pos) (fun g => T.bind (me g) (dFld c f)) := by
  refine pe_w (pe_fld h hb) fun σ H Q ⟨g, S, H0, Qd, Ed, rel, hm, hq, hexc⟩ => ?_
  refine ⟨g, S, H0, _, Ed, rel, hm, fun d S1 hf v H1 H01 st1 gr1 r1 => ?_, hexc⟩
  obtain ⟨a, fs, rfl, hS, hf⟩ := hf
  obtain ⟨u, hl, hf⟩ := dOpt_inv hf
  cases r1
  obtain ⟨dx, vs, h1, hk, hr⟩ := st1.sto a _ hS
  obtain ⟨w, hw, rw_⟩ := flds_lookup hk hr hl
  exact ⟨a, _, dx, vs, w, rfl, h1, C, n, hw, hq _ S1 hf _ H1 H01 st1 gr1 rw_⟩
theorem s_fld (C : Cls X.K (He.ga X.K c)) (n : NoAttr X.K (He.ga X.K c) f) (ho : XE X E o mo) (he : XE X E e me) (hs : swapsWith e (some (.Attribute o f pos')) pos.line X.env = pure false := by rfl) :
    XS X E b (.Assign [.Attribute o f pos'] e pos) (fun g => T.bind (me g) fun d => T.bind (mo g) fun x => dSetF c f x d g) := by
  refine ps_w (ps_fld ho he hs) fun D σ H ⟨g, S, H0, Qd, Ed, r, hm, hq, hexc⟩ => ?_
  refine ⟨g, S, H0, _, Ed, r.rel, hm, fun d S1 hf v H1 H01 st1 gr1 r1 => ?_, exb r hexc⟩
  have g1 := r.grow st1 gr1
  refine ⟨g, S1, H01, _, Ed, g1.rel, hf, fun x S2 hf2 w H2 H02 st2 gr2 r2 => ?_, exb g1 hexc⟩
  have g2 := g1.grow st2 gr2
  have rv : Rp X.K H02 v d := r1.sub gr2.sub
  obtain ⟨a, fs, rfl, hS, hl, hf2⟩ := hf2
  cases r2
  obtain ⟨dx, vs, h1, hk, hr⟩ := st2.sto a _ hS
  obtain ⟨k1, k2⟩ := flds_put (f := f) rv hk hr
  have hlen : vs.length = fs.length := by have := congrArg List.length hk; simpa using this
  obtain ⟨st3, gr3⟩ := st2.upS (m' := .ins c (putD f d fs)) hS (noCode_ins h1) (o := .ins (He.ga X.K c) dx (putF f v vs)) ⟨dx, _, upd_same, k1, k2⟩
  exact ⟨a, _, dx, vs, rfl, h1, C, n, by rw [hlen]; exact hl, hq _ _ hf2 _ _ _ (g2.grow st3 gr3) fun a' o q => gr3.sub a' o (gr2.sub a' o (gr1.sub a' o q))⟩
end
/-! ### properties, class methods -/
def dProp (c : Str) (F : List D → T D) (d : D) : T D := insOf c d fun a _ => noX (F [.ref a])
theorem passN {X : Cx} : Passes (L2N.CX X.prog X.w) X (fun _ _ _ => False) := fun _ _ _ _ _ _ _ z => by
  obtain ⟨_, _, _, _, _, _, _, _, _, _, _, _, z⟩ := z
  exact z.elim
section
variable {X : Cx} {j k : Nat} {E : XK} {c m f : Str} {e o : Expr} {es : List Expr} {p g : Addr} {F : List D → T D} {pos apos : Pos} {me mo : ME} {ma : MA} {fd : FuncData} {ps : List Str}
theorem x_prop (C : Cls X.K (He.ga X.K c)) (hp : PropOf X.K (He.ga X.K c) f p g) (O : ∃ fd, FnOk X.prog X.w X.K X.mg X.base (L2N.CX X.prog X.w) j g fd ps (SpT X.K ps.length F) ∧ L2.Binds X.K fd ps []) (hps : ps.length = 1) (hr : Room k X.A) (hj : j + 1 ≤ k) (h : XE X E e me) (hb : attributeBase e f X.env (eval e X.env) = eval e X.env := by rfl) :
    XE X E (.Attribute e f pos) (fun g => T.bind (me g) (dProp c F)) := by
  obtain ⟨fd, G, bi⟩ := O
  refine pe_w (pe_prop (E := fun _ _ _ => False) h C hp G (hr.mono hj) bi .nil passN hb) fun σ H Q ⟨g, S, H0, Qd, Ed, rel, hm, hq, hexc⟩ => ?_
  refine ⟨g, S, H0, _, Ed, rel, hm, fun d S1 hf v H1 H01 st1 gr1 r1 => ?_, hexc⟩
  obtain ⟨a, fs, rfl, hS, hf⟩ := hf
  cases r1
  obtain ⟨dx, vs, h1, _, _⟩ := st1.sto a _ hS
  exact ⟨a, dx, vs, rfl, h1, [.ref a], S1, H01, Qd, fun _ _ => False, st1, .cons (.ref a) .nil, hps.symm, hf, fun d S' h v H' H0' st' gr' rv => hq d S' h v H' H0' st' (gr1.trans st1 gr') rv, fun _ _ z => z.elim⟩
theorem x_cmeth {mc : Value} {pl : Sem Bool} (r : ClX.CRead X.K (He.ga X.K c) mc) (cm : ClX.CMet X.K (He.ga X.K c) mc m p g) (O : OkM X.prog X.w X.K X.mg X.base j g F) (hr : Room k X.A) (hj : j ≤ k) (hx : Passes (L2N.CX X.prog X.w) X E) (ho : XE X E o mo) (ha : XA X E (e :: es) ma)
    (hst : starEach (e :: es) X.env = (false, eval e X.env) :: starEach es X.env := by rfl) (hpl : (backTo pos (starEach es X.env)).any (·.1) = false := by rfl)
    (ht : eval (.Call (.Attribute o m apos) (e :: es) [] pos) X.env = (do
      let ov ← eval o X.env
      standAt apos.atName
      let (f, first) ← holding [ov] (getMethod ov m pl)
      callWith pos f first (backTo pos (starEach (e :: es) X.env)) (backToKw pos (keywordEach [] X.env))) := by rfl) :
    XE X E (.Call (.Attribute o m apos) (e :: es) [] pos) (fun g => T.bind (mo g) fun d => T.bind (dNeed (d = .glo c)) fun _ => T.bind (ma g) fun ds => F (.glo c :: ds)) := by
  refine pe_w (ClX.pe_cmeth (pl := pl) ho r cm O.fn (hr.mono hj) hx ha hst hpl ht) fun σ H Q ⟨g, S, H0, Qd, Ed, rel, hm, hq, hexc⟩ => ?_
  refine ⟨g, S, H0, _, Ed, rel, hm, fun d S1 hf v H1 H01 st1 gr1 r1 => ?_, hexc⟩
  obtain ⟨rfl, hf⟩ := hf
  cases r1
  refine ⟨rfl, g, S1, H01, _, Ed, rel.grow st1 gr1, hf, fun ds S2 hf2 ws H2 H02 st2 gr2 r2 => ?_, fun y S' ey => (hexc y S' ey).grow st1 gr1⟩
  have gr := gr1.trans st1 gr2
  exact ⟨.glo c :: ds, S2, H02, Qd, Ed, st2, .cons (.glo c) r2, hf2, fun d S' h v H' H0' st' gr' rv => hq d S' h v H' H0' st' (gr.trans st2 gr') rv, fun y S' ey => (hexc y S' ey).grow st2 gr⟩
end
/-! ### x op= e by an own method -/
/-- the object that RpM tells of, as the rows want it -/
theorem inst_at {X : Cx} {pins : List (Addr × Obj)} {σ : L2.St} {H : Hp} {s : Shared} {a C dx : Addr} {vs : List (Str × V)} (I : Inv X pins σ H s) (e : H a = some (.ins C dx vs)) : ∃ ox od, PySem.W.InstAt s.heap a ox C (some od) := by
  obtain ⟨mA, O, _⟩ := ins_get I.hok e
  obtain ⟨od, J, _⟩ := O.look
  exact ⟨_, od, J⟩
structure OpM (K : PySem.W.Frag) (c nm : Str) (g : Addr) : Prop where
  at_ : PySem.W.findIn K (.ref (He.ga K c)) nm = some (some (.ref g))
  fn : PySem.W.isFn K (.ref g) = true
  sf : PySem.W.selfFirst K (He.ga K c) = true
def tOwn (K : PySem.W.Frag) (c : Str) (sp : Sp) (E : XK) : TIp := fun x y H Q => ∃ a dx vs, x = .ref a ∧ H a = some (.ins (He.ga K c) dx vs) ∧ sp [x, y] H Q E
section
variable {X : Cx} {k : Nat} {E : XK} {c : Str} {g : Addr} {sp : Sp}
theorem ip_own {op : Operator} (M : OpM X.K c (dunderI op.info.2) g) (O : FnR X.prog X.w X.K X.mg X.base (L2N.CX X.prog X.w) k g sp) (hr : Room k X.A) (hx : Passes (L2N.CX X.prog X.w) X E) : PIp X op (tOwn X.K c sp E) := by
  intro pins s σ H x y v u Q I rx ry h
  obtain ⟨a, dx, vs, rfl, ha, h⟩ := h
  cases rx
  obtain ⟨ox, od, J⟩ := inst_at I ha
  obtain ⟨m, F⟩ := I.fr
  refine PySem.W.ksp_inplace F I.ok.mod.kin J M.sf M.at_ M.fn (wpAny_call ?_)
  refine codeAny_mono (run_fnR (us := [.ref a, u]) (vs := [.ref a, y]) O hr hx I (.cons rfl (.cons ry .nil)) h) fun r s' hq => ?_
  cases r with
  | error e => exact hq
  | ok fl =>
    cases fl with
    | ret z =>
      obtain ⟨zv, H', I', rz, hz⟩ := hq
      exact SlX.cmpback rz ⟨zv, H', I', rz, hz⟩
    | _ => exact hq
variable {j i : Nat} {x : Str} {e : Expr} {me : ME} {b : Bs} {F : List D → T D} {p pos : Pos}
theorem s_augI {op : Operator} (i : Nat) (M : OpM X.K c (dunderI op.info.2) g) (O : OkM X.prog X.w X.K X.mg X.base j g F) (hr : Room k X.A) (hj : j ≤ k) (hx : Passes (L2N.CX X.prog X.w) X E) (hN : X.N.Nodup) (he : XE X E e me) (hi : X.N[i]? = some x := by rfl) (hl : Loc X.env.scope x := by first | exact .inl rfl | exact .inr rfl)
    (hf : X.fn x = true ∨ X.env.scope.names.lookup x = some .local := by first | exact .inl rfl | exact .inr rfl) :
    XS X E b (.AugAssign (.Name x p) op e pos) (fun g => T.bind (getv g i) fun o => T.bind (me g) fun d => insOf c o fun _ _ => T.bind (F [o, d]) fun z => T.pure (.nx (g.set i (.va z)))) := by
  refine ps_w (ps_aug hN hi hl he (ip_own M (O.mono hj).fn hr hx) hf) fun D σ H ⟨g, S, H0, Qd, Ed, r, hm, hq, hexc⟩ => ?_
  obtain ⟨o, hgi, hm⟩ := getv_inv hm
  obtain ⟨v, e1, rv⟩ := r.rel.sl i _ hgi
  refine ⟨v, e1, g, S, H0, _, Ed, r.rel, hm, fun d S1 hf y H1 H01 st1 gr1 r1 => ?_, exb r hexc⟩
  have g1 := r.grow st1 gr1
  obtain ⟨a, fs, rfl, hS, hf⟩ := hf
  cases rv
  obtain ⟨dx, vs, h1, _, _⟩ := st1.sto a _ hS
  refine ⟨a, dx, vs, rfl, h1, [.ref a, d], S1, H01, _, Ed, st1, .cons (.ref a) (.cons r1 .nil), hf, fun z S2 h zv H2 H02 st2 gr2 rz => ?_, exb g1 hexc⟩
  have g2 := g1.grow st2 gr2
  exact hq _ S2 h _ H2 H02 (g2.set rz i) fun a' o q => gr2.sub a' o (gr1.sub a' o q)
end
/-! ### str(x) by an own __str__ -/
section
variable {X : Cx} {j k : Nat} {E : XK} {c : Str} {g : Addr} {F : List D → T D} {e : Expr} {p pos : Pos} {me : ME}
/-! ### f"{x}", x.split(" ") -/
def dSplit (a : Str) : D → T D
  | .str b => T.bind (dNeed ((b.length == 0) = false ∧ a.length + 2 ≤ sizeLine)) fun _ => T.pure (.lst ((Txt.split a b).map D.str))
  | _ => T.fail
theorem x_split {e2 : Expr} {me2 : ME} {apos : Pos} (h : XE X E e me) (h2 : XE X E e2 me2) (hs : starEach [e2] X.env = [(false, eval e2 X.env)] := by rfl) (hbase : attributeBase e "split" X.env (eval e X.env) = eval e X.env := by rfl) (hline : (apos.endLine == pos.line) = true := by rfl) :
    XN X E (.Call (.Attribute e "split" apos) [e2] [] pos) (fun g => T.bind (me g) fun x => T.bind (dAsS x) fun a => T.bind (me2 g) (dSplit a)) := by
  refine pe_w (pe_split h h2 hs hbase hline) fun σ H Q ⟨g, S, H0, Qd, Ed, rel, hm, hq, hexc⟩ => ?_
  refine ⟨g, S, H0, _, Ed, rel, hm, fun d S1 hf v H1 H01 st1 gr1 r1 => ?_, hexc⟩
  obtain ⟨a, rfl, hf⟩ := dAsS_inv hf
  cases r1
  refine ⟨⟨a, rfl⟩, g, S1, H01, _, Ed, rel.grow st1 gr1, hf, fun d2 S2 hf2 v2 H2 H02 st2 gr2 r2 => ?_, fun y S' ey => (hexc y S' ey).grow st1 gr1⟩
  unfold dSplit at hf2
  split at hf2
  · obtain ⟨⟨h1, h2⟩, hf2⟩ := hf2
    cases r2
    refine ⟨a, _, rfl, rfl, h1, h2, fun p hp => ?_⟩
    obtain ⟨st3, gr3, n0, nS⟩ := alloc_n st2 hp (.lst ((Txt.split _ _).map V.str))
    have gr := gr1.trans st1 gr2
    exact hq _ S2 hf2 _ _ H02 st3 (gr.trans st2 gr3) (.inl ⟨p, _, _, rfl, rfl, gr.fresh st2 hp, upd_same, n0, nS, Rps.ofStrs _⟩)
  · exact hf2.elim
end
end DL

set_option Elab.async false
set_option linter.all false
set_option maxRecDepth 100000
set_option maxHeartbeats 4000000
namespace DL
open PySem PySem.Spec PyProof.Rows L2 STx OrdS

/-! ### what the head tells of functions behind properties and class methods -/
theorem DefY.parts {K : PySem.W.Frag} {d : DefY} (e : fnAt K (d.adr K) = d.val) (c : d.ok K = true) : ∃ oc od kV doc pm an cdv ct osl cl, K.lookup (d.adr K) = some ⟨oc, od, .func (PySem.W.fnX d.name d.qual d.params d.body d.scope cl .none kV doc pm an cdv ct), osl⟩ ∧ PySem.W.codeIn K cdv d.qual = true ∧
    cl.map (fun p => (p.1, (0 : Addr))) = d.clo.map (fun x => (x, 0)) ∧ PySem.W.keepIn K (.ref (d.adr K)) = true := by
  obtain ⟨kp, c2⟩ := He.ba c
  unfold fnAt at e
  cases q : K.lookup (d.adr K) with
  | none => rw [q] at c2; cases c2
  | some o =>
    obtain ⟨oc, od, dt, osl⟩ := o
    rw [q] at c2 e
    cases dt with
    | func fd =>
      obtain ⟨a1, a2, a3, a4, a5, a6, a7, a8, a9, a10, a11, a12, a13, a14, a15⟩ := fd
      have e2 : (some (a1, a2, a3, a4, a5, a6, a7.map (fun p => (p.1, (0 : Addr))), a15) : He.FnW) = some (d.name, d.qual, d.params, .stmts d.body, d.scope, mainGlobals, d.clo.map (fun x => (x, 0)), builtinsNs) := e
      simp only [Option.some.injEq, Prod.mk.injEq] at e2
      obtain ⟨e01, e02, e03, e04, e05, e06, e07, e08⟩ := e2
      subst e01 e02 e03 e04 e05 e06 e08
      obtain ⟨k1, k2⟩ := He.ba c2
      have hd : a8 = .none := by
        cases a8 with
        | none => rfl
        | _ => cases k2
      subst hd
      exact ⟨oc, od, a9, a10, a11, a12, a13, a14, osl, a7, rfl, k1, e07, kp⟩
    | _ => cases c2
theorem DefY.funD {K : PySem.W.Frag} {d : DefY} (e : fnAt K (d.adr K) = d.val) (c : d.ok K = true) (hc : d.clo = []) : ∃ fd, FunD K d.name d.qual d.params d.body d.scope [] [] (d.adr K) fd := by
  obtain ⟨oc, od, kV, doc, pm, an, cdv, ct, osl, cl, h1, h2, h3, h4⟩ := DefY.parts e c
  rw [hc] at h3
  cases cl with
  | nil => exact ⟨_, ⟨oc, od, .none, kV, doc, pm, an, cdv, ct, osl, rfl, h1, h2, .inl ⟨rfl, rfl⟩, .inl rfl⟩, h4⟩
  | cons p r => cases h3
/-- a function that captures __class__ -/
def FunS (K : PySem.W.Frag) (name qual : Str) (params : Arguments) (body : List Stmt) (scope : Scope) (f : Addr) : Prop :=
  ∃ oc od kV doc pm an cda ct osl cc, K.lookup f = some ⟨oc, od, .func (PySem.W.fnX name qual params body scope [("__class__", cc)] .none kV doc pm an (.ref cda) ct), osl⟩ ∧ PySem.W.codeIn K (.ref cda) qual = true
theorem DefY.funS {K : PySem.W.Frag} {d : DefY} (e : fnAt K (d.adr K) = d.val) (c : d.ok K = true) (hc : d.clo = (["__class__"] : List Str)) : FunS K d.name d.qual d.params d.body d.scope (d.adr K) := by
  obtain ⟨oc, od, kV, doc, pm, an, cdv, ct, osl, cl, h1, h2, h3, h4⟩ := DefY.parts e c
  obtain ⟨cda, rfl⟩ := He.codeIn_ref h2
  rw [hc] at h3
  match cl, h1, h3 with
  | [(x, cc)], h1, h3 =>
    simp only [List.map_cons, List.map_nil, List.cons.injEq, Prod.mk.injEq, and_true] at h3
    subst h3
    exact ⟨oc, od, kV, doc, pm, an, cda, ct, osl, cc, h1, h2⟩
  | [], _, h3 => cases h3
  | _ :: _ :: _, _, h3 => simp at h3
/-! ### the Hook -/
abbrev AlY : Type := He.AlX × (Bool × List He.FnW)
def obsY (n : Nat) (fa : List He.Fa) (fn : List He.DefD) (ts : List He.Tab) (tf : List He.Defn) (ex : PySem.W.Frag → Bool) (fy : List DefY) (g : Addr → Option Obj) : AlY :=
  ((He.obsT fa fn ts (KY g n), ex (KY g n) && He.tabsB g tf (KY g n)), (fy.all fun d => d.ok (KY g n)), fy.map fun d => fnAt (KY g n) (d.adr (KY g n)))
def valY (fn : List He.DefD) (ts : List He.Tab) (fy : List DefY) (w : World) : AlY := (He.valX fn ts w, true, fy.map DefY.val)
theorem saysKY {n : Nat} {fa : List He.Fa} {fn : List He.DefD} {ts : List He.Tab} {tf : List He.Defn} {ex : PySem.W.Frag → Bool} {w : World} {h : Heap} (e : ((He.obsT fa fn ts (KY h.get? n), ex (KY h.get? n) && He.tabsB h.get? tf (KY h.get? n)) : He.AlX) = He.valX fn ts w) : He.SaysX fa fn ts tf ex w h (KY h.get? n) := by
  have q : (ex (KY h.get? n) && He.tabsB h.get? tf (KY h.get? n)) = true := (Prod.mk.inj e).2
  obtain ⟨qa, qb⟩ := Bool.and_eq_true_iff.mp q
  have each : ∀ p ∈ tf, PySem.W.codeHdIn (KY h.get? n) (He.cT (KY h.get? n) p).1 (He.cT (KY h.get? n) p).2 = true ∧ ∃ o, h.get? (He.cT (KY h.get? n) p).2 = some o ∧ He.emptyTab o = true := by
    intro p hp
    obtain ⟨r1, r2⟩ := Bool.and_eq_true_iff.mp (List.all_eq_true.mp qb p hp)
    refine ⟨r1, ?_⟩
    split at r2
    · rename_i o ho
      exact ⟨o, ho, r2⟩
    · cases r2
  refine ⟨(Prod.mk.inj e).1, qa, fun p hp => (each p hp).1, fun p hp => ?_, fun p hp => ?_⟩
  · obtain ⟨_, o, k1, k2⟩ := each p hp
    exact He.frT_none k1 k2
  · obtain ⟨_, o, k1, k2⟩ := each p hp
    rw [k1, He.emptyTab_eq k2]
structure SaysY (fa : List He.Fa) (fn : List He.DefD) (ts : List He.Tab) (tf : List He.Defn) (ex : PySem.W.Frag → Bool) (fy : List DefY) (w : World) (h : Heap) (K : PySem.W.Frag) : Prop where
  x : He.SaysX fa fn ts tf ex w h K
  ok : (fy.all fun d => d.ok K) = true
  at_ : fy.map (fun d => fnAt K (d.adr K)) = fy.map DefY.val
def hookY (n : Nat) (fa : List He.Fa) (fn : List He.DefD) (ts : List He.Tab) (tf : List He.Defn) (ex : PySem.W.Frag → Bool) (fy : List DefY) : PySem.W.Hook where
  α := AlY
  obs := fun s => obsY n fa fn ts tf ex fy s.heap.get?
  val := fun w => valY fn ts fy w
  says := fun w h => ∃ K : PySem.W.Frag, K.In h ∧ SaysY fa fn ts tf ex fy w h K
  of := fun _ _ e => ⟨_, He.frT_in, saysKY (congrArg (fun z : AlY => z.1) e), congrArg (fun z : AlY => z.2.1) e, congrArg (fun z : AlY => z.2.2) e⟩
  keeps := fun _ _ _ ⟨K, hK, c⟩ k => ⟨K, PySem.W.Frag.In.keeps hK k, ⟨c.x.t, c.x.more, c.x.hd, c.x.out, fun p hp => k _ _ (c.x.empty p hp)⟩, c.ok, c.at_⟩
theorem obsY_eq {n : Nat} {fa : List He.Fa} {fn : List He.DefD} {ts : List He.Tab} {tf : List He.Defn} {ex : PySem.W.Frag → Bool} {fy : List DefY} {g : Addr → Option Obj} {s : Shared} (h : ∀ a, g a = s.heap.get? a) : obsY n fa fn ts tf ex fy g = (hookY n fa fn ts tf ex fy).obs s := by
  have e : g = s.heap.get? := funext h
  rw [e]; rfl
theorem SaysY.at1 {fa : List He.Fa} {fn : List He.DefD} {ts : List He.Tab} {tf : List He.Defn} {ex : PySem.W.Frag → Bool} {fy : List DefY} {w : World} {h : Heap} {K : PySem.W.Frag} (c : SaysY fa fn ts tf ex fy w h K) (i : Nat) {d : DefY} (hi : fy[i]? = some d) : fnAt K (d.adr K) = d.val := by
  have e := congrArg (fun l : List He.FnW => l[i]?) c.at_
  simp only [List.getElem?_map, hi, Option.map_some] at e
  exact Option.some.inj e
theorem SaysY.def_ {fa : List He.Fa} {fn : List He.DefD} {ts : List He.Tab} {tf : List He.Defn} {ex : PySem.W.Frag → Bool} {fy : List DefY} {w : World} {h : Heap} {K : PySem.W.Frag} (c : SaysY fa fn ts tf ex fy w h K) (i : Nat) {d : DefY} (hi : fy[i]? = some d) (hc : d.clo = []) : ∃ fd, FunD K d.name d.qual d.params d.body d.scope [] [] (d.adr K) fd :=
  DefY.funD (c.at1 i hi) (List.all_eq_true.mp c.ok d (List.mem_of_getElem? hi)) hc
theorem SaysY.defS {fa : List He.Fa} {fn : List He.DefD} {ts : List He.Tab} {tf : List He.Defn} {ex : PySem.W.Frag → Bool} {fy : List DefY} {w : World} {h : Heap} {K : PySem.W.Frag} (c : SaysY fa fn ts tf ex fy w h K) (i : Nat) {d : DefY} (hi : fy[i]? = some d) (hc : d.clo = (["__class__"] : List Str)) : FunS K d.name d.qual d.params d.body d.scope (d.adr K) :=
  DefY.funS (c.at1 i hi) (List.all_eq_true.mp c.ok d (List.mem_of_getElem? hi)) hc
/-! ### the facts by Bools -/
theorem propB_ok {c f : Str} {K : PySem.W.Frag} (h : propB c f K = true) : PropOf K (He.ga K c) f (He.ma K (He.ga K c) f) (recA "property" c f K) := by
  obtain ⟨h1, h⟩ := He.ba h
  obtain ⟨h2, h⟩ := He.ba h
  obtain ⟨h3, h4⟩ := He.ba h
  refine ⟨He.eqO_ok h1, He.eqO_ok h2, of_decide_eq_true h3, ?_⟩
  unfold recA
  cases q : PySem.W.recIn K (He.ma K (He.ga K c) f) "property" with
  | none => rw [q] at h4; cases h4
  | some l =>
    rw [q] at h4
    cases l with
    | nil => cases h4
    | cons v r =>
      cases v with
      | ref g => exact ⟨r, rfl⟩
      | _ => cases h4
theorem cmethB_ok {c m : Str} {K : PySem.W.Frag} (h : cmethB c m K = true) : ClX.CRead K (He.ga K c) (.type "type") ∧ ClX.CMet K (He.ga K c) (.type "type") m (He.ma K (He.ga K c) m) (recA "classmethod" c m K) := by
  obtain ⟨h1, h⟩ := He.ba h
  obtain ⟨h2, h⟩ := He.ba h
  obtain ⟨h3, h⟩ := He.ba h
  obtain ⟨h4, h5⟩ := He.ba h
  refine ⟨⟨h1, He.eqO_ok h2⟩, ?_, ?_, h5⟩
  · split at h3
    · rename_i e
      obtain ⟨k1, k2⟩ := He.ba h3
      obtain ⟨k2, k3⟩ := He.ba k2
      have k1 := of_decide_eq_true k1
      have k2 := of_decide_eq_true k2
      have k3 := of_decide_eq_true k3
      subst k1 k2 k3
      exact e
    · cases h3
  · unfold recA
    cases q : PySem.W.recIn K (He.ma K (He.ga K c) m) "classmethod" with
    | none => rw [q] at h4; cases h4
    | some l =>
      rw [q] at h4
      cases l with
      | nil => cases h4
      | cons v r =>
        cases v with
        | ref g => exact ⟨r, rfl⟩
        | _ => cases h4
theorem opmB_ok {c m : Str} {K : PySem.W.Frag} (h : opmB c m K = true) : OpM K c m (He.ma K (He.ga K c) m) := by
  obtain ⟨h1, h⟩ := He.ba h
  obtain ⟨h2, h3⟩ := He.ba h
  exact ⟨He.eqO_ok h1, h2, h3⟩
theorem exAll {l : List (PySem.W.Frag → Bool)} {K : PySem.W.Frag} (h : (l.all fun b => b K) = true) (i : Nat) {b : PySem.W.Frag → Bool} (hi : l[i]? = some b) : b K = true := List.all_eq_true.mp h b (List.mem_of_getElem? hi)
end DL

set_option Elab.async false
set_option linter.all false
set_option maxRecDepth 100000
set_option maxHeartbeats 4000000
namespace DL
open PySem PySem.Spec PyProof.Rows L2 STx OrdS

/-- what the head tells, functions behind properties and class methods too -/
structure HdY (fa : List He.Fa) (fn : List He.DefD) (ex : PySem.W.Frag → Bool) (fy : List DefY) (K : PySem.W.Frag) (mg : Str → Option Value) : Prop extends Hd fa fn ex K mg where
  y : ∀ (i : Nat) (d : DefY), fy[i]? = some d → d.clo = [] → ∃ fd, FunD K d.name d.qual d.params d.body d.scope [] [] (d.adr K) fd
  z : ∀ (i : Nat) (d : DefY), fy[i]? = some d → d.clo = (["__class__"] : List Str) → FunS K d.name d.qual d.params d.body d.scope (d.adr K)
section
variable {fa : List He.Fa} {fn : List He.DefD} {ex : PySem.W.Frag → Bool} {K : PySem.W.Frag} {mg : Str → Option Value} (W : Hd fa fn ex K mg) (i : Nat)
include W
theorem Hd.clsF {x : Str} (h : fa[i]? = some (.cls x)) : Cls K (He.ga K x) := He.cls_ok (W.c.fact i h)
theorem Hd.noatF {x f : Str} (h : fa[i]? = some (.noat x f)) : NoAttr K (He.ga K x) f := He.noat_ok (W.c.fact i h)
theorem Hd.mkrF {x : Str} (h : fa[i]? = some (.mkr x)) : Mk K (He.ga K x) (He.ma K (He.ga K x) "__init__") := He.mkr_ok (W.c.fact i h)
end
/-! ### try: .. / except C as e: return 'w' if isinstance(e, M) else .. -/
/-! ### a law's end -/
theorem law_endY {l : PySem.W.OpenLaw} {n k N : Nat} {q : Program} {loose : List Str} {XP : (Str → Option Value) → Heap → Prop} {d : DefRec} {fa : List He.Fa} {fn : List He.DefD} {ts : List He.Tab} {tq : List (He.Defn × Str)} {ex : PySem.W.Frag → Bool} {fy : List DefY} {x lawN : Str} {F : PySem.W.Frag → List D → T D}
    (hn : l.most = some n) (hn2 : n ≤ sizeLine) (hdf : d.params.defaults = []) (hr : Room k callerA) (hdn : d.name = lawN)
    (ok : ∀ (w : World) (K : PySem.W.Frag) (mg : Str → Option Value) (h : Heap), K.In h → h.Ns mainGlobals mg → SaysY fa fn ts (tq.map (·.1)) ex fy w h K → (∃ fd, (∀ (s : Shared) (u : Value), BindsTo s fd ⟨[u], []⟩ [(x, u)]) ∧ ∃ oc od osl, K.lookup (He.ga K lawN) = some ⟨oc, od, .func fd, osl⟩) ∧ mg lawN = some (.ref (He.ga K lawN)) ∧
      ∀ base : Heap, K.In base → base.Ns mainGlobals mg → (∀ p ∈ tq, LamX.TabB base mg (He.cT K p.1).1 (He.cT K p.1).2) → Ok l.prog w K mg base k lawN [x] (F K))
    (hex : ∀ K, ex K = true → (tq.map fun p => (He.cT K p.1).2).Nodup)
    (data : ∀ (K : PySem.W.Frag) (ns : List Int), ex K = true → ns.length ≤ n → (∀ z ∈ ns, Builtin.Int.intBits z ≤ 1048576) → F K [.frz (ns.map D.int)] (S0 K tq) (fun d _ => d = .bl true) fun _ _ => False) :
    PySem.W.WalkO q loose XP (hookY N fa fn ts (tq.map (·.1)) ex fy).says l.row.toRowW d [] (fun f vs => PySem.call f vs) := by
  refine LamX.walk_ofTsE (x := x) (k := k) (CX := fun w => L2N.CX l.prog w) hn hn2 hdf hr (fun w mg fad h Y G hmg => ?_) fun w H s e s' z => by
    obtain ⟨_, _, _, _, _, _, _, _, _, _, _, _, z⟩ := z
    exact z
  obtain ⟨K, KX, c⟩ := Y
  obtain ⟨⟨fd, hb, oc, od, osl, lk⟩, hgl, hO⟩ := ok w K mg h KX G c
  have hF : ∀ base : Heap, K.In base → base.Ns mainGlobals mg → (∀ p ∈ tq, LamX.TabB base mg (He.cT K p.1).1 (He.cT K p.1).2) → FnOk l.prog w K mg base (L2N.CX l.prog w) k (He.ga K lawN) fd [x] (SpT K 1 (F K)) := fun base h1 h2 h3 => by
    obtain ⟨fd', G', _, oc', od', osl', lk'⟩ := (hO base h1 h2 h3).ex
    rw [lk] at lk'
    have e : fd = fd' := by injection lk' with e; injection e with _ _ e _; injection e
    subst e
    exact G'
  rw [hdn] at hmg
  have e : fad = He.ga K lawN := by
    rw [hmg] at hgl
    exact Value.ref.inj (Option.some.inj hgl)
  subst e
  have nd := hex K c.x.more
  have mem : ∀ p ∈ (tq.map (·.1)).map (He.cT K), ∃ t ∈ tq, p = He.cT K t.1 := fun p hp => by
    obtain ⟨d, hd, rfl⟩ := List.mem_map.mp hp
    obtain ⟨t, ht, rfl⟩ := List.mem_map.mp hd
    exact ⟨t, ht, rfl⟩
  refine ⟨K, KX, fd, (tq.map (·.1)).map (He.cT K), SpT K 1 (F K), fun p hp => ?_, fun p hp => ?_, fun p hp => ?_, hb, fun H a ns hl hbits hH hS => ?_, fun base h1 h2 h3 => hF base h1 h2 fun t ht => h3 _ (List.mem_map.mpr ⟨t.1, List.mem_map.mpr ⟨t, ht, rfl⟩, rfl⟩)⟩
  · obtain ⟨t, ht, rfl⟩ := mem p hp
    exact c.x.empty _ (List.mem_map.mpr ⟨t, ht, rfl⟩)
  · obtain ⟨t, ht, rfl⟩ := mem p hp
    exact c.x.out _ (List.mem_map.mpr ⟨t, ht, rfl⟩)
  · obtain ⟨t, ht, rfl⟩ := mem p hp
    exact PySem.W.codeHd_of_K KX (c.x.hd _ (List.mem_map.mpr ⟨t, ht, rfl⟩))
  · have nd2 : ((tq.map fun p => ((He.cT K p.1).2, p.2)).map (·.1)).Nodup := by rw [List.map_map]; exact nd
    have tabs : ∀ b m, S0 K tq b = some m → ∃ t ∈ tq, b = (He.cT K t.1).2 ∧ m = .tab t.2 := fun b m e => by
      unfold S0 at e
      obtain ⟨s, h1, h2⟩ := Option.map_eq_some_iff.mp e
      obtain ⟨t, ht, e2⟩ := List.mem_map.mp (mem_lookup' h1)
      cases e2
      exact ⟨t, ht, rfl, h2.symm⟩
    have at_ : ∀ t ∈ tq, H (He.cT K t.1).2 = some (.tbl #[]) := fun t ht => hH _ (List.mem_map.mpr ⟨t.1, List.mem_map.mpr ⟨t, ht, rfl⟩, rfl⟩)
    refine ⟨[.frz (ns.map D.int)], S0 K tq, fun b => if S0 K tq b = none then H b else none, fun d _ => d = .bl true, fun _ _ => False, ⟨fun b o e => ?_, fun b n => if_neg n, fun b m e => ?_⟩, .cons (.frz ?_ (Rps.ofInts ns)) .nil, rfl, data K ns c.x.more hl hbits, fun d S' e v H' H0' _ _ r => ?_, fun x S' z => z.elim⟩
    · by_cases hb : S0 K tq b = none
      · have e' : (if S0 K tq b = none then H b else none) = some o := e
        rw [if_pos hb] at e'; exact e'
      · have e' : (if S0 K tq b = none then H b else none) = some o := e
        rw [if_neg hb] at e'; cases e'
    · obtain ⟨t, ht, rfl, rfl⟩ := tabs b m e
      exact LamX.TabS.nil (at_ t ht)
    · have na : ∀ u, H a = some u → (∀ ps, u ≠ .tbl ps) → (if S0 K tq a = none then H a else none) = some u := fun u e hu => by
        have hb : S0 K tq a = none := by
          cases q : S0 K tq a with
          | none => rfl
          | some m =>
            obtain ⟨t, ht, rfl, _⟩ := tabs a m q
            rw [at_ t ht] at e
            exact absurd (Option.some.inj e).symm (hu _)
        rw [if_pos hb]; exact e
      rcases hS with (h | ⟨o, h⟩) | h
      · exact .inl (.inl (na _ h fun ps z => nomatch z))
      · exact .inl (.inr ⟨o, na _ h fun ps z => nomatch z⟩)
      · exact .inr h
    · have e : d = .bl true := e
      subst e
      cases r
      rfl
end DL

set_option Elab.async false
set_option linter.all false
set_option maxRecDepth 100000
set_option maxHeartbeats 4000000
namespace DL
open PySem PySem.Spec PyProof.Rows L2 STx OrdS

/-! ### sorted(t), t a tuple of texts -/
def rSortedTup (K : PySem.W.Frag) : List V → Hp → VK → Prop := fun vs H Q => ∃ (a : Addr) (xs : List Str), vs = [V.ref a] ∧ SqT K H a (xs.map V.str) ∧ xs.length < 64 ∧ ∀ (ys : List Str) (p : Addr), ys.Perm xs → sortedS ys = true → H p = none → Q (.ref p) (upd H p (.lst (ys.map V.str)))
theorem cr_sortedTup {X : Cx} : CallR X (.builtin "sorted") (rSortedTup X.K) := by
  intro pins s σ H vs us Q I r h
  obtain ⟨a, xs, rfl, hs, h64, q⟩ := h
  obtain ⟨its, rv, ⟨o, ho, hc, n, hd⟩, _⟩ := I.tuple hs
  rw [Vals.ref1 r]
  have hlen0 : xs.length = its.length := by
    have := rv.length
    rwa [List.length_map] at this
  have hS := rv.strs
  have h64' : its.length < 64 := by rw [← hlen0]; exact h64
  refine Calls.call_function_entry kind_sorted plain_sorted entry_sorted (args_sorted1 _) ?_
  unfold Builtin.«sorted»
  refine wpAny_bind (m := checkCount "sorted" 1 1 _) (wpAny_pure ?_)
  refine wpAny_bind (wpAny_collect_seq a (.inr rfl) ho hc hd (fun h' hk => ?_) (by rw [List.size_toArray]; exact small64 h64'))
  have e : its.toArray.toList = its := by simp
  rw [e]
  have J := I.kept (t' := s.toks) hk
  refine wpAny_bind (wpAny_newList ?_)
  have hoL : (h'.push (seqObj "list" its.toArray 0)).get? h'.objs.size = some (seqObj "list" its.toArray 0) := Heap.get?_push_size _ rfl
  refine wpAny_bind (wpAny_holding (wpAny_call_entry slot_list_sort ⟨_, hoL, rfl⟩ entry_list_sort (list_sort_treeK strKind_oneLt hoL hS.keysOf (fun v₁ v₂ rest e => keyKind_strs (by rw [← e]; exact hS)) h64' fun st' hp hs => ⟨_, rfl, ?_⟩) (args_list_sort _)))
  obtain ⟨ys, b1, b2, b3⟩ := sorted_out_str hS hp hs
  obtain ⟨ep, he'⟩ := sortedHeap_at (vs := its) (out := (arrOf st').map (·.2)) hoL
  have hlen : (ys.map V.str).length ≤ sizeLine := by rw [List.length_map, b2.length_eq]; exact small64 h64
  refine wpAny_pure ⟨_, rfl, ⟨.ref _, upd H h'.objs.size (.lst (ys.map V.str)), J.laid (t' := s.toks) (fun b u z => ?_) (Nat.le_refl _) ⟨hlen, _, ep, vals_of_strs b1, he'⟩, rfl, q ys _ b2 b3 (J.hok.fresh (Nat.le_refl _))⟩⟩
  have hb : b < h'.objs.size := Heap.lt_size z
  rw [sortedHeap_old (Nat.ne_of_lt hb) (by rw [Heap.size_push]; exact Nat.lt_succ_of_lt hb)]
  exact Heap.get?_push_of_some _ z
def dSortedT : List D → T D
  | [.tup xs] => dOpt (strsOf xs) fun ss => T.bind (dNeed (ss.length < 64)) fun _ => T.pure (.lst ((ssort ss).map D.str))
  | _ => T.fail
theorem s_sortedT {K : PySem.W.Frag} : CallS K (RN K) (rSortedTup K) dSortedT := by
  intro vs ds H H0 S Qd Ed Q st rs hf hq
  unfold dSortedT at hf
  split at hf
  · obtain ⟨v, rfl, rv⟩ := rs.one
    obtain ⟨a, xs, rfl, h1, r⟩ := rv.tup
    obtain ⟨ss, hb, hf⟩ := dOpt_inv hf
    rw [strsOf_eq hb] at r
    obtain ⟨hz, hf⟩ := hf
    refine ⟨a, ss, rfl, by rw [← r.strs]; exact sqT_sub st.sub h1, hz, fun ys q hp hs hn => ?_⟩
    obtain rfl := ssort_of hp hs
    obtain ⟨st2, gr2, n0, nS⟩ := alloc_n st hn (.lst ((ssort ss).map V.str))
    exact hq _ S hf _ _ _ st2 gr2 (.inl ⟨q, _, _, rfl, rfl, hn, upd_same, n0, nS, Rps.ofStrs _⟩)
  · exact hf.elim
end DL

set_option Elab.async false
set_option linter.all false
set_option maxRecDepth 100000
set_option maxHeartbeats 4000000
namespace DL
open PySem PySem.Spec PyProof.Rows L2 STx OrdS

/-! ### a run of a method where the row wants it -/
section
variable {X : Cx} {k : Nat} {E : XK} {g : Addr} {sp : Sp} {pins : List (Addr × Obj)} {σ : L2.St} {H : Hp} {s : Shared} {us : List Value} {vs : List V} {Q : VK}
theorem run_own (O : FnR X.prog X.w X.K X.mg X.base (L2N.CX X.prog X.w) k g sp) (hr : Room k X.A) (hx : Passes (L2N.CX X.prog X.w) X E) (I : Inv X pins σ H s) (r : Vals vs us) (h : sp vs H Q E) : wpAny (model X.prog X.w) X.A (call (.ref g) us) (EP X pins σ Q) X.xe s := by
  refine wpAny_call (codeAny_mono (run_fnR O hr hx I r h) fun q s' hq => ?_)
  cases q with
  | error e => exact hq
  | ok fl =>
    cases fl with
    | ret z => exact hq
    | _ => exact hq
theorem run_own1 (O : FnR X.prog X.w X.K X.mg X.base (L2N.CX X.prog X.w) k g sp) (hr : Room (k + 1) X.A) (hx : Passes (L2N.CX X.prog X.w) X E) (I : Inv X pins σ H s) (r : Vals vs us) (h : sp vs H Q E) : wpAny (model X.prog X.w) X.A.in1 (call (.ref g) us) (EP X pins σ Q) X.xe s := by
  refine wpAny_call (codeAny_mono (SlX.run_at O hr.in1 I.env0.in1 hx I r h) fun q s' hq => ?_)
  cases q with
  | error e => exact hq
  | ok fl =>
    cases fl with
    | ret z => exact hq
    | _ => exact hq
end
/-- asked of one instance, by a method of no argument -/
def sOwn1 (K : PySem.W.Frag) (c : Str) (sp : Sp) (E : XK) (x : V) (H : Hp) (Q : VK) : Prop := ∃ a dx vs, x = .ref a ∧ H a = some (.ins (He.ga K c) dx vs) ∧ sp [x] H Q E
def sOwn2 (K : PySem.W.Frag) (c : Str) (sp : Sp) (E : XK) (x y : V) (H : Hp) (Q : VK) : Prop := ∃ a dx vs, x = .ref a ∧ H a = some (.ins (He.ga K c) dx vs) ∧ sp [x, y] H Q E
/-! ### len(x), ~x, x in o, x[i] -/
section
variable {X : Cx} {k : Nat} {E : XK} {c : Str} {g : Addr} {sp : Sp}
theorem cr_lenOwn (M : OpM X.K c "__len__" g) (O : FnR X.prog X.w X.K X.mg X.base (L2N.CX X.prog X.w) k g sp) (hr : Room (k + 1) X.A) (hx : Passes (L2N.CX X.prog X.w) X E) :
    CallR X (.builtin "len") (fun xs H Q => ∃ x, xs = [x] ∧ sOwn1 X.K c sp E x H fun z H' => ∃ n : Nat, z = .int n ∧ (n : Int) < 2 ^ 63 ∧ Q z H') := by
  intro pins s σ H us xs Q I r h
  obtain ⟨x, rfl, a, dx, vs, rfl, ha, h⟩ := h
  obtain ⟨u, rfl, ru⟩ := vals1 r
  cases ru
  obtain ⟨ox, od, J⟩ := inst_at I ha
  obtain ⟨m, F⟩ := I.fr
  refine PySem.W.len_K F I.ok.mod.kin J M.at_ M.fn (wpAny_mono (run_own1 (vs := [.ref a]) O hr hx I (.cons rfl .nil) h) (fun z s' hz => ?_) fun _ _ y => y)
  obtain ⟨zv, H', I', rz, n, rfl, hn, hz⟩ := hz
  obtain ⟨t, rfl⟩ := (show ∃ t, z = Value.int n t from rz)
  exact ⟨⟨by omega, hn⟩, .int n, H', I'.tok _, ⟨_, rfl⟩, hz⟩
variable {a b : Expr} {ta tb : TE} {pos : Pos}
theorem pe_item_own (M : OpM X.K c "__getitem__" g) (hfi : PySem.W.fnIn X.K g = true) (O : FnR X.prog X.w X.K X.mg X.base (L2N.CX X.prog X.w) k g sp) (hr : Room (k + 1) X.A) (hx : Passes (L2N.CX X.prog X.w) X E) (ha : PE X a ta) (hb : PE X b tb)
    (hsl : ∀ o i, subscripted b true o i = runValue (.builtin "lifetime.subscript" ⟨[o, i], []⟩) := by intro _ _; with_unfolding_all rfl) : PE X (.Subscript a b pos) (tOp (fun x y H Q => sOwn2 X.K c sp E x y H Q) ta tb) := by
  refine ⟨fun pins s σ H Q I h => ?_⟩
  refine Subscript_ (binT ha hb I h fun v u s2 x y H2 I2 rx ry q => ?_)
  obtain ⟨p, dx, vs, rfl, hp, q⟩ := q
  cases rx
  obtain ⟨ox, od, J⟩ := inst_at I2 hp
  obtain ⟨m, F⟩ := I2.fr
  exact PySem.W.sub_K F I2.ok.mod.kin J M.at_ hfi M.fn (run_own1 (vs := [.ref p, y]) O hr hx I2 (.cons rfl (.cons ry .nil)) q) (hsl _ _)
/-! ### x op y, x < y .., y of the same class or of a built-in one -/
/-- the class of y, for the class c -/
inductive RightOf (K : PySem.W.Frag) (c : Str) (H : Hp) : V → Value → Prop
  | own {b dx : Addr} {vs : List (Str × V)} (h : H b = some (.ins (He.ga K c) dx vs)) : RightOf K c H (.ref b) (.ref (He.ga K c))
  | blt {y : V} {t : String} (h : TyX K H y (.type t)) (hs : PySem.W.subIn K (.type t) (.ref (He.ga K c)) = some false) : RightOf K c H y (.type t)
theorem right_look {pins : List (Addr × Obj)} {σ : L2.St} {H : Hp} {s : Shared} {y : V} {u t : Value} (I : Inv X pins σ H s) (ry : RelV y u) (h : RightOf X.K c H y t) : PySem.W.Looks (model X.prog X.w) s.heap (typeOf u) t ∧ PySem.W.notFirst X.K (He.ga X.K c) t = true := by
  cases h with
  | own h =>
    cases ry
    obtain ⟨ox, od, J⟩ := inst_at I h
    exact ⟨J.type, by unfold PySem.W.notFirst; simp⟩
  | blt h hs =>
    obtain ⟨P, KX, hP, _⟩ := kit_of I ry h
    exact ⟨KX.ty _ _ I.kIn hP, by unfold PySem.W.notFirst; rw [hs]; simp⟩
theorem op_cmp_own {op : CmpOp} (hop : ∀ a b, compareOp op a b = richCompare op a b) (M : OpM X.K c (cmpInfo op).2.1 g) (O : FnR X.prog X.w X.K X.mg X.base (L2N.CX X.prog X.w) k g sp) (hr : Room k X.A) (hx : Passes (L2N.CX X.prog X.w) X E) :
    OpR X (compareOp op) (fun x y H Q => (∃ t, RightOf X.K c H y t) ∧ sOwn2 X.K c sp E x y H Q) := by
  intro pins s σ H x y v u Q I rx ry h
  obtain ⟨⟨t, ht⟩, a, dx, vs, rfl, ha, h⟩ := h
  cases rx
  obtain ⟨ox, od, J⟩ := inst_at I ha
  obtain ⟨m, F⟩ := I.fr
  obtain ⟨L, hn⟩ := right_look I ry ht
  rw [hop]
  refine PySem.W.cmp_K (op := op) (tb := t) hr.units0 F I.ok.mod.kin J L hn M.at_ M.fn (wpAny_mono (run_own (vs := [.ref a, y]) O hr hx I (.cons rfl (.cons ry .nil)) h) (fun z s' hz => ?_) fun _ _ y => y)
  obtain ⟨zv, H', I', rz, hz⟩ := hz
  exact SlX.cmpback rz ⟨zv, H', I', rz, hz⟩
theorem op_bin_same {op : Operator} (M : OpM X.K c (PySem.dunder op.info.2) g) (O : FnR X.prog X.w X.K X.mg X.base (L2N.CX X.prog X.w) k g sp) (hr : Room k X.A) (hx : Passes (L2N.CX X.prog X.w) X E) :
    OpR X (binaryOp op) (fun x y H Q => (∃ b dx vs, y = .ref b ∧ H b = some (.ins (He.ga X.K c) dx vs)) ∧ sOwn2 X.K c sp E x y H Q) := by
  intro pins s σ H x y v u Q I rx ry h
  obtain ⟨⟨b, dy, ws, rfl, hb⟩, a, dx, vs, rfl, ha, h⟩ := h
  cases rx
  cases ry
  obtain ⟨ox, od, J⟩ := inst_at I ha
  obtain ⟨oy, od', J'⟩ := inst_at I hb
  obtain ⟨m, F⟩ := I.fr
  refine PySem.W.binop_K F I.ok.mod.kin J J'.type M.sf M.at_ M.fn (wpAny_mono (run_own (vs := [.ref a, .ref b]) O hr hx I (.cons rfl (.cons rfl .nil)) h) (fun z s' hz => ?_) fun _ _ y => y)
  obtain ⟨zv, H', I', rz, hz⟩ := hz
  exact SlX.cmpback rz ⟨zv, H', I', rz, hz⟩
end
end DL

set_option Elab.async false
set_option linter.all false
set_option maxRecDepth 100000
set_option maxHeartbeats 4000000
namespace DL
open PySem PySem.Spec PyProof.Rows L2 STx OrdS

/-! ### methods -/
section
variable {X : Cx} {j k : Nat} {E : XK} {c m : Str} {f : Addr} {F : List D → T D} {e o : Expr} {es : List Expr} {pos apos : Pos} {mo : ME} {ma : MA} {ps : List Str} {pl : Sem Bool}
theorem x_meth (C : Cls X.K (He.ga X.K c)) (M : Meth X.K (He.ga X.K c) m f) (O : ∃ fd, FnOk X.prog X.w X.K X.mg X.base (L2N.CX X.prog X.w) j f fd ps (SpT X.K ps.length F) ∧ L2.Binds X.K fd ps []) (hr : Room k X.A) (hj : j ≤ k) (hx : Passes (L2N.CX X.prog X.w) X E) (ho : XE X E o mo) (ha : XA X E (e :: es) ma)
    (hst : starEach (e :: es) X.env = (false, eval e X.env) :: starEach es X.env := by rfl) (hpl : (backTo pos (starEach es X.env)).any (·.1) = false := by rfl)
    (ht : eval (.Call (.Attribute o m apos) (e :: es) [] pos) X.env = (do
      let ov ← eval o X.env
      standAt apos.atName
      let (f, first) ← holding [ov] (getMethod ov m pl)
      callWith pos f first (backTo pos (starEach (e :: es) X.env)) (backToKw pos (keywordEach [] X.env))) := by rfl) :
    XE X E (.Call (.Attribute o m apos) (e :: es) [] pos) (fun g => T.bind (mo g) fun d => insOf c d fun _ fs => T.bind (dNeed (fs.lookup m = none)) fun _ => T.bind (ma g) fun ds => needN ps.length F (d :: ds)) := by
  obtain ⟨fd, G, bi⟩ := O
  refine pe_w (pe_meth (pl := pl) ho C M G (hr.mono hj) bi .nil hx ha hst hpl ht) fun σ H Q ⟨g, S, H0, Qd, Ed, rel, hm, hq, hexc⟩ => ?_
  refine ⟨g, S, H0, _, Ed, rel, hm, fun d S1 hf v H1 H01 st1 gr1 r1 => ?_, hexc⟩
  obtain ⟨a, fs, rfl, hS, hn, hf⟩ := hf
  cases r1
  obtain ⟨dx, vs, h1, hk, _⟩ := st1.sto a _ hS
  refine ⟨a, dx, vs, rfl, h1, flds_none hk hn, g, S1, H01, _, Ed, rel.grow st1 gr1, hf, fun ds S2 hf2 ws H2 H02 st2 gr2 r2 => ?_, fun y S' ey => (hexc y S' ey).grow st1 gr1⟩
  obtain ⟨hl, hf2⟩ := hf2
  have gr := gr1.trans st1 gr2
  rw [List.append_nil]
  exact ⟨.ref a :: ds, S2, H02, Qd, Ed, st2, .cons (.ref a) r2, hl, hf2, fun d S' h v H' H0' st' gr' rv => hq d S' h v H' H0' st' (gr.trans st2 gr') rv, fun y S' ey => (hexc y S' ey).grow st2 gr⟩
theorem x_meth0 (C : Cls X.K (He.ga X.K c)) (M : Meth X.K (He.ga X.K c) m f) (O : ∃ fd, FnOk X.prog X.w X.K X.mg X.base (L2N.CX X.prog X.w) j f fd ps (SpT X.K ps.length F) ∧ L2.Binds X.K fd ps []) (hr : Room k X.A) (hj : j ≤ k) (hx : Passes (L2N.CX X.prog X.w) X E) (ho : XE X E o mo)
    (ht : eval (.Call (.Attribute o m apos) [] [] pos) X.env = (do
      let ov ← eval o X.env
      standAt apos.atName
      let (f, first) ← holding [ov] (getMethod ov m pl)
      callWith pos f first (backTo pos (starEach [] X.env)) (backToKw pos (keywordEach [] X.env))) := by rfl) :
    XE X E (.Call (.Attribute o m apos) [] [] pos) (fun g => T.bind (mo g) fun d => insOf c d fun _ fs => T.bind (dNeed (fs.lookup m = none)) fun _ => needN ps.length F [d]) := by
  obtain ⟨fd, G, bi⟩ := O
  refine pe_w (pe_meth0 (pl := pl) ho C M G (hr.mono hj) bi .nil hx ht) fun σ H Q ⟨g, S, H0, Qd, Ed, rel, hm, hq, hexc⟩ => ?_
  refine ⟨g, S, H0, _, Ed, rel, hm, fun d S1 hf v H1 H01 st1 gr1 r1 => ?_, hexc⟩
  obtain ⟨a, fs, rfl, hS, hn, hl, hf⟩ := hf
  cases r1
  obtain ⟨dx, vs, h1, hk, _⟩ := st1.sto a _ hS
  exact ⟨a, dx, vs, rfl, h1, flds_none hk hn, [.ref a], S1, H01, Qd, Ed, st1, .cons (.ref a) .nil, hl, hf, fun d S' h v H' H0' st' gr' rv => hq d S' h v H' H0' st' (gr1.trans st1 gr') rv, fun y S' ey => (hexc y S' ey).grow st1 gr1⟩
end
/-! ### special methods, in data -/
def callI (c : Str) (F : List D → T D) (d : D) (ds : List D) : T D := insOf c d fun _ _ => F (d :: ds)
theorem own_sp {K : PySem.W.Frag} {E : XK} {c : Str} {F : List D → T D} {H1 H01 : Hp} {S1 : Sto} {v : V} {d : D} {vs : List V} {ds : List D} {Qd : D → Sto → Prop} {Ed : Xn → Sto → Prop} {Q : VK} (st1 : StR K H1 H01 S1) (rv : Rp K H01 v d) (rs : Rps K H01 vs ds) (hf : callI c F d ds S1 Qd Ed)
    (hq : ∀ d S', Qd d S' → ∀ v H' H0', StR K H' H0' S' → Grow H1 H01 S1 H' H0' S' → Rp K H0' v d → Q v H') (he : ∀ x S', Ed x S' → EX K E H1 H01 S1 x S') : ∃ a dx fs, v = .ref a ∧ H1 a = some (.ins (He.ga K c) dx fs) ∧ SpA K F (v :: vs) H1 Q E := by
  obtain ⟨a, fs, rfl, hS, hf⟩ := hf
  cases rv
  obtain ⟨dx, ws, h1, _, _⟩ := st1.sto a _ hS
  exact ⟨a, dx, ws, rfl, h1, .ref a :: ds, S1, H01, Qd, Ed, st1, .cons (.ref a) rs, hf, hq, he⟩
def natD : D → T D
  | .int i => T.bind (dNeed (0 ≤ i ∧ i < 2 ^ 63)) fun _ => T.pure (.int i)
  | _ => T.fail
/-- what stands on the right of an own operator -/
def rightD (c : Str) (d : D) : T Unit := fun S Q _ => ((∃ b fs, d = .ref b ∧ S b = some (.ins c fs)) ∨ ∃ t, tyN d = some t) ∧ Q () S
theorem tyN_in {d : D} {t : String} (h : tyN d = some t) : t ∈ ["NoneType", "bool", "int", "str", "tuple", "list"] := by
  cases d <;> first | (cases h; done) | (injection h with h; subst h; decide)
theorem right_of {K : PySem.W.Frag} {c : Str} {H H0 : Hp} {S : Sto} (st : StR K H H0 S) (hB : rightB c K = true) {v : V} {d : D} (r : Rp K H0 v d) (h : (∃ b fs, d = .ref b ∧ S b = some (.ins c fs)) ∨ ∃ t, tyN d = some t) : ∃ t, RightOf K c H v t := by
  rcases h with ⟨b, fs, rfl, hS⟩ | ⟨t, ht⟩
  · cases r
    obtain ⟨dx, ws, h1, _, _⟩ := st.sto b _ hS
    exact ⟨_, .own h1⟩
  · exact ⟨_, .blt (RB.tyX (Ha := H) st (.inl r) ht) (of_decide_eq_true (List.all_eq_true.mp hB t (tyN_in ht)))⟩
section
variable {X : Cx} {j k : Nat} {E : XK} {c : Str} {g : Addr} {F : List D → T D} {a b : Expr} {pos p : Pos} {ma mb : ME}
theorem x_lenI (M : OpM X.K c "__len__" g) (O : OkM X.prog X.w X.K X.mg X.base j g F) (hr : Room k X.A) (hj : j + 1 ≤ k) (hx : Passes (L2N.CX X.prog X.w) X E) (hm : X.mg "len" = none) (h : XE X E a ma) (hg : Gl X "len" := by rfl)
    (he : starEach [a] X.env = (false, eval a X.env) :: starEach [] X.env := by rfl) (hpl : (backTo pos (starEach [] X.env)).any (·.1) = false := by rfl) :
    XE X E (.Call (.Name "len" p) [a] [] pos) (fun g => T.bind (ma g) fun d => T.bind (callI c F d []) natD) := by
  refine pe_w (pe_callB (cr_lenOwn M O.fn (hr.mono hj) hx) hg hm bb_len (pa_cons h pa_nil he) (by decide) (by decide) he hpl) fun σ H Q ⟨g, S, H0, Qd, Ed, rel, hm, hq, hexc⟩ => ?_
  refine ⟨g, S, H0, _, Ed, rel, hm, fun d S1 hf v H1 H01 st1 gr1 r1 => ⟨v, rfl, own_sp st1 r1 .nil hf (fun z S2 hz w H2 H02 st2 gr2 rw_ => ?_) fun y S' ey => (hexc y S' ey).grow st1 gr1⟩, hexc⟩
  unfold natD at hz
  split at hz
  · rename_i i
    obtain ⟨⟨h0, h1⟩, hz⟩ := hz
    cases rw_
    exact ⟨i.toNat, by rw [Int.toNat_of_nonneg h0], by rw [Int.toNat_of_nonneg h0]; exact h1, hq _ S2 hz _ H2 H02 st2 (gr1.trans st1 gr2) (.int i)⟩
  · exact hz.elim
/-- two operands, from the left -/
theorem two_lf {K : PySem.W.Frag} {r : R2} {f : D → D → T D} {σ : L2.St} {H : Hp} {Q : VK} (h : lf K E (RF K) (fun g => T.bind (ma g) fun x => T.bind (mb g) fun y => f x y) σ H Q)
    (hs : ∀ (v w : V) (d e : D) (H2 H02 : Hp) (S2 : Sto) (Qd : D → Sto → Prop) (Ed : Xn → Sto → Prop), StR K H2 H02 S2 → Rp K H02 v d → Rp K H02 w e → f d e S2 Qd Ed → (∀ z S3, Qd z S3 → ∀ u H3 H03, StR K H3 H03 S3 → Grow H2 H02 S2 H3 H03 S3 → Rp K H03 u z → Q u H3) → (∀ x S', Ed x S' → EX K E H2 H02 S2 x S') → r v w H2 Q) :
    tOp r (lf K E (RF K) ma) (lf K E (RF K) mb) σ H Q := by
  obtain ⟨g, S, H0, Qd, Ed, rel, hm, hq, hexc⟩ := h
  refine ⟨g, S, H0, _, Ed, rel, hm, fun d S1 hf v H1 H01 st1 gr1 r1 => ?_, hexc⟩
  refine ⟨g, S1, H01, _, Ed, rel.grow st1 gr1, hf, fun e S2 hf2 w H2 H02 st2 gr2 r2 => ?_, fun y S' ey => (hexc y S' ey).grow st1 gr1⟩
  have gr := gr1.trans st1 gr2
  exact hs v w d e H2 H02 S2 Qd Ed st2 (r1.sub gr2.sub) r2 hf2 (fun z S3 hz u H3 H03 st3 gr3 r3 => hq z S3 hz u H3 H03 st3 (gr.trans st2 gr3) r3) fun y S' ey => (hexc y S' ey).grow st2 gr
theorem x_ixI (M : OpM X.K c "__getitem__" g) (hfi : PySem.W.fnIn X.K g = true) (O : OkM X.prog X.w X.K X.mg X.base j g F) (hr : Room k X.A) (hj : j + 1 ≤ k) (hx : Passes (L2N.CX X.prog X.w) X E) (ha : XE X E a ma) (hb : XE X E b mb)
    (hsl : ∀ o i, subscripted b true o i = runValue (.builtin "lifetime.subscript" ⟨[o, i], []⟩) := by intro _ _; with_unfolding_all rfl) : XE X E (.Subscript a b pos) (fun g => T.bind (ma g) fun x => T.bind (mb g) fun y => callI c F x [y]) :=
  pe_w (pe_item_own M hfi O.fn (hr.mono hj) hx ha hb hsl) fun σ H Q h => two_lf h fun v w d e H2 H02 S2 Qd Ed st rv rw_ hf hq he => own_sp st rv (.cons rw_ .nil) hf hq he
theorem x_cmpI {op : CmpOp} (hop : ∀ a b, compareOp op a b = richCompare op a b) (M : OpM X.K c (cmpInfo op).2.1 g) (hB : rightB c X.K = true) (O : OkM X.prog X.w X.K X.mg X.base j g F) (hr : Room k X.A) (hj : j ≤ k) (hx : Passes (L2N.CX X.prog X.w) X E) (ha : XE X E a ma) (hb : XE X E b mb) (hmk : behindInMarks op b = false := by rfl) :
    XE X E (.Compare a [op] [b] pos) (fun g => T.bind (ma g) fun x => T.bind (mb g) fun y => T.bind (rightD c y) fun _ => callI c F x [y]) :=
  pe_w (pe_cmpR (op_cmp_own hop M O.fn (hr.mono hj) hx) ha hb hmk) fun σ H Q h => two_lf h fun v w d e H2 H02 S2 Qd Ed st rv rw_ hf hq he => ⟨right_of st hB rw_ hf.1, own_sp st rv (.cons rw_ .nil) hf.2 hq he⟩
theorem x_callI {fe e : Expr} {es : List Expr} {mf : ME} {me : MA} (hf : XE X E fe mf) (C : StX.CallO X.K (He.ga X.K c) g) (O : OkM X.prog X.w X.K X.mg X.base j g F) (hr : Room k X.A) (hj : j ≤ k) (hx : Passes (L2N.CX X.prog X.w) X E) (ha : XA X E (e :: es) me)
    (ht : eval (.Call fe (e :: es) [] pos) X.env = (do callWith pos (← eval fe X.env) [] (backTo pos (starEach (e :: es) X.env)) (backToKw pos (keywordEach [] X.env))) := by rfl)
    (he : starEach (e :: es) X.env = (false, eval e X.env) :: starEach es X.env := by rfl) (hpl : (backTo pos (starEach es X.env)).any (·.1) = false := by rfl) :
    XE X E (.Call fe (e :: es) [] pos) (fun g => T.bind (mf g) fun d => insOf c d fun _ _ => T.bind (me g) fun ds => callI c F d ds) := by
  refine pe_w (StX.pe_callO hf C O.fn (hr.mono hj) hx ha ht he hpl) fun σ H Q ⟨g, S, H0, Qd, Ed, rel, hm, hq, hexc⟩ => ?_
  refine ⟨g, S, H0, _, Ed, rel, hm, fun d S1 hf v H1 H01 st1 gr1 r1 => ?_, hexc⟩
  obtain ⟨p, fs0, rfl, _, hf⟩ := hf
  cases r1
  refine ⟨p, rfl, g, S1, H01, _, Ed, rel.grow st1 gr1, hf, fun ds S2 hf2 vs H2 H02 st2 gr2 r2 => ?_, fun y S' ey => (hexc y S' ey).grow st1 gr1⟩
  have gr := gr1.trans st1 gr2
  obtain ⟨a, dx, fs, e1, h1, h2⟩ := own_sp st2 (.ref p) r2 hf2 (fun z S3 hz u H3 H03 st3 gr3 r3 => hq z S3 hz u H3 H03 st3 (gr.trans st2 gr3) r3) fun y S' ey => (hexc y S' ey).grow st2 gr
  cases e1
  exact ⟨.inr ⟨dx, fs, h1⟩, h2⟩
end
/-! ### isinstance(x, C) of an own class -/
def dIsiC (c : Str) : List D → T D := fun ds S Q _ => ∃ d, ds = [d, .glo c] ∧ (((∃ b fs, d = .ref b ∧ S b = some (.ins c fs)) ∧ Q (.bl true) S) ∨ ((∃ t, tyN d = some t) ∧ Q (.bl false) S))
theorem s_isiC {K : PySem.W.Frag} {c : Str} (C : Cls K (He.ga K c)) (hB : isiB c K = true) : CallS K (RF K) (rIsi K) (dIsiC c) := by
  obtain ⟨b1, h⟩ := He.ba hB
  obtain ⟨b2, h⟩ := He.ba h
  obtain ⟨b3, h⟩ := He.ba h
  obtain ⟨b4, h⟩ := He.ba h
  obtain ⟨b5, b6⟩ := He.ba h
  intro vs ds H H0 S Qd Ed Q st rs hf hq
  obtain ⟨d, rfl, hf⟩ := hf
  · obtain ⟨v, w, rfl, rv, rw'⟩ := rs.two
    cases rw'.glo
    rcases hf with ⟨⟨b, fs, rfl, hS⟩, hf⟩ | ⟨⟨t, ht⟩, hf⟩
    · cases rv.ref
      obtain ⟨dx, ws, h1, _, _⟩ := st.sto b _ hS
      exact ⟨_, _, _, _, true, rfl, .own _, .base (.ins h1 C (He.eqO_ok b1) (He.eqO_ok b2) (of_decide_eq_true b3) (of_decide_eq_true b4)), of_decide_eq_true b5, hq _ S hf _ H H0 st (Grow.refl _ _ _) (.bl _)⟩
    · exact ⟨v, _, .type t, _, false, rfl, .own _, rv.tyX st ht, of_decide_eq_true (List.all_eq_true.mp b6 t (tyN_in ht)), hq _ S hf _ H H0 st (Grow.refl _ _ _) (.bl _)⟩
/-! ### bool(x) by an own __bool__ -/
end DL

set_option Elab.async false
set_option linter.all false
set_option maxRecDepth 100000
set_option maxHeartbeats 4000000
namespace DL
open PySem PySem.Spec PyProof.Rows L2 STx OrdS
/-! ### x op y, y of a built-in class -/
open PySem.W in
theorem bin_right {prog : Program} {w : World} {A : Around} {E : Value → Shared → Prop} {s : Shared} {K : Frag} {x C f : Addr} {ox : Obj} {od : Option Obj} {T : String} {op : Operator} {y : Value} {lo le lc : Option Value} {Q : Value → Shared → Prop}
    (KX : K.In s.heap) (J : InstAt s.heap x ox C od) (Ly : Looks (model prog w) s.heap (typeOf y) (.type T)) (sf : selfFirst K C = true) (at_ : findIn K (.ref C) (PySem.dunder op.info.2) = some (some (.ref f))) (fn : isFn K (.ref f) = true)
    (rv : findIn K (.ref C) (dunderR op.info.2) = some lc) (rk : lc = none ∨ ∃ g : Addr, lc = some (.ref g)) (t1 : findIn K (.type T) (PySem.dunder op.info.2) = some lo) (t2 : findIn K (.type T) (dunderR op.info.2) = some le) (ts : subIn K (.type T) (.ref C) = some false)
    (h : wpAny (model prog w) A (call (.ref f) [.ref x, y]) (PySem.W.CmpBack Q) E s) : wpAny (model prog w) A (binaryOp op (.ref x) y) Q E s := by
  obtain ⟨cd, tl, e1, e2⟩ := ksp_first sf
  rcases ei : op.info with ⟨sy, nn⟩
  rw [ei] at at_ rv t1 t2
  dsimp only at at_ rv t1 t2
  have go := ksp_try KX J at_ fn h
  obtain ⟨hp, gs, dr, tk, os⟩ := s
  have q1 : Looks (model prog w) hp (typeOf (.ref x)) (.ref C) := J.type
  have q2 : Looks (model prog w) hp (typeOf y) (.type T) := Ly
  have q3 : Looks (model prog w) hp (fillsNumberSlot (.ref C) nn) true := fills_K KX e1 e2 at_
  have q4 := ksp_fillsT (M := model prog w) KX t1 t2
  have q5 : Looks (model prog w) hp (isSubtype (.type T) (.ref C)) false := looks_subIn KX ts
  have q6 : Looks (model prog w) hp (numberSlotInPython (.ref C) nn) true := ksp_inPy KX at_ rv rk
  have q7 : Looks (model prog w) hp (numberSlotInPython (.type T) nn) false := Looks.of_pure rfl
  have q8 : Looks (model prog w) hp (typeLookup (.type T) (dunderR nn)) le := looks_findIn KX t2
  generalize ((lo.isSome && !isSeqSlot lo) || (le.isSome && !isSeqSlot le)) = rt at q4
  have nc : (Value.ref C == Value.type T) = false := by
    cases z : (Value.ref C == Value.type T) with
    | false => rfl
    | true => cases beq_iff_eq.mp z
  simp only [binaryOp, ei]
  refine wpAny_holding (wpAny_bind ?_)
  unfold binaryOp1
  refine wpAny_bind (q1.at (wpAny_bind (q2.at (wpAny_bind (q3.at ?_)))))
  simp only [nc, Bool.false_eq_true, if_false]
  cases rt <;>
  · ksp_lk
    refine wpAny_mono go (fun r s' hr' => ?_) fun _ _ z => z
    obtain ⟨v, rfl, hq⟩ := hr'
    ksp_lk
    exact hq
theorem binB_ok {c : Str} {op : Operator} {K : PySem.W.Frag} (h : binB c op K = true) : rightB c K = true ∧ (∃ lc, PySem.W.findIn K (.ref (He.ga K c)) (dunderR op.info.2) = some lc ∧ (lc = none ∨ ∃ g : Addr, lc = some (.ref g))) ∧
    ∀ t ∈ ["NoneType", "bool", "int", "str", "tuple", "list"], (∃ lo, PySem.W.findIn K (.type t) (PySem.dunder op.info.2) = some lo) ∧ ∃ le, PySem.W.findIn K (.type t) (dunderR op.info.2) = some le := by
  obtain ⟨h1, h⟩ := He.ba h
  obtain ⟨h2, h3⟩ := He.ba h
  refine ⟨h1, ?_, fun t ht => ?_⟩
  · split at h2
    · rename_i e; exact ⟨_, e, .inl rfl⟩
    · rename_i e; exact ⟨_, e, .inr ⟨_, rfl⟩⟩
    · cases h2
  · obtain ⟨k1, k2⟩ := He.ba (List.all_eq_true.mp h3 t ht)
    exact ⟨Option.isSome_iff_exists.mp k1, Option.isSome_iff_exists.mp k2⟩
section
variable {X : Cx} {j k : Nat} {E : XK} {c : Str} {g : Addr} {F : List D → T D} {sp : Sp} {a b : Expr} {p pos : Pos} {ma mb : ME}
theorem op_bin_own {op : Operator} (M : OpM X.K c (PySem.dunder op.info.2) g) (hB : binB c op X.K = true) (O : FnR X.prog X.w X.K X.mg X.base (L2N.CX X.prog X.w) k g sp) (hr : Room k X.A) (hx : Passes (L2N.CX X.prog X.w) X E) :
    OpR X (binaryOp op) (fun x y H Q => ((∃ b dx vs, y = .ref b ∧ H b = some (.ins (He.ga X.K c) dx vs)) ∨ ∃ t ∈ ["NoneType", "bool", "int", "str", "tuple", "list"], TyX X.K H y (.type t)) ∧ sOwn2 X.K c sp E x y H Q) := by
  intro pins s σ H x y v u Q I rx ry h
  obtain ⟨hy, h⟩ := h
  rcases hy with hy | ⟨t, ht, hy⟩
  · exact op_bin_same M O hr hx pins s σ H x y v u Q I rx ry ⟨hy, h⟩
  · obtain ⟨q, dx, vs, rfl, ha, h⟩ := h
    cases rx
    obtain ⟨ox, od, J⟩ := inst_at I ha
    obtain ⟨b1, ⟨lc, b2, b3⟩, b4⟩ := binB_ok hB
    obtain ⟨⟨lo, b5⟩, le, b6⟩ := b4 t ht
    obtain ⟨P, KX, hP, _⟩ := kit_of I ry hy
    refine bin_right I.kIn J (KX.ty _ _ I.kIn hP) M.sf M.at_ M.fn b2 b3 b5 b6 (of_decide_eq_true (List.all_eq_true.mp b1 t ht)) (wpAny_mono (run_own (vs := [.ref q, y]) O hr hx I (.cons rfl (.cons ry .nil)) h) (fun z s' hz => ?_) fun _ _ y => y)
    obtain ⟨zv, H', I', rz, hz⟩ := hz
    exact SlX.cmpback rz ⟨zv, H', I', rz, hz⟩
theorem x_binR {op : Operator} (M : OpM X.K c (PySem.dunder op.info.2) g) (hB : binB c op X.K = true) (O : OkM X.prog X.w X.K X.mg X.base j g F) (hr : Room k X.A) (hj : j ≤ k) (hx : Passes (L2N.CX X.prog X.w) X E) (ha : XE X E a ma) (hb : XE X E b mb) :
    XE X E (.BinOp a op b pos) (fun g => T.bind (ma g) fun x => T.bind (mb g) fun y => T.bind (rightD c y) fun _ => callI c F x [y]) :=
  pe_w (pe_op (op_bin_own M hB O.fn (hr.mono hj) hx) ha hb) fun σ H Q h => two_lf h fun v w d e H2 H02 S2 Qd Ed st rv rw_ hf hq he => by
    obtain ⟨hy, hf⟩ := hf
    refine ⟨?_, own_sp st rv (.cons rw_ .nil) hf hq he⟩
    rcases hy with ⟨b', fs, rfl, hS⟩ | ⟨t, ht⟩
    · cases rw_
      obtain ⟨dy, ws, h1, _, _⟩ := st.sto b' _ hS
      exact .inl ⟨b', dy, ws, rfl, h1⟩
    · exact .inr ⟨t, tyN_in ht, RB.tyX (Ha := H2) st (.inl rw_) ht⟩
end
end DL

set_option Elab.async false
set_option linter.all false
set_option maxRecDepth 100000
set_option maxHeartbeats 4000000
namespace DL
open PySem PySem.Spec PyProof.Rows L2 STx OrdS
/-! ### what a call returns, or a word: try: return a() / except C: return 'w' .. -/
section
variable {fa : List He.Fa} {fn : List He.DefD} {ex : PySem.W.Frag → Bool} {K : PySem.W.Frag} {mg : Str → Option Value} (W : Hd fa fn ex K mg) (i : Nat)
include W
theorem Hd.methF {x m : Str} (h : fa[i]? = some (.meth x m)) : Meth K (He.ga K x) m (He.ma K (He.ga K x) m) := He.meth_ok (W.c.fact i h)
end
theorem callB_ok {c : Str} {K : PySem.W.Frag} (h : callB c K = true) : StX.CallO K (He.ga K c) (He.ma K (He.ga K c) "__call__") := by
  obtain ⟨h1, h⟩ := He.ba h
  obtain ⟨h2, h3⟩ := He.ba h
  exact ⟨He.eqO_ok h1, h2, h3⟩
/-! ### C.f, a whole number of the class -/
/-! ### own comparisons as tests; -1 -/
section
variable {X : Cx} {j k : Nat} {E : XK} {c : Str} {g : Addr} {F : List D → T D} {a b : Expr} {pos p : Pos} {ma mb : ME}
theorem lt_lf {K : PySem.W.Frag} {m : ME} {σ : L2.St} {H : Hp} {Q : Bool → Hp → Prop} (h : lt K E (fun g => T.bind (m g) dAsB) σ H Q) : lf K E (RF K) m σ H fun x H' => ∃ k, x = .bl k ∧ Q k H' := by
  obtain ⟨g, S, H0, Qd, Ed, rel, hm, hq, hexc⟩ := h
  refine ⟨g, S, H0, _, Ed, rel, hm, fun d S' hd v H' H0' st gr r => ?_, hexc⟩
  obtain ⟨b, rfl, hd⟩ := dAsB_inv hd
  cases r
  exact ⟨b, rfl, hq b S' hd H' H0' st gr⟩
end
end DL

set_option Elab.async false
set_option linter.all false
set_option maxRecDepth 100000
set_option maxHeartbeats 4000000

set_option Elab.async false
set_option linter.all false
set_option maxRecDepth 100000
set_option maxHeartbeats 4000000
namespace DL
open PySem PySem.Spec PyProof.Rows L2 STx OrdS GenW
/-! ### generators, in data -/
abbrev MGn := Sg → T (List D)
/-! ### a generator method -/
/-! ### f-strings of several parts -/
inductive XJ (X : Cx) (E : XK) : List Expr → List ME → Prop
  | nil : XJ X E [] []
  | cons {e : Expr} {m : ME} {es : List Expr} {ms : List ME} : XE X E e m → XJ X E es ms → XJ X E (e :: es) (m :: ms)
section
variable {X : Cx} {E : XK}
theorem XJ.pj {es : List Expr} {ms : List ME} (h : XJ X E es ms) : PJ X es (ms.map fun m => lf X.K E (RF X.K) m) := by
  induction h with
  | nil => exact .nil
  | cons a b ih => exact .cons a ih
end
end DL

set_option Elab.async false
set_option linter.all false
set_option maxRecDepth 100000
set_option maxHeartbeats 4000000
namespace DL
open PySem PySem.Spec PyProof.Rows L2 STx OrdS
/-! ### lists of the store -/
def newR (xs : List D) : T D := fun S Q _ => ∀ p, S p = none → Q (.ref p) (S.up p (.lst xs))
def newL : D → T D
  | .lst xs => newR xs
  | _ => T.fail
def lstOf {α : Type} (d : D) (f : Addr → List D → T α) : T α := fun S Q E => ∃ a xs, d = .ref a ∧ S a = some (.lst xs) ∧ f a xs S Q E
section
variable {X : Cx} {E : XK} {b : Bs} {e o : Expr} {me mo : ME} {pos p : Pos}
/-- a new list, of the store from here on -/
theorem XN.sto (h : XN X E e me) : XE X E e (fun g => T.bind (me g) newL) := by
  refine pe_w h fun σ H Q ⟨g, S, H0, Qd, Ed, rel, hm, hq, he⟩ => ⟨g, S, H0, _, Ed, rel, hm, fun d S1 hf v H1 H01 st1 gr1 r1 => ?_, he⟩
  unfold newL at hf
  split at hf
  · rcases r1 with ⟨p, xs, ds, rfl, e2, h0, h1, h2, h3, rr⟩ | ⟨p, kvs, ks, ds, e1, e2, _⟩
    · cases e2
      exact hq _ _ (hf p h3) _ H1 H01 (st1.newS h2 (m' := .lst _) ⟨xs, h1, rr⟩) (gr1.newS h0) (.ref p)
    · cases e2
  · exact hf.elim
def dLenM : List D → T D
  | [.ref a] => lstOf (.ref a) fun _ xs => T.pure (.int xs.length)
  | _ => T.fail
theorem s_lenM {K : PySem.W.Frag} : CallS K (RF K) (fun xs H Q => ∃ x n, xs = [x] ∧ LenV K x H n ∧ Q (.int n) H) dLenM := by
  intro vs ds H H0 S Qd Ed Q st rs hf hq
  unfold dLenM at hf
  split at hf
  · obtain ⟨v, rfl, rv⟩ := rs.one
    cases rv.ref
    obtain ⟨a, xs, e, hS, hf⟩ := hf
    cases e
    obtain ⟨ws, h1, r⟩ := st.sto _ _ hS
    refine ⟨_, ws.length, rfl, .inl ⟨ws, .of h1, rfl⟩, ?_⟩
    rw [r.length]
    exact hq _ S hf _ H H0 st (Grow.refl _ _ _) (.int _)
  · exact hf.elim
/-- o.append(e) -/
def appM (mo me : ME) : MS := fun g => T.bind (mo g) fun x => lstOf x fun _ _ => T.bind (me g) fun d => lstOf x fun a xs => T.bind (dNeed (xs.length < sizeLine)) fun _ => setI a (.lst (xs ++ [d])) g
theorem s_appM {apos cpos epos : Pos} (ho : XE X E o mo) (h : XE X E e me) (hbase : attributeBase o "append" X.env (eval o X.env) = eval o X.env := by rfl)
    (hfew : ((backTo cpos (starEach [e] X.env)).all (fun x => !x.1) && (backToKw cpos (keywordEach [] X.env)).all (fun x => x.1.isSome)
      && decide ([e].length + ([] : List Keyword).length + (if ([] : List Keyword).isEmpty then 0 else 1) < 30)) = true := by rfl)
    (hline : (apos.endLine == cpos.line) = true := by rfl) (hs : starEach [e] X.env = (false, eval e X.env) :: starEach [] X.env := by rfl) (hsw : swapsWith (.Call (.Attribute o "append" apos) [e] [] cpos) none epos.line X.env = pure false := by rfl) :
    XS X E b (.Expr (.Call (.Attribute o "append" apos) [e] [] cpos) epos) (appM mo me) := by
  refine ps_w (ps_expr (pe_bm PySem.F.plainAttrs_list PySem.F.slot_list_append PySem.F.type_list_append mt_append ho (pa_cons h pa_nil hs) hbase hfew hline hs rfl) hsw) fun D σ H ⟨g, S, H0, Qd, Ed, r, hm, hq, he⟩ => ?_
  refine ⟨g, S, H0, _, Ed, r.rel, hm, fun x S1 hf v H1 H01 st1 gr1 r1 => ?_, exb r he⟩
  obtain ⟨a, xs, rfl, hS, hf⟩ := hf
  cases r1
  obtain ⟨ws, h1, _⟩ := st1.sto _ _ hS
  have g1 := r.grow st1 gr1
  refine ⟨.inl ⟨rfl, ws, .of h1⟩, g, S1, H01, _, Ed, g1.rel, hf, fun d S2 hf2 v2 H2 H02 st2 gr2 r2 => ?_, exb g1 he⟩
  obtain ⟨a', xs', e', hS', hz, hf2⟩ := hf2
  cases e'
  obtain ⟨ws', h2, rr⟩ := st2.sto _ _ hS'
  have g2 := g1.grow st2 gr2
  obtain ⟨st3, gr3⟩ := st2.upS (m' := .lst (xs' ++ [d])) hS' (noCode_lst h2) (o := .lst (ws' ++ [v2])) ⟨_, upd_same, rr.append (.cons r2 .nil)⟩
  exact ⟨_, ws', v2, rfl, rfl, h2, by rw [rr.length]; exact hz, hq _ _ hf2 σ _ H02 (g2.grow st3 gr3) (fun a o q => gr3.sub a o (gr2.sub a o (gr1.sub a o q)))⟩
/-- o.pop() -/
def popM (d : D) : T D := lstOf d fun a xs => dOpt xs[xs.length - 1]? fun y => fun S Q _ => Q y (S.up a (.lst xs.dropLast))
theorem x_popM {apos cpos : Pos} (ho : XE X E o mo) (hbase : attributeBase o "pop" X.env (eval o X.env) = eval o X.env := by rfl) (hline : (apos.endLine == cpos.line) = true := by rfl) : XE X E (.Call (.Attribute o "pop" apos) [] [] cpos) (fun g => T.bind (mo g) popM) := by
  refine pe_w (pe_bm0 PySem.F.plainAttrs_list PySem.F.slot_list_pop PySem.F.type_list_pop mt_pop ho hbase hline) fun σ H Q ⟨g, S, H0, Qd, Ed, rel, hm, hq, he⟩ => ?_
  refine ⟨g, S, H0, _, Ed, rel, hm, fun x S1 hf v H1 H01 st1 gr1 r1 => ?_, he⟩
  obtain ⟨a, xs, rfl, hS, hf⟩ := hf
  cases r1
  obtain ⟨ws, h1, rr⟩ := st1.sto _ _ hS
  obtain ⟨y, hy, hf⟩ := dOpt_inv hf
  obtain ⟨u, hu, ru⟩ := rr.get hy
  have rd : Rps X.K H01 ws.dropLast xs.dropLast := by
    rw [List.dropLast_eq_take, List.dropLast_eq_take, rr.length]
    exact rr.take _
  obtain ⟨st3, gr3⟩ := st1.upS (m' := .lst xs.dropLast) hS (noCode_lst h1) (o := .lst ws.dropLast) ⟨_, upd_same, rd⟩
  exact ⟨.inl ⟨rfl, ws, .of h1⟩, _, ws, u, rfl, rfl, h1, by rw [rr.length]; exact hu, hq _ _ hf _ _ H01 st3 (gr1.trans st1 gr3) ru⟩
/-- o == [] -/
def nilM (d : D) : T D := lstOf d fun _ xs => T.bind (dNeed (okD (.lst xs) = true)) fun _ => T.pure (.bl (eqD (.lst xs) (.lst [])))
theorem lst_dp {K : PySem.W.Frag} {H0 H : Hp} (e : Sub H0 H) {a : Addr} {ws : List V} {xs : List D} {q : PyData} (h : H a = some (.lst ws)) (r : Rps K H0 ws xs) (hp : toP (.lst xs) = some q) : Dp K H (.ref a) q := by
  rw [toP] at hp
  cases z : toPs xs with
  | none => rw [z] at hp; cases hp
  | some ps => rw [z] at hp; cases hp; exact .lst (.of h) (Rps.dps e r z)
theorem nilM_lf {σ : L2.St} {H : Hp} {Q : VK} (h : lf X.K E (RF X.K) (fun g => T.bind (mo g) nilM) σ H Q) : tOp (rEqD X.K) (lf X.K E (RF X.K) mo) (tLst tNil) σ H Q := by
  obtain ⟨g, S, H0, Qd, Ed, rel, hm, hq, he⟩ := h
  refine ⟨g, S, H0, _, Ed, rel, hm, fun x S1 hf v H1 H01 st1 gr1 r1 => ?_, he⟩
  obtain ⟨a, xs, rfl, hS, ho, hf⟩ := hf
  cases r1
  refine ⟨Nat.zero_le _, fun q hq' => ?_⟩
  obtain ⟨st2, gr2, n0, nS⟩ := alloc_n st1 hq' (.lst [])
  obtain ⟨ws, h1, rr⟩ := st2.sto _ _ hS
  obtain ⟨p, h2, s1⟩ := okD_some ho
  refine ⟨p, .list [], lst_dp st2.sub h1 rr h2, .lst (.of upd_same) .nil, s1, rfl, ?_⟩
  rw [← eqD_of h2 (show toP (.lst []) = some (.list []) by rw [toP, toPs]; rfl)]
  exact hq _ S1 hf _ _ H01 st2 (gr1.trans st1 gr2) (.bl _)
theorem t_nilM {k : Nat} {p2 : Pos} (hr : Room k X.A) (ho : XE X E o mo) : XT X E (.Compare o [.Eq] [.List [] p2] pos) (fun g => T.bind (T.bind (mo g) nilM) dAsB) :=
  pt_w (pt_cmpR (op_eqD (hu64 hr)) ho (pe_lst pa_nil) (nomark _)) fun σ H Q h => nilM_lf (lt_lf h)
end
/-! ### o != p by an own __eq__ -/
end DL

set_option Elab.async false
set_option linter.all false
set_option maxRecDepth 100000
set_option maxHeartbeats 4000000
namespace DL
open PySem PySem.Spec PyProof.Rows L2 STx OrdS
/-! ### a statement that is never reached; x is True -/
section
variable {X : Cx} {E : XK} {b : Bs} {st : Stmt} {x y : Expr} {pos : Pos} {ma mb : ME}
theorem s_never : XS X E b st (fun _ => T.fail) := ⟨fun pins s σ H D I ⟨g, S, H0, Qd, Ed, r, hm, _⟩ => hm.elim⟩
end
end DL

set_option Elab.async false
set_option linter.all false
set_option maxRecDepth 100000
set_option maxHeartbeats 4000000

set_option Elab.async false
set_option linter.all false
set_option maxRecDepth 100000
set_option maxHeartbeats 4000000

set_option Elab.async false
set_option linter.all false
set_option maxRecDepth 100000
set_option maxHeartbeats 4000000
namespace DL
open PySem PySem.Spec PyProof.Rows L2 STx OrdS
theorem swap_cell {x y : Str} {px py p p2 : Pos} {k k2} {a b : Expr} {env : Env} (h : (env.kindOf x == some .local && env.kindOf y == some .local) = false) : swappedStores [.Tuple [.Name x px, .Name y py] k p] (.Tuple [a, b] k2 p2) env = pure none := by
  unfold swappedStores
  dsimp only
  split
  · rfl
  split
  · rfl
  rw [if_pos]
  · rw [Bool.or_eq_true]
    left
    rcases Bool.and_eq_false_iff.mp h with h | h
    · simp only [List.filterMap_cons, h, Bool.false_and, Bool.false_eq_true, if_false, List.filterMap_nil]
      split <;> simp
    · simp only [List.filterMap_cons, h, Bool.false_and, Bool.false_eq_true, if_false, List.filterMap_nil]
      split <;> simp
section
variable {X : Cx} {E : XK}
/-- -n, a constant -/
theorem x_neg0 {n : Int} {k p p2} : XE X E (.UnaryOp .USub (.Constant (.int n) k p) p2) (fun _ => T.pure (.int (-n))) :=
  pe_w (pe_un un_neg pe_int) fun σ H Q ⟨g, S, H0, Qd, Ed, rel, hm, hq, he⟩ => ⟨n, rfl, hq _ S hm _ H H0 rel.st (Grow.refl _ _ _) (.int _)⟩
end
end DL


set_option Elab.async false
set_option linter.all false
set_option maxRecDepth 100000
set_option maxHeartbeats 4000000
/-! zip over two lists while an exception is handled: the end -/
namespace HZ
open PySem PySem.Spec PyProof.Rows L2 HotX
section
variable {prog : Program} {w : World} {A : Around} {E : Value → Shared → Prop} {s : Shared}
theorem hotAt_keep {x1 : Addr} {h h' : Heap} (hot : HotAt A x1 h) (k : ∀ o, h.get? x1 = some o → h'.get? x1 = some o) : HotAt A x1 h' := by
  obtain ⟨hh, o, vs, e, d, c⟩ := hot
  exact ⟨hh, o, vs, k o e, d, c⟩
/-- a StopIteration is laid on the heap h0 and raised -/
theorem stop_raise {α : Type} {h0 : Heap} {x1 : Addr} {fs : Array Value} {Q : α → Shared → Prop} (hot : HotAt A x1 h0) (n2 : 2 < fs.size)
    (hE : ∀ h' e, (∀ b o, h0.get? b = some o → h'.get? b = some o) → (∃ o, h'.get? e = some o ∧ o.cls = .type "StopIteration") → E (.ref e) { s with heap := h' }) :
    wpAny (model prog w) A (raiseNew (.ref (h0.push { cls := .type "tuple", data := .seq #[] }).objs.size) : Sem α) Q E { s with heap := (h0.push { cls := .type "tuple", data := .seq #[] }).push { cls := .type "StopIteration", data := .fields fs } } := by
  have two : ∀ b o, h0.get? b = some o → ((h0.push { cls := .type "tuple", data := .seq #[] }).push { cls := .type "StopIteration", data := .fields fs }).get? b = some o ∧ b < (h0.push { cls := .type "tuple", data := .seq #[] }).objs.size := fun b o e => by
    have e1 := Heap.get?_push_of_some { cls := .type "tuple", data := .seq #[] } e
    exact ⟨Heap.get?_push_of_some _ e1, Heap.lt_size e1⟩
  have top := Heap.get?_push_size (h0.push { cls := .type "tuple", data := .seq #[] }) (o := { cls := .type "StopIteration", data := .fields fs }) rfl
  obtain ⟨o1, e1⟩ : ∃ o1, h0.get? x1 = some o1 := let ⟨_, o1, _, e1, _⟩ := hot; ⟨o1, e1⟩
  refine raiseNew_hot (hotAt_keep hot fun o e => (two _ _ e).1) (Nat.ne_of_lt (two _ _ e1).2) top rfl n2 (hE _ _ (fun b o e => ?_) ⟨_, Heap.get?_update_self _ top rfl, rfl⟩)
  rw [Heap.get?_update_other _ _ (Nat.ne_of_gt (two _ _ e).2)]
  exact (two _ _ e).1
/-- a list's iterator is asked at its end -/
theorem nextOf_list_end {it l x1 : Addr} {i : Nat} {items : Array Value} {Q : Value → Shared → Prop} (hot : HotAt A x1 s.heap) (hit : s.heap.IsListIter it l i) (hl : s.heap.IsList l items) (hx : items[i]? = none) (hx1 : x1 ≠ it)
    (hE : ∀ h' e, Heap.ExtBut it s.heap h' → (∃ o, h'.get? e = some o ∧ o.cls = .type "StopIteration") → E (.ref e) { s with heap := h' }) : wpAny (model prog w) A (Builtin.SmallTypes.nextOf (.ref it)) Q E s := by
  have T := hit.typeIs
  obtain ⟨oi, gi, _, di⟩ := hit
  obtain ⟨ol, gl, _, _, dl⟩ := hl
  have some_ : (Value.ref l == Value.none) = false := rfl
  have low : Heap.ExtBut it s.heap (s.heap.update it (Obj.mapFields fun x => x.setIfInBounds 0 Value.none)) := (Heap.SameBut.update ..).extBut
  unfold Builtin.SmallTypes.nextOf
  refine wpAny_bind (wpAny_callSpecial?_slot (name := Str.ofString "__next__") T slot_listiter_next (wpAny_call_entry slot_listiter_next T entry_listiter_next ?_ (args_listiter_next _)))
  repeat (first | with_reducible refine wpAny_field gi di (x := .ref l) rfl ?_ | with_reducible refine wpAny_field gi di (x := .int i 0) rfl ?_ | with_reducible refine wpAny_seqItems gl dl ?_ | with_reducible refine wpAny_setField gi di (by simp) ?_ | simp only [some_, hx, Int.toNat_natCast, Bool.false_eq_true, if_false] | wp_step)
  exact stop_raise (hotAt_keep hot fun o e => low _ _ hx1 e) (by simp only [Array.size_append]; simp; omega) fun h' e k he => hE h' e (fun b o n g => k _ _ (low b o n g)) he
/-- the zip's end, the first list being through -/
theorem zip_end {z TI TO i1 i2 l1 l2 x1 : Addr} {k1 : Nat} {xs : Array Value} {a b : Value} {Q : Fin → Shared → Prop} (hot : HotAt A x1 s.heap) (hxz : x1 ≠ z) (hxi : x1 ≠ i1) (D : ZipApart z TI TO i1 i2 l1 l2)
    (hz : IsZip s.heap z TI TO .none) (hTI : IsPair s.heap TI (.ref i1) (.ref i2)) (hTO : IsPair s.heap TO a b)
    (h1 : s.heap.IsListIter i1 l1 k1) (hl1 : s.heap.IsList l1 xs) (hx : xs[k1]? = none)
    (hE : ∀ h' e, (∀ c o, c ≠ z → c ≠ TO → c ≠ i1 → c ≠ i2 → s.heap.get? c = some o → h'.get? c = some o) → (∃ o, h'.get? e = some o ∧ o.cls = .type "StopIteration") → E (.ref e) { s with heap := h' }) :
    wpAny (model prog w) A (Builtin.«zip.__next__» ⟨[.ref z], []⟩) Q E s := by
  unfold Builtin.«zip.__next__» Builtin.SmallTypes.ownedTupleIsFree
  iterate 28 (first | with_reducible refine wpAny_field hz rfl (x := .bool false) rfl ?_ | with_reducible refine wpAny_field hz rfl (x := .ref TI) rfl ?_ | with_reducible refine wpAny_field hz rfl (x := .none) rfl ?_ | with_reducible refine wpAny_field hz rfl (x := .ref TO) rfl ?_ | with_reducible refine wpAny_seqItems hTI rfl ?_ | simp only [if_true] | wp_step)
  refine wpAny_setField_rec hz (by simp) fun hA gA hs => ?_
  have low : Heap.ExtBut z s.heap hA := hs.extBut
  simp only [List.zipIdx_cons, List.forIn_cons]
  refine wpAny_bind (wpAny_bind (wpAny_bind (wpAny_onRaise ?_)))
  show wpAny _ _ (Builtin.SmallTypes.nextOf (.ref i1) >>= _) _ _ _
  refine wpAny_bind (nextOf_list_end (hotAt_keep hot fun o g => low _ _ hxz g) (h1.extBut low D.i1z) (hl1.extBut low D.l1z) hx hxi fun hB e kB ⟨oe, ge, ce⟩ => ?_)
  have gB : IsZip hB z TI TO .ellipsis := kB _ _ (Ne.symm D.i1z) gA
  have ne : e ≠ z := fun q => by
    rw [q, gB] at ge
    cases ge
    simp at ce
  exact wpAny_setField_rec gB (by simp) fun hC _ hsC => hE hC e (fun c o n1 _ n3 _ g => hsC.extBut _ _ n1 (kB _ _ n3 (low _ _ n1 g))) ⟨oe, hsC.extBut _ _ ne ge, ce⟩
theorem pyNext_zip_end {z TI TO i1 i2 l1 l2 x1 : Addr} {k1 : Nat} {xs : Array Value} {a b : Value} {Q : Option Value → Shared → Prop} (hot : HotAt A x1 s.heap) (hxz : x1 ≠ z) (hxi : x1 ≠ i1) (D : ZipApart z TI TO i1 i2 l1 l2)
    (hz : IsZip s.heap z TI TO .none) (hTI : IsPair s.heap TI (.ref i1) (.ref i2)) (hTO : IsPair s.heap TO a b)
    (h1 : s.heap.IsListIter i1 l1 k1) (hl1 : s.heap.IsList l1 xs) (hx : xs[k1]? = none)
    (hQ : ∀ h', (∀ c o, c ≠ z → c ≠ TO → c ≠ i1 → c ≠ i2 → s.heap.get? c = some o → h'.get? c = some o) → Q none { s with heap := h' }) : wpAny (model prog w) A (pyNext (.ref z)) Q E s := by
  have T : s.TypeIs (.ref z) "zip" := ⟨_, hz, rfl⟩
  have out : ∀ h' e, (∀ c o, c ≠ z → c ≠ TO → c ≠ i1 → c ≠ i2 → s.heap.get? c = some o → h'.get? c = some o) → (∃ o, h'.get? e = some o ∧ o.cls = .type "StopIteration") →
      wpAny (model prog w) A (do if ← isInstance (.ref e) (.type "StopIteration") then pure none else throw (.ref e)) Q E { s with heap := h' } := fun h' e k ⟨o, g, c⟩ =>
    wpAny_bind (wpAny_isInstance (T := "StopIteration") (b := true) ⟨o, g, c⟩ isSubtype_stop (wpAny_pure (hQ h' k)))
  unfold pyNext
  exact wpAny_bind (wpAny_attempt (wpAny_callSpecial?_slot (name := Str.ofString "__next__") T F.slot_zip_next (wpAny_call_entry F.slot_zip_next T F.entry_zip_next (zip_end hot hxz hxi D hz hTI hTO h1 hl1 hx out) (F.args_zip_next_1 _))))
end
end HZ

set_option Elab.async false
set_option linter.all false
set_option maxRecDepth 100000
set_option maxHeartbeats 4000000
/-! a list comprehension over zip while an exception is handled -/
namespace HZ
open PySem PySem.Spec PyProof.Rows L2 HotX
/-- an iterator's turns; x1 is the exception that is handled -/
structure TurnX (P : Program) (w : World) (K : PySem.W.Frag) (tg : Expr) (J : It) (fp : List Addr) (it x1 : Addr) (tn : Nat → Heap → Prop) : Prop where
  obj : ∀ i h, tn i h → ∀ b ∈ fp, ∃ o, h.get? b = some o ∧ ∀ v, o.data ≠ .cell v
  keep : ∀ i h h', tn i h → (∀ b ∈ fp, ∀ o, h.get? b = some o → h'.get? b = some o) → tn i h'
  item : ∀ (X : Cx), X.prog = P → X.w = w → X.K = K → ∀ (i : Nat) (pins : List (Addr × Obj)) (s : Shared) (σ : L2.St) (H : Hp) (E : Value → Shared → Prop), Inv X pins σ H s → (∀ b ∈ fp, FpOk X pins H b) → tn i s.heap → J.go i H →
    wpAny (model P w) X.A (pyNext (.ref it)) (fun r s1 => ∃ u, r = some u ∧
      wpAny (model P w) X.A (letOwnedTupleGo tg (.ref it) u) (fun _ s2 => ∃ x H', Inv X pins σ H' s2 ∧ RelV x u ∧ J.yld i H x H' ∧ tn (i + 1) s2.heap ∧ ∀ b ∈ fp, H' b = none) E s1) E s
  done : ∀ (X : Cx), X.prog = P → X.w = w → X.K = K → ∀ (i : Nat) (pins : List (Addr × Obj)) (s : Shared) (σ : L2.St) (H : Hp) (E : Value → Shared → Prop), HotAt X.A x1 s.heap → x1 ∉ fp → Inv X pins σ H s → (∀ b ∈ fp, FpOk X pins H b) → tn i s.heap → J.stop i H →
    wpAny (model P w) X.A (pyNext (.ref it)) (fun r s1 => r = none ∧ Inv X pins σ H s1) E s
  self : ∀ (A : Around) (i : Nat) (s : Shared) (Q : Value → Shared → Prop) (E : Value → Shared → Prop), tn i s.heap → Q (.ref it) s → wpAny (model P w) A (pyIter (.ref it)) Q E s
/-- two lists, the first one ends it -/
def Jz (K : PySem.W.Frag) (a b : Addr) : It :=
  ⟨(Itz K a b).go, (Itz K a b).yld, fun i H => ∃ xs ys : List V, SqL K H a xs ∧ SqL K H b ys ∧ xs.length ≤ i⟩
theorem turnZ {P : Program} {w : World} {K : PySem.W.Frag} {elts : List Expr} {kk : Nat} {tpos : Pos} {a b z TI TO i1 i2 x1 : Addr} (D : ZipApart z TI TO i1 i2 a b) :
    TurnX P w K (.Tuple elts kk tpos) (Jz K a b) [z, TI, TO, i1, i2] z x1 (fun i h => IsZip h z TI TO .none ∧ IsPair h TI (.ref i1) (.ref i2) ∧ (∃ x y, IsPair h TO x y) ∧ h.IsListIter i1 a i ∧ h.IsListIter i2 b i) where
  obj := (turn_zip (P := P) (w := w) (K := K) (elts := elts) (kk := kk) (tpos := tpos) D).obj
  keep := (turn_zip (P := P) (w := w) (K := K) (elts := elts) (kk := kk) (tpos := tpos) D).keep
  self := (turn_zip (P := P) (w := w) (K := K) (elts := elts) (kk := kk) (tpos := tpos) D).self
  item := by
    rintro X rfl rfl rfl i pins s σ H E I hf st ⟨xs, ys, x, y, qx, qy, gx, gy⟩
    have live : ∀ c ∈ [z, TI, TO, i1, i2], c < s.heap.objs.size := fun c hc => let ⟨_, g, _⟩ := (turn_zip (P := X.prog) (w := X.w) (K := X.K) (elts := elts) (kk := kk) (tpos := tpos) D).obj i _ st c hc; Heap.lt_size g
    obtain ⟨hz, hTI, ⟨_, _, hTO⟩, h1, h2⟩ := st
    obtain ⟨us, rs, pa, _⟩ := I.list qx
    obtain ⟨ws, rt, pb, _⟩ := I.list qy
    obtain ⟨u, gu, ru⟩ := rs.get gx
    obtain ⟨v, gv, rv⟩ := rt.get gy
    refine wpAny_pyNext_zip_item D hz hTI hTO h1 h2 pa.isList pb.isList (x := u) (y := v) (by simpa using gu) (by simpa using gv) fun hA zA TA i1A i2A pA _ kA => ⟨_, rfl, wpAny_letOwnedTupleGo_zip (s := { s with heap := hA }) zA fun hB zB sb => ?_⟩
    have same : ∀ {c : Addr} {o : Obj}, c ≠ z → hA.get? c = some o → hB.get? c = some o := fun n g => (sb.2 _ n).trans g
    have out : ∀ c o, c ∉ [z, TI, TO, i1, i2] → s.heap.get? c = some o → hB.get? c = some o := fun c o hc g => by
      obtain ⟨n1, _, n3, n4, n5⟩ : c ≠ z ∧ c ≠ TI ∧ c ≠ TO ∧ c ≠ i1 ∧ c ≠ i2 := by simpa using hc
      exact same n1 (kA c o n1 n3 n4 n5 g)
    have pB : hB.get? s.heap.objs.size = some { cls := .type "tuple", data := .seq #[u, v] } := same (Nat.ne_of_gt (live z List.mem_cons_self)) pA
    have J : Inv X pins σ (upd H s.heap.objs.size (.tup [x, y])) { s with heap := hB } := I.turnedNew (t' := s.toks) (ch := [z, TI, TO, i1, i2]) out hf (Nat.le_refl _) ⟨by show 2 ≤ sizeLine; decide, [u, v], .cons ru (.cons rv .nil), _, pB, rfl, _, rfl⟩
    exact ⟨.ref s.heap.objs.size, _, J, rfl, ⟨_, x, y, rfl, I.hok.fresh (Nat.le_refl _), rfl, fun l hl => I.list_inj hl qx ▸ gx, fun l hl => I.list_inj hl qy ▸ gy⟩,
      ⟨zB, same D.TIz (kA _ _ D.TIz D.TITO D.TIi1 D.TIi2 hTI), ⟨u, v, same D.TOz TA⟩, i1A.at fun _ g => same D.i1z g, i2A.at fun _ g => same D.i2z g⟩, fun c hc => by rw [upd_ne (Nat.ne_of_lt (live c hc))]; exact (hf c hc).1⟩
  done := by
    rintro X rfl rfl rfl i pins s σ H E hot hx1 I hf ⟨hz, hTI, ⟨_, _, hTO⟩, h1, _⟩ ⟨xs, _, qx, _, le⟩
    obtain ⟨us, rs, pa, _⟩ := I.list qx
    have over : us.toArray[i]? = none := by
      have := rs.length
      simp; omega
    refine pyNext_zip_end (i1 := i1) (i2 := i2) hot (fun e => hx1 (by simp [e])) (fun e => hx1 (by simp [e])) D hz hTI hTO h1 pa.isList over fun hA kA => ⟨rfl, I.turnedL (t' := s.toks) (ch := [z, TI, TO, i1, i2]) (fun c o hc g => ?_) hf⟩
    obtain ⟨n1, _, n3, n4, n5⟩ : c ≠ z ∧ c ≠ TI ∧ c ≠ TO ∧ c ≠ i1 ∧ c ≠ i2 := by simpa using hc
    exact kA c o n1 n3 n4 n5 g
def PIEX (X : Cx) (pins : List (Addr × Obj)) (σ : L2.St) (tg : Expr) (x1 : Addr) (R : It → Hp → Prop) (itv : Value) (s2 : Shared) : Prop :=
  ∃ (it : Addr) (fp : List Addr) (tn : Nat → Heap → Prop) (J : It) (H' : Hp), itv = .ref it ∧ Inv X pins σ H' s2 ∧ TurnX X.prog X.w X.K tg J fp it x1 tn ∧ tn 0 s2.heap ∧ (∀ b ∈ fp, FpOk X pins H' b) ∧ R J H'
structure PIX (X : Cx) (tg iter : Expr) (x1 : Addr) (wi : TI) : Prop where
  run : ∀ (pins : List (Addr × Obj)) (s : Shared) (σ : L2.St) (H : Hp) (R : It → Hp → Prop), Inv X pins σ H s → wi σ H R →
    wpAny (model X.prog X.w) X.A (eval iter X.env) (fun v s1 => wpAny (model X.prog X.w) X.A (pyIter v) (PIEX X pins σ tg x1 R) X.xe s1) X.xe s
def jZip (K : PySem.W.Frag) (ta : TA) : TI := fun σ H R => ta σ H fun vs H1 => ∃ a b xs ys, vs = [.ref a, .ref b] ∧ SqL K H1 a xs ∧ SqL K H1 b ys ∧ R (Jz K a b) H1
theorem pi_zipX {X : Cx} {e e2 : Expr} {ta : TA} {p pos tpos : Pos} {elts : List Expr} {kk : Nat} {x1 : Addr} (hg : Gl X "zip") (hm : X.mg "zip" = none) (ha : PA X [e, e2] ta)
    (hs : starEach [e, e2] X.env = (false, eval e X.env) :: starEach [e2] X.env := by rfl) (hpl : (backTo pos (starEach [e2] X.env)).any (·.1) = false := by rfl) :
    PIX X (.Tuple elts kk tpos) (.Call (.Name "zip" p) [e, e2] [] pos) x1 (jZip X.K ta) := by
  have two : ∀ (us : List Value) (s1 : Shared) (pins : List (Addr × Obj)) (σ : L2.St) (R : It → Hp → Prop), (∃ vs H1, Inv X pins σ H1 s1 ∧ Vals vs us ∧ ∃ a b xs ys, vs = [.ref a, .ref b] ∧ SqL X.K H1 a xs ∧ SqL X.K H1 b ys ∧ R (Jz X.K a b) H1) →
      wpAny (model X.prog X.w) X.A (call (.type "zip") us) (fun v s2 => wpAny (model X.prog X.w) X.A (pyIter v) (PIEX X pins σ (.Tuple elts kk tpos) x1 R) X.xe s2) X.xe s1 := by
    rintro us s1 pins σ R ⟨_, H1, I1, r, a, b, xs, ys, rfl, qx, qy, hR⟩
    match us, r with
    | [_, _], .cons ra (.cons rb .nil) =>
      cases ra
      cases rb
      obtain ⟨_, _, pa, _⟩ := I1.list qx
      obtain ⟨_, _, pb, _⟩ := I1.list qy
      refine call_zip_2 pa.isList pb.isList fun hA zA TIA TOA i1A i2A _ kA => wpAny_pyIter_zip zA ⟨s1.heap.objs.size + 4, [s1.heap.objs.size + 4, s1.heap.objs.size + 2, s1.heap.objs.size + 3, s1.heap.objs.size, s1.heap.objs.size + 1], _, _, H1, rfl,
        I1.kept (t' := s1.toks) kA, turnZ (PySem.W.ktu_apart s1.heap.objs.size a b pa.lt pb.lt), ⟨zA, TIA, ⟨_, _, TOA⟩, i1A, i2A⟩, fun c hc => ?_, hR⟩
      have le : s1.heap.objs.size ≤ c := by
        have hc : c = s1.heap.objs.size + 4 ∨ c = s1.heap.objs.size + 2 ∨ c = s1.heap.objs.size + 3 ∨ c = s1.heap.objs.size ∨ c = s1.heap.objs.size + 1 := by simpa using hc
        rcases hc with rfl | rfl | rfl | rfl | rfl <;> simp
      exact I1.fpOk le (I1.hok.fresh le)
  exact ⟨fun pins s σ H R I h => Call_ (ld_blt I hg hm PyProof.Rows.boot_zip (PyProof.Rows.callWith_type1 (thn (ha.run pos pins s σ H _ I h) fun us s1 h1 => two us s1 pins σ R h1) hs hpl))⟩
end HZ

set_option Elab.async false
set_option linter.all false
set_option maxRecDepth 100000
set_option maxHeartbeats 4000000
/-! a tuple unpacked while an exception is handled -/
namespace HZ
open PySem PySem.Spec PyProof.Rows L2 HotX
section
variable {prog : Program} {w : World} {A : Around} {E : Value → Shared → Prop} {s : Shared}
theorem tup_end {it t x1 : Addr} {i : Nat} {items : Array Value} {Q : Option Value → Shared → Prop} (hot : HotAt A x1 s.heap) (hx1 : x1 ≠ it) (hit : s.heap.IsTupleIter it t i) (ht : s.heap.IsTuple t items) (hx : items[i]? = none)
    (hQ : ∀ h', Heap.ExtBut it s.heap h' → Q none { s with heap := h' }) : wpAny (model prog w) A (pyNext (.ref it)) Q E s := by
  have T := hit.typeIs
  obtain ⟨oi, gi, _, di⟩ := hit
  obtain ⟨ot, gt, _, _, dt⟩ := ht
  have some_ : (Value.ref t == Value.none) = false := rfl
  have low : Heap.ExtBut it s.heap (s.heap.update it (Obj.mapFields fun x => x.setIfInBounds 0 Value.none)) := (Heap.SameBut.update ..).extBut
  unfold pyNext
  refine wpAny_bind (wpAny_attempt (wpAny_callSpecial?_slot (name := Str.ofString "__next__") T F.slot_tuple_iterator_next (wpAny_call_entry F.slot_tuple_iterator_next T F.entry_tuple_iterator_next ?_ (F.args_tuple_iterator_next_1 _))))
  show wpAny _ _ (field (.ref it) 0 >>= _) _ _ s
  repeat (first | with_reducible refine wpAny_field gi di (x := .ref t) rfl ?_ | with_reducible refine wpAny_field gi di (x := .int i 0) rfl ?_ | with_reducible refine wpAny_seqItems gt dt ?_ | with_reducible refine wpAny_setField gi di (by simp) ?_ | simp only [some_, hx, Int.toNat_natCast, Bool.false_eq_true, if_false] | wp_step)
  exact stop_raise (hotAt_keep hot fun o g => low _ _ hx1 g) (by simp only [Array.size_append]; simp; omega) fun h' e k ⟨o, g, c⟩ =>
    wpAny_bind (wpAny_isInstance (T := "StopIteration") (b := true) ⟨o, g, c⟩ isSubtype_stop (wpAny_pure (hQ h' fun b o n g => k _ _ (low b o n g))))
theorem unpack_tup {t x1 : Addr} {items : Array Value} {targets : List (Bool × (Value → Sem Unit))} {Q : Unit → Shared → Prop} (hot : HotAt A x1 s.heap) (ht : s.heap.IsTuple t items) (hn : targets.length = items.size) (hstar : targets.findIdx? (·.1) = none)
    (h : ∀ h', Heap.ExtBut s.heap.objs.size s.heap h' → wpAny (model prog w) A (assignInOrder (targets.map (·.2)) items.toList) Q E { s with heap := h' }) : wpAny (model prog w) A (unpack (.ref t) targets) Q E s := by
  have fresh : ∀ {b : Addr} {o : Obj}, s.heap.get? b = some o → b ≠ s.heap.objs.size := fun g => Nat.ne_of_lt (Heap.lt_size g)
  have ft : t ≠ s.heap.objs.size := let ⟨_, g, _⟩ := ht; fresh g
  have fx : x1 ≠ s.heap.objs.size := let ⟨_, _, _, g, _⟩ := hot; fresh g
  have all : List.take items.size (List.drop 0 items.toList) = items.toList := List.take_of_length_le (by simp)
  unfold unpack unpackItems notIterableAtAll
  rw [hn, hstar]
  refine wpAny_bind (wpAny_holding (wpAny_bind (wpAny_bind (wpAny_specialOf ht.typeIs F.slot_tuple_iter.lookup (wpAny_pure (wpAny_bind (wpAny_holding (wpAny_pyIter_tuple ht (wpAny_bind (wpAny_holding
    (wpAny_draw_tuple ft items.size 0 _ _ ⟨_, Heap.get?_push_size _ rfl, rfl, rfl⟩ (ht.push _) (by omega) fun hA gA kA => ?_)))))))))))
  have grown : Heap.ExtBut s.heap.objs.size s.heap hA := fun b o n g => kA.extBut b o n (Heap.get?_push_of_some _ g)
  have full : ¬ items.toList.length < items.size := by simp
  simp only [all, if_neg full]
  refine wpAny_bind (wpAny_holding (tup_end (hotAt_keep hot fun o g => grown _ _ fx g) fx gA ((ht.push _).extBut kA.extBut ft) (by simp) fun hB kB => ?_))
  exact wpAny_pure (h hB fun b o n g => kB b o n (grown b o n g))
end
/-- a target, x1 the exception that is handled -/
structure PGX (X : Cx) (target : Expr) (x1 : Addr) (t : TG) : Prop where
  run : ∀ (pins : List (Addr × Obj)) (s : Shared) (σ : L2.St) (H : Hp) (v : V) (u : Value) (Q : L2.St → Hp → Prop), HotAt X.A x1 s.heap → Inv X pins σ H s → RelV v u → t v σ H Q →
    wpAny (model X.prog X.w) X.A (assign target X.env u) (fun _ s' => ∃ σ' H', Inv X pins σ' H' s' ∧ Q σ' H') X.xe s
theorem pg_tupX {X : Cx} {es : List Expr} {k : Nat} {t : TGs} {n : Nat} {x1 : Addr} {pos : Pos} (h : PGs X es t)
    (hn : (assignEach es X.env).length = n := by rfl) (hst : (assignEach es X.env).findIdx? (·.1) = none := by rfl) : PGX X (.Tuple es k pos) x1 (gTup X.K n t) where
  run := by
    rintro pins s σ H _ u Q hot I r ⟨a, xs, rfl, hq, hl, hw⟩
    obtain rfl : u = Value.ref a := r
    obtain ⟨its, rv, ht, _⟩ := I.tuple hq
    have ht : s.heap.IsTuple a its.toArray := ht
    have many : (assignEach es X.env).length = its.toArray.size := by rw [hn, ← hl, rv.length]; simp
    have rest : ∀ h', Heap.ExtBut s.heap.objs.size s.heap h' → wpAny (model X.prog X.w) X.A (assignInOrder ((assignEach es X.env).map (·.2)) its.toArray.toList) (fun _ s' => ∃ σ' H', Inv X pins σ' H' s' ∧ Q σ' H') X.xe { s with heap := h' } := fun h' k =>
      h.run pins _ σ H xs _ Q (I.kept (t' := s.toks) fun b o g => k b o (Nat.ne_of_lt (Heap.lt_size g)) g) (by simpa using rv) hw
    rw [arm_assign_Tuple]
    exact wpAny_bind (wpAny_standAt (unpack_tup hot ht many hst rest))
end HZ

set_option Elab.async false
set_option linter.all false
set_option maxRecDepth 100000
set_option maxHeartbeats 4000000
/-! [elt for target in iter if ..] while an exception is handled: p's object -/
namespace HZ
open PySem PySem.Spec PyProof.Rows L2 HotX L2H
/-- the block of a comprehension in X, entered at s3: its iterator's objects fp, its frame ce -/
structure Blk (X : Cx) (p : Addr × Obj) (pins : List (Addr × Obj)) (σ : L2.St) (ce : Env) (fp : List Addr) (s3 : Shared) (H3 : Hp) : Prop where
  hot : Hot1 X.A p
  mem : p ∈ X.pn
  out : p.1 ∉ fp
  up : Inv X pins σ H3 s3
  ix : ∀ b ∈ fp, FpOk X pins H3 b ∧ b < s3.heap.objs.size
  loc : ce.locals = s3.heap.objs.size
section
variable {X : Cx} {p : Addr × Obj} {pins : List (Addr × Obj)} {σ : L2.St} {scope : Scope} {ce : Env} {fp : List Addr} {s3 : Shared} {H3 : Hp}
theorem Blk.hotAt (B : Blk X p pins σ ce fp s3 H3) {ps : List (Addr × Obj)} {σ' : L2.St} {H' : Hp} {s' : Shared} (J : Inv (X.blk s3 H3 scope ce fp) ps σ' H' s') : HotAt X.A p.1 s'.heap := by
  obtain ⟨h1, vs, h2, h3⟩ := B.hot
  obtain ⟨g, n, nl, nf, _⟩ := B.up.pin p (List.mem_append_left _ B.mem)
  exact ⟨h1, p.2, vs, J.base.keep p.1 p.2 g n (fun m => (List.mem_cons.mp (B.up.stkSub _ m)).elim nl nf) B.out, h2, h3⟩
theorem blk_fp {σ' : L2.St} {H' : Hp} {s' : Shared} (J : Inv (X.blk s3 H3 scope ce fp) [] σ' H' s') (n : ∀ b ∈ fp, H' b = none) : ∀ b ∈ fp, FpOk (X.blk s3 H3 scope ce fp) [] H' b := fun b hb => by
  obtain ⟨nl, nc⟩ := J.ok.exf b hb
  refine ⟨n b hb, nl, J.ok.exfs b hb, .inl hb, fun x c e => nc x c e, fun q hq => ?_⟩
  have hq : q ∈ ([] : List (Addr × Obj)) := hq
  cases hq
/-- .. left: X's state again, the block's frame still there -/
theorem Blk.back (B : Blk X p pins σ ce fp s3 H3) {σ' : L2.St} {H' : Hp} {s' : Shared} (J : Inv (X.blk s3 H3 scope ce fp) [] σ' H' s') : Inv X pins σ H' s' ∧ ∃ m, s'.heap.Ns s3.heap.objs.size m ∧ FpOk X pins H' s3.heap.objs.size := by
  obtain ⟨m, nm, _⟩ := J.loc
  have nm : s'.heap.Ns ce.locals m := nm
  have n0 : H' ce.locals = none := J.free
  rw [B.loc] at nm n0
  refine ⟨B.up.call' (ch := fp) J.os J.base J.hok J.bare fun b hb => ?_, m, nm, B.up.fpOk (Nat.le_refl _) n0⟩
  obtain ⟨⟨_, f1, f2, f3, f4, f5⟩, _⟩ := B.ix b hb
  exact ⟨f3, f1, f4, f5⟩
/-- one turn has ended: the slots of the block's own names are forgotten, the iterator is where it was -/
theorem turned {x1 it : Addr} {tg : Expr} {J : It} {tn : Nat → Heap → Prop} (T : TurnX X.prog X.w X.K tg J fp it x1 tn) {own : List (Str × Nat)} {σ8 : L2.St} {s7 s' : Shared} {H' : Hp} {i : Nat} (e8 : wipe σ8 (own.map (·.2)) = wipe σ (own.map (·.2)))
    (st : tn i s7.heap) (I : Inv (X.blk s3 H3 scope ce fp) ([] ++ pinsAt fp s7.heap) σ8 H' s') : Inv (X.blk s3 H3 scope ce fp) [] (wipe σ (own.map (·.2))) H' s' ∧ tn i s'.heap ∧ ∀ b ∈ fp, H' b = none := by
  have stays : ∀ b ∈ fp, ∀ o, s7.heap.get? b = some o → s'.heap.get? b = some o ∧ H' b = none := fun b hb o g => by
    obtain ⟨g', n, _⟩ := I.pin (b, o) (List.mem_append_right _ (List.mem_append_right _ (mem_pinsAt hb g)))
    exact ⟨g', n⟩
  refine ⟨(I.unpinned (pins := [])).weak (by rw [← e8, wipe_length]) fun j v e => ?_, T.keep _ _ _ st fun b hb o g => (stays b hb o g).1, fun b hb => ?_⟩
  · rw [← e8] at e
    exact (wipe_some e).1
  · obtain ⟨o, g, _⟩ := T.obj _ _ st b hb
    exact (stays b hb o g).2
/-- the loop of the block -/
theorem Blk.loop (B : Blk X p pins σ ce fp s3 H3) {elt tg iter : Expr} {ifs : List Expr} {own : List (Str × Nat)} {pos : Pos} {g : TG} {tt : TT} {te : TE} {it D : Addr} {tn : Nat → Heap → Prop} {J : It} {Q : VK} {R : Result → Shared → Prop} {s4 : Shared} {W : Nat → Nat → Hp → Prop} {m0 : Nat} (T : TurnX X.prog X.w X.K tg J fp it p.1 tn)
    (pg : PGX (X.blk s3 H3 scope ce fp) tg p.1 g) (pt : PTs (X.blk s3 H3 scope ce fp) ifs tt) (pe : PE (X.blk s3 H3 scope ce fp) elt te) (I4 : Inv (X.blk s3 H3 scope ce fp) [] (wipe σ (own.map (·.2))) H3 s4) (st : tn 0 s4.heap) (w0 : W 0 m0 H3)
    (turn : ∀ i m H, W i m H → (J.stop i H ∧ Q (.ref D) H) ∨ (J.go i H ∧ ∃ Nx : Hp → Prop, (∀ H', Nx H' → ∃ m', m' < m ∧ W (i + 1) m' H') ∧ ∀ x H', J.yld i H x H' → g x (wipe σ (own.map (·.2))) H' fun σ2 H2 => wipe σ2 (own.map (·.2)) = wipe σ (own.map (·.2)) ∧ tt σ2 H2 fun b H3 =>
      if b = true then te σ2 H3 fun y H4 => ∃ acc, H4 D = some (.lst acc) ∧ acc.length < sizeLine ∧ Nx (upd H4 D (.lst (acc ++ [y]))) else Nx H3))
    (fin : ∀ s' H', Inv X pins σ H' s' → (∃ m, s'.heap.Ns s3.heap.objs.size m ∧ FpOk X pins H' s3.heap.objs.size) → Q (.ref D) H' → R (.ok .next) s') :
    codeAny (model X.prog X.w) X.A (.compLoop (.ListComp elt [⟨tg, iter, ifs, 0⟩] scope pos) 0 (.ref it) (.ref D) ce) R s4 := by
  refine compLoop_any (fun n s' => ∃ i H', (Inv (X.blk s3 H3 scope ce fp) [] (wipe σ (own.map (·.2))) H' s' ∧ tn i s'.heap ∧ ∀ b ∈ fp, H' b = none) ∧ W i n H') ?_ m0 ⟨0, H3, ⟨I4, st, fun b hb => (B.ix b hb).1.1⟩, w0⟩
  rintro n s5 ⟨i, H5, ⟨I5, st5, n5⟩, w5⟩
  rcases turn i n H5 w5 with ⟨stop, qq⟩ | ⟨go, Nx, less, step⟩
  · refine thnF (T.done (X.blk s3 H3 scope ce fp) rfl rfl rfl i [] s5 _ H5 (fun _ _ => False) (B.hotAt I5) B.out I5 (blk_fp I5 n5) st5 stop) ?_
    rintro _ s6 ⟨rfl, I6⟩
    exact fin s6 H5 (B.back I6).1 (B.back I6).2 qq
  · refine thnF (T.item (X.blk s3 H3 scope ce fp) rfl rfl rfl i [] s5 _ H5 (fun _ _ => False) I5 (blk_fp I5 n5) st5 go) ?_
    rintro _ s6 ⟨u, rfl, h6⟩
    refine thnF h6 ?_
    rintro _ s7 ⟨x, H7, I7, r7, y7, st7, n7⟩
    refine thnF (pg.run _ s7 _ H7 x u _ (B.hotAt I7) (I7.pinned (blk_fp I7 n7) (T.obj _ _ st7)) r7 (step x H7 y7)) ?_
    rintro _ s8 ⟨σ8, H8, I8, e8, q8⟩
    refine thnF (pt.run _ s8 σ8 H8 _ I8 q8) ?_
    rintro b s9 ⟨H9, I9, q9⟩
    have again : ∀ {s' : Shared} {H' : Hp}, Inv (X.blk s3 H3 scope ce fp) ([] ++ pinsAt fp s7.heap) σ8 H' s' → Nx H' → ∃ m, m < n ∧ ∃ i H', (Inv (X.blk s3 H3 scope ce fp) [] (wipe σ (own.map (·.2))) H' s' ∧ tn i s'.heap ∧ ∀ b ∈ fp, H' b = none) ∧ W i m H' := fun {s' H'} I' nx =>
      let ⟨m', lt, w'⟩ := less H' nx
      ⟨m', lt, i + 1, H', turned T e8 st7 I', w'⟩
    match b, q9 with
    | false, q9 => exact again I9 q9
    | true, q9 =>
      refine thnF (pe.run _ s9 σ8 H9 _ I9 q9) ?_
      rintro z s10 ⟨yv, H10, I10, r10, acc, eD, small, nx⟩
      exact app_ok (X := X.blk s3 H3 scope ce fp) I10 eD small r10 fun s11 I11 => again I11 nx
end
theorem lc_coreX {X : Cx} {p : Addr × Obj} {pins : List (Addr × Obj)} {s : Shared} {σ : L2.St} {H : Hp} {Q : VK} {elt tg iter : Expr} {ifs : List Expr} {scope : Scope} {own : List (Str × Nat)} {pos pos' : Pos} {wi : TI} {g : TG} {tt : TT} {te : TE} {use : Option (Value → Sem Unit)} {Qf : Value → Shared → Prop}
    (hp1 : Hot1 X.A p) (hpX : p ∈ X.pn) (hN : X.N.Nodup) (I : Inv X pins σ H s) (hi : PIX X tg iter p.1 wi) (ok : BlkOk X.N X.env.scope scope own)
    (hg : ∀ (s : Shared) (H : Hp) (C : Addr) (cl : List (Str × Addr)) (fp : List Addr), PGX (X.blk s H scope (compEnvC scope cl C X.env) fp) tg p.1 g) (ht : ∀ (s : Shared) (H : Hp) (C : Addr) (cl : List (Str × Addr)) (fp : List Addr), PTs (X.blk s H scope (compEnvC scope cl C X.env) fp) ifs tt)
    (he : ∀ (s : Shared) (H : Hp) (C : Addr) (cl : List (Str × Addr)) (fp : List Addr), PE (X.blk s H scope (compEnvC scope cl C X.env) fp) elt te) (hs : ∀ x, foldedSetIterable iter X.env x = pure x)
    (h : tLc wi g tt te (own.map (·.2)) σ H Q)
    (hRR : ∀ D C s' m H', Inv X pins σ H' s' → Q (.ref D) H' → s'.heap.Ns C m → FpOk X pins H' C → compPost (model X.prog X.w) X.A X.xe use Qf (.ref D) C (.ok .next) s') :
    wpAny (model X.prog X.w) X.A (comprehension (.ListComp elt [⟨tg, iter, ifs, 0⟩] scope pos) scope X.env pos' (newList []) false (eval iter X.env) use) Qf X.xe s := by
  have cap : ∀ y ∈ scope.names, y.2 = .free → ∃ c, X.env.cells.lookup y.1 = some c := fun y hy e => I.ok.has y.1 (ok.free y hy e)
  refine wpAny_comprehension_free (use := use) rfl hs (closure_ok cap) ok.kind (fun y hy e => by rw [ok.uniq y hy, e]) (thn (hi.run pins s σ H _ I h) fun xv s1 hx => thn hx ?_)
  rintro _ s2 ⟨it, fp, tn, J, H2, rfl, I2, T, st2, f2, q⟩
  obtain ⟨W, ⟨m0, w0⟩, turn⟩ := q s2.heap.objs.size (I2.hok.fresh (Nat.le_refl _))
  have low : ∀ b ∈ fp, b < s2.heap.objs.size := fun b hb => let ⟨_, g, _⟩ := T.obj _ _ st2 b hb; Heap.lt_size g
  have kept : ∀ b o, s2.heap.get? b = some o → (s2.heap.push { cls := .type "list", data := .seq ([] : List Value).toArray }).get? b = some o := fun b o g => Heap.get?_push_of_some _ g
  have I3 : Inv X pins σ (upd H2 s2.heap.objs.size (.lst [])) { s2 with heap := s2.heap.push { cls := .type "list", data := .seq ([] : List Value).toArray } } :=
    I2.laid (t' := s2.toks) kept (Nat.le_refl _) ⟨Nat.zero_le _, [], 0, .nil, Heap.get?_push_size _ rfl⟩
  have ix : ∀ b ∈ fp, FpOk X pins (upd H2 s2.heap.objs.size (.lst [])) b ∧ b < (s2.heap.push { cls := .type "list", data := .seq ([] : List Value).toArray }).objs.size := fun b hb =>
    ⟨⟨(upd_ne (Nat.ne_of_lt (low b hb))).trans (f2 b hb).1, (f2 b hb).2⟩, by rw [Heap.size_push]; exact Nat.lt_succ_of_lt (low b hb)⟩
  have I4 := block_start I3 ok hN ix
  have B : Blk X p pins σ (compEnvC scope (cellsFrom ((s2.heap.push { cls := .type "list", data := .seq ([] : List Value).toArray }).objs.size + 1) scope.names (cloFrom X.env.cells scope.names [])) (s2.heap.push { cls := .type "list", data := .seq ([] : List Value).toArray }).objs.size X.env) fp
      { s2 with heap := s2.heap.push { cls := .type "list", data := .seq ([] : List Value).toArray } } (upd H2 s2.heap.objs.size (.lst [])) := ⟨hp1, hpX, fun hb => (f2 _ hb).2.2.2.2.2 p (List.mem_append_left _ hpX) rfl, I3, ix, rfl⟩
  have st4 := T.keep _ _ (pushCells ((s2.heap.push { cls := .type "list", data := .seq ([] : List Value).toArray }).push { cls := .type "dict", data := .dict #[] }) scope.names) st2 fun b _ o g => pushCells_keeps _ _ _ _ (Heap.get?_push_of_some _ (kept b o g))
  have loop := B.loop (elt := elt) (iter := iter) (pos := pos) (R := compPost (model X.prog X.w) X.A X.xe use Qf (.ref s2.heap.objs.size) (s2.heap.push { cls := .type "list", data := .seq ([] : List Value).toArray }).objs.size) T (hg _ _ _ _ _) (ht _ _ _ _ _) (he _ _ _ _ _) I4 st4 w0 turn fun s' H' I' ⟨m, hm, f⟩ qq => hRR _ _ s' m H' I' qq hm f
  exact wpAny_newObj_type (newEnv_comp (codeAny_compStart_list loop (T.self X.A 0 _ _ _ st4 loop))) (by show 0 ≤ sizeLine; decide)
/-- name = [..] on one line, the name a local -/
theorem ps_setLcX {X : Cx} {p : Addr × Obj} {i : Nat} {y : Str} {py : Pos} {elt tg iter : Expr} {ifs : List Expr} {scope : Scope} {own : List (Str × Nat)} {pos spos : Pos} {wi : TI} {g : TG} {tt : TT} {te : TE} (hp1 : Hot1 X.A p) (hpX : p ∈ X.pn) (hN : X.N.Nodup) (hy : X.N[i]? = some y) (hyl : X.env.scope.names.lookup y = some .local)
    (hsw : swapsWith (.ListComp elt [⟨tg, iter, ifs, 0⟩] scope pos) (some (.Name y py)) spos.line X.env = pure true) (hi : PIX X tg iter p.1 wi) (ok : BlkOk X.N X.env.scope scope own)
    (hg : ∀ (s : Shared) (H : Hp) (C : Addr) (cl : List (Str × Addr)) (fp : List Addr), PGX (X.blk s H scope (compEnvC scope cl C X.env) fp) tg p.1 g) (ht : ∀ (s : Shared) (H : Hp) (C : Addr) (cl : List (Str × Addr)) (fp : List Addr), PTs (X.blk s H scope (compEnvC scope cl C X.env) fp) ifs tt)
    (he : ∀ (s : Shared) (H : Hp) (C : Addr) (cl : List (Str × Addr)) (fp : List Addr), PE (X.blk s H scope (compEnvC scope cl C X.env) fp) elt te) (hs : ∀ x, foldedSetIterable iter X.env x = pure x := by intro _; rfl) :
    PS X (.Assign [.Name y py] (.ListComp elt [⟨tg, iter, ifs, 0⟩] scope pos) spos) (tAsg (tLc wi g tt te (own.map (·.2))) (gName i)) := by
  refine ⟨fun pins s σ H D I h => ?_⟩
  rw [exec_Assign_Name_used _ _ _ _ hsw]
  have h : tLc wi g tt te (own.map (·.2)) σ H (fun x H1 => gName i x σ H1 D.nx) := h
  have put : ∀ L C s' m H', Inv X pins σ H' s' → gName i (.ref L) σ H' D.nx → s'.heap.Ns C m → FpOk X pins H' C → compPost (model X.prog X.w) X.A X.xe (some (assign (.Name y py) X.env)) (fun _ s' => SP X pins D .next s') (.ref L) C (.ok .next) s' := fun L C s' m H' I' q hn ⟨n0, nl, _, old, nc, np⟩ =>
    wpAny_assign_Name (store_ok2 (v := V.ref L) I' hN hy (.inl hyl) rfl (fun s2 I2 ⟨a, sb, ha⟩ => ⟨m, hn.sameBut sb (fun e => ha.elim (fun z => nl (e.trans z)) fun z => nc y a z e.symm), fun h3 sb3 => ⟨_, H', I2.turned (t' := s2.toks) (fun b o hb g => (sb3.2 b hb).trans g) n0 nl old nc np, q⟩⟩) (.inr hyl))
  have made := lc_coreX (pos' := firstIterPos [⟨tg, iter, ifs, 0⟩] pos) (pos := pos) hp1 hpX hN I hi ok hg ht he hs h put
  exact wpAny_bind (wpAny_standAt (wpAny_bind (wpAny_bind (thn made fun _ s' hq => wpAny_pure (wpAny_pure hq)))))
end HZ

set_option Elab.async false
set_option linter.all false
set_option maxRecDepth 100000
set_option maxHeartbeats 4000000
/-! isinstance of a caught error that may have fields -/
namespace PySem.W
open PySem PySem.Spec PySem.Calls PyProof.Rows
section
variable {prog : Program} {w : World} {A : Around} {E : Value → Shared → Prop} {s : Shared} {K : Frag} {x D : Addr} {ox : Obj} {od : Option Obj}
theorem hz_data {C : Addr} {name : Str} {a g : Value} (hc : (clsIn K C).isSome = true) (ha : findIn K (.ref C) name = some (some a)) (hg : specialIn K a "__get__" = some (some g)) (ht : takesIn K a = some true) : findObj K C od name = some (.bind g a) := by
  obtain ⟨cd, hc⟩ := Option.isSome_iff_exists.mp hc
  unfold findObj
  rw [hc, Option.bind_some, ha, Option.bind_some]
  simp [hg, ht]
theorem hz_class {Q : Option Value → Shared → Prop} (C : L2.ExcC K D) (X : K.In s.heap) (I : InstAt s.heap x ox D od) (h : Q (some (.ref D)) { s with toks := s.toks + 1 }) : wpAny (model prog w) A (getAttr? (.ref x) "__class__") Q E s := by
  have hf : findObj K D od "__class__" = some (.bind (.builtin "getset_descriptor.__get__") (.builtin "object.__class__")) := hz_data (by obtain ⟨cd, hc, _⟩ := any_some C.hd; rw [hc]; rfl) C.ha C.hn C.ht
  obtain ⟨hp, g, d, t, os⟩ := s
  have cls := I.type (M := model prog w)
  have ga := looks_findIn (M := model prog w) X C.hg
  have hook := looks_findIn (M := model prog w) X C.hk
  have at_ := looks_find (M := model prog w) X I hf
  have base : Looks (model prog w) hp (isInstance (.ref x) (.type "BaseException")) true := cls.andThen (looks_subIn X C.hs)
  have own : (Value.builtin "BaseException.__getattribute__" == Value.builtin "object.__getattribute__") = false := by decide +kernel
  have heap : onTheHeap (Value.ref D) = true := rfl
  have blt : onTheHeap (Value.builtin "BaseException.__getattribute__") = false := rfl
  have read : codeAny (model prog w) A (.call (.builtin "BaseException.__getattribute__") ⟨[.ref x, .str "__class__" t], []⟩) (wants (fun v s' => v = .ref D ∧ s' = ⟨hp, g, d, t + 1, os⟩) fun _ _ => False) ⟨hp, g, d, t + 1, os⟩ := by
    refine codeAny_call_builtin PySem.F.excAttr_ValueError.ga.plain PySem.F.entry_bexc_ga (@check_slot (model prog w) _ _ ⟨hp, g, d, t + 1, os⟩ "BaseException.__getattribute__" "BaseException" "__getattribute__" (.ref x) [.str "__class__" t] [] _ (by decide +kernel) (by decide +kernel) base (PySem.F.args_bexc_ga (.ref x) (.str "__class__" t)) ?_)
    unfold Builtin.«object.__getattribute__»
    refine wpAny_bind (wpAny_of_eq (a := ((Value.ref x : Value), [Value.str "__class__" t])) (by first | rfl | (simp only [slotArgs]; rfl)) (wpAny_bind (wpAny_pure (wpAny_bind (cls.at (wpAny_bind (at_.at ?_)))))))
    exact wpAny_bind (wpAny_holding (wpAny_call (class_get (s := ⟨hp, g, d, t + 1, os⟩) (ox := ox) (od := od) X I C.hm (wpAny_pure ⟨rfl, rfl⟩))))
  have route : wpAny (model prog w) A (getAttrByItsOwn (.ref x) (.str "__class__" t) (.ref D) (.builtin "BaseException.__getattribute__") false false) (fun v s' => v = .ref D ∧ s' = ⟨hp, g, d, t + 1, os⟩) (fun _ _ => False) ⟨hp, g, d, t + 1, os⟩ := by
    unfold getAttrByItsOwn hookBefore callGetattribute boundAndCalled
    simp only [heap, blt, Bool.false_and, if_true, Bool.false_eq_true, if_false]
    refine wpAny_bind (hook.at (wpAny_bind (wpAny_attempt (wpAny_holding ?_))))
    rw [PySem.F.excAttr_ValueError.ga.bind (.ref x)]
    refine wpAny_bind (wpAny_pure (wpAny_call (codeAny_mono read fun r s' hr => ?_)))
    match r, hr with
    | .ok (.ret v), hr =>
      obtain ⟨rfl, rfl⟩ : v = .ref D ∧ s' = ⟨hp, g, d, t + 1, os⟩ := hr
      show wpAny _ _ (handedOut (.ref D)) _ _ _
      rw [handedOut_of (v := .ref D) rfl]
      exact wpAny_pure ⟨rfl, rfl⟩
  unfold getAttr? getAttrBy? getAttrBy
  refine wpAny_bind (wpAny_mkText (wpAny_bind (wpAny_attempt (wpAny_holding (wpAny_bind (cls.at (wpAny_bind (ga.at ?_))))))))
  simp only [own, Bool.and_false, Bool.false_eq_true, if_false]
  refine wpAny_mono route ?_ fun _ _ z => z.elim
  rintro _ _ ⟨rfl, rfl⟩
  exact wpAny_pure h
theorem hz_kit (C : L2.ExcC K D) : KitX K (.ref x) (.ref D) (fun h => InstAt h x ox D od) where
  ty := fun _ _ _ I => I.type
  it := fun _ _ X _ => by
    obtain ⟨cdD, hcD, _⟩ := any_some C.hd
    unfold clsIn at hcD
    split at hcD
    · rename_i c' d' cd' sl' ho
      intro A' Q' E' s' k q
      unfold isType loadHead
      exact wpAny_bind (wpAny_loadPart (k _ _ (X _ _ ho)) (wpAny_pure q))
    · cases hcD
  ne := fun h tp dd its n sl X htp => (handS_kitx_exc (x := x) (ox := ox) C.hg C.hk C.hs C.hd C.ha C.hn C.ht C.hm).ne h tp dd its n sl X htp
  ca := fun X I k => hz_class C X I k
end
end PySem.W

namespace HZ
open PySem PySem.Spec PyProof.Rows L2 HotX L2H
/-- isinstance(e, c), e the error that the suite holds, with fields or without -/
def rIsX (K : PySem.W.Frag) (D a : Addr) (d : Option Addr) : List V → Hp → VK → Prop := fun xs H Q => (d = none ∨ ∃ dd fs, d = some dd ∧ H dd = some (.xd fs)) ∧ rIsE K D a xs H Q
theorem call_isX {X : Cx} {a D : Addr} {d : Option Addr} {oe : Obj} {pn : List (Addr × Obj)} (C : ExcC X.K D) (hz : Zc (.ref D) d oe) (hf : ∃ vs, oe.data = .fields vs) : CallR (X.suite a ((a, oe) :: pn)) (.builtin "isinstance") (rIsX X.K D a d) := by
  intro pins s σ H xs us Q I r h
  obtain ⟨hd, c, cv, b, rfl, hcv, e, q⟩ := h
  cases r with
  | cons rx rr =>
    cases rr with
    | cons rt rr =>
      cases rr
      cases rx
      have ec := hcv _ rt
      subst ec
      obtain ⟨hget, _⟩ := I.pin (a, oe) (List.mem_append.mpr (.inl List.mem_cons_self))
      obtain ⟨vs, hv⟩ := hf
      obtain ⟨od, J⟩ : ∃ od, PySem.W.InstAt s.heap a oe D od := by
        rcases hd with rfl | ⟨dd, fs, rfl, hx⟩
        · exact ⟨none, hget, hz.1, by unfold PySem.W.notCls; rw [hv] <;> rfl, by rw [hz.2]; trivial⟩
        · obtain ⟨mA, hns, hr⟩ := (show ObjOk X.prog X.w H s.heap dd (.xd fs) from I.hok dd _ hx)
          obtain ⟨od, ho, hl⟩ := lookIn_ns hns
          exact ⟨some od, hget, hz.1, by unfold PySem.W.notCls; rw [hv] <;> rfl, by rw [hz.2]; exact ho⟩
      exact PySem.W.kia_one (PySem.W.hz_kit C) I.kIn J e (fun z => nomatch z) fun tk => ⟨.bl b, H, I.kept (t' := tk) fun _ _ z => z, rfl, q⟩
end HZ

set_option Elab.async false
set_option linter.all false
set_option maxRecDepth 100000
set_option maxHeartbeats 4000000
/-! a def that tells the words of an error's classes: its suite -/
namespace DL
open PySem PySem.Spec PyProof.Rows L2 HotX L2H HZ STx OrdS
def DD (d : Option Addr) (H : Hp) : Prop := d = none ∨ ∃ dd fs, d = some dd ∧ H dd = some (.xd fs)
theorem DD.sub {d : Option Addr} {H H' : Hp} (h : DD d H) (s : Sub H H') : DD d H' := by
  rcases h with h | ⟨dd, fs, h1, h2⟩
  · exact .inl h
  · exact .inr ⟨dd, fs, h1, s _ _ h2⟩
theorem sub_new {H : Hp} {l : Addr} (hl : H l = none) (o : HO) : Sub H (upd H l o) := fun a u e => by rw [upd_ne (ne_of_none e hl)]; exact e
theorem Sub.trans' {H H1 H2 : Hp} (a : Sub H H1) (b : Sub H1 H2) : Sub H H2 := fun x o e => b x o (a x o e)
theorem StR.more {K : PySem.W.Frag} {H H0 H' : Hp} {S : Sto} (st : StR K H H0 S) (s : Sub H H') : StR K H' H0 S ∧ Grow H H0 S H' H0 S := by
  have kc : KeepC H H' := fun c φ e => s c _ e
  refine ⟨⟨fun a o e => s a o (st.sub a o e), st.nos, fun a m e => ?_⟩, ⟨fun a o e _ => s a o e, fun a h _ => h, fun _ _ h => h, fun _ h => h, fun _ h => .inl h⟩⟩
  have rm := st.sto a m e
  cases q : H a with
  | none => exact absurd q rm.there
  | some o => exact rm.keep (fun _ _ z => z) (by rw [s a o q, q]) kc
/-- what the suite knows: e's class n -/
structure ExS (X : Cx) (n e : Str) (ie L : Nat) (a : Addr) (d : Option Addr) (oe : Obj) : Prop where
  C : ExcC X.K (He.ga X.K n)
  z : Zc (.ref (He.ga X.K n)) d oe
  f : ∃ vs, oe.data = .fields vs
  c : PXN.CtxN oe
  nd : X.N.Nodup
  len : X.N.length = L
  ix : X.N[ie]? = some e
  v : Vis X.env.scope e
  d0 : (e == ("__debug__" : Str)) = false
  d1 : (e == ("__classdict__" : Str)) = false
  gi : Gl X "isinstance"
  mi : X.mg "isinstance" = none
section
variable {X : Cx} {n e : Str} {ie L : Nat} {a : Addr} {d : Option Addr} {oe : Obj} {pn : List (Addr × Obj)} (W : ExS X n e ie L a d oe)
/-- isinstance(e, M) -/
structure IsX (X : Cx) (a : Addr) (oe : Obj) (pn : List (Addr × Obj)) (ie : Nat) (d : Option Addr) (c : Expr) (b : Bool) : Prop where
  pe : PE (X.suite a ((a, oe) :: pn)) c (fun σ H Q => σ[ie]? = some (some (.ref a)) ∧ DD d H ∧ Q (.bl b) H)
include W
theorem isx {M : Str} {b : Bool} {p1 p2 p3 p4 : Pos} (gM : Gl X M) (mM : X.mg M = some (.ref (He.ga X.K M))) (k : PySem.W.kitOne X.K (.ref (He.ga X.K n)) (.ref (He.ga X.K M)) = some b) (dM : (M == ("__debug__" : Str)) = false) : IsX X a oe pn ie d (.Call (.Name "isinstance" p1) [.Name e p2, .Name M p3] [] p4) b := by
  have hc : PE (X.suite a ((a, oe) :: pn)) (.Call (.Name "isinstance" p1) [.Name e p2, .Name M p3] [] p4) _ :=
    pe_callB (call_isX W.C W.z W.f) W.gi W.mi (by decide +kernel) (pa_cons (pe_var (i := ie) W.ix W.v W.d0 W.d1) (pa_cons (pe_glob gM mM (v := .ref (He.ga X.K M)) rfl dM) pa_nil))
  exact ⟨pe_w hc fun σ H Q ⟨h1, h2, h3⟩ => ⟨_, h1, h2, _, _, b, rfl, fun u hu => hu, k, h3⟩⟩
theorem isv {M : Str} {n2 : String} {b : Bool} {p1 p2 p3 p4 : Pos} (gM : Gl X M) (mM : X.mg M = none) (hv : bootBuiltins M = some (.type n2)) (k : PySem.W.kitOne X.K (.ref (He.ga X.K n)) (.type n2) = some b) (hn : M ≠ "__name__") (dM : (M == ("__debug__" : Str)) = false) : IsX X a oe pn ie d (.Call (.Name "isinstance" p1) [.Name e p2, .Name M p3] [] p4) b := by
  have hc : PE (X.suite a ((a, oe) :: pn)) (.Call (.Name "isinstance" p1) [.Name e p2, .Name M p3] [] p4) _ :=
    pe_callB (call_isX W.C W.z W.f) W.gi W.mi (by decide +kernel) (pa_cons (pe_var (i := ie) W.ix W.v W.d0 W.d1) (pa_cons (pe_bltn gM mM hv (v := .ty n2) rfl hn dM) pa_nil))
  exact ⟨pe_w hc fun σ H Q ⟨h1, h2, h3⟩ => ⟨_, h1, h2, _, _, b, rfl, fun u hu => hu, k, h3⟩⟩
omit W
theorem is2 {c1 c2 : Expr} {b1 b2 : Bool} {pos : Pos} (h1 : IsX X a oe pn ie d c1 b1) (h2 : IsX X a oe pn ie d c2 b2) (hs : starEach [c1, c2] X.env = (false, eval c1 X.env) :: starEach [c2] X.env := by rfl) (hs2 : starEach [c2] X.env = (false, eval c2 X.env) :: starEach [] X.env := by rfl) :
    PE (X.suite a ((a, oe) :: pn)) (.List [c1, c2] pos) (fun σ H Q => σ[ie]? = some (some (.ref a)) ∧ DD d H ∧ ∀ l, H l = none → Q (.ref l) (upd H l (.lst [.bl b1, .bl b2]))) :=
  pe_w (pe_lst (pa_cons h1.pe (pa_cons h2.pe pa_nil (hs := hs2)) (hs := hs))) fun σ H Q ⟨k1, k2, k3⟩ => ⟨k1, k2, k1, k2, by show 2 ≤ sizeLine; decide, k3⟩
theorem is1 {c1 : Expr} {b1 : Bool} {pos : Pos} (h1 : IsX X a oe pn ie d c1 b1) (hs : starEach [c1] X.env = (false, eval c1 X.env) :: starEach [] X.env := by rfl) :
    PE (X.suite a ((a, oe) :: pn)) (.List [c1] pos) (fun σ H Q => σ[ie]? = some (some (.ref a)) ∧ DD d H ∧ ∀ l, H l = none → Q (.ref l) (upd H l (.lst [.bl b1]))) :=
  pe_w (pe_lst (pa_cons h1.pe pa_nil (hs := hs))) fun σ H Q ⟨k1, k2, k3⟩ => ⟨k1, k2, by show 1 ≤ sizeLine; decide, k3⟩
end
/-- the suite's end: the slot io holds the list that fin says -/
def FinX (L io : Nat) (ys : List Str) (D : Ends) (H : Hp) : Prop := ∀ σ' H', Sub H H' → σ'.length = L → (∃ l, σ'[io]? = some (some (.ref l)) ∧ H' l = some (.lst (ys.map V.str))) → D.nx σ' H'
theorem FinX.sub {L io : Nat} {ys : List Str} {D : Ends} {H H1 : Hp} (h : FinX L io ys D H) (s : Sub H H1) : FinX L io ys D H1 := fun σ' H' s' => h σ' H' (s.trans' s')
/-- ahead of the first list -/
def tFst (L ie io : Nat) (a : Addr) (d : Option Addr) (ys : List Str) : TS := fun D σ H => σ.length = L ∧ σ[ie]? = some (some (.ref a)) ∧ DD d H ∧ FinX L io ys D H
/-- the slot iv holds bs -/
def tAll (L ie iv io : Nat) (a : Addr) (d : Option Addr) (ys : List Str) (bs : List Bool) : TS := fun D σ H => σ.length = L ∧ σ[ie]? = some (some (.ref a)) ∧ DD d H ∧ (∃ l, σ[iv]? = some (some (.ref l)) ∧ H l = some (.lst (bs.map V.bl))) ∧ FinX L io ys D H
section
variable {X : Cx} {n e : Str} {ie L iv io : Nat} {a : Addr} {d : Option Addr} {oe : Obj} {pn : List (Addr × Obj)} {ys : List Str}
theorem fst_ {c1 c2 : Expr} {b1 b2 : Bool} {p1 p2 p3 : Pos} {v : Str} {rest : List Stmt} (W : ExS X n e ie L a d oe) (h1 : IsX X a oe pn ie d c1 b1) (h2 : IsX X a oe pn ie d c2 b2) (hN : X.N[iv]? = some v) (hx : Loc X.env.scope v) (hl : X.fn v = true ∨ X.env.scope.names.lookup v = some .local) (ne : ie ≠ iv) (hiv : iv < L)
    (hr : PSs (X.suite a ((a, oe) :: pn)) rest (tAll L ie iv io a d ys [b1, b2]))
    (hs : starEach [c1, c2] X.env = (false, eval c1 X.env) :: starEach [c2] X.env := by rfl) (hs2 : starEach [c2] X.env = (false, eval c2 X.env) :: starEach [] X.env := by rfl)
    (hsw : swapsWith (.List [c1, c2] p2) (some (.Name v p1)) p3.line X.env = pure false := by rfl) :
    PSs (X.suite a ((a, oe) :: pn)) (.Assign [.Name v p1] (.List [c1, c2] p2) p3 :: rest) (tFst L ie io a d ys) :=
  pss_w (pss_cons (ps_set (X := X.suite a ((a, oe) :: pn)) W.nd hN hx (is2 h1 h2 hs hs2) hsw hl) hr) fun D σ H ⟨k0, k1, k2, k3⟩ => ⟨k1, k2, fun l hl => ⟨by rw [List.length_set]; exact k0, by rw [List.getElem?_set_ne ne.symm]; exact k1, k2.sub (sub_new hl _), ⟨l, by rw [List.getElem?_set_self (by rw [k0]; exact hiv)], upd_same⟩, k3.sub (sub_new hl _)⟩⟩
theorem cat_go {te : TE} {bs cs : List Bool} {D : Ends} {σ : L2.St} {H : Hp} (hte : ∀ Q : VK, (∀ l, H l = none → Q (.ref l) (upd H l (.lst (cs.map V.bl)))) → te σ H Q) (ne : ie ≠ iv) (hiv : iv < L) (hz : bs.length + cs.length ≤ 100) (h : tAll L ie iv io a d ys bs D σ H) {R : TS} (hR : ∀ σ' H', tAll L ie iv io a d ys (bs ++ cs) D σ' H' → R D σ' H') :
    tAsg (tOp rCat (tVar iv) te) (gName iv) { D with nx := R D } σ H := by
  obtain ⟨k0, k1, k2, ⟨l, k3, k4⟩, k5⟩ := h
  refine ⟨.ref l, k3, hte _ fun p hp => ⟨l, p, _, _, rfl, rfl, by rw [upd_ne (ne_of_none k4 hp)]; exact k4, upd_same, ?_, fun q hq => hR _ _ ?_⟩⟩
  · rw [List.length_map, List.length_map, sizeLine_eq]; omega
  · have s1 := sub_new hp (.lst (cs.map V.bl))
    have s2 := s1.trans' (sub_new hq (.lst (bs.map V.bl ++ cs.map V.bl)))
    exact ⟨by rw [List.length_set]; exact k0, by rw [List.getElem?_set_ne ne.symm]; exact k1, k2.sub s2, ⟨q, by rw [List.getElem?_set_self (by rw [k0]; exact hiv)], by rw [upd_same, List.map_append]⟩, k5.sub s2⟩
theorem cat_ {c1 c2 : Expr} {b1 b2 : Bool} {p1 p2 p3 p4 p5 : Pos} {v : Str} {bs : List Bool} {rest : List Stmt} (W : ExS X n e ie L a d oe) (h1 : IsX X a oe pn ie d c1 b1) (h2 : IsX X a oe pn ie d c2 b2) (hN : X.N[iv]? = some v) (hx : Loc X.env.scope v) (hl : X.fn v = true ∨ X.env.scope.names.lookup v = some .local) (dv : (v == ("__debug__" : Str)) = false) (ev : (v == ("__classdict__" : Str)) = false) (ne : ie ≠ iv) (hiv : iv < L) (hz : bs.length + 2 ≤ 100)
    (hr : PSs (X.suite a ((a, oe) :: pn)) rest (tAll L ie iv io a d ys (bs ++ [b1, b2])))
    (hs : starEach [c1, c2] X.env = (false, eval c1 X.env) :: starEach [c2] X.env := by rfl) (hs2 : starEach [c2] X.env = (false, eval c2 X.env) :: starEach [] X.env := by rfl)
    (hsw : swapsWith (.BinOp (.Name v p4) .Add (.List [c1, c2] p2) p5) (some (.Name v p1)) p3.line X.env = pure false := by rfl) :
    PSs (X.suite a ((a, oe) :: pn)) (.Assign [.Name v p1] (.BinOp (.Name v p4) .Add (.List [c1, c2] p2) p5) p3 :: rest) (tAll L ie iv io a d ys bs) :=
  pss_w (pss_cons (ps_set (X := X.suite a ((a, oe) :: pn)) W.nd hN hx (pe_op op_cat (pe_var (i := iv) hN (hx.elim .inl fun h => .inr (.inl h)) dv ev) (is2 h1 h2 hs hs2)) hsw hl) hr) fun D σ H h => cat_go (cs := [b1, b2]) (fun Q q => ⟨h.2.1, h.2.2.1, q⟩) ne hiv hz h fun _ _ z => z
theorem cat1_ {c1 : Expr} {b1 : Bool} {p1 p2 p3 p4 p5 : Pos} {v : Str} {bs : List Bool} {rest : List Stmt} (W : ExS X n e ie L a d oe) (h1 : IsX X a oe pn ie d c1 b1) (hN : X.N[iv]? = some v) (hx : Loc X.env.scope v) (hl : X.fn v = true ∨ X.env.scope.names.lookup v = some .local) (dv : (v == ("__debug__" : Str)) = false) (ev : (v == ("__classdict__" : Str)) = false) (ne : ie ≠ iv) (hiv : iv < L) (hz : bs.length + 1 ≤ 100)
    (hr : PSs (X.suite a ((a, oe) :: pn)) rest (tAll L ie iv io a d ys (bs ++ [b1])))
    (hs : starEach [c1] X.env = (false, eval c1 X.env) :: starEach [] X.env := by rfl)
    (hsw : swapsWith (.BinOp (.Name v p4) .Add (.List [c1] p2) p5) (some (.Name v p1)) p3.line X.env = pure false := by rfl) :
    PSs (X.suite a ((a, oe) :: pn)) (.Assign [.Name v p1] (.BinOp (.Name v p4) .Add (.List [c1] p2) p5) p3 :: rest) (tAll L ie iv io a d ys bs) :=
  pss_w (pss_cons (ps_set (X := X.suite a ((a, oe) :: pn)) W.nd hN hx (pe_op op_cat (pe_var (i := iv) hN (hx.elim .inl fun h => .inr (.inl h)) dv ev) (is1 h1 hs)) hsw hl) hr) fun D σ H h => cat_go (cs := [b1]) (fun Q q => ⟨h.2.1, h.2.2.1, q⟩) ne hiv hz h fun _ _ z => z
end
end DL

set_option Elab.async false
set_option linter.all false
set_option maxRecDepth 100000
set_option maxHeartbeats 4000000
/-! the suite's end: labels, split, the list over zip -/
namespace DL
open PySem PySem.Spec PyProof.Rows L2 HotX L2H HZ STx OrdS
/-- the labels whose truth holds -/
def labs (ws : List Str) (bs : List Bool) : List Str := ((ws.zip bs).filter (·.2)).map (·.1)
theorem labs_snoc (ws : List Str) (bs : List Bool) (i : Nat) (w : Str) (b : Bool) (hw : ws[i]? = some w) (hb : bs[i]? = some b) : labs (ws.take (i + 1)) (bs.take (i + 1)) = labs (ws.take i) (bs.take i) ++ if b then [w] else [] := by
  have h1 : ws.take (i + 1) = ws.take i ++ [w] := by rw [List.take_succ, hw]; rfl
  have h2 : bs.take (i + 1) = bs.take i ++ [b] := by rw [List.take_succ, hb]; rfl
  have lw : i < ws.length := (List.getElem?_eq_some_iff.mp hw).1
  have lb : i < bs.length := (List.getElem?_eq_some_iff.mp hb).1
  unfold labs
  rw [h1, h2, List.zip_append (by rw [List.length_take, List.length_take]; omega), List.filter_append, List.map_append]
  cases b <;> rfl
/-- [y for y, t in zip(every, some) if t] -/
theorem lc_labs {K : PySem.W.Frag} {iev iv i1 i2 : Nat} {σ : L2.St} {H : Hp} {Q : VK} {la lb : Addr} {ws : List Str} {bs : List Bool} (h1 : σ[iev]? = some (some (.ref la))) (h2 : H la = some (.lst (ws.map V.str))) (h3 : σ[iv]? = some (some (.ref lb))) (h4 : H lb = some (.lst (bs.map V.bl))) (hl : ws.length = bs.length) (hz : ws.length ≤ 100)
    (ne : i1 ≠ i2) (l1 : i1 < σ.length) (l2 : i2 < σ.length)
    (hq : ∀ D H', H D = none → Sub H H' → H' D = some (.lst ((labs ws bs).map V.str)) → Q (.ref D) H') :
    tLc (jZip K (tCons (tVar iev) (tCons (tVar iv) tNil))) (gTup K 2 (gCons (gName i1) (gCons (gName i2) gNil))) (fun σ H Q => tVar i2 σ H fun x H' => ∃ k, TruV K x H' k ∧ Q k H') (tVar i1) [i1, i2] σ H Q := by
  refine ⟨_, h1, _, h3, la, lb, _, _, rfl, .inl (.of h2), .inl (.of h4), fun D hD => ?_⟩
  have nla : la ≠ D := ne_of_none h2 hD
  have nlb : lb ≠ D := ne_of_none h4 hD
  refine ⟨fun i m H' => m = ws.length - i ∧ i ≤ ws.length ∧ (∀ c o, c ≠ D → H c = some o → H' c = some o) ∧ H' D = some (.lst ((labs (ws.take i) (bs.take i)).map V.str)), ⟨_, rfl, Nat.zero_le _, fun c o n e => by rw [upd_ne n]; exact e, upd_same⟩, fun i m H' ⟨hm, hi, hk, hd⟩ => ?_⟩
  have q1 : SqL K H' la (ws.map V.str) := .inl (.of (hk _ _ nla h2))
  have q2 : SqL K H' lb (bs.map V.bl) := .inl (.of (hk _ _ nlb h4))
  by_cases hlt : i < ws.length
  · have hlt2 : i < bs.length := by omega
    have hw : ws[i]? = some ws[i] := List.getElem?_eq_getElem hlt
    have hb : bs[i]? = some bs[i] := List.getElem?_eq_getElem hlt2
    refine .inr ⟨⟨_, _, _, _, q1, q2, by rw [List.getElem?_map, hw]; rfl, by rw [List.getElem?_map, hb]; rfl⟩, fun H'' => (∀ c o, c ≠ D → H c = some o → H'' c = some o) ∧ H'' D = some (.lst ((labs (ws.take (i + 1)) (bs.take (i + 1))).map V.str)), fun H'' ⟨a1, a2⟩ => ⟨_, by omega, rfl, by omega, a1, a2⟩, fun x H2 hy => ?_⟩
    obtain ⟨T, x1, y1, rfl, hT, rfl, hx, hy⟩ := hy
    have ex : x1 = .str ws[i] := by
      have := hx _ q1
      rw [List.getElem?_map, hw] at this
      exact (Option.some.inj this).symm
    have ey : y1 = .bl bs[i] := by
      have := hy _ q2
      rw [List.getElem?_map, hb] at this
      exact (Option.some.inj this).symm
    subst ex ey
    have nT : D ≠ T := ne_of_none hd hT
    refine ⟨T, _, rfl, .inl (.of upd_same), rfl, _, _, rfl, _, _, rfl, rfl, ?_⟩
    have lw : (L2.wipe σ [i1, i2]).length = σ.length := wipe_length σ _
    refine ⟨?_, .bl bs[i], ?_, bs[i], rfl, ?_⟩
    · have e9 : L2.wipe (((L2.wipe σ [i1, i2]).set i1 (some (V.str ws[i]))).set i2 (some (V.bl bs[i]))) [i1, i2] = L2.wipe (L2.wipe σ [i1, i2]) [i1, i2] := wipe_same (is := [i1, i2]) (fun i h => h) (by rw [List.length_set, List.length_set]) fun j hj => by
        simp only [List.mem_cons, List.not_mem_nil, or_false, not_or] at hj
        rw [List.getElem?_set_ne (Ne.symm hj.2), List.getElem?_set_ne (Ne.symm hj.1)]
      exact e9.trans wipe_wipe
    · rw [List.getElem?_set_self (by rw [List.length_set, lw]; exact l2)]
    · have keep : ∀ c o, c ≠ D → H c = some o → (upd H' T (.tup [.str ws[i], .bl bs[i]])) c = some o := fun c o n e => by
        have e2 := hk c o n e
        rw [upd_ne (ne_of_none e2 hT)]; exact e2
      have atD : (upd H' T (.tup [.str ws[i], .bl bs[i]])) D = some (.lst ((labs (ws.take i) (bs.take i)).map V.str)) := by rw [upd_ne nT]; exact hd
      have sn := labs_snoc ws bs i ws[i] bs[i] hw hb
      generalize bs[i] = b at sn keep atD ⊢
      cases b with
      | true =>
        dsimp only
        rw [if_pos rfl]
        refine ⟨.str ws[i], ?_, _, atD, ?_, fun c o n e => by rw [upd_ne n]; exact keep c o n e, ?_⟩
        · rw [List.getElem?_set_ne ne.symm, List.getElem?_set_self (by rw [lw]; exact l1)]
        · rw [List.length_map]
          have : (labs (ws.take i) (bs.take i)).length ≤ i := by
            unfold labs
            rw [List.length_map]
            refine Nat.le_trans (List.length_filter_le _ _) ?_
            rw [List.length_zip, List.length_take, List.length_take]; omega
          rw [sizeLine_eq]; omega
        · rw [upd_same, sn, if_pos rfl, List.map_append]; rfl
      | false =>
        dsimp only
        rw [if_neg Bool.false_ne_true]
        exact ⟨keep, by rw [atD, sn, if_neg Bool.false_ne_true, List.append_nil]⟩
  · have e : i = ws.length := by omega
    subst e
    refine .inl ⟨⟨_, _, q1, q2, by rw [List.length_map]; exact Nat.le_refl _⟩, hq D H' hD (fun c o e => hk c o (ne_of_none e hD) e) ?_⟩
    rw [hd, List.take_length, hl, List.take_length]
section
variable {X : Cx} {n e : Str} {ie L iv io ila iev i1 i2 : Nat} {a : Addr} {d : Option Addr} {oe : Obj} {pn : List (Addr × Obj)}
theorem tail_ {vs vl ve vo y t w1 w2 sp : Str} {j1 j2 j3 kk : Nat} {scope : Scope} {p1 p2 p3 p4 p5 p6 p7 p8 p9 p10 p11 p12 p13 p14 p15 p16 p17 p18 p19 p20 p21 p22 p23 p24 p25 p26 : Pos} {bs : List Bool} (W : ExS X n e ie L a d oe)
    (hs : X.N[iv]? = some vs) (hla : X.N[ila]? = some vl) (hev : X.N[iev]? = some ve) (ho : X.N[io]? = some vo) (hy : X.N[i1]? = some y) (ht : X.N[i2]? = some t) (VV : ∀ v ∈ [vs, vl, ve, vo], X.env.scope.names.lookup v = some .local ∧ (v == ("__debug__" : Str)) = false ∧ (v == ("__classdict__" : Str)) = false)
    (hidx : [iv, ila, iev, io].Nodup) (hlt : ∀ i ∈ [iv, ila, iev, io, i1, i2], i < L) (ne : i1 ≠ i2) (gz : Gl X "zip") (mz : X.mg "zip" = none) (ok : blkC X.N X.env.scope scope [(y, i1), (t, i2)] = true)
    (hw : (Txt.split (w1 ++ w2) sp).length = bs.length) (hz : bs.length ≤ 100) (hz2 : w1.length + w2.length ≤ 1000) (hsp : (sp.length == 0) = false)
    (hpg : ∀ (s : Shared) (H : Hp) (C : Addr) (cl : List (Str × Addr)) (fp : List Addr), PGs ((X.suite a ((a, oe) :: pn)).blk s H scope (compEnvC scope cl C X.env) fp) [.Name y p21, .Name t p22] (gCons (gName i1) (gCons (gName i2) gNil)))
    (hn : ∀ (C : Addr) (cl : List (Str × Addr)), (assignEach [.Name y p21, .Name t p22] (compEnvC scope cl C X.env)).length = 2 ∧ (assignEach [.Name y p21, .Name t p22] (compEnvC scope cl C X.env)).findIdx? (·.1) = none)
    (ht2 : ∀ (s : Shared) (H : Hp) (C : Addr) (cl : List (Str × Addr)) (fp : List Addr), PTs ((X.suite a ((a, oe) :: pn)).blk s H scope (compEnvC scope cl C X.env) fp) [.Name t p23] (fun σ H Q => tVar i2 σ H fun x H' => ∃ k, TruV X.K x H' k ∧ Q k H'))
    (he2 : ∀ (s : Shared) (H : Hp) (C : Addr) (cl : List (Str × Addr)) (fp : List Addr), PE ((X.suite a ((a, oe) :: pn)).blk s H scope (compEnvC scope cl C X.env) fp) (.Name y p24) (tVar i1))
    (hsw1 : swapsWith (.Constant (.str w1) j1 p2) (some (.Name vl p1)) p3.line X.env = pure false := by rfl)
    (hsw2 : swapsWith (.BinOp (.Name vl p5) .Add (.Constant (.str w2) j2 p6) p7) (some (.Name vl p4)) p8.line X.env = pure false := by rfl)
    (hsw3 : swapsWith (.Call (.Attribute (.Name vl p10) "split" p11) [.Constant (.str sp) j3 p12] [] p13) (some (.Name ve p9)) p14.line X.env = pure false := by rfl)
    (hsw4 : swapsWith (.ListComp (.Name y p24) [⟨.Tuple [.Name y p21, .Name t p22] kk p20, .Call (.Name "zip" p17) [.Name ve p18, .Name vs p19] [] p16, [.Name t p23], 0⟩] scope p25) (some (.Name vo p15)) p26.line X.env = pure true)
    (st1 : starEach [.Constant (.str sp) j3 p12] X.env = [(false, eval (.Constant (.str sp) j3 p12) X.env)] := by rfl) (hb1 : attributeBase (.Name vl p10) "split" X.env (eval (.Name vl p10) X.env) = eval (.Name vl p10) X.env := by rfl) (hln : (p11.endLine == p13.line) = true := by rfl)
    (st2 : starEach [.Name ve p18, .Name vs p19] X.env = (false, eval (.Name ve p18) X.env) :: starEach [.Name vs p19] X.env := by rfl) (st3 : starEach [.Name vs p19] X.env = (false, eval (.Name vs p19) X.env) :: starEach [] X.env := by rfl) (hpl : (backTo p16 (starEach [.Name vs p19] X.env)).any (·.1) = false := by rfl)
    (hf : ∀ x, foldedSetIterable (.Call (.Name "zip" p17) [.Name ve p18, .Name vs p19] [] p16) X.env x = pure x := by intro _; rfl) :
    PSs (X.suite a ((a, oe) :: pn)) [.Assign [.Name vl p1] (.Constant (.str w1) j1 p2) p3, .Assign [.Name vl p4] (.BinOp (.Name vl p5) .Add (.Constant (.str w2) j2 p6) p7) p8, .Assign [.Name ve p9] (.Call (.Attribute (.Name vl p10) "split" p11) [.Constant (.str sp) j3 p12] [] p13) p14,
      .Assign [.Name vo p15] (.ListComp (.Name y p24) [⟨.Tuple [.Name y p21, .Name t p22] kk p20, .Call (.Name "zip" p17) [.Name ve p18, .Name vs p19] [] p16, [.Name t p23], 0⟩] scope p25) p26] (tAll L ie iv io a d (labs (Txt.split (w1 ++ w2) sp) bs) bs) := by
  obtain ⟨s1, s2, s3⟩ := VV vs (by simp)
  obtain ⟨l1, l2, l3⟩ := VV vl (by simp)
  obtain ⟨e1, e2, e3⟩ := VV ve (by simp)
  obtain ⟨o1, o2, o3⟩ := VV vo (by simp)
  obtain ⟨vz, hvz⟩ := W.f
  have hot : Hot1 (X.suite a ((a, oe) :: pn)).A (a, oe) := ⟨rfl, vz, hvz, W.c vz hvz⟩
  refine pss_w (pss_cons (ps_set (X := X.suite a ((a, oe) :: pn)) W.nd hla (.inl l1) pe_str hsw1 (.inr l1)) (pss_cons (ps_set (X := X.suite a ((a, oe) :: pn)) W.nd hla (.inl l1) (pe_op op_add_str (pe_var (i := ila) hla (.inl l1) l2 l3) pe_str) hsw2 (.inr l1))
    (pss_cons (ps_set (X := X.suite a ((a, oe) :: pn)) W.nd hev (.inl e1) (pe_split (pe_var (i := ila) hla (.inl l1) l2 l3) pe_str st1 hb1 hln) hsw3 (.inr e1))
      (pss_one (ps_setLcX (X := X.suite a ((a, oe) :: pn)) (own := [(y, i1), (t, i2)]) (g := gTup X.K 2 (gCons (gName i1) (gCons (gName i2) gNil))) hot List.mem_cons_self W.nd ho o1 hsw4 (pi_zipX gz mz (pa_cons (pe_var (i := iev) hev (.inl e1) e2 e3) (pa_cons (pe_var (i := iv) hs (.inl s1) s2 s3) pa_nil (hs := st3)) (hs := st2)) st2 hpl) (blkOk_by ok) (fun s H C cl fp => pg_tupX (hpg s H C cl fp) (hn C cl).1 (hn C cl).2) ht2 he2 hf))))) fun D σ H h => ?_
  obtain ⟨k0, k1, k2, ⟨l, k3, k4⟩, k5⟩ := h
  simp only [List.nodup_cons, List.mem_cons, List.not_mem_nil, or_false, not_or, not_false_eq_true, List.nodup_nil, and_true] at hidx
  obtain ⟨⟨x1, x2, x3⟩, ⟨x4, x5⟩, x6⟩ := hidx
  have y1 := hlt iv (by simp)
  have y2 := hlt ila (by simp)
  have y3 := hlt iev (by simp)
  have y4 := hlt io (by simp)
  have y5 := hlt i1 (by simp)
  have y6 := hlt i2 (by simp)
  refine ⟨.str w1, by rw [List.getElem?_set_self (by rw [k0]; exact y2)], w1, w2, rfl, rfl, by rw [sizeLine_eq]; omega, ?_⟩
  refine ⟨.str (w1 ++ w2), by rw [List.getElem?_set_self (by rw [List.length_set, k0]; exact y2)], ⟨_, rfl⟩, w1 ++ w2, sp, rfl, rfl, hsp, by rw [show (w1 ++ w2).length = w1.length + w2.length from Str.length_append _ _, sizeLine_eq]; omega, fun p hp => ?_⟩
  have sb := sub_new hp (.lst ((Txt.split (w1 ++ w2) sp).map V.str))
  have k0' : (((σ.set ila (some (V.str w1))).set ila (some (V.str (w1 ++ w2)))).set iev (some (V.ref p))).length = L := by rw [List.length_set, List.length_set, List.length_set]; exact k0
  refine show tLc (jZip X.K (tCons (tVar iev) (tCons (tVar iv) tNil))) (gTup X.K 2 (gCons (gName i1) (gCons (gName i2) gNil))) (fun σ H Q => tVar i2 σ H fun x H' => ∃ k, TruV X.K x H' k ∧ Q k H') (tVar i1) [i1, i2] (((σ.set ila (some (V.str w1))).set ila (some (V.str (w1 ++ w2)))).set iev (some (V.ref p))) (upd H p (.lst ((Txt.split (w1 ++ w2) sp).map V.str))) (fun x H1 => D.nx ((((σ.set ila (some (V.str w1))).set ila (some (V.str (w1 ++ w2)))).set iev (some (V.ref p))).set io (some x)) H1) from ?_
  refine lc_labs (la := p) (lb := l) (ws := Txt.split (w1 ++ w2) sp) (bs := bs) ?_ upd_same ?_ (sb _ _ k4) hw (by omega) ne (by rw [k0']; exact y5) (by rw [k0']; exact y6) fun D' H' hD hs2 hd => ?_
  · rw [List.getElem?_set_self (by rw [List.length_set, List.length_set, k0]; exact y3)]
  · rw [List.getElem?_set_ne (Ne.symm x2), List.getElem?_set_ne (Ne.symm x1), List.getElem?_set_ne (Ne.symm x1)]; exact k3
  · exact k5 _ _ (sb.trans' hs2) (by rw [List.length_set]; exact k0') ⟨D', by rw [List.getElem?_set_self (by rw [k0']; exact y4)], hd⟩
end
end DL

set_option Elab.async false
set_option linter.all false
set_option maxRecDepth 100000
set_option maxHeartbeats 4000000
/-! a def that tells the words of an error's classes: the whole -/
namespace DL
open PySem PySem.Spec PyProof.Rows L2 HotX L2H HZ STx OrdS
/-- the wish about errors: cs says the words by class -/
def errX (K : PySem.W.Frag) (cs : List (Str × Str)) (Q : VK) : XK := fun cls o H => ∃ n w, cls = .ref (He.ga K n) ∧ cs.lookup n = some w ∧ DD o H ∧ ∀ H', Sub H H' → Q (.str w) H'
def errT (K : PySem.W.Frag) (cs : List (Str × Str)) : (XK → Hp → VK → Prop) → Hp → VK → Prop := fun tl H Q => ∀ l, H l = none → ∀ Q' : VK, (∀ v H', H' l = some (.lst []) → Q (.str "") H' → Q' v H') → tl (errX K cs Q) (upd H l (.lst [])) Q'
/-- the def calls what it got -/
def GivesE (X : Cx) (Ng : List Str) (x : Str) (sg : Scope) (g : Addr) (cdg : Value) (bg : List Stmt) (a : Str) (TT : (XK → Hp → VK → Prop) → Hp → VK → Prop) : Prop :=
  ∀ (f : Addr) (C : Hp → Prop) (s : Shared) (H : Hp) (Q : VK) (tl : XK → Hp → VK → Prop), (∀ H H', Sub H H' → C H → C H') →
    (∀ (W : WX) (pn : List (Addr × Obj)) (xe : Value → Shared → Prop) (p1 p2 : Pos), L2N.Takes ((cxOf C8.CX0 X.prog X.w X.K X.mg X.base Ng x sg g cdg X.A X.stack s H C8.E0).tr pn xe) W →
      PE ((cxOf C8.CX0 X.prog X.w X.K X.mg X.base Ng x sg g cdg X.A X.stack s H C8.E0).tr pn xe) (.Call (.Name a p1) [] [] p2) (fun σZ HZ Q => σZ[0]? = some (some (.ref f)) ∧ C HZ ∧ ∃ E : XK, (∀ cls d H', E cls d H' → W cls d σZ H') ∧ tl E HZ Q)) →
    C H → TT tl H Q → ∃ t, PSs (cxOf C8.CX0 X.prog X.w X.K X.mg X.base Ng x sg g cdg X.A X.stack s H C8.E0).nox bg t ∧ t { nx := fun _ H' => Q .non H', rt := Q } (L2.start Ng [.ref f]) H
theorem takes0N {X : Cx} : L2N.Takes X (fun _ _ _ _ => False) := fun _ _ x => by
  obtain ⟨_, _, _, _, _, _, _, _, _, _, _, _, _, _, _, _, z⟩ := x
  exact z.elim
section
variable {X : Cx}
theorem err_gives {Ng : List Str} {x a vo e M sp : Str} {sg : Scope} {g : Addr} {cdg : Value} {io ie j : Nat} {b0 : Stmt} {suite : List Stmt} {cs : List (Str × Str)} {ns : List Str} {yl : Str → List Str} {p1 p2 p3 p4 p5 p6 p7 p8 p9 p10 p11 p12 p13 p14 : Pos} (T : ExcT X.K M ns) (hM : ∀ n ∈ ns, PySem.W.exmOne X.K (.ref (He.ga X.K n)) (.ref (He.ga X.K M)) = some true) (hns : ∀ q ∈ cs, q.1 ∈ ns ∧ q.2 = Txt.join sp (yl q.1) ∧ ((yl q.1).map (·.length)).sum + (yl q.1).length * sp.length ≤ 16777216) (hNd : Ng.Nodup)
    (h0 : 0 < Ng.length) (hio : Ng[io]? = some vo) (hie : Ng[ie]? = some e) (io0 : io ≠ 0) (ie0 : ie ≠ 0) (ne : ie ≠ io) (lo : sg.names.lookup vo = some .local) (le : sg.names.lookup e = some .local) (dvo : (vo == ("__debug__" : Str)) = false) (evo : (vo == ("__classdict__" : Str)) = false) (de : (e == ("__debug__" : Str)) = false) (ee : (e == ("__classdict__" : Str)) = false)
    (gi : sg.names.lookup ("isinstance" : Str) = some .globalImplicit) (mi : X.mg "isinstance" = none)
    (hc : ∀ (s : Shared) (H : Hp), Names ((cxOf C8.CX0 X.prog X.w X.K X.mg X.base Ng x sg g cdg X.A X.stack s H C8.E0).nox) M (.ref (He.ga X.K M)))
    (hsu : ∀ (s : Shared) (H : Hp), ∀ n ∈ ns, ∀ (a : Addr) (oe : Obj) (d : Option Addr) (pn : List (Addr × Obj)), ExS ((cxOf C8.CX0 X.prog X.w X.K X.mg X.base Ng x sg g cdg X.A X.stack s H C8.E0).nox) n e ie Ng.length a d oe →
      PSs (((cxOf C8.CX0 X.prog X.w X.K X.mg X.base Ng x sg g cdg X.A X.stack s H C8.E0).nox).suite a ((a, oe) :: pn)) (b0 :: suite) (tFst Ng.length ie io a d (yl n)))
    (hj0 : Txt.join sp [] = "")
    (hsw0 : ∀ n : Nat, swapsWith (.List [] p2) (some (.Name vo p1)) p3.line (envOfC x sg n g cdg) = pure false := by intro _; rfl)
    (hsw : ∀ n : Nat, swapsWith (.Call (.Name a p4) [] [] p5) none p6.line (envOfC x sg n g cdg) = pure false := by intro _; rfl)
    (st1 : ∀ n : Nat, starEach [.Name vo p12] (envOfC x sg n g cdg) = [(false, eval (.Name vo p12) (envOfC x sg n g cdg))] := by intro _; rfl) (hb1 : ∀ n : Nat, attributeBase (.Constant (.str sp) j p10) "join" (envOfC x sg n g cdg) (eval (.Constant (.str sp) j p10) (envOfC x sg n g cdg)) = eval (.Constant (.str sp) j p10) (envOfC x sg n g cdg) := by intro _; rfl) (hln : (p11.endLine == p13.line) = true := by rfl) :
    GivesE X Ng x sg g cdg [.Assign [.Name vo p1] (.List [] p2) p3, .Try [.Expr (.Call (.Name a p4) [] [] p5) p6] [.ExceptHandler (some (.Name M p7)) (some e) (b0 :: suite) p8] [] [] p9, .Return (some (.Call (.Attribute (.Constant (.str sp) j p10) "join" p11) [.Name vo p12] [] p13)) p14] a (errT X.K cs) := by
  intro f C s H Q tl hC act hc0 h
  have hS : (L2.start Ng [V.ref f]).length = Ng.length := by unfold L2.start; simp; omega
  have lio : io < Ng.length := (List.getElem?_eq_some_iff.mp hio).1
  have lie : ie < Ng.length := (List.getElem?_eq_some_iff.mp hie).1
  let Y : Cx := (cxOf C8.CX0 X.prog X.w X.K X.mg X.base Ng x sg g cdg X.A X.stack s H C8.E0).nox
  have tr := L2N.ps_try_as (X := Y) (x := M) (n := e) (i := ie) (np := p7) (pos' := p8) (pos := p9) (body := [.Expr (.Call (.Name a p4) [] [] p5) p6]) (b₀ := b0) (suite := suite) (c := .ref (He.ga X.K M))
    (tb := fun W D σ H => ∃ Ech : XK, (∀ cls d H', Ech cls d H' → W cls d σ H') ∧ σ[0]? = some (some (.ref f)) ∧ C H ∧ tl Ech H fun _ H' => D.nx σ H')
    (ts := fun a cls d D σ H => ∃ n, cls = .ref (He.ga X.K n) ∧ n ∈ ns ∧ tFst Ng.length ie io a d (yl n) D σ H)
    rfl rfl hNd hie le (hc s H) takes0N (fun W pn xe tk _ => ?_) (fun a oe cls d pn hz hf => ?_)
  · refine ⟨_, pss_cons (ps_set (X := Y) (i := io) hNd hio (.inl lo) (pe_lst pa_nil) (hsw0 _) (.inr lo)) (pss_cons tr (pss_one (ps_ret (pe_join pe_str (pe_var (i := io) hio (.inl lo) dvo evo) (st1 _) (hb1 _) hln)))), ?_⟩
    refine ⟨by show 0 ≤ sizeLine; omega, fun l hl => ?_⟩
    have sl : ((L2.start Ng [V.ref f]).set io (some (V.ref l))).length = Ng.length := by rw [List.length_set]; exact hS
    have s0 : ((L2.start Ng [V.ref f]).set io (some (V.ref l)))[0]? = some (some (V.ref f)) := by rw [List.getElem?_set_ne io0]; rfl
    have si : ((L2.start Ng [V.ref f]).set io (some (V.ref l)))[io]? = some (some (V.ref l)) := by rw [List.getElem?_set_self (by rw [hS]; exact lio)]
    refine ⟨errX X.K cs Q, fun cls d H' z => ?_, s0, hC _ _ (sub_new hl _) hc0, ?_⟩
    · obtain ⟨n, w, rfl, hw, hd, hq⟩ := z
      obtain ⟨hn, hw2, hz⟩ := hns _ (PySem.mem_of_lookup hw)
      refine ⟨true, hM n hn, fun _ a ha => ⟨n, rfl, hn, by rw [List.length_set]; exact sl, by rw [List.getElem?_set_self (by rw [sl]; exact lie)], hd, fun σ' H'' hs hl' ⟨l2, h1, h2⟩ => ?_⟩, fun z => nomatch z⟩
      have h1' : (σ'.set ie none)[io]? = some (some (V.ref l2)) := by rw [List.getElem?_set_ne ne]; exact h1
      refine ⟨⟨sp, rfl⟩, .ref l2, h1', sp, l2, yl n, rfl, rfl, .inl (.inl (.of h2)), hz, ?_⟩
      have hw2 : w = Txt.join sp (yl n) := hw2
      rw [← hw2]
      exact hq _ hs
    · refine h l hl _ fun v H' h1 h2 => ?_
      refine ⟨⟨sp, rfl⟩, .ref l, si, sp, l, [], rfl, rfl, .inl (.inl (.of h1)), by simp, ?_⟩
      rw [hj0]
      exact h2
  · exact ⟨fun pins s' σ H' D I ⟨Ech, hW, h1, h2, h3⟩ => (pss_one (ps_expr (pos := p6) (act W pn xe p4 p5 tk) (hsw _))).run pins s' σ H' D I ⟨h1, h2, Ech, hW, h3⟩⟩
  · refine ⟨fun pins s' σ H' D I ⟨n, hcl, hn, hh⟩ => ?_⟩
    subst hcl
    exact (hsu s H n hn a oe d pn ⟨T.cl n hn, hz.zc, hf, hz.2.2, hNd, rfl, hie, .inl le, de, ee, gi, mi⟩).run pins s' σ H' D I hh
end
end DL

set_option Elab.async false
set_option linter.all false
set_option maxRecDepth 100000
set_option maxHeartbeats 4000000
/-! a lambda handed to the def that tells the words of an error -/
namespace DL
open PySem PySem.Spec PyProof.Rows L2 STx OrdS LamX
/-- the lambda's body, its errors with an empty context -/
abbrev lamN (X : Cx) (A : Around) (outer : List Env) (s : Shared) (H : Hp) (E : XK) (scope : Scope) (f c' : Addr) : Cx :=
  (lamCx X A outer s H E scope f c').wish fun e s' => wpAny (model X.prog X.w) (A.deeper (lamEnv X scope s.heap.objs.size f c')) (leaving (lamEnv X scope s.heap.objs.size f c') e) (fun _ s'' => L2N.CX X.prog X.w outer H s E e s'') (fun e' s'' => L2N.CX X.prog X.w outer H s E e' s'') s'
/-- the words of an error that m ends with, or none -/
def errD (cs : List (Str × Str)) (m : T D) : T D := fun S Q E => m S (fun _ S' => Q (.str "") S') fun x S' => ∃ w, cs.lookup x.cls = some w ∧ Q (.str w) S'
section
variable {X : Cx} {pins : List (Addr × Obj)} {σ : L2.St} {H HZ : Hp} {s s1 : Shared}
theorem pe_actN {CXg : CXT} {Eg : XK} {Ng : List Str} {qg : Str} {sg : Scope} {g f c' : Addr} {cdg pm ctv : Value} {params : Arguments} {body : Expr} {scope : Scope} {k i : Nat} {a : Str} {pn : List (Addr × Obj)} {xe : Value → Shared → Prop} {W : WX} {tb : XK → TE} {p1 p2 : Pos}
    (I : Inv X pins σ H s) (L : LamS X.env.scope scope) (hf : s.heap.get? f = some (PySem.W.kla_obj "<lambda>" (X.env.qual ++ "<lambda>") params body scope (cloFrom X.env.cells scope.names []) pm c' ctv)) (hfn : H f = none) (hfr : f ∉ frs X.stack)
    (hbind : bindArgs (PySem.W.kla_fn "<lambda>" (X.env.qual ++ "<lambda>") params body scope (cloFrom X.env.cells scope.names []) pm (.ref c') ctv) ⟨[], []⟩ = pure [])
    (tk : L2N.Takes ((cxOf CXg X.prog X.w X.K X.mg X.base Ng qg sg g cdg X.A X.stack s H Eg).tr pn xe) W) (hr : Room (k + 1) (X.A.deeper (envOfC qg sg s.heap.objs.size g cdg)))
    (hbody : ∀ (A : Around) (outer : List Env) (s : Shared) (H : Hp) (E : XK), Room k (A.deeper (lamEnv X scope s.heap.objs.size f c')) → PE (lamN X A outer s H E scope f c') body (tb E))
    (hN : Ng[i]? = some a) (hv : Vis sg a) (hd : (a == ("__debug__" : Str)) = false) (hcd : (a == ("__classdict__" : Str)) = false) :
    PE ((cxOf CXg X.prog X.w X.K X.mg X.base Ng qg sg g cdg X.A X.stack s H Eg).tr pn xe) (.Call (.Name a p1) [] [] p2)
      (fun σZ HZ Q => σZ[i]? = some (some (.ref f)) ∧ HZ c' = some (CodeO c' (X.env.qual ++ "<lambda>")) ∧ ∃ E : XK, (∀ cls d H', E cls d H' → W cls d σZ H') ∧ tb E σ HZ Q) := by
  refine ⟨fun pinsZ sZ σZ HZ Q IZ ⟨hs, hc, E, hW, htb⟩ => ?_⟩
  refine wpAny_Call_Name_kw (thn ((pe_var (pos := p1) (i := i) hN hv hd hcd).run pinsZ sZ σZ HZ (fun v H1 => v = .ref f ∧ H1 = HZ) IZ ⟨.ref f, hs, rfl, rfl⟩) fun u s1 ⟨v, H1, I1, r1, q1⟩ => ?_)
  obtain ⟨ev, eH⟩ := q1
  subst ev
  rw [eH] at I1
  obtain rfl : u = Value.ref f := r1
  have of1 := I1.base.keep f _ hf hfn hfr (fun z => nomatch (show f ∈ ([] : List Addr) from z))
  refine PySem.W.callWith_F0 ⟨_, _, _, _, of1⟩ ?_
  have un : Un (frs X.stack) [] H HZ s.heap s1.heap := I1.base
  obtain ⟨⟨oc, vs, t, hoc, hdc, hvc⟩, _, _⟩ := I1.hok c' _ hc
  have rc : codeAny (model X.prog X.w) (X.A.deeper (envOfC qg sg s.heap.objs.size g cdg)) (.call (.ref f) ⟨[], []⟩) (CR (L2N.CX X.prog X.w) (envOfC qg sg s.heap.objs.size g cdg :: X.stack) X.prog X.w HZ s1 Q E) s1 := by
    refine PySem.W.kla_callFunE hr.depth of1 rfl L.co L.gen rfl ⟨c', oc, vs, t, rfl, hoc, hdc, hvc⟩ ?_
    rw [hbind]
    refine wpAny_pure (wpAny_newFunctionEnv (fun y hy => (L.own y hy).2) (fun y hy => absurd hy (by simp)) (fun h₁ hns hsb => ⟨I1.nolimit.fresh _ hsb, ?_⟩) L.kind)
    show codeAny _ _ (.expr body (lamEnv X scope s1.heap.objs.size f c')) _ _
    have kp : ∀ b o, s1.heap.get? b = some o → h₁.get? b = some o := fun b o e => hsb.extBut b o (Nat.ne_of_lt (Heap.lt_size e)) (Heap.get?_push_of_some _ e)
    have J0 : Inv (lamCx X (X.A.deeper (envOfC qg sg s.heap.objs.size g cdg)) (envOfC qg sg s.heap.objs.size g cdg :: X.stack) s1 HZ E scope f c') [] σ HZ { s1 with heap := h₁, toks := s1.toks + ([] : List (Str × Value)).length } :=
      lam_start2 I L I1.env0 hr.hd un hns kp
    have J : Inv (lamN X (X.A.deeper (envOfC qg sg s.heap.objs.size g cdg)) (envOfC qg sg s.heap.objs.size g cdg :: X.stack) s1 HZ E scope f c') [] σ HZ { s1 with heap := h₁, toks := s1.toks + ([] : List (Str × Value)).length } := J0.wish _
    refine PySem.W.kla_codeExpr (wpAny_mono ((hbody _ _ s1 HZ E (hr.deeper _)).run [] _ _ HZ Q J htb) (fun v s' hq => ?_) fun e s' hq => hq)
    obtain ⟨w', H', J', rv, q⟩ := hq
    exact ⟨w', H', J'.os, J'.bare, J'.base, J'.hok, rv, q⟩
  refine wpAny_call (codeAny_mono rc fun r s' hq => ?_)
  cases r with
  | error e => exact tk e s' (L2N.XE.of_call I1 (fun cls d H' h => hW cls d H' h) hq)
  | ok fl =>
    cases fl with
    | ret u => exact I1.after hq
    | next => exact False.elim hq
    | brk => exact False.elim hq
    | cont => exact False.elim hq
end
section
variable {X : Cx}
theorem x_lamerr {x a q : Str} {c P : Addr} {k : Nat} {stw : Stmt} {Ng : List Str} {cs : List (Str × Str)} {params : Arguments} {body : Expr} {scope : Scope} {mb : ME} {E : XK} {p lpos pos : Pos}
    (F : ∃ fd, WordDef X.K X.mg x a stw Ng fd) (hG : ∀ cdv, GivesE X Ng x (defScope stw) (He.ga X.K x) cdv (defBody stw) a (errT X.K cs)) (TB : LamX.TabB X.base X.mg c P) (hcode : X.env.code = .ref c) (hr : Room (k + 2) X.A) (L : LamX.lamSB X.env.scope scope = true)
    (hbody : ∀ (A : Around) (outer : List Env) (s : Shared) (H : Hp) (E : XK) (f c' : Addr), Room k (A.deeper (LamX.lamEnv X scope s.heap.objs.size f c')) → Passes (L2N.CX X.prog X.w) (lamN X A outer s H E scope f c') E → PE (lamN X A outer s H E scope f c') body (lf X.K E (RF X.K) mb))
    (hg : Gl X x := by rfl) (hq : q = X.env.qual ++ "<lambda>" := by rfl) (hdef : defaultsOf params X.env = ([], []) := by rfl)
    (hbind : ∀ (q : Str) (cl : List (Str × Addr)) (pm cv ctv : Value), bindArgs (PySem.W.kla_fn "<lambda>" q params body scope cl pm cv ctv) ⟨[], []⟩ = pure [] := by intro _ _ _ _ _; rfl)
    (hdb : (x == ("__debug__" : Str)) = false := by decide) :
    XE X E (.Call (.Name x p) [.Lambda params body scope lpos] [] pos) (fun g => lamD P q (errD cs (mb g))) := by
  obtain ⟨fd, F⟩ := F
  obtain ⟨oc, od, dV, kV, doc, pm, an, cdv, ct, osl, rfl, lk, hcd, _, _⟩ := F.fn.ex
  have LS := LamX.lamS_by L
  subst hq
  refine ⟨fun pins s σ H Q I ⟨g, S, H0, Qd, Ed, rel, ⟨hT, hm⟩, hq', he⟩ => ?_⟩
  refine wpAny_Call_Name_kw (ld_glob I hg F.gl ?_ hdb)
  refine PySem.W.callWith_K (h₀ := X.base) I.ok.mod.kin F.fn.kp ?_ (by rfl) (by rfl)
  show wpAny _ _ (spliced ((false, eval (.Lambda params body scope lpos) X.env) :: backTo pos (starEach [] X.env))) _ _ s
  refine Calls.spliced_cons (Lam3.make I TB hcode rfl (rel.st.sto P _ hT) hdef (LS.has I.ok) fun f c' pm' ctv H2 s2 I2 stp hfo hfn hfr hco => ?_)
  refine Calls.spliced_nil ⟨I2.kIn, ?_⟩
  obtain ⟨st2, gr2⟩ := rel.st.lam hT stp
  have rel2 := rel.grow st2 gr2
  have rc : codeAny (model X.prog X.w) X.A (.call (.ref (He.ga X.K x)) ⟨[.ref f], []⟩) (CR C8.CX0 X.stack X.prog X.w H2 s2 Q C8.E0) s2 := by
    refine LamX.run_ofS (N := Ng) (ps := [a]) (us := [.ref f]) (vs := [.ref f]) lk hcd F.sc hr I2.env0 (F.bi s2 [.ref f] I2.kIn rfl) (.cons rfl .nil) rfl fun hr' => ?_
    have key := hG cdv f (fun HZ => HZ c' = some (CodeO c' (X.env.qual ++ "<lambda>"))) s2 H2 Q (fun E H' Q' => lf X.K E (RF X.K) mb σ H' Q') (fun _ _ s h => s _ _ h)
    have mid := key (fun W pn xe p1 p2 tk => ?_) hco ?_
    · obtain ⟨t', ht', hq2⟩ := mid
      exact ⟨t', ht'.nox, hq2⟩
    · exact pe_actN (p1 := p1) (p2 := p2) (tb := fun E => lf X.K E (RF X.K) mb) I2 LS hfo hfn hfr (hbind _ _ _ _ _) tk hr' (fun A outer s H E h => hbody A outer s H E f c' h (L2N.passes_call (L2N.takes_of (E := E) rfl rfl rfl rfl) fun _ _ _ _ h => h)) F.n0 F.vs F.da F.ca
    · intro l hl Q' hQ
      obtain ⟨st3, gr3, n0, nS⟩ := alloc_n st2 hl (.lst [])
      refine ⟨g, S, H0, _, _, rel2.grow st3 gr3, hm, fun d S' h v H' H0' st' gr' r => hQ _ _ (gr'.keep l _ upd_same nS) (hq' _ S' h _ H' H0' st' ((gr2.trans st2 gr3).trans st3 gr') (.str _)), fun y S' h o H' H0' st' gr' rx => ?_⟩
      obtain ⟨w, hw, h⟩ := h
      refine ⟨y.cls, w, rfl, hw, ?_, fun H'' s'' => ?_⟩
      · rcases rx with ⟨_, e⟩ | ⟨_, dd, vs, e, hd, _⟩
        · exact .inl e
        · exact .inr ⟨dd, _, e, hd⟩
      · obtain ⟨st5, gr5⟩ := st'.more s''
        exact hq' _ S' h _ H'' H0' st5 ((((gr2.trans st2 gr3).trans st3 gr').trans st' gr5)) (.str _)
  refine wpAny_call (codeAny_mono rc fun r s3 hres => ?_)
  cases r with
  | error e => exact False.elim hres
  | ok fl =>
    cases fl with
    | ret u => exact I2.after hres
    | next => exact False.elim hres
    | brk => exact False.elim hres
    | cont => exact False.elim hres
end
end DL

set_option Elab.async false
set_option linter.all false
set_option maxRecDepth 100000
set_option maxHeartbeats 4000000
/-! a new object told in the heap -/
namespace Lam4
open PySem PySem.Spec PyProof.Rows L2 LamX
section
variable {X : Cx} {pins : List (Addr × Obj)} {σ : L2.St} {H : Hp} {s : Shared}
theorem inv_put {a : Addr} {o : HO} (I : Inv X pins σ H s) (h1 : ∀ b ob, X.s_0.heap.get? b = some ob → X.H_0 b = none → b ∉ X.ex → b ≠ a) (h2 : ∀ b, X.H_0 b ≠ none → (∃ xs, X.H_0 b = some (.tup xs)) ∨ (∃ ob u, X.H_0 b = some (.frz ob u)) ∨ (∃ ps, X.H_0 b = some (.tbl ps)) → b ≠ a)
    (h5 : X.env.locals ≠ a) (h6 : ∀ x c, X.env.cells.lookup x = some c → c ≠ a) (h7 : ∀ p ∈ X.pn ++ pins, p.1 ≠ a) (hn : ∀ b, H a ≠ some (.own b)) (hn2 : ∀ xs, H a ≠ some (.tup xs)) (ho : ObjOk X.prog X.w (upd H a o) s.heap a o) : Inv X pins σ (upd H a o) s where
  ok := I.ok
  os := I.os
  bare := I.bare
  base := ⟨I.base.keep, I.base.slot, fun b ob e n hx => by rw [upd_ne (h1 b ob e n hx)]; exact I.base.free b ob e n hx, I.base.there,
    fun b xs e => by rw [upd_ne (h2 b (by rw [e]; exact fun z => nomatch z) (.inl ⟨xs, e⟩))]; exact I.base.tups b xs e,
    fun b ob u e => by rw [upd_ne (h2 b (by rw [e]; exact fun z => nomatch z) (.inr (.inl ⟨ob, u, e⟩)))]; exact I.base.frzs b ob u e,
    fun b ps e => by rw [upd_ne (h2 b (by rw [e]; exact fun z => nomatch z) (.inr (.inr ⟨ps, e⟩)))]; exact I.base.tbls b ps e⟩
  loc := I.loc
  cell := I.cell
  free := by rw [upd_ne h5]; exact I.free
  freeC := fun x c e => by rw [upd_ne (h6 x c e)]; exact I.freeC x c e
  pin := fun p hp => by
    obtain ⟨k1, k2, k3⟩ := I.pin p hp
    exact ⟨k1, by rw [upd_ne (h7 p hp)]; exact k2, k3⟩
  hok := fun b u e => by
    by_cases hb : b = a
    · subst hb
      rw [upd_same] at e
      cases e
      exact ho
    · rw [upd_ne hb] at e
      refine (I.hok b u e).stay (fun d v _ q => q) (fun d q => ?_) fun d xs q => ?_
      · have hd : d ≠ a := fun z => hn b (by rw [← z]; exact q)
        rw [upd_ne hd]; exact q
      · have hd : d ≠ a := fun z => hn2 xs (by rw [← z]; exact q)
        rw [upd_ne hd]; exact q
  len := I.len
/-- what stands at a new address is tracked -/
theorem inv_new {s0 : Shared} {H0 : Hp} {a : Addr} {o : HO} (I0 : Inv X pins σ H0 s0) (I : Inv X pins σ H s) (ha : s0.heap.objs.size ≤ a) (hn : H a = none) (ho : ObjOk X.prog X.w (upd H a o) s.heap a o) : Inv X pins σ (upd H a o) s := by
  have lt : ∀ b ob, s0.heap.get? b = some ob → b ≠ a := fun b ob e z => by
    have := Heap.lt_size e
    rw [z] at this
    exact Nat.lt_irrefl _ (Nat.lt_of_lt_of_le this ha)
  refine inv_put I (fun b ob e n _ => ?_) (fun b _ h => ?_) (fun z => ?_) (fun x c e => ?_) (fun p hp => (lt p.1 p.2 (I0.pin p hp).1)) (fun b => by rw [hn]; exact fun z => nomatch z) (fun xs => by rw [hn]; exact fun z => nomatch z) ho
  · have hs := Heap.lt_size e
    exact fun z => by
      rw [z] at hs
      exact Nat.lt_irrefl _ (Nat.lt_of_lt_of_le hs (Nat.le_trans I0.sz ha))
  · intro z
    rcases h with ⟨xs, e⟩ | ⟨ob, u, e⟩ | ⟨ps, e⟩
    · have := I.base.tups b xs e
      rw [z, hn] at this; cases this
    · have := I.base.frzs b ob u e
      rw [z, hn] at this; cases this
    · obtain ⟨m, this⟩ := I.base.tbls b ps e
      rw [z, hn] at this; cases this
  · have := I0.lt
    rw [z] at this
    exact Nat.lt_irrefl _ (Nat.lt_of_lt_of_le this ha)
  · obtain ⟨v, ob, e', _⟩ := I0.cell x c e
    exact lt c ob e'
end
end Lam4

set_option Elab.async false
set_option linter.all false
set_option maxRecDepth 100000
set_option maxHeartbeats 4000000
/-! a lambda is made: its object is new -/
namespace Lam4x
open PySem PySem.Spec PyProof.Rows L2 LamX Lam3
section
variable {X : Cx} {pins : List (Addr × Obj)} {σ : L2.St} {H : Hp} {s : Shared}
theorem make {c P : Addr} {q : Str} {params : Arguments} {body : Expr} {scope : Scope} {pos : Pos} {E : Value → Shared → Prop} {Q : Value → Shared → Prop} (I : L2.Inv X pins σ H s) (TB : TabB X.base X.mg c P) (hcode : X.env.code = .ref c) (hq : q = X.env.qual ++ "<lambda>")
    (hT : TabS H P q) (hdef : defaultsOf params X.env = ([], [])) (hfree : ∀ y ∈ scope.names, y.2 = .free → ∃ c, X.env.cells.lookup y.1 = some c)
    (h : ∀ (f c' : Addr) (pm ctv : Value) (H1 : Hp) (s' : Shared), L2.Inv X pins σ H1 s' → Step H H1 P q →
      s'.heap.get? f = some (PySem.W.kla_obj "<lambda>" (X.env.qual ++ "<lambda>") params body scope (cloFrom X.env.cells scope.names []) pm c' ctv) → H1 f = none → f ∉ frs X.stack → H1 c' = some (CodeO c' q) → s.heap.objs.size ≤ f → Q (.ref f) s') :
    wpAny (model X.prog X.w) X.A (eval (.Lambda params body scope pos) X.env) Q E s := by
  subst hq
  obtain ⟨ps, hP, ht, ha⟩ := hT
  refine PySem.W.kla_eval hdef ?_
  have bP : s.heap.BuiltinsAt X.mg P := TB.bm.keeps I.bk
  have oP : s.heap.get? P = some { cls := .none, data := .fields ps } := I.hok P _ hP
  have away : ∀ f, s.heap.objs.size ≤ f → f ∉ frs X.stack := fun f hf z => by
    rcases List.mem_cons.mp (I.stkSub _ z) with e | e
    · have h1 := I.lt
      rw [← e] at h1
      exact Nat.lt_irrefl _ (Nat.lt_of_lt_of_le h1 hf)
    · exact I.nofs hf e
  cases hc : codeAmong pos ps.toList with
  | some cv =>
    obtain ⟨c', rfl, hco⟩ := ha pos cv hc
    refine PySem.W.kla_makeFunctionHit (mg := X.mg) (c := c) (P := P) (ps := ps) (closure_ok hfree) I.ok.glob (I.mod.glob.keeps I.bk) hcode (TB.code.keeps I.bk) oP ht hc bP fun ctv h' tk hx hsz => ?_
    refine h h'.objs.size c' _ ctv H _ (I.kept fun b o e => Heap.get?_push_of_some _ (hx b o e)) (.inl rfl) (Heap.get?_push_size _ rfl) (I.hok.fresh hsz) (away _ hsz) hco hsz
  | none =>
    refine PySem.W.kla_makeFunction (mg := X.mg) (c := c) (P := P) (ps := ps) (closure_ok hfree) I.ok.glob (I.mod.glob.keeps I.bk) hcode (TB.code.keeps I.bk) oP ht hc TB.gP bP fun c' ctv h' tk hx hge hlt hrec htb => ?_
    obtain ⟨c2, oc, vs, t, e2, hoc, hd, hv⟩ := hrec
    cases e2
    have hsz : s.heap.objs.size ≤ h'.objs.size := Nat.le_trans hge (Nat.le_of_lt hlt)
    have nC : H c' = none := I.hok.fresh hge
    refine h h'.objs.size c' _ ctv _ _ (inv_table (t' := tk) (more := #[rawInt pos.line, rawInt pos.col, .ref c']) I hP (fun b o hb e => Heap.get?_push_of_some _ (hx b o hb e)) (Heap.get?_push_of_some _ htb) hge ⟨oc, vs, t, Heap.get?_push_of_some _ hoc, hd, hv⟩)
      (.inr ⟨ps, _, c', hP, nC, rfl, tabS_more hP ht ha nC⟩) (Heap.get?_push_size _ rfl) ?_ (away _ hsz) upd_same hsz
    have n1 : h'.objs.size ≠ c' := Nat.ne_of_gt hlt
    have n2 : h'.objs.size ≠ P := Nat.ne_of_gt (Nat.lt_of_lt_of_le (Heap.lt_size oP) hsz)
    rw [upd_ne n1, upd_ne n2]
    exact I.hok.fresh hsz
end
end Lam4x

set_option Elab.async false
set_option linter.all false
set_option maxRecDepth 100000
set_option maxHeartbeats 4000000
/-! lambdas that outlive the frame they were made in -/
namespace DL
open PySem PySem.Spec PyProof.Rows L2 STx OrdS LamX
/-- a lambda's words; sc: the scope of its maker -/
structure Clo where
  q : Str
  params : Arguments
  body : Expr
  scope : Scope
  sc : Scope
/-- the cells that it captures, its maker's frame being at n -/
def Clo.cl (Z : Clo) (n : Addr) : List (Str × Addr) := cloFrom (cellsFrom (n + 1) Z.sc.names []) Z.scope.names []
def anyO : HO := .ext fun _ => True
theorem anyO_ok {P : Program} {w : World} {H : Hp} {h : Heap} {a : Addr} {o : Obj} (e : h.get? a = some o) : ObjOk P w H h a (.frz o anyO) := ⟨e, trivial, ⟨o, e⟩, fun _ _ _ _ => trivial⟩
/-- the function object of Z -/
def fnM (Z : Clo) (n : Addr) : MR where
  rel := fun _ _ H a => ∃ pm c' ctv, H a = some (.frz (PySem.W.kla_obj "<lambda>" Z.q Z.params Z.body Z.scope (Z.cl n) pm c' ctv) anyO) ∧ H c' = some (CodeO c' Z.q)
  there := fun ⟨_, _, _, e, _⟩ => by rw [e]; exact fun z => nomatch z
  keep := fun ⟨pm, c', ctv, e1, e2⟩ _ e ek => ⟨pm, c', ctv, e.trans e1, ek _ _ e2⟩
  noE := fun ⟨_, _, _, e, _⟩ φ z => by rw [e] at z; cases z
/-- a cell that holds d for good -/
def cellM (d : D) : MR where
  rel := fun K H0 H a => ∃ o v u, H a = some (.frz o anyO) ∧ o.data = .cell (some u) ∧ RelV v u ∧ Rp K H0 v d
  there := fun ⟨_, _, _, e, _⟩ => by rw [e]; exact fun z => nomatch z
  keep := fun ⟨o, v, u, e1, e2, e3, e4⟩ e0 e _ => ⟨o, v, u, e.trans e1, e2, e3, e4.sub e0⟩
  noE := fun ⟨_, _, _, e, _⟩ φ z => by rw [e] at z; cases z
/-- a lambda is made -/
def cloD (P : Addr) (Z : Clo) (n : Addr) : T D := fun S Q _ => S P = some (.tab Z.q) ∧ ∀ f, S f = none → Q (.ref f) (S.up f (.own (fnM Z n)))
theorem StR.putN {K : PySem.W.Frag} {H H0 : Hp} {S : Sto} (st : StR K H H0 S) {a : Addr} {m : MO} {o : HO} (ha : H a = none) (hm : RpM K H0 (upd H a o) a m) : StR K (upd H a o) H0 (S.up a m) ∧ Grow H H0 S (upd H a o) H0 (S.up a m) ∧ S a = none := by
  have nS : S a = none := by
    cases e : S a with
    | none => rfl
    | some m' => exact absurd ha (st.sto a m' e).there
  have n0 : H0 a = none := by
    cases e : H0 a with
    | none => rfl
    | some o' => rw [st.sub _ _ e] at ha; cases ha
  refine ⟨⟨fun b u e => ?_, fun b n => ?_, fun b u e => ?_⟩, ⟨fun b u e n => ?_, fun b e _ => e, fun _ _ e => e, fun b n => ?_, fun b n => ?_⟩, nS⟩
  · rw [upd_ne (ne_of_none e n0)]; exact st.sub b u e
  · unfold Sto.up at n
    by_cases hb : b = a
    · rw [hb]; exact n0
    · rw [if_neg hb] at n; exact st.nos b n
  · unfold Sto.up at e
    by_cases hb : b = a
    · subst hb
      rw [if_pos rfl] at e
      cases e; exact hm
    · rw [if_neg hb] at e
      exact (st.sto b u e).keep (fun _ _ q => q) (upd_ne hb) (keepC_new ha o)
  · rw [upd_ne (ne_of_none e ha)]; exact e
  · unfold Sto.up
    by_cases hb : b = a
    · rw [if_pos hb]; exact fun z => nomatch z
    · rw [if_neg hb]; exact n
  · unfold Sto.up at n
    by_cases hb : b = a
    · exact .inr (by rw [hb]; exact ha)
    · rw [if_neg hb] at n; exact .inl n
section
variable {X : Cx}
theorem x_clo {Z : Clo} {n c P : Addr} {E : XK} {pos : Pos} (TB : TabB X.base X.mg c P) (hcode : X.env.code = .ref c) (L : lamSB X.env.scope Z.scope = true) (hcl : X.env.cells = cellsFrom (n + 1) Z.sc.names []) (hq : Z.q = X.env.qual ++ "<lambda>" := by rfl) (hdef : defaultsOf Z.params X.env = ([], []) := by rfl) :
    XE X E (.Lambda Z.params Z.body Z.scope pos) (fun _ => cloD P Z n) := by
  have LS := lamS_by L
  refine ⟨fun pins s σ H Q I ⟨g, S, H0, Qd, Ed, rel, ⟨hT, hm⟩, hq', he⟩ => ?_⟩
  refine Lam4x.make I TB hcode hq (rel.st.sto P _ hT) hdef (LS.has I.ok) fun f c' pm ctv H1 s' I1 stp hf hfn hfr hco hsz => ?_
  obtain ⟨st1, gr1⟩ := rel.st.lam hT stp
  rw [← hq, hcl] at hf
  have I2 := Lam4.inv_new (o := .frz (PySem.W.kla_obj "<lambda>" Z.q Z.params Z.body Z.scope (Z.cl n) pm c' ctv) anyO) I I1 hsz hfn (anyO_ok hf)
  have nc : c' ≠ f := ne_of_none hco hfn
  obtain ⟨st2, gr2, nS⟩ := st1.putN (m := .own (fnM Z n)) (o := .frz (PySem.W.kla_obj "<lambda>" Z.q Z.params Z.body Z.scope (Z.cl n) pm c' ctv) anyO) hfn ⟨pm, c', ctv, upd_same, by rw [upd_ne nc]; exact hco⟩
  exact ⟨.ref f, _, I2, rfl, hq' _ _ (hm f nS) _ _ _ st2 (gr1.trans st1 gr2) (.ref f)⟩
end
end DL

set_option Elab.async false
set_option linter.all false
set_option maxRecDepth 100000
set_option maxHeartbeats 4000000
/-! cells that are tracked, taken out while a closure runs -/
namespace DL
open PySem PySem.Spec PyProof.Rows L2 STx OrdS LamX
def strip (H : Hp) (cs : List Addr) : Hp := fun b => if b ∈ cs then none else H b
def retr (H H' : Hp) (cs : List Addr) : Hp := fun b => if b ∈ cs then H b else H' b
theorem strip_in {H : Hp} {cs : List Addr} {b : Addr} (h : b ∈ cs) : strip H cs b = none := if_pos h
theorem strip_out {H : Hp} {cs : List Addr} {b : Addr} (h : b ∉ cs) : strip H cs b = H b := if_neg h
theorem retr_in {H H' : Hp} {cs : List Addr} {b : Addr} (h : b ∈ cs) : retr H H' cs b = H b := if_pos h
theorem retr_out {H H' : Hp} {cs : List Addr} {b : Addr} (h : b ∉ cs) : retr H H' cs b = H' b := if_neg h
/-- all of cs are cells that are told -/
def Cells (H : Hp) (cs : List Addr) : Prop := ∀ c ∈ cs, ∃ o, H c = some (.frz o anyO) ∧ ∃ v, o.data = .cell v
section
variable {P : Program} {w : World} {K : PySem.W.Frag} {mg : Str → Option Value} {base : Heap} {H H' : Hp} {h h' : Heap} {cs : List Addr}
theorem Cells.out (C : Cells H cs) {b : Addr} {o : HO} (e : H b = some o) (n : ∀ ob u, o ≠ .frz ob u) : b ∉ cs := fun hb => by
  obtain ⟨ob, e2, _⟩ := C b hb
  rw [e] at e2
  exact n _ _ (Option.some.inj e2)
theorem Cells.none (C : Cells H cs) {b : Addr} (e : H b = none) : b ∉ cs := fun hb => by
  obtain ⟨ob, e2, _⟩ := C b hb
  rw [e] at e2
  cases e2
theorem strip_ok (C : Cells H cs) (ok : HOk P w H h) : HOk P w (strip H cs) h := fun b u e => by
  have hb : b ∉ cs := fun z => by rw [strip_in z] at e; cases e
  rw [strip_out hb] at e
  refine (ok b u e).stay (fun _ _ _ q => q) (fun d q => ?_) fun d xs q => ?_
  · rw [strip_out (C.out q fun _ _ z => nomatch z)]; exact q
  · rw [strip_out (C.out q fun _ _ z => nomatch z)]; exact q
theorem strip_env0 {A : Around} {outer : List Env} {s : Shared} (C : Cells H cs) (e0 : Env0 P w K mg base A outer s H) : Env0 P w K mg base A outer s (strip H cs) := by
  have out : ∀ b, H b = none → strip H cs b = none := fun b e => by rw [strip_out (C.none e)]; exact e
  exact ⟨e0.frames, e0.mod, fun b o e => ⟨(e0.bs b o e).1, out b (e0.bs b o e).2⟩, e0.bsz, e0.funs, fun b hb => out b (e0.frf b hb), strip_ok C e0.hok, e0.bare⟩
/-- the cells stand where they stood -/
theorem cell_stay {fs : List Addr} {s s' : Shared} (C : Cells H cs) (ok : HOk P w H s.heap) (hfs : ∀ b ∈ fs, H b = none) (un : Un fs [] (strip H cs) H' s.heap s'.heap) {c : Addr} (hc : c ∈ cs) {o : Obj} {u : HO} (e : H c = some (.frz o u)) : s'.heap.get? c = some o :=
  un.keep c o (ok c _ e).1 (strip_in hc) (fun z => by rw [hfs c z] at e; cases e) (by simp)
theorem retr_ok {B : Heap} (C : Cells H cs) (ok : HOk P w H' B) (hB : ∀ c ∈ cs, ∀ o u, H c = some (.frz o u) → B.get? c = some o) (hn : ∀ c ∈ cs, H' c = none) : HOk P w (retr H H' cs) B := fun b u e => by
  by_cases hb : b ∈ cs
  · obtain ⟨o, e2, v, hv⟩ := C b hb
    rw [retr_in hb, e2] at e
    cases e
    exact anyO_ok (hB b hb _ _ e2)
  · rw [retr_out hb] at e
    have out : ∀ d q, H' d = some q → d ∉ cs := fun d q e hd => by rw [hn d hd] at e; cases e
    refine (ok b u e).stay (fun _ _ _ q => q) (fun d q => ?_) fun d xs q => ?_
    · rw [retr_out (out d _ q)]; exact q
    · rw [retr_out (out d _ q)]; exact q
theorem retr_un {fs : List Addr} (C : Cells H cs) (un : Un fs [] (strip H cs) H' h h') : Un fs [] H (retr H H' cs) h h' := by
  refine ⟨fun b o e n hf hx => un.keep b o e (by rw [strip_out (C.none n)]; exact n) hf hx, fun b o e n hf hx => un.slot b o e (by rw [strip_out (C.none n)]; exact n) hf hx, fun b o e n hx => ?_, un.there, fun b xs e => ?_, fun b o u e => ?_, fun b ps e => ?_⟩
  · rw [retr_out (C.none n)]; exact un.free b o e (by rw [strip_out (C.none n)]; exact n) hx
  · have hb := C.out e fun _ _ z => nomatch z
    rw [retr_out hb]; exact un.tups b xs (by rw [strip_out hb]; exact e)
  · by_cases hb : b ∈ cs
    · rw [retr_in hb]; exact e
    · rw [retr_out hb]; exact un.frzs b o u (by rw [strip_out hb]; exact e)
  · have hb := C.out e fun _ _ z => nomatch z
    rw [retr_out hb]; exact un.tbls b ps (by rw [strip_out hb]; exact e)
/-- a call's end, the cells put back -/
theorem retr_ce {outer : List Env} {s : Shared} {Q : VK} {u : Value} {s' : Shared} (C : Cells H cs) (ok : HOk P w H s.heap) (hfs : ∀ b ∈ frs outer, H b = none) (h : CE outer P w (strip H cs) s (fun v H1 => (∀ c ∈ cs, H1 c = none) → Q v (retr H H1 cs)) u s') : CE outer P w H s Q u s' := by
  obtain ⟨v, H1, os, bare, un, hok, rv, q⟩ := h
  have hn : ∀ c ∈ cs, H1 c = none := fun c hc => by
    obtain ⟨o, e, _⟩ := C c hc
    exact un.free c o (ok c _ e).1 (strip_in hc) (by simp)
  exact ⟨v, retr H H1 cs, os, bare, retr_un C un, retr_ok C hok (fun c hc o u e => cell_stay C ok hfs un hc e) hn, rv, q hn⟩
/-- the same of an error -/
theorem retr_cx {outer : List Env} {s : Shared} {E : XK} {u : Value} {s' : Shared} (C : Cells H cs) (ok : HOk P w H s.heap) (hfs : ∀ b ∈ frs outer, H b = none) (h : L2N.CX P w outer (strip H cs) s (fun cls d H1 => (∀ c ∈ cs, H1 c = none) → E cls d (retr H H1 cs)) u s') : L2N.CX P w outer H s E u s' := by
  obtain ⟨a, B, H1, cls, d, rfl, fl, hok, ub, na, os, ag, he⟩ := h
  have hB : ∀ c ∈ cs, ∀ o u, H c = some (.frz o u) → B.get? c = some o := fun c hc o u e => ub.keep c o (ok c _ e).1 (strip_in hc) (fun z => by rw [hfs c z] at e; cases e)
  have hn : ∀ c ∈ cs, H1 c = none := fun c hc => by
    obtain ⟨o, e, _⟩ := C c hc
    exact ub.free c o (ok c _ e).1 (strip_in hc)
  have nac : a ∉ cs := fun z => by
    obtain ⟨o, e, _⟩ := C a z
    have := hB a z _ _ e
    rw [fl.2.1] at this
    cases this
  refine ⟨a, B, retr H H1 cs, cls, d, rfl, fl, retr_ok C hok hB hn, ?_, by rw [retr_out nac]; exact na, os, ag, he hn⟩
  refine ⟨fun b o e n hf => ub.keep b o e (by rw [strip_out (C.none n)]; exact n) hf, fun b o e hf => ub.slot b o e hf, fun b o e n => ?_, fun b o e hf => ub.there b o e hf, fun b xs e => ?_, fun b o u e => ?_, fun b ps e => ?_⟩
  · rw [retr_out (C.none n)]; exact ub.free b o e (by rw [strip_out (C.none n)]; exact n)
  · have hb := C.out e fun _ _ z => nomatch z
    rw [retr_out hb]; exact ub.tups b xs (by rw [strip_out hb]; exact e)
  · by_cases hb : b ∈ cs
    · rw [retr_in hb]; exact e
    · rw [retr_out hb]; exact ub.frzs b o u (by rw [strip_out hb]; exact e)
  · have hb := C.out e fun _ _ z => nomatch z
    rw [retr_out hb]; exact ub.tbls b ps (by rw [strip_out hb]; exact e)
end
end DL

set_option Elab.async false
set_option linter.all false
set_option maxRecDepth 100000
set_option maxHeartbeats 4000000
/-! a closure is called -/
namespace DL
open PySem PySem.Spec PyProof.Rows L2 STx OrdS LamX
/-- the maker as the closure's body sees it: its cells, the names of its slots -/
abbrev mkCx (Y : Cx) (q0 : Str) (cells : List (Str × Addr)) (sc : Scope) (N : List Str) : Cx := { Y with env := { Y.env with qual := q0, cells := cells, scope := sc }, N := N }
/-- what the heap says of a closure at f: its code object, its cells, their values -/
structure CloAt (H : Hp) (f : Addr) (q0 : Str) (cells : List (Str × Addr)) (params : Arguments) (body : Expr) (scope : Scope) (N : List Str) (cs : List Addr) (σ : L2.St) (pm : Value) (c' : Addr) (ctv : Value) : Prop where
  ob : H f = some (.frz (PySem.W.kla_obj "<lambda>" (q0 ++ "<lambda>") params body scope (cloFrom cells scope.names []) pm c' ctv) anyO)
  co : H c' = some (CodeO c' (q0 ++ "<lambda>"))
  ce : Cells H cs
  inj : ∀ y z c, (cloFrom cells scope.names []).lookup y = some c → (cloFrom cells scope.names []).lookup z = some c → y = z
  mem : ∀ y c, (cloFrom cells scope.names []).lookup y = some c → c ∈ cs
  fr : ∀ y, scope.names.lookup y = some .free → ∃ c, (cloFrom cells scope.names []).lookup y = some c
  len : σ.length = N.length
  val : ∀ (i : Nat) (y : Str) (v : V), N[i]? = some y → σ[i]? = some (some v) → scope.names.lookup y = some .free → ∃ c o u, (cloFrom cells scope.names []).lookup y = some c ∧ H c = some (.frz o anyO) ∧ o.data = .cell (some u) ∧ RelV v u
section
variable {Y : Cx} {pinsZ : List (Addr × Obj)} {σZ : L2.St} {HZ : Hp} {s1 : Shared}
theorem clo_start {q0 : Str} {cells : List (Str × Addr)} {sc scope : Scope} {N : List Str} {params : Arguments} {body : Expr} {cs : List Addr} {σ : L2.St} {pm ctv : Value} {f c' : Addr} {A : Around} {outer : List Env} {E : XK} {h₁ : Heap} {tk : Nat} (W : CloAt HZ f q0 cells params body scope N cs σ pm c' ctv)
    (L : LamS sc scope) (e0 : Env0 Y.prog Y.w Y.K Y.mg Y.base A outer s1 HZ) (hd : A.handled = none)
    (hns : h₁.Ns s1.heap.objs.size fun y => ([] : List (Str × Value)).reverse.lookup y) (kp : ∀ b o, s1.heap.get? b = some o → h₁.get? b = some o) :
    Inv (lamCx (mkCx Y q0 cells sc N) A outer s1 (strip HZ cs) E scope f c') [] σ (strip HZ cs) { s1 with heap := h₁, toks := tk } := by
  have e1 := strip_env0 W.ce e0
  have noA : ∀ b : Addr, b ∉ (lamCx (mkCx Y q0 cells sc N) A outer s1 (strip HZ cs) E scope f c').ex := fun b z => absurd (show b ∈ ([] : List Addr) from z) (by simp)
  have cellK : ∀ c ∈ cs, ∃ v, h₁.IsCell c v := fun c hc => by
    obtain ⟨o, e, v, hv⟩ := W.ce c hc
    exact ⟨v, o, kp _ _ (e0.hok c _ e).1, hv⟩
  refine ⟨⟨e1.mod, L.kind, rfl, rfl, Nat.le_refl _, fun y z c h1 h2 => W.inj y z c h1 h2, fun y hy => ?_, fun y c z _ => ?_, fun _ => hd, Around.frames_deeper e1.frames, .inr ⟨rfl, rfl⟩, fun b z => absurd z (noA b), e1.bs, e1.bsz, fun b _ _ => noA b,
      fun b z => absurd z (noA b), e1.funs, e1.frf⟩,
    rfl, e1.bare, Un.kept kp, ⟨_, hns, fun i y v h1 h2 h3 => ?_⟩, fun y c e => cellK c (W.mem y c e), e1.hok.fresh (Nat.le_refl _), fun y c e => strip_in (W.mem y c e), fun q hq => absurd (show q ∈ ([] : List (Addr × Obj)) ++ [] from hq) (by simp), e1.hok.kept kp, W.len⟩
  · have hy : scope.names.lookup y = some .cell ∨ scope.names.lookup y = some .free := hy
    rcases hy with hy | hy
    · exact absurd rfl (L.own _ (PySem.mem_of_lookup hy)).2
    · exact W.fr y hy
  · have z : false = true := z
    cases z
  · have h3 : Vis scope y := h3
    rcases h3 with k | k | k
    · exact absurd rfl (L.own _ (PySem.mem_of_lookup k)).1
    · exact absurd rfl (L.own _ (PySem.mem_of_lookup k)).2
    · obtain ⟨c, o, u, g1, g2, g3, g4⟩ := W.val i y v h1 h2 k
      exact ⟨u, g4, .inr ⟨.inr k, c, g1, o, kp _ _ (e0.hok c _ g2).1, g3⟩⟩
/-- a(), a the closure at f, in a def's body (or its try) -/
theorem pe_clo {CXg : CXT} {Eg : XK} {Ng : List Str} {qg : Str} {sg : Scope} {g : Addr} {cdg : Value} {sG : Shared} {HG : Hp} {k i : Nat} {a : Str} {pn : List (Addr × Obj)} {xe : Value → Shared → Prop} {W : WX} {p1 p2 : Pos}
    (tk : L2N.Takes ((cxOf CXg Y.prog Y.w Y.K Y.mg Y.base Ng qg sg g cdg Y.A Y.stack sG HG Eg).tr pn xe) W) (hr : Room (k + 1) (Y.A.deeper (envOfC qg sg sG.heap.objs.size g cdg)))
    (hN : Ng[i]? = some a) (hv : Vis sg a) (hd : (a == ("__debug__" : Str)) = false) (hcd : (a == ("__classdict__" : Str)) = false) :
    PE ((cxOf CXg Y.prog Y.w Y.K Y.mg Y.base Ng qg sg g cdg Y.A Y.stack sG HG Eg).tr pn xe) (.Call (.Name a p1) [] [] p2)
      (fun σZ HZ Q => ∃ (f : Addr) (q0 : Str) (cells : List (Str × Addr)) (sc scope : Scope) (N : List Str) (params : Arguments) (body : Expr) (cs : List Addr) (σ : L2.St) (pm : Value) (c' : Addr) (ctv : Value) (tb : XK → TE) (E : XK),
        σZ[i]? = some (some (.ref f)) ∧ CloAt HZ f q0 cells params body scope N cs σ pm c' ctv ∧ LamS sc scope ∧ (∀ (q : Str) (cl : List (Str × Addr)) (pm cv ctv : Value), bindArgs (PySem.W.kla_fn "<lambda>" q params body scope cl pm cv ctv) ⟨[], []⟩ = pure []) ∧
        (∀ (A : Around) (outer : List Env) (s : Shared) (H : Hp) (E : XK), Room k (A.deeper (lamEnv (mkCx Y q0 cells sc N) scope s.heap.objs.size f c')) → PE (lamN (mkCx Y q0 cells sc N) A outer s H E scope f c') body (tb E)) ∧
        (∀ cls d H', E cls d H' → W cls d σZ H') ∧ tb (fun cls d H1 => (∀ c ∈ cs, H1 c = none) → E cls d (retr HZ H1 cs)) σ (strip HZ cs) fun v H1 => (∀ c ∈ cs, H1 c = none) → Q v (retr HZ H1 cs)) := by
  refine ⟨fun pinsZ sZ σZ HZ Q IZ ⟨f, q0, cells, sc, scope, N, params, body, cs, σ, pm, c', ctv, tb, E, hs, Wc, L, hbind, hbody, hW, htb⟩ => ?_⟩
  refine wpAny_Call_Name_kw (thn ((pe_var (pos := p1) (i := i) hN hv hd hcd).run pinsZ sZ σZ HZ (fun v H1 => v = .ref f ∧ H1 = HZ) IZ ⟨.ref f, hs, rfl, rfl⟩) fun u s1 ⟨v, H1, I1, r1, q1⟩ => ?_)
  obtain ⟨ev, eH⟩ := q1
  subst ev
  rw [eH] at I1
  obtain rfl : u = Value.ref f := r1
  have of1 := (I1.hok f _ Wc.ob).1
  refine PySem.W.callWith_F0 ⟨_, _, _, _, of1⟩ ?_
  obtain ⟨⟨oc, vs, t, hoc, hdc, hvc⟩, _, _⟩ := I1.hok c' _ Wc.co
  have e0 := I1.env0
  have hfs := e0.frf
  have rc : codeAny (model Y.prog Y.w) (Y.A.deeper (envOfC qg sg sG.heap.objs.size g cdg)) (.call (.ref f) ⟨[], []⟩) (CR (L2N.CX Y.prog Y.w) (envOfC qg sg sG.heap.objs.size g cdg :: Y.stack) Y.prog Y.w (strip HZ cs) s1 (fun v H1 => (∀ c ∈ cs, H1 c = none) → Q v (retr HZ H1 cs)) (fun cls d H1 => (∀ c ∈ cs, H1 c = none) → E cls d (retr HZ H1 cs))) s1 := by
    refine PySem.W.kla_callFunE hr.depth of1 rfl L.co L.gen rfl ⟨c', oc, vs, t, rfl, hoc, hdc, hvc⟩ ?_
    rw [hbind]
    refine wpAny_pure (wpAny_newFunctionEnv (fun y hy => (L.own y hy).2) (fun y hy => absurd hy (by simp)) (fun h₁ hns hsb => ⟨I1.nolimit.fresh _ hsb, ?_⟩) L.kind)
    show codeAny _ _ (.expr body (lamEnv (mkCx Y q0 cells sc N) scope s1.heap.objs.size f c')) _ _
    have kp : ∀ b o, s1.heap.get? b = some o → h₁.get? b = some o := fun b o e => hsb.extBut b o (Nat.ne_of_lt (Heap.lt_size e)) (Heap.get?_push_of_some _ e)
    have J0 := clo_start (Y := Y) (sc := sc) (A := Y.A.deeper (envOfC qg sg sG.heap.objs.size g cdg)) (outer := envOfC qg sg sG.heap.objs.size g cdg :: Y.stack) (E := fun cls d H1 => (∀ c ∈ cs, H1 c = none) → E cls d (retr HZ H1 cs)) (tk := s1.toks + ([] : List (Str × Value)).length) Wc L e0 hr.hd hns kp
    have J : Inv (lamN (mkCx Y q0 cells sc N) (Y.A.deeper (envOfC qg sg sG.heap.objs.size g cdg)) (envOfC qg sg sG.heap.objs.size g cdg :: Y.stack) s1 (strip HZ cs) (fun cls d H1 => (∀ c ∈ cs, H1 c = none) → E cls d (retr HZ H1 cs)) scope f c') [] σ (strip HZ cs) { s1 with heap := h₁, toks := s1.toks + ([] : List (Str × Value)).length } := J0.wish _
    refine PySem.W.kla_codeExpr (wpAny_mono ((hbody _ _ s1 (strip HZ cs) _ (hr.deeper _)).run [] _ _ (strip HZ cs) _ J htb) (fun v s' hq => ?_) fun e s' hq => hq)
    obtain ⟨w', H', J', rv, q⟩ := hq
    exact ⟨w', H', J'.os, J'.bare, J'.base, J'.hok, rv, q⟩
  refine wpAny_call (codeAny_mono rc fun r s' hq => ?_)
  cases r with
  | error e => exact tk e s' (L2N.XE.of_call I1 (fun cls d H' h => hW cls d H' h) (retr_cx Wc.ce I1.hok hfs hq))
  | ok fl =>
    cases fl with
    | ret u => exact I1.after (retr_ce Wc.ce I1.hok hfs hq)
    | next => exact False.elim hq
    | brk => exact False.elim hq
    | cont => exact False.elim hq
end
end DL

set_option Elab.async false
set_option linter.all false
set_option maxRecDepth 100000
set_option maxHeartbeats 4000000
/-! the store while a closure runs -/
namespace DL
open PySem PySem.Spec PyProof.Rows L2 STx OrdS LamX
def isOwn : Option MO → Bool
  | some (.own _) => true
  | _ => false
def dropOwn (S : Sto) : Sto := fun a => if isOwn (S a) = true then none else S a
def backOwn (S S' : Sto) : Sto := fun a => if isOwn (S a) = true then S a else S' a
theorem own_some {m : Option MO} (h : isOwn m = true) : ∃ ρ, m = some (.own ρ) := by
  cases m with
  | none => cases h
  | some m => cases m with
    | own ρ => exact ⟨ρ, rfl⟩
    | _ => cases h
section
variable {K : PySem.W.Frag} {H H0 : Hp} {S : Sto} {cs : List Addr}
theorem drop_st (st : StR K H H0 S) (C : Cells H cs) (hS : ∀ c ∈ cs, isOwn (S c) = true) : StR K (strip H cs) H0 (dropOwn S) := by
  have n0 : ∀ c ∈ cs, H0 c = none := fun c hc => by
    obtain ⟨ρ, e⟩ := own_some (hS c hc)
    exact st.nos c (by rw [e]; exact fun z => nomatch z)
  have kc : KeepC H (strip H cs) := fun c φ e => by
    rw [strip_out (C.out e fun _ _ z => nomatch z)]; exact e
  refine ⟨fun a o e => ?_, fun a n => ?_, fun a m e => ?_⟩
  · rw [strip_out (fun z => by rw [n0 a z] at e; cases e)]; exact st.sub a o e
  · refine st.nos a fun z => n ?_
    unfold dropOwn
    rw [z]; rfl
  · unfold dropOwn at e
    by_cases h : isOwn (S a) = true
    · rw [if_pos h] at e; cases e
    · rw [if_neg h] at e
      have ha : a ∉ cs := fun z => h (hS a z)
      exact (st.sto a m e).keep (fun _ _ z => z) (strip_out ha) kc
theorem back_st (st : StR K H H0 S) (C : Cells H cs) (hS : ∀ c ∈ cs, isOwn (S c) = true) {H1 H01 : Hp} {S1 : Sto} (st1 : StR K H1 H01 S1) (gr : Grow (strip H cs) H0 (dropOwn S) H1 H01 S1) (hn : ∀ c ∈ cs, H1 c = none) :
    StR K (retr H H1 cs) H01 (backOwn S S1) ∧ Grow H H0 S (retr H H1 cs) H01 (backOwn S S1) := by
  have n01 : ∀ c ∈ cs, H01 c = none := fun c hc => by
    cases e : H01 c with
    | none => rfl
    | some o => have := st1.sub c o e; rw [hn c hc] at this; cases this
  have dn : ∀ a, isOwn (S a) = true → dropOwn S a = none := fun a h => if_pos h
  have dr : ∀ a, S a = none → dropOwn S a = none := fun a h => by unfold dropOwn; rw [h]; rfl
  have st0 := drop_st st C hS
  -- what is tracked outside the store stays
  have same : ∀ a o, H a = some o → dropOwn S a = none → retr H H1 cs a = some o := fun a o e n => by
    by_cases ha : a ∈ cs
    · rw [retr_in ha]; exact e
    · rw [retr_out ha]; exact gr.keep a o (by rw [strip_out ha]; exact e) n
  have kc : KeepC H (retr H H1 cs) := fun c φ e => by
    refine same c _ e ?_
    cases q : dropOwn S c with
    | none => rfl
    | some m =>
      have hc : c ∉ cs := C.out e fun _ _ z => nomatch z
      exact absurd (by rw [strip_out hc]; exact e) ((st0.sto c m q).noE φ)
  have kc1 : KeepC H1 (retr H H1 cs) := fun c φ e => by
    rw [retr_out (fun z => by rw [hn c z] at e; cases e)]; exact e
  refine ⟨⟨fun a o e => ?_, fun a n => ?_, fun a m e => ?_⟩, ⟨fun a o e n => same a o e (dr a n), fun a h n => ?_, gr.sub, fun a n => ?_, fun a n => ?_⟩⟩
  · rw [retr_out (fun z => by rw [n01 a z] at e; cases e)]; exact st1.sub a o e
  · by_cases h : isOwn (S a) = true
    · obtain ⟨ρ, e⟩ := own_some h
      by_cases ha : a ∈ cs
      · exact n01 a ha
      · exact gr.old a (st.nos a (by rw [e]; exact fun z => nomatch z)) (by rw [strip_out ha]; exact (st.sto a _ e).there)
    · unfold backOwn at n
      rw [if_neg h] at n
      exact st1.nos a n
  · unfold backOwn at e
    by_cases h : isOwn (S a) = true
    · rw [if_pos h] at e
      have rm := st.sto a m e
      cases q : H a with
      | none => exact absurd q rm.there
      | some o => exact rm.keep gr.sub (by rw [same a o q (dn a h), q]) kc
    · rw [if_neg h] at e
      have rm := st1.sto a m e
      have ha : a ∉ cs := fun z => rm.there (hn a z)
      exact rm.keep (fun _ _ z => z) (retr_out ha) kc1
  · by_cases ha : a ∈ cs
    · exact n01 a ha
    · exact gr.old a h (by rw [strip_out ha]; exact n)
  · unfold backOwn
    by_cases h : isOwn (S a) = true
    · rw [if_pos h]; exact n
    · rw [if_neg h]
      refine gr.more a ?_
      unfold dropOwn
      rw [if_neg h]; exact n
  · unfold backOwn at n
    by_cases h : isOwn (S a) = true
    · rw [if_pos h] at n; exact .inl n
    · rw [if_neg h] at n
      rcases gr.new a n with z | z
      · refine .inl fun w => z (dr a w)
      · by_cases ha : a ∈ cs
        · exact absurd (hS a ha) h
        · rw [strip_out ha] at z; exact .inr z
end
end DL

set_option Elab.async false
set_option linter.all false
set_option maxRecDepth 100000
set_option maxHeartbeats 4000000
/-! the def that tells the words of an error, handed a closure -/
namespace DL
open PySem PySem.Spec PyProof.Rows L2 STx OrdS LamX
def cellAt (sc : Scope) (n : Addr) (y : Str) : Option Addr := (cellsFrom (n + 1) sc.names []).lookup y
def cellsOf (sc : Scope) (N : List Str) (n : Addr) : List Addr := N.filterMap (cellAt sc n)
/-- a closure of the table is run, its maker's cells holding ds -/
def cloRun (Zs : List (Clo × ME)) (sc : Scope) (N : List Str) (d : D) : T D := fun S Q E => ∃ f n Z mb ds, d = .ref f ∧ (Z, mb) ∈ Zs ∧ S f = some (.own (fnM Z n)) ∧ ds.length = N.length ∧
  (∀ (i : Nat) (y : Str), N[i]? = some y → ∃ c dd, cellAt sc n y = some c ∧ ds[i]? = some dd ∧ S c = some (.own (cellM dd))) ∧
  mb (startG N.length ds) (dropOwn S) (fun r S' => Q r (backOwn S S')) fun x S' => E x (backOwn S S')
/-- what is asked of each closure's words -/
structure CloOk (q0 : Str) (sc : Scope) (N : List Str) (Z : Clo) : Prop where
  q : Z.q = q0 ++ "<lambda>"
  s : Z.sc = sc
  L : LamS sc Z.scope
  b : ∀ (q : Str) (cl : List (Str × Addr)) (pm cv ctv : Value), bindArgs (PySem.W.kla_fn "<lambda>" q Z.params Z.body Z.scope cl pm cv ctv) ⟨[], []⟩ = pure []
  fr : ∀ y ∈ Z.scope.names, y.2 = .free → y.1 ∈ N
theorem cells_vals {K : PySem.W.Frag} {H H0 : Hp} {S : Sto} (st : StR K H H0 S) (lk : Str → Option Addr) : ∀ (N : List Str) (ds : List D), ds.length = N.length → (∀ (i : Nat) (y : Str), N[i]? = some y → ∃ c dd, lk y = some c ∧ ds[i]? = some dd ∧ S c = some (.own (cellM dd))) →
    ∃ vs : List V, Rps K H0 vs ds ∧ ∀ (i : Nat) (y : Str) (v : V), N[i]? = some y → vs[i]? = some v → ∃ c o u, lk y = some c ∧ H c = some (.frz o anyO) ∧ o.data = .cell (some u) ∧ RelV v u
  | [], [], _, _ => ⟨[], .nil, fun i y v h => by cases h⟩
  | [], _ :: _, h, _ => by cases h
  | _ :: _, [], h, _ => by cases h
  | y :: N, d :: ds, hl, h => by
    obtain ⟨vs, r, hv⟩ := cells_vals st lk N ds (by simpa using hl) fun i y hi => h (i + 1) y hi
    obtain ⟨c, dd, h1, h2, h3⟩ := h 0 y rfl
    cases h2
    obtain ⟨o, v, u, e1, e2, e3, e4⟩ := st.sto c _ h3
    refine ⟨v :: vs, .cons e4 r, fun i y' v' hi hv' => ?_⟩
    cases i with
    | zero => cases hi; cases hv'; exact ⟨c, o, u, h1, e1, e2, e3⟩
    | succ i => exact hv i y' v' hi hv'
section
variable {X : Cx}
theorem x_cloerr {x a q0 : Str} {sc : Scope} {N : List Str} {Zs : List (Clo × ME)} {k : Nat} {stw : Stmt} {Ng : List Str} {cs : List (Str × Str)} {e : Expr} {me : ME} {E : XK} {p pos : Pos}
    (F : ∃ fd, WordDef X.K X.mg x a stw Ng fd) (hG : ∀ cdv, GivesE X Ng x (defScope stw) (He.ga X.K x) cdv (defBody stw) a (errT X.K cs)) (hr : Room (k + 2) X.A) (he : XE X E e me)
    (hZ : ∀ z ∈ Zs, CloOk q0 sc N z.1) (hinj : ∀ n y z c, cellAt sc n y = some c → cellAt sc n z = some c → y = z)
    (hbody : ∀ z ∈ Zs, ∀ (n : Addr) (A : Around) (outer : List Env) (s : Shared) (H : Hp) (E : XK) (f c' : Addr), Room k (A.deeper (lamEnv (mkCx X q0 (cellsFrom (n + 1) sc.names []) sc N) z.1.scope s.heap.objs.size f c')) →
      Passes (L2N.CX X.prog X.w) (lamN (mkCx X q0 (cellsFrom (n + 1) sc.names []) sc N) A outer s H E z.1.scope f c') E → PE (lamN (mkCx X q0 (cellsFrom (n + 1) sc.names []) sc N) A outer s H E z.1.scope f c') z.1.body (lf X.K E (RF X.K) z.2))
    (hg : Gl X x := by rfl) (hdb : (x == ("__debug__" : Str)) = false := by decide) (hst : starEach [e] X.env = (false, eval e X.env) :: starEach [] X.env := by rfl) (hpl : (backTo pos (starEach [] X.env)).any (·.1) = false := by rfl) :
    XE X E (.Call (.Name x p) [e] [] pos) (fun g => T.bind (me g) fun d => errD cs (cloRun Zs sc N d)) := by
  obtain ⟨fd, F⟩ := F
  obtain ⟨oc, od, dV, kV, doc, pm, an, cdv, ct, osl, rfl, lk, hcd, _, _⟩ := F.fn.ex
  refine ⟨fun pins s σ H Q I ⟨g, S, H0, Qd, Ed, rel, hm, hq', hex⟩ => ?_⟩
  refine wpAny_Call_Name_kw (ld_glob I hg F.gl ?_ hdb)
  refine PySem.W.callWith_K (h₀ := X.base) I.ok.mod.kin F.fn.kp ?_ hst hpl
  rw [hst]
  show wpAny _ _ (spliced ((false, eval e X.env) :: backTo pos (starEach [] X.env))) _ _ s
  refine Calls.spliced_cons (thn (he.run pins s σ H (fun v H1 => ∃ d S1 H01, StR X.K H1 H01 S1 ∧ Grow H H0 S H1 H01 S1 ∧ Rp X.K H01 v d ∧ errD cs (cloRun Zs sc N d) S1 Qd Ed) I
    ⟨g, S, H0, _, Ed, rel, hm, fun d S1 hf v H1 H01 st1 gr1 r1 => ⟨d, S1, H01, st1, gr1, r1, hf⟩, hex⟩) fun u s2 ⟨v, H2, I2, rx, d, S2, H02, st2, gr2, rv, hf⟩ => ?_)
  refine Calls.spliced_nil ⟨I2.kIn, ?_⟩
  obtain ⟨f, n, Z, mb, ds, rfl, hz, hS, hl, hcell, hrun⟩ := hf
  cases rv
  obtain rfl : u = Value.ref f := rx
  have ok := hZ _ hz
  have okq : Z.q = q0 ++ "<lambda>" := ok.q
  have oksc : Z.sc = sc := ok.s
  have okL : LamS sc Z.scope := ok.L
  have okfr : ∀ y ∈ Z.scope.names, y.2 = .free → y.1 ∈ N := ok.fr
  have hcs : ∀ c ∈ cellsOf sc N n, ∃ (i : Nat) (y : Str) (dd : D), N[i]? = some y ∧ cellAt sc n y = some c ∧ S2 c = some (.own (cellM dd)) := fun c hc => by
    obtain ⟨y, hy, hyc⟩ := List.mem_filterMap.mp hc
    obtain ⟨i, hi⟩ := List.getElem?_of_mem hy
    obtain ⟨c2, dd, h1, h2, h3⟩ := hcell i y hi
    rw [hyc] at h1
    cases h1
    exact ⟨i, y, dd, hi, hyc, h3⟩
  -- the closure, in any heap that has grown so
  have clo : ∀ (H3 : Hp), StR X.K H3 H02 S2 → ∃ vs pm c' ctv, Rps X.K H02 vs ds ∧ CloAt H3 f q0 (cellsFrom (n + 1) sc.names []) Z.params Z.body Z.scope N (cellsOf sc N n) (L2.start N vs) pm c' ctv := fun H3 st3 => by
    obtain ⟨vs, r, hv⟩ := cells_vals st3 (cellAt sc n) N ds hl hcell
    obtain ⟨pm, c', ctv, e1, e2⟩ := st3.sto f _ hS
    have hvl : vs.length = N.length := r.length.trans hl
    have free : ∀ y, Z.scope.names.lookup y = some .free → ∃ c, cellAt sc n y = some c ∧ c ∈ cellsOf sc N n := fun y hy => by
      have hm := okfr _ (PySem.mem_of_lookup hy) rfl
      obtain ⟨i, hi⟩ := List.getElem?_of_mem hm
      obtain ⟨c2, dd, h1, h2, h3⟩ := hcell i y hi
      exact ⟨c2, h1, List.mem_filterMap.mpr ⟨y, hm, h1⟩⟩
    have cm : ∀ {y c}, (cloFrom (cellsFrom (n + 1) sc.names []) Z.scope.names []).lookup y = some c → cellAt sc n y = some c ∧ c ∈ cellsOf sc N n := fun {y c} e => by
      rcases cloFrom_mem (PySem.mem_of_lookup e) with hm | ⟨h1, h2⟩
      · cases hm
      · have hm := okfr _ h1 rfl
        obtain ⟨i, hi⟩ := List.getElem?_of_mem hm
        obtain ⟨c2, dd, h3, h4, h5⟩ := hcell i y hi
        have h3' : (cellsFrom (n + 1) sc.names []).lookup y = some c2 := h3
        rw [h3'] at h2
        have h2 : c = c2 := h2
        subst h2
        exact ⟨h3, List.mem_filterMap.mpr ⟨y, hm, h3⟩⟩
    refine ⟨vs, pm, c', ctv, r, ⟨by rw [← okq]; unfold Clo.cl at e1; rw [oksc] at e1; exact e1, by rw [← okq]; exact e2, fun c hc => ?_, fun y z c h1 h2 => hinj n y z c (cm h1).1 (cm h2).1, fun y c e => (cm e).2, fun y hy => ?_, by unfold L2.start; simp; omega, fun i y v hi hs hy => ?_⟩⟩
    · obtain ⟨i, y, dd, _, _, h3⟩ := hcs c hc
      obtain ⟨o, v, u, e1, e2, _, _⟩ := st3.sto c _ h3
      exact ⟨o, e1, _, e2⟩
    · exact mem_lookup (cloFrom_has (cells := cellsFrom (n + 1) sc.names []) (acc := []) (PySem.mem_of_lookup hy))
    · have hi2 : i < vs.length := by
        have := (List.getElem?_eq_some_iff.mp hi).1
        omega
      have hs2 : vs[i]? = some v := by
        unfold L2.start at hs
        rw [List.getElem?_append_left (by simpa using hi2), List.getElem?_map] at hs
        cases e : vs[i]? with
        | none => rw [e] at hs; cases hs
        | some a => rw [e] at hs; cases hs; rfl
      obtain ⟨c, o, u, h1, h2, h3, h4⟩ := hv i y v hi hs2
      obtain ⟨c2, h5⟩ := mem_lookup (cloFrom_has (cells := cellsFrom (n + 1) sc.names []) (acc := []) (PySem.mem_of_lookup hy))
      have h6 := (cm h5).1
      rw [h1] at h6
      cases h6
      exact ⟨c, o, u, h5, h2, h3, h4⟩
  have rc : codeAny (model X.prog X.w) X.A (.call (.ref (He.ga X.K x)) ⟨[.ref f], []⟩) (CR C8.CX0 X.stack X.prog X.w H2 s2 Q C8.E0) s2 := by
    refine LamX.run_ofS (N := Ng) (ps := [a]) (us := [.ref f]) (vs := [.ref f]) lk hcd F.sc hr I2.env0 (F.bi s2 [.ref f] I2.kIn rfl) (.cons rfl .nil) rfl fun hr' => ?_
    have key := hG cdv f (fun _ => True) s2 H2 Q (fun E H' Q' => ∃ vs pm c' ctv, CloAt H' f q0 (cellsFrom (n + 1) sc.names []) Z.params Z.body Z.scope N (cellsOf sc N n) (L2.start N vs) pm c' ctv ∧
      lf X.K (fun cls d H1 => (∀ c ∈ cellsOf sc N n, H1 c = none) → E cls d (retr H' H1 (cellsOf sc N n))) (RF X.K) mb (L2.start N vs) (strip H' (cellsOf sc N n)) fun v H1 => (∀ c ∈ cellsOf sc N n, H1 c = none) → Q' v (retr H' H1 (cellsOf sc N n))) (fun _ _ _ _ => trivial)
    have mid := key (fun W pn xe p1 p2 tk => ?_) trivial ?_
    · obtain ⟨t', ht', hq2⟩ := mid
      exact ⟨t', ht'.nox, hq2⟩
    · refine pe_w (pe_clo (Y := X) (k := k) (p1 := p1) (p2 := p2) tk hr' F.n0 F.vs F.da F.ca) fun σZ HZ QZ ⟨h1, _, E1, hW, vs, pm', c', ctv, hc, hlf⟩ => ?_
      exact ⟨f, q0, _, sc, Z.scope, N, Z.params, Z.body, _, L2.start N vs, pm', c', ctv, fun E => lf X.K E (RF X.K) mb, E1, h1, hc, okL, ok.b, fun A outer s H E h => hbody _ hz n A outer s H E f c' h (L2N.passes_call (L2N.takes_of (E := E) rfl rfl rfl rfl) fun _ _ _ _ h => h), hW, hlf⟩
    · intro l hll Q' hQ
      obtain ⟨st3, gr3, n0, nS⟩ := alloc_n st2 hll (.lst [])
      obtain ⟨vs, pm', c', ctv, r, hc⟩ := clo _ st3
      have own : ∀ c ∈ cellsOf sc N n, isOwn (S2 c) = true := fun c hc => by
        obtain ⟨_, _, dd, _, _, h3⟩ := hcs c hc
        rw [h3]; rfl
      have std := drop_st st3 hc.ce own
      have lnc : l ∉ cellsOf sc N n := hc.ce.out upd_same fun _ _ z => nomatch z
      refine ⟨vs, pm', c', ctv, hc, startG N.length ds, dropOwn S2, H02, _, _, rel_start std r, hrun, fun d S' h v H' H0' st' gr' rr hn => ?_, fun y S' h o H' H0' st' gr' rx hn => ?_⟩
      · obtain ⟨st4, gr4⟩ := back_st st3 hc.ce own st' gr' hn
        exact hQ _ _ (gr4.keep l _ upd_same nS) (hq' _ _ h _ _ _ st4 ((gr2.trans st2 gr3).trans st3 gr4) (.str _))
      · obtain ⟨st4, gr4⟩ := back_st st3 hc.ce own st' gr' hn
        obtain ⟨w, hw, h⟩ := h
        refine ⟨y.cls, w, rfl, hw, ?_, fun H'' s'' => ?_⟩
        · rcases rx with ⟨_, e⟩ | ⟨_, dd, vs, e, hd, _⟩
          · exact .inl e
          · refine .inr ⟨dd, vs, e, ?_⟩
            rw [retr_out (fun z => by rw [hn dd z] at hd; cases hd)]
            exact hd
        · obtain ⟨st5, gr5⟩ := st4.more s''
          exact hq' _ _ h _ H'' _ st5 (((gr2.trans st2 gr3).trans st3 gr4).trans st4 gr5) (.str _)
  refine wpAny_call (codeAny_mono rc fun r s3 hres => ?_)
  cases r with
  | error e => exact False.elim hres
  | ok fl =>
    cases fl with
    | ret u => exact I2.after hres
    | next => exact False.elim hres
    | brk => exact False.elim hres
    | cont => exact False.elim hres
end
end DL

set_option Elab.async false
set_option linter.all false
set_option maxRecDepth 100000
set_option maxHeartbeats 4000000
/-! a def whose parameters are captured by closures that it returns -/
namespace DL
open PySem PySem.Spec PyProof.Rows L2 STx OrdS LamX
/-- the parameters' cells, told from here on -/
def cellUp (lk : Str → Option Addr) : List Str → List D → Sto → Sto
  | y :: ps, d :: ds, S => (cellUp lk ps ds S).up ((lk y).getD 0) (.own (cellM d))
  | _, _, S => S
theorem cells_put {P : Program} {w : World} {K : PySem.W.Frag} {H1 H01 : Hp} {S1 : Sto} {h : Heap} (lk : Str → Option Addr) (inj : ∀ y z c, lk y = some c → lk z = some c → y = z) (st : StR K H1 H01 S1) (ok : HOk P w H1 h) : ∀ (ps : List Str) (ds : List D), ps.Nodup → ds.length = ps.length →
    (∀ (i : Nat) (y : Str) (d : D), ps[i]? = some y → ds[i]? = some d → ∃ c o v u, lk y = some c ∧ h.get? c = some o ∧ o.data = .cell (some u) ∧ RelV v u ∧ Rp K H01 v d ∧ H1 c = none) →
    ∃ H2, StR K H2 H01 (cellUp lk ps ds S1) ∧ Grow H1 H01 S1 H2 H01 (cellUp lk ps ds S1) ∧ HOk P w H2 h ∧ (∀ b, H1 b ≠ none → H2 b = H1 b) ∧ ∀ b, (∀ y ∈ ps, lk y ≠ some b) → H2 b = H1 b
  | [], ds, _, _, _ => ⟨H1, st, Grow.refl _ _ _, ok, fun _ _ => rfl, fun _ _ => rfl⟩
  | y :: ps, [], _, hl, _ => by cases hl
  | y :: ps, d :: ds, nd, hl, hc => by
    obtain ⟨ny, nd'⟩ := List.nodup_cons.mp nd
    obtain ⟨H2, st2, gr2, ok2, k1, k2⟩ := cells_put lk inj st ok ps ds nd' (by simpa using hl) fun i y d h1 h2 => hc (i + 1) y d h1 h2
    obtain ⟨c, o, v, u, g1, g2, g3, g4, g5, g6⟩ := hc 0 y d rfl rfl
    have n2 : H2 c = none := by
      rw [k2 c fun z hz e => ny (by rw [inj y z c g1 e]; exact hz)]; exact g6
    have e0 : (lk y).getD 0 = c := by rw [g1]; rfl
    have key := st2.putN (a := c) (m := .own (cellM d)) (o := .frz o anyO) n2 ⟨o, v, u, upd_same, g3, g4, g5⟩
    refine ⟨upd H2 c (.frz o anyO), ?_, ?_, fun b q e => ?_, fun b n => ?_, fun b n => ?_⟩
    · show StR K _ _ ((cellUp lk ps ds S1).up ((lk y).getD 0) (.own (cellM d)))
      rw [e0]; exact key.1
    · show Grow _ _ _ _ _ ((cellUp lk ps ds S1).up ((lk y).getD 0) (.own (cellM d)))
      rw [e0]; exact gr2.trans st2 key.2.1
    · by_cases hb : b = c
      · subst hb
        rw [upd_same] at e
        cases e
        exact anyO_ok g2
      · rw [upd_ne hb] at e
        refine (ok2 b q e).stay (fun _ _ _ z => z) (fun a z => ?_) fun a xs z => ?_
        · rw [upd_ne (ne_of_none z n2)]; exact z
        · rw [upd_ne (ne_of_none z n2)]; exact z
    · have hb : b ≠ c := fun z => n (by rw [z]; exact g6)
      rw [upd_ne hb]; exact k1 b n
    · have hb : b ≠ c := fun z => n y List.mem_cons_self (by rw [z]; exact g1)
      rw [upd_ne hb]; exact k2 b fun z hz => n z (List.mem_cons_of_mem _ hz)
theorem Rps.at2 {K : PySem.W.Frag} {H : Hp} : ∀ {vs : List V} {ds : List D}, Rps K H vs ds → ∀ {i : Nat} {d : D}, ds[i]? = some d → ∃ v, vs[i]? = some v ∧ Rp K H v d
  | [], [], _, i, d, h => by cases h
  | _ :: _, [], h, _, _, _ => nomatch h
  | [], _ :: _, h, _, _, _ => nomatch h
  | v :: vs, d :: ds, h, i, d', hd => by
    cases h with
    | cons a b =>
      cases i with
      | zero => cases hd; exact ⟨v, rfl, a⟩
      | succ i => exact b.at2 hd
/-- what such a def does -/
def callsC (sc : Scope) (ps : List Str) (m : Addr → ME) (ds : List D) : T D := fun S Q E => ∀ n : Addr, m n (startG ps.length ds) S (fun d S' => (∀ y ∈ ps, ∃ c, cellAt sc n y = some c ∧ S' c = none) → Q d (cellUp (cellAt sc n) ps ds S')) E
section
variable {P : Program} {w : World} {K : PySem.W.Frag} {mg : Str → Option Value} {base : Heap}
theorem mk_okC {x : Str} {st : Stmt} {ps : List Str} {k : Nat} {F : List D → T D} {m : Addr → ME} {e : Expr} {rpos : Pos} (Fn : DefF K mg x st) (Sc : FnScope ps ps (defScope st)) (hbd : defBody st = [.Return (some e) rpos]) (hcell : ∀ y ∈ ps, (defScope st).names.lookup y = some .cell)
    (hb : ∀ (kV doc pm : Value) (an : Option Addr) (cdv ct : Value) (us : List Value), us.length = ps.length → bindArgs (PySem.W.fnOf x x (defArgs st) (defBody st) (defScope st) .none kV doc pm an cdv ct) ⟨us, []⟩ = pure (ps.zip us))
    (hbody : ∀ (cdv : Value) (A : Around) (outer : List Env) (s : Shared) (H : Hp) (E : XK), cdv = .ref (He.codeOf K (x, none)) → Room k (bodyCx P w K mg base ps x st (He.ga K x) cdv A outer s H E).A → XE (bodyCx P w K mg base ps x st (He.ga K x) cdv A outer s H E) E e (m s.heap.objs.size))
    (hF : ∀ ds S Qd Ed, ds.length = ps.length → F ds S Qd Ed → callsC (defScope st) ps m ds S Qd Ed) : Ok P w K mg base (k + 1) x ps F := by
  obtain ⟨fd, Fn', gl⟩ := show ∃ fd, FnP K x x st (He.ga K x) fd ∧ mg x = some (.ref (He.ga K x)) from let ⟨fd, h⟩ := Fn.fn; ⟨fd, h, Fn.gl⟩
  have bi := FunD.bindsN Fn' hb
  obtain ⟨oc, od, dV, kV, doc, pm, an, cdv, ct, osl, rfl, lk, hcd, _, _⟩ := Fn'.ex
  refine ⟨⟨_, ?_, bi, _, _, _, lk⟩, gl, Fn'.kp⟩
  have hc : cdv = .ref (He.codeOf K (x, none)) := by
    obtain ⟨c, rfl⟩ := He.codeIn_ref hcd
    exact congrArg Value.ref (He.codeOf_eq (p := (x, none)) lk rfl).symm
  have len : ∀ vs H Q E, SpT K ps.length F vs H Q E → vs.length = ps.length := fun vs H Q E h => by
    obtain ⟨ds, S, H0, Qd, Ed, st', r, hl, _⟩ := h
    rw [r.length, hl]
  refine ⟨len, fun A outer s H args us vs Q E hr e0 hbt r hsp => ?_⟩
  have hl := len _ _ _ _ hsp
  have KX : K.In s.heap := e0.mod.kin.keeps fun b o e => (e0.bs b o e).1
  have lim : s.heap.NoLimit := e0.mod.nolimit.keeps fun b o e => (e0.bs b o e).1
  have hkind : ∀ y ∈ ps.zip us, (defScope st).names.lookup y.1 = some .local ∨ ((defScope st).names.lookup y.1 = some .cell ∧ ((cellsFrom (s.heap.objs.size + 1) (defScope st).names []).lookup y.1).isSome = true) := fun ⟨n, v⟩ hy => by
    rcases Sc.par n (List.of_mem_zip hy).1 with q | q
    · exact .inl q
    · exact .inr ⟨q, PySem.W.cellsFrom_some _ _ _ (.inl q)⟩
  refine codeAny_call_function hr.depth (KX _ _ lk) rfl Sc.co Sc.gen rfl (PySem.W.codeRec_of KX hcd) (hbt _ _ _ _ ?_)
  refine wpAny_newFunctionEnv_cells Sc.kind hkind fun env he s1 xx => ?_
  subst he
  refine ⟨lim.keeps xx.toInCall.keep, codeAny_func ?_⟩
  have I : Inv (bodyCx P w K mg base ps x st (He.ga K x) cdv A outer s H E) [] (L2.start ps vs) H s1 := inv_start Sc hr.hd e0 hl r xx
  show wpAny (model P w) (A.deeper (envOfC x (defScope st) s.heap.objs.size (He.ga K x) cdv)) (execs (defBody st) (envOfC x (defScope st) s.heap.objs.size (He.ga K x) cdv)) _ _ s1
  rw [show execs (defBody st) (envOfC x (defScope st) s.heap.objs.size (He.ga K x) cdv) = execs [.Return (some e) rpos] (envOfC x (defScope st) s.heap.objs.size (He.ga K x) cdv) from congrArg (fun b => execs b (envOfC x (defScope st) s.heap.objs.size (He.ga K x) cdv)) hbd]
  obtain ⟨ds, S, H0, Qd, Ed, st', rr, hdl, hf, hq, hex⟩ := hsp
  have hm := hF ds S Qd Ed hdl hf s.heap.objs.size
  have pe := (hbody cdv A outer s H E hc (hr.deeper _)).run [] s1 (L2.start ps vs) H (fun v H1 => ∃ d S1 H01, StR K H1 H01 S1 ∧ Grow H H0 S H1 H01 S1 ∧ Rp K H01 v d ∧ ((∀ y ∈ ps, ∃ c, cellAt (defScope st) s.heap.objs.size y = some c ∧ S1 c = none) → Qd d (cellUp (cellAt (defScope st) s.heap.objs.size) ps ds S1))) I
    ⟨startG ps.length ds, S, H0, _, Ed, rel_start st' rr, hm, fun d S1 hf v H1 H01 st1 gr1 r1 => ⟨d, S1, H01, st1, gr1, r1, hf⟩, hex⟩
  refine wpAny_execs_cons (wpAny_Return_some (wpAny_mono pe (fun u s' hs => ?_) fun e s' hs => hs))
  obtain ⟨v, H1, I1, rv, d, S1, H01, st1, gr1, rd, hq1⟩ := hs
  obtain ⟨mm, hn, hlook⟩ := I1.loc
  have inj : ∀ y z c, cellAt (defScope st) s.heap.objs.size y = some c → cellAt (defScope st) s.heap.objs.size z = some c → y = z := fun y z c h1 h2 => I1.ok.inj y z c h1 h2
  have vl : vs.length = ps.length := hl
  have at_ : ∀ (i : Nat) (y : Str) (d : D), ps[i]? = some y → ds[i]? = some d → ∃ c o v u, cellAt (defScope st) s.heap.objs.size y = some c ∧ s'.heap.get? c = some o ∧ o.data = .cell (some u) ∧ RelV v u ∧ Rp K H01 v d ∧ H1 c = none := fun i y d h1 h2 => by
    obtain ⟨vi, h3, h4⟩ := rr.at2 h2
    have h5 : (L2.start ps vs)[i]? = some (some vi) := by
      unfold L2.start
      have hi : i < vs.length := (List.getElem?_eq_some_iff.mp h3).1
      rw [List.getElem?_append_left (by simpa using hi), List.getElem?_map, h3]; rfl
    have hy := hcell y (List.mem_of_getElem? h1)
    obtain ⟨u2, r2, look⟩ := hlook i y vi h1 h5 (.inr (.inl hy))
    rcases look with ⟨k1, _⟩ | ⟨_, c, k1, o, k2, k3⟩
    · have k1 : (defScope st).names.lookup y = some .local := k1
      rw [hy] at k1; cases k1
    · exact ⟨c, o, vi, u2, k1, k2, k3, r2, h4.sub gr1.sub, I1.freeC y c k1⟩
  have nd : ps.Nodup := Sc.nd
  obtain ⟨H2, st2, gr2, ok2, kk1, kk2⟩ := cells_put (cellAt (defScope st) s.heap.objs.size) inj st1 I1.hok ps ds nd hdl at_
  have cellsS : ∀ y ∈ ps, ∃ c, cellAt (defScope st) s.heap.objs.size y = some c ∧ S1 c = none := fun y hy => by
    obtain ⟨i, hi⟩ := List.getElem?_of_mem hy
    have hi2 : i < ds.length := by rw [hdl]; exact (List.getElem?_eq_some_iff.mp hi).1
    obtain ⟨c, o, v, u, g1, g2, g3, g4, g5, g6⟩ := at_ i y _ hi (List.getElem?_eq_getElem hi2)
    refine ⟨c, g1, ?_⟩
    cases q : S1 c with
    | none => rfl
    | some m' => exact absurd g6 (st1.sto c m' q).there
  have un := I1.base
  have old : ∀ b o, s.heap.get? b = some o → H2 b = H1 b := fun b o e => kk2 b fun y hy z => by
    have z : (cellsFrom (s.heap.objs.size + 1) (defScope st).names []).lookup y = some b := z
    have := xx.above y b (PySem.mem_of_lookup z)
    exact absurd (Nat.lt_trans (Heap.lt_size e) this) (Nat.lt_irrefl _)
  refine ⟨v, H2, I1.os, I1.bare, ?_, ok2, rv, hq _ _ (hq1 cellsS) _ _ _ st2 (gr1.trans st1 gr2) rd⟩
  refine ⟨un.keep, un.slot, fun b o e n hx => ?_, un.there, fun b xs e => ?_, fun b o u e => ?_, fun b q e => ?_⟩
  · rw [old b o e]; exact un.free b o e n hx
  · have h1 := un.tups b xs e
    rw [kk1 b (by rw [h1]; exact fun z => nomatch z)]; exact h1
  · have h1 := un.frzs b o u e
    rw [kk1 b (by rw [h1]; exact fun z => nomatch z)]; exact h1
  · obtain ⟨more, h1⟩ := un.tbls b q e
    exact ⟨more, by rw [kk1 b (by rw [h1]; exact fun z => nomatch z)]; exact h1⟩
end
end DL

set_option Elab.async false
set_option linter.all false
set_option maxRecDepth 100000
set_option maxHeartbeats 4000000
/-! methods called while an exception is handled; a caught error's field -/
namespace DL
open PySem PySem.Spec PyProof.Rows L2 HotX L2H HZ STx OrdS
section
variable {P : Program} {w : World} {K : PySem.W.Frag} {mg : Str → Option Value} {base : Heap}
/-- a def of a class, walked where an exception is handled -/
theorem mk_oknH {x qual : Str} {st : Stmt} {f : Addr} {N ps : List Str} {k : Nat} {F : List D → T D} {m : MS} (Fn : ∃ fd, FnP K x qual st f fd) (Sc : FnScope N ps (defScope st))
    (hb : ∀ (kV doc pm : Value) (an : Option Addr) (cdv ct : Value) (us : List Value), us.length = ps.length → bindArgs (PySem.W.fnOf x qual (defArgs st) (defBody st) (defScope st) .none kV doc pm an cdv ct) ⟨us, []⟩ = pure (ps.zip us))
    (hbody : ∀ (cdv : Value) (A : Around) (outer : List Env) (s : Shared) (H : Hp) (E : XK) (p : Addr × Obj) (b : Bs), Hot1 A p → RoomH k (A.deeper (envOfC qual (defScope st) s.heap.objs.size f cdv)) → XSs (cxH (L2N.CX P w) P w K mg base N qual (defScope st) f cdv A outer s H E p) E b (defBody st) m)
    (hF : ∀ ds S Qd Ed, ds.length = ps.length → F ds S Qd Ed → runD m N.length ds S Qd Ed) : ∃ fd, FnH P w K mg base (L2N.CX P w) (k + 1) f fd ps (SpT K ps.length F) ∧ L2.Binds K fd ps [] := by
  obtain ⟨fd, Fn⟩ := Fn
  have bi := FunD.bindsN Fn hb
  obtain ⟨oc, od, dV, kV, doc, pm, an, cdv, ct, osl, rfl, lk, hcd, _, _⟩ := Fn.ex
  refine ⟨_, fn_ofH lk hcd Sc (fun vs H Q E h => ?_) fun A outer s H vs Q E p hot hr h => ?_, bi⟩
  · obtain ⟨ds, S, H0, Qd, Ed, st', r, hl, _⟩ := h
    rw [r.length, hl]
  · obtain ⟨ds, S, H0, Qd, Ed, st', r, hl, hf, hq, he⟩ := h
    refine ⟨_, hbody cdv A outer s H E p ⟨H, H0, S⟩ hot hr, startG N.length ds, S, H0, _, Ed, relB_start st' r, hF ds S Qd Ed hl hf, fun o S' q => ?_, he⟩
    cases o with
    | nx g => exact fun σ' H' H0' r' _ => hq _ S' q _ H' H0' r'.rel.st r'.gb .non
    | rt d => exact fun v H' H0' st2 gr2 rv => hq _ S' q v H' H0' st2 gr2 rv
    | bk g => exact q.elim
    | ct g => exact q.elim
end
section
variable {X : Cx} {E : XK}
/-- o.m() there -/
theorem x_methH0 {c m : Str} {f : Addr} {k j : Nat} {ps : List Str} {F : List D → T D} {o : Expr} {mo : ME} {apos pos : Pos} {pl : Sem Bool} (C : Cls X.K (He.ga X.K c)) (M : Meth X.K (He.ga X.K c) m f) (O : ∃ fd, FnH X.prog X.w X.K X.mg X.base (L2N.CX X.prog X.w) j f fd ps (SpT X.K ps.length F) ∧ L2.Binds X.K fd ps []) (hr : RoomH j X.A) (hc : HotC X) (hx : ∀ σ, PassesAt (L2N.CX X.prog X.w) X σ E) (ho : XE X E o mo)
    (ht : eval (.Call (.Attribute o m apos) [] [] pos) X.env = (do
      let ov ← eval o X.env
      standAt apos.atName
      let (f, first) ← holding [ov] (getMethod ov m pl)
      callWith pos f first (backTo pos (starEach [] X.env)) (backToKw pos (keywordEach [] X.env))) := by rfl) :
    XE X E (.Call (.Attribute o m apos) [] [] pos) (fun g => T.bind (mo g) fun d => insOf c d fun _ fs => T.bind (dNeed (fs.lookup m = none)) fun _ => needN ps.length F [d]) := by
  obtain ⟨fd, G, bi⟩ := O
  refine ⟨fun pins s σ H Q I ⟨g, S, H0, Qd, Ed, rel, hm, hq, hexc⟩ => ?_⟩
  refine PySem.W.methodCall_KW (pl := pl) (thn (ho.run pins s σ H (fun v H1 => ∃ d S1 H01, StR X.K H1 H01 S1 ∧ Grow H H0 S H1 H01 S1 ∧ Rp X.K H01 v d ∧ insOf c d (fun _ fs => T.bind (dNeed (fs.lookup m = none)) fun _ => needN ps.length F [d]) S1 Qd Ed) I
    ⟨g, S, H0, _, Ed, rel, hm, fun d S1 hf v H1 H01 st1 gr1 r1 => ⟨d, S1, H01, st1, gr1, r1, hf⟩, hexc⟩) fun u s1 ⟨v, H1, I1, rx, d, S1, H01, st1, gr1, rv, hf⟩ => ?_) ht
  obtain ⟨a, fs, rfl, hS, hn, hl, hf⟩ := hf
  cases rv
  obtain rfl : u = Value.ref a := rx
  obtain ⟨dx, vs, h1, hk, _⟩ := st1.sto a _ hS
  refine getmeth_ok I1 h1 C M (flds_none hk hn) ?_
  refine PySem.W.callWith_K0 (first := [.ref a]) I1.kIn M.kp ?_
  exact run_fnH (E := fun _ => E) (us := [.ref a]) (vs := [.ref a]) G hr hc bi (hx σ) I1 (.cons rfl .nil)
    ⟨[.ref a], S1, H01, Qd, Ed, st1, .cons (.ref a) .nil, hl, hf, fun d S' h v H' H0' st' gr' rv => hq d S' h v H' H0' st' (gr1.trans st1 gr') rv, fun y S' ey => (hexc y S' ey).grow st1 gr1⟩
end
end DL

set_option Elab.async false
set_option linter.all false
set_option maxRecDepth 100000
set_option maxHeartbeats 4000000
/-! try: .. / except C as e: if e.f != j or ..: .. -/
namespace DL
open PySem PySem.Spec PyProof.Rows L2 HotX L2H HZ STx OrdS
section
variable {X : Cx} {E : XK} {b : Bs}
theorem pt_lim {a C : Addr} {oe : Obj} {cls : Value} {d : Option Addr} {pn : List (Addr × Obj)} {i kk : Nat} {n f : Str} {j : Int} {p1 p2 p3 pos : Pos} (T : XfC X.K C) (hno : PySem.W.findIn X.K (.ref C) f = some none) (hz : Zc cls d oe) (hf : ∃ vs, oe.data = .fields vs) (hN : X.N[i]? = some n) (hv : Vis X.env.scope n)
    (hd : (n == ("__debug__" : Str)) = false) (hcd : (n == ("__classdict__" : Str)) = false) (hb : attributeBase (.Name n p1) f X.env (eval (.Name n p1) X.env) = eval (.Name n p1) X.env := by rfl) :
    PT (X.suite a ((a, oe) :: pn)) (.Compare (.Attribute (.Name n p1) f p2) [.NotEq] [.Constant (.int j) kk p3] pos) (fun σ H Q => σ[i]? = some (some (.ref a)) ∧ cls = .ref C ∧ (∃ (dd : Addr) (fs : List (Str × V)), d = some dd ∧ H dd = some (.xd fs) ∧ fs.lookup f = some (.int j)) ∧ Q false H) := by
  refine pt_w (pt_cmpR op_ne (pe_xf T hno hz hf (pe_var (i := i) hN hv hd hcd) hb) pe_int (nomark _)) fun σ H Q h => ?_
  obtain ⟨h1, h2, ⟨dd, fs, e1, e2, e3⟩, q⟩ := h
  refine ⟨_, h1, rfl, h2, dd, fs, .int j, e1, e2, e3, rfl, _, rfl, ?_⟩
  simpa using q
end
end DL

set_option Elab.async false
set_option linter.all false
set_option maxRecDepth 100000
set_option maxHeartbeats 4000000
/-! o.m(e) in a try: its errors with the slots as they stand -/
namespace DL
open PySem PySem.Spec PyProof.Rows L2 STx OrdS
def lfW (K : PySem.W.Frag) (W : WX) (m : ME) : TE := fun σ H Q => lf K (fun cls d H' => W cls d σ H') (RF K) m σ H Q
section
variable {X : Cx} {W : WX}
theorem x_methW {c m : Str} {f : Addr} {k j : Nat} {ps : List Str} {F : List D → T D} {o e : Expr} {es : List Expr} {mo : ME} {ma : MA} {apos pos : Pos} {pl : Sem Bool} (C : Cls X.K (He.ga X.K c)) (M : Meth X.K (He.ga X.K c) m f) (O : ∃ fd, FnOk X.prog X.w X.K X.mg X.base (L2N.CX X.prog X.w) j f fd ps (SpT X.K ps.length F) ∧ L2.Binds X.K fd ps []) (hr : Room k X.A) (hj : j ≤ k) (tk : L2N.Takes X W)
    (ho : ∀ E, XE X E o mo) (ha : ∀ E, XA X E (e :: es) ma)
    (hst : starEach (e :: es) X.env = (false, eval e X.env) :: starEach es X.env := by rfl) (hpl : (backTo pos (starEach es X.env)).any (·.1) = false := by rfl)
    (ht : eval (.Call (.Attribute o m apos) (e :: es) [] pos) X.env = (do
      let ov ← eval o X.env
      standAt apos.atName
      let (f, first) ← holding [ov] (getMethod ov m pl)
      callWith pos f first (backTo pos (starEach (e :: es) X.env)) (backToKw pos (keywordEach [] X.env))) := by rfl) :
    PE X (.Call (.Attribute o m apos) (e :: es) [] pos) (lfW X.K W fun g => T.bind (mo g) fun d => insOf c d fun _ fs => T.bind (dNeed (fs.lookup m = none)) fun _ => T.bind (ma g) fun ds => needN ps.length F (d :: ds)) := by
  obtain ⟨fd, G, bi⟩ := O
  have G := G.mono hj
  refine ⟨fun pins s σ H Q I ⟨g, S, H0, Qd, Ed, rel, hm, hq, hexc⟩ => ?_⟩
  refine PySem.W.methodCall_KW (pl := pl) (thn ((ho _).run pins s σ H (fun v H1 => ∃ d S1 H01, StR X.K H1 H01 S1 ∧ Grow H H0 S H1 H01 S1 ∧ Rp X.K H01 v d ∧ insOf c d (fun _ fs => T.bind (dNeed (fs.lookup m = none)) fun _ => T.bind (ma g) fun ds => needN ps.length F (d :: ds)) S1 Qd Ed) I
    ⟨g, S, H0, _, Ed, rel, hm, fun d S1 hf v H1 H01 st1 gr1 r1 => ⟨d, S1, H01, st1, gr1, r1, hf⟩, hexc⟩) fun u s1 ⟨v, H1, I1, rx, d, S1, H01, st1, gr1, rv, hf⟩ => ?_) ht
  obtain ⟨a, fs, rfl, hS, hn, hf⟩ := hf
  cases rv
  obtain rfl : u = Value.ref a := rx
  obtain ⟨dx, vs, h1, hk, _⟩ := st1.sto a _ hS
  refine getmeth_ok I1 h1 C M (flds_none hk hn) ?_
  have rel1 := rel.grow st1 gr1
  refine PySem.W.callWith_K (first := [.ref a]) (h₀ := X.base) I.ok.mod.kin M.kp (thn ((ha _).run pos pins s1 σ H1 (fun vs H2 => ∃ ds S2 H02, StR X.K H2 H02 S2 ∧ Grow H1 H01 S1 H2 H02 S2 ∧ Rps X.K H02 vs ds ∧ needN ps.length F (.ref a :: ds) S2 Qd Ed) I1
    ⟨g, S1, H01, _, Ed, rel1, hf, fun ds S2 hf vs H2 H02 st2 gr2 r2 => ⟨ds, S2, H02, st2, gr2, r2, hf⟩, fun y S' ey => (hexc y S' ey).grow st1 gr1⟩) fun us s2 ⟨ws, H2, I2, rr, ds, S2, H02, st2, gr2, rds, hl, hF⟩ => ⟨I2.kIn, ?_⟩) hst hpl
  have gr := gr1.trans st1 gr2
  have hlen : (Value.ref a :: us).length = ps.length := by
    rw [List.length_cons, ← rr.length, rds.length]
    simpa using hl
  have b := bi s2 (Value.ref a :: us) I2.kIn (by rw [List.append_nil]; exact hlen)
  rw [List.append_nil] at b
  refine wpAny_call (codeAny_mono (G.run X.A X.stack s2 H2 ⟨Value.ref a :: us, []⟩ (Value.ref a :: us) (V.ref a :: ws) Q (fun cls d H' => W cls d σ H') hr I2.env0 b (.cons rfl rr)
    ⟨.ref a :: ds, S2, H02, Qd, Ed, st2, .cons (.ref a) rds, hl, hF, fun d S' h v H' H0' st' gr' rv => hq d S' h v H' H0' st' (gr.trans st2 gr') rv, fun y S' ey => (hexc y S' ey).grow st2 gr⟩) fun r s3 hres => ?_)
  cases r with
  | error e => exact tk e s3 (L2N.XE.of_call I2 (fun cls d H' h => h) hres)
  | ok fl =>
    cases fl with
    | ret u => exact I2.after hres
    | next => exact False.elim hres
    | brk => exact False.elim hres
    | cont => exact False.elim hres
end
end DL

set_option Elab.async false
set_option linter.all false
set_option maxRecDepth 100000
set_option maxHeartbeats 4000000
/-! try: call; return False / except C as e: if e.f != j or ..: return False -/
namespace DL
open PySem PySem.Spec PyProof.Rows L2 HotX L2H STx OrdS
def tryLim (i : Nat) (C f : Str) (j : Int) (mc : ME) (mt : MT) : MS := fun g S Q _ => mc g S (fun _ S1 => Q (.rt (.bl false)) S1) fun x S1 => x = ⟨C, [(f, .int j)]⟩ ∧
  mt (g.set i .un) S1 (fun k S2 => if k = true then Q (.rt (.bl false)) S2 else Q (.nx (g.set i .un)) S2) fun _ _ => False
section
variable {X : Cx} {E : XK} {b : Bs}
theorem s_tryLim {i kk k1 k2 : Nat} {C f n : Str} {j : Int} {call t2 : Expr} {mc : ME} {mt : MT} {p1 p2 p3 q1 q2 q3 q4 q5 q6 q7 q8 cp hp tp : Pos} (hs : X.stack = X.env :: X.outer) (hfr : X.env.frame = some X.env.locals) (hNd : X.N.Nodup) (hi : X.N[i]? = some n) (hln : X.env.kindOf n = some .local) (hc : Names X C (.ref (He.ga X.K C))) (tk : L2N.Takes X (fun cls d _ H => E cls d H))
    (T : XfC X.K (He.ga X.K C)) (hno : PySem.W.findIn X.K (.ref (He.ga X.K C)) f = some none) (hex : PySem.W.exmOne X.K (.ref (He.ga X.K C)) (.ref (He.ga X.K C)) = some true)
    (hcall : ∀ (W : WX) (pn : List (Addr × Obj)) (xe : Value → Shared → Prop), L2N.Takes (X.tr pn xe) W → PE (X.tr pn xe) call (lfW X.K W mc))
    (ht2 : ∀ (a : Addr) (oe : Obj) (pn : List (Addr × Obj)), Hot1 (X.suite a ((a, oe) :: pn)).A (a, oe) → XT (X.suite a ((a, oe) :: pn)) E0 t2 mt)
    (hd : (n == ("__debug__" : Str)) = false) (hcd : (n == ("__classdict__" : Str)) = false) (hb : attributeBase (.Name n q1) f X.env (eval (.Name n q1) X.env) = eval (.Name n q1) X.env := by rfl)
    (hsw : ∀ (pn : List (Addr × Obj)) (xe : Value → Shared → Prop), swapsWith call none p1.line (X.tr pn xe).env = pure false := by intro _ _; rfl) :
    XS X E b (.Try [.Expr call p1, .Return (some (.Constant (.bool false) k1 p2)) p3] [.ExceptHandler (some (.Name C cp)) (some n) [.If (.BoolOp .Or [.Compare (.Attribute (.Name n q1) f q2) [.NotEq] [.Constant (.int j) kk q3] q4, t2] q5) [.Return (some (.Constant (.bool false) k2 q6)) q7] [] q8] hp] [] [] tp) (tryLim i C f j mc mt) := by
  have hvis : Vis X.env.scope n := .inl hln
  have tr := L2N.ps_try_as (X := X) (c := .ref (He.ga X.K C)) (i := i) (Wout := fun cls d _ H => E cls d H)
    (tb := fun W D σ H => lfW X.K W mc σ H fun _ H1 => D.rt (.bl false) H1)
    (ts := fun a cls d D σ H => σ[i]? = some (some (.ref a)) ∧ cls = .ref (He.ga X.K C) ∧ (∃ (dd : Addr) (fs : List (Str × V)), d = some dd ∧ H dd = some (.xd fs) ∧ fs.lookup f = some (.int j)) ∧ lt X.K E0 mt σ H fun k H1 => if k = true then D.rt (.bl false) H1 else D.nx σ H1)
    (body := [.Expr call p1, .Return (some (.Constant (.bool false) k1 p2)) p3]) (pos := tp) (pos' := hp) (np := cp) (b₀ := .If (.BoolOp .Or [.Compare (.Attribute (.Name n q1) f q2) [.NotEq] [.Constant (.int j) kk q3] q4, t2] q5) [.Return (some (.Constant (.bool false) k2 q6)) q7] [] q8) (suite := [])
    hs hfr hNd hi hln hc tk (fun W pn xe t _ => pss_w (pss_cons (ps_expr (hcall W pn xe t) (hsw pn xe)) (pss_one (ps_ret pe_bl))) fun D σ H h => h) (fun a oe cls d pn hz hf => by
      have hot : Hot1 (X.suite a ((a, oe) :: pn)).A (a, oe) := by
        obtain ⟨vs, hv⟩ := hf
        exact ⟨rfl, vs, hv, hz.2.2 vs hv⟩
      exact pss_w (pss_one (ps_if (PW.pt (pw_or (pt_lim (kk := kk) (p3 := q3) (p2 := q2) (p1 := q1) (pos := q4) T hno hz.zc hf hi hvis hd hcd hb) (pw_or1 (ht2 a oe pn hot)))) (pss_one (ps_ret pe_bl)) pss_nil)) fun D σ H ⟨h1, h2, h3, h4⟩ => ⟨h1, h2, h3, h4⟩)
  refine ⟨fun pins s σ H D I ⟨g, S, H0, Qd, Ed, r, hm, hq, he⟩ => tr.run pins s σ H D I ?_⟩
  refine ⟨g, S, H0, _, _, r.rel, hm, fun _ S1 hf v H1 H01 st1 gr1 _ => hq _ S1 hf _ H1 H01 st1 (r.gb.trans r.rel.st gr1) (.bl false), fun x S1 hx o H1 H01 st1 gr1 rx => ?_⟩
  obtain ⟨rfl, hmt⟩ := hx
  refine ⟨true, hex, fun _ a ha => ?_, fun z => nomatch z⟩
  have hil : i < σ.length := by
    rw [I.len]
    exact (List.getElem?_eq_some_iff.mp hi).1
  have r1 := r.grow st1 gr1
  refine ⟨by rw [List.getElem?_set_self hil], rfl, ?_, g.set i .un, S1, H01, _, fun _ _ => False, r1.rel.un (some (.ref a)) i, hmt, fun k S2 hk H2 H02 st2 gr2 => ?_, fun _ _ z => z.elim⟩
  · rcases rx with ⟨z, _⟩ | ⟨_, dd, vs, e1, e2, e3, e4⟩
    · cases z
    · refine ⟨dd, vs, e1, e2, ?_⟩
      match vs, e3, e4 with
      | [(f', v)], e3, e4 =>
        obtain rfl : f' = f := by simpa using e3
        cases e4 with
        | cons a b => cases a; simp [List.lookup]
  · have r2 := r1.grow st2 gr2
    cases k with
    | true =>
      rw [if_pos rfl] at hk
      show D.rt (.bl false) H2
      exact hq _ S2 hk _ H2 H02 st2 r2.gb (.bl false)
    | false =>
      rw [if_neg Bool.false_ne_true] at hk
      show D.nx ((σ.set i (some (.ref a))).set i none) H2
      rw [List.set_set]
      exact hq _ S2 hk _ H2 H02 (r2.owned (r2.rel.un none i) fun k' s' h1 h2 => by
        by_cases hki : k' = i
        · subst hki
          have hg : k' < g.length := by
            have := (List.getElem?_eq_some_iff.mp h1).1
            rwa [List.length_set] at this
          rw [List.getElem?_set_self hg] at h1
          cases h1
          cases h2
        · rw [List.getElem?_set_ne (Ne.symm hki)] at h1
          exact ⟨h1, by rw [List.getElem?_set_ne (Ne.symm hki)]⟩) fun a o z => gr2.sub a o (gr1.sub a o z)
end
end DL

set_option Elab.async false
set_option linter.all false
set_option maxRecDepth 100000
set_option maxHeartbeats 4000000
/-! an own exception whose __init__ says super().__init__("..") and self.n = its parameter -/
namespace DL
open PySem PySem.Spec PyProof.Rows L2 STx OrdS
/-- what K says of the class at C; cc: the cell of __class__, cda: the code object of its __init__ -/
structure SupC (P : Program) (K : PySem.W.Frag) (C cc cda : Addr) : Prop where
  cell : ∃ cl cld csl, K.lookup cc = some (⟨cl, cld, .cell (some (.ref C)), csl⟩ : Obj)
  code : ∃ ccl cdd vs ccs file tf, K.lookup cda = some (⟨ccl, cdd, .fields vs, ccs⟩ : Obj) ∧ vs[2]? = some (.str file tf) ∧ ((P.main.file : Str) == file) = true
  st : PySem.W.nsIn K cStatics "thirdparty.any" = some none
  sup : PySem.W.ks_superIn K C C "__init__" = some (some (.builtin "ValueError.__init__"))
  subV : PySem.W.subIn K (.ref C) (.type "ValueError") = some true
  mro : PySem.W.mroIn K C (.ref C) = some true
theorem oexC_cls {K : PySem.W.Frag} {C : Addr} (T : OexC K C) : ∃ cd : ClassData, PySem.W.clsIn K C = some cd ∧ ∃ o : Obj, K.lookup C = some o ∧ o.data = .cls cd := by
  obtain ⟨nm, q, N, bs, bm, sn, sub, ab, col, dd, k0, k1, k2, k3, k5, hC, _⟩ := T.cls
  exact ⟨_, by unfold PySem.W.clsIn; rw [hC] <;> rfl, _, hC, rfl⟩
section
variable {X : Cx} {pins : List (Addr × Obj)} {σ : L2.St} {H : Hp} {s : Shared} {e C : Addr}
/-- the bound __init__ of ValueError is called: nothing of it is told -/
theorem boundInit {u : Addr} {us : List Value} {A : Around} {Q : Value → Shared → Prop} {E : Value → Shared → Prop} (T : OexC X.K C) (I : Inv X pins σ H s) (he : H e = some (exo e C none)) (hu : s.heap.get? u = some (PySem.W.kxs_mw "ValueError.__init__" e)) (hl : us.length ≤ sizeLine)
    (h : ∀ s', Inv X pins σ H s' → Q .none s') : wpAny (model X.prog X.w) A (call (.ref u) us) Q E s := by
  obtain ⟨t1, ho⟩ := exo_at I.hok he
  obtain ⟨nm, q, N, bs, bm, sn, sub, ab, col, dd, k0, k1, k2, k3, k5, hC, _⟩ := T.cls
  have hCh := I.kIn _ _ hC
  have kind : (Value.type "method-wrapper" == Value.type "method" || Value.type "method-wrapper" == Value.type "builtin_function_or_method" || Value.type "method-wrapper" == Value.type "method-wrapper") = true := by decide
  have key : ∀ h', (∀ b o, b ≠ e → s.heap.get? b = some o → h'.get? b = some o) → h'.get? e = some (PySem.HandSPX.excO C s.heap.objs.size) → Q .none { s with heap := h' } := fun h' k hx => by
    have J := I.write (t' := s.toks) (x := e) (e := e) (o := exo e C none) (by rw [he]; exact True.intro) (.inl rfl) k ⟨_, hx⟩ (exo_ok hx)
    have same : upd H e (exo e C none) = H := funext fun b => by
      by_cases hb : b = e
      · subst hb; rw [upd_same, he]
      · exact upd_ne hb
    rw [same] at J
    exact h _ J
  obtain ⟨hp, g, d, t, os⟩ := s
  have FV := PySem.F.excBase_ValueError
  have walk : wpAny (model X.prog X.w) A.in1 (callAny (.ref u) ⟨us, []⟩) (fun fin s' => match fin with | .done f => wants Q E (.ok f) s' | .again c' => c'.quiet = true ∧ codeAny (model X.prog X.w) A c' (wants Q E) s') (fun e' s' => wants Q E (.error e') s') ⟨hp, g, d, t, os⟩ := by
    simp only [callAny]
    refine wpAny_bind (wpAny_load hu ?_)
    simp only [PySem.W.kxs_mw, kind, if_true]
    refine PySem.W.KFB.if_so (by decide) (wpAny_bind (PySem.ESX.check_bound FV hCh ho rfl (wpAny_bind (wpAny_pure (wpAny_pure ⟨plainId_quiet FV.init.plain _, codeAny_builtin FV.initEntry ?_⟩)))))
    exact PySem.W.exc_init_tree (cls := .ref C) (t0 := t1) (dv := none) (c2 := .none) (c3 := .none) (b4 := .bool false) ho hl fun h' k hx _ => key h' k hx
  exact wpAny_call (codeAny_of_tree walk)
/-- super().__init__("m") in the body of C's __init__ -/
theorem superI {cc cda f : Addr} {of : Obj} {fd : FuncData} {ar : Arg} {a m : Str} {i : Nat} {j : Nat} {p0 p1 p2 p3 p4 : Pos} {body : List Stmt} {pl : Env → Sem Bool} {Q : Value → Shared → Prop} {E : Value → Shared → Prop}
    (hev : ∀ env : Env, eval (.Call (.Attribute (.Call (.Name "super" p0) [] [] p1) "__init__" p2) [.Constant (.str m) j p3] [] p4) env = (do
      let ov ← attributeBase (.Call (.Name "super" p0) [] [] p1) "__init__" env (eval (.Call (.Name "super" p0) [] [] p1) env)
      standAt p2.atName
      let (f, first) ← holding [ov] (getMethod ov "__init__" (pl env))
      callWith p4 f first (backTo p4 (starEach [.Constant (.str m) j p3] env)) [])) (I : Inv X pins σ H s) (T : OexC X.K C) (S : SupC X.prog X.K C cc cda) (hsn : X.env.kindOf "super" = some .globalImplicit) (hcn : X.env.kindOf "__class__" = some .free)
    (hfu : X.env.func = some f) (hfo : X.K.lookup f = some of) (hfd : of.data = .func fd) (hp : (fd.params.posonlyargs ++ fd.params.args).head? = some ar) (har : ar.arg = a) (hco : X.env.code = .ref cda) (hcl : X.env.cells.lookup ("__class__" : Str) = some cc)
    (htop : (X.prog.main.scope.names.lookup ("super" : Str)).isSome = false) (hmg : X.mg "super" = none) (hka : X.env.kindOf a = some .local) (hN : X.N[i]? = some a) (hσ : σ[i]? = some (some (.ref e))) (he : H e = some (exo e C none))
    (h : ∀ s', Inv X pins σ H s' → Q .none s') :
    PySem.wpAt (model X.prog X.w) X.A (.func body X.env) (eval (.Call (.Attribute (.Call (.Name "super" p0) [] [] p1) "__init__" p2) [.Constant (.str m) j p3] [] p4) X.env) Q E s := by
  have KX := I.kIn
  obtain ⟨cl, cld, csl, hcell⟩ := S.cell
  obtain ⟨ccl, cdd, vs, ccs, file, tf, hcode, hvs, hfile⟩ := S.code
  obtain ⟨cd, hcd, oC, hC, hCd⟩ := oexC_cls T
  obtain ⟨mb, b1, b2⟩ := I.mod.blt
  obtain ⟨mm, hn, hl⟩ := I.loc
  obtain ⟨u, ru, look⟩ := hl i a (.ref e) hN hσ (.inl hka)
  obtain rfl : u = Value.ref e := ru
  have hv : mm a = some (.ref e) := by
    rcases look with ⟨_, z⟩ | ⟨z, _⟩
    · exact z
    · rcases z with z | z <;> rw [hka] at z <;> cases z
  obtain ⟨t1, ho⟩ := exo_at I.hok he
  obtain ⟨hh, g, d, t, os⟩ := s
  refine PySem.ks_wpAt_MethodCall (pl := pl X.env) ?_ (hev X.env)
  refine PySem.ks_wpAt_super_base hsn hcn (by decide) hfu (KX _ _ hfo) hfd hp hco (KX _ _ hcode) rfl hvs hfile htop ?_
  refine PySem.W.ks_loadName_global I.ok.kind hsn (Calls.loadGlobal_builtin (by rw [I.ok.glob]; exact I.mod.glob.keeps I.bk) hmg (by rw [I.ok.blt]; exact b1.keeps I.bk) ((b2 "super" (by decide)).trans (by decide +kernel)) ⟨rfl, ?_⟩)
  refine wpAny_loadName_free I.ok.kind hcn hcl ⟨_, KX _ _ hcell, rfl⟩ ?_
  rw [har]
  refine wpAny_loadName_local I.ok.kind hka hn hv ?_
  refine PySem.ks_wpAny_isType_cls (KX _ _ hC) hCd ⟨rfl, ?_⟩
  refine PySem.ks_wpAny_call_super (KX _ _ hC) hCd ho rfl (fun _ z => nomatch z) (PySem.W.looks_mroIn KX S.mro) fun h' hso k => ?_
  have KX' : X.K.In h' := KX.keeps k
  have IA : PySem.W.InstAt h' e { cls := .ref C, dict := none, data := .fields #[.ref t1, .none, .none, .none, .bool false, .none] } C none := ⟨k _ _ ho, rfl, rfl, trivial⟩
  have sup := S.sup
  unfold PySem.W.ks_superIn at sup
  rw [hcd] at sup
  refine PySem.W.kxs_getMethod PySem.W.kxs_ValueError hso (PySem.W.looks_opaque KX' S.st) (l₀ := cd.mro) (fun A Q E s k q => wpAny_bind ((PySem.W.looks_clsIn KX' hcd) A _ E s k (wpAny_pure q))) rfl KX' sup (IA.type.andThen (PySem.W.looks_subIn KX' S.subV)) (PySem.W.ks_ne KX' IA hcd) (by decide) ?_
  have I2 : Inv X pins σ H ⟨h'.push (PySem.W.kxs_mw "ValueError.__init__" e), g, d, t + 1, os⟩ := I.kept (t' := t + 1) fun b o z => Heap.get?_push_of_some _ (k b o z)
  have hmw : (h'.push (PySem.W.kxs_mw "ValueError.__init__" e)).get? h'.objs.size = some (PySem.W.kxs_mw "ValueError.__init__" e) := Heap.get?_push_size _ rfl
  refine PySem.W.kxs_callWith (i := "ValueError.__init__") (x := e) (by rfl) (Calls.evalArgs_plain (Calls.spliced_cons (Calls.Constant_str (pos := p3) (k := j) (Calls.spliced_nil ?_))))
  exact ⟨hmw, boundInit T (I2.tok _) he hmw (by show 1 ≤ sizeLine; rw [sizeLine_eq]; omega) h⟩
end
end DL

set_option Elab.async false
set_option linter.all false
set_option maxRecDepth 100000
set_option maxHeartbeats 4000000
/-! such an exception is made and raised -/
namespace DL
open PySem PySem.Spec PyProof.Rows L2 STx OrdS
/-- what its __init__ promises -/
def SpS (C : Addr) (n : Str) : Sp := fun vs H Q _ => ∃ e y, vs = [.ref e, y] ∧ H e = some (exo e C none) ∧ ∀ dx, H dx = none → dx ≠ e → Q .non (upd (upd H dx (exd dx [(n, y)])) e (exo e C (some dx)))
section
variable {P : Program} {w : World} {K : PySem.W.Frag} {mg : Str → Option Value} {base : Heap}
theorem fnS {CX : CXT} {k : Nat} {f C cc cda : Addr} {name qual : Str} {params : Arguments} {body : List Stmt} {scope : Scope} {kV doc pm ct oc : Value} {an od : Option Addr} {osl : Array (Option Value)} {a b n m : Str} {j : Nat} {ar : Arg} {p0 p1 p2 p3 p4 p5 q1 q2 q3 q4 : Pos} {pl : Env → Sem Bool}
    (hev : ∀ env : Env, eval (.Call (.Attribute (.Call (.Name "super" p0) [] [] p1) "__init__" p2) [.Constant (.str m) j p3] [] p4) env = (do
      let ov ← attributeBase (.Call (.Name "super" p0) [] [] p1) "__init__" env (eval (.Call (.Name "super" p0) [] [] p1) env)
      standAt p2.atName
      let (f, first) ← holding [ov] (getMethod ov "__init__" (pl env))
      callWith p4 f first (backTo p4 (starEach [.Constant (.str m) j p3] env)) [])) (lk : K.lookup f = some ⟨oc, od, .func (PySem.W.fnX name qual params body scope [("__class__", cc)] .none kV doc pm an (.ref cda) ct), osl⟩) (hcd : PySem.W.codeIn K (.ref cda) qual = true)
    (T : OexC K C) (S : SupC P K C cc cda) (hno : PySem.W.findIn K (.ref C) n = some none) (hmg : mg "super" = none) (htop : (P.main.scope.names.lookup ("super" : Str)).isSome = false)
    (Sc : NdefX.NScope [a, b, "__class__"] [a, b] ["__class__"] scope) (hsn : scope.names.lookup ("super" : Str) = some .globalImplicit)
    (hbd : body = [.Expr (.Call (.Attribute (.Call (.Name "super" p0) [] [] p1) "__init__" p2) [.Constant (.str m) j p3] [] p4) p5, .Assign [.Attribute (.Name a q1) n q2] (.Name b q3) q4])
    (hp : (params.posonlyargs ++ params.args).head? = some ar) (har : ar.arg = a) (ha1 : (a == ("__debug__" : Str)) = false) (ha2 : (a == ("__classdict__" : Str)) = false) (hb1 : (b == ("__debug__" : Str)) = false) (hb2 : (b == ("__classdict__" : Str)) = false) :
    FnOk P w K mg base CX (k + 1) f (PySem.W.fnX name qual params body scope [("__class__", cc)] .none kV doc pm an (.ref cda) ct) [a, b] (SpS C n) := by
  refine ⟨fun vs H Q E ⟨e, y, h, _⟩ => by rw [h]; rfl, fun A outer s H args us vs Q E hr e0 hbt r hsp => ?_⟩
  obtain ⟨e, y, rfl, he, hq⟩ := hsp
  have KX : K.In s.heap := e0.mod.kin.keeps fun b o e => (e0.bs b o e).1
  have lim : s.heap.NoLimit := e0.mod.nolimit.keeps fun b o e => (e0.bs b o e).1
  subst hbd
  obtain ⟨cl, cld, csl, hcell⟩ := id S.cell
  have bcell := e0.mod.kin _ _ hcell
  have one : ∀ {x : Str} {c : Addr}, ([("__class__", cc)] : List (Str × Addr)).lookup x = some c → x = "__class__" ∧ c = cc := fun {x c} h => by
    have m := PySem.mem_of_lookup h
    simp only [List.mem_singleton, Prod.mk.injEq] at m
    exact m
  have CA : NdefX.CellsAt [("__class__", cc)] ["__class__"] [some (.ref C)] s.heap H := by
    refine ⟨rfl, fun x c h => ?_, fun x z c h1 h2 => (one h1).1.trans (one h2).1.symm, fun i x h => ?_⟩
    · obtain ⟨_, rfl⟩ := one h
      exact ⟨(e0.bs _ _ bcell).2, _, _, (e0.bs _ _ bcell).1, rfl⟩
    · match i, h with
      | 0, h =>
        cases h
        refine ⟨cc, rfl, fun v hv => ?_⟩
        cases hv
        exact ⟨.ref C, rfl, _, (e0.bs _ _ bcell).1, rfl⟩
  refine PySem.ks_codeAny_call_defAt hr.depth (KX _ _ lk) rfl lim (PySem.W.codeRec_of KX hcd) rfl hbt Sc.nocell (fun ⟨z, _⟩ hz => Sc.par z (List.of_mem_zip hz).1) (fun h₁ hns kp => ?_) Sc.co Sc.gen Sc.kind
  have I : Inv (NdefX.ncx CX P w K mg base [a, b, "__class__"] ⟨name, qual, params, [.Expr (.Call (.Attribute (.Call (.Name "super" p0) [] [] p1) "__init__" p2) [.Constant (.str m) j p3] [] p4) p5, .Assign [.Attribute (.Name a q1) n q2] (.Name b q3) q4], scope, [("__class__", cc)], cda⟩ f A outer s H E) []
      (NdefX.startF [a, b, "__class__"] [.ref e, y] [some (.ref C)]) H { s with heap := h₁, toks := s.toks + ([a, b].zip us).length } := NdefX.inv_startN Sc hr.hd e0 rfl r CA hns kp
  have la : scope.names.lookup a = some .local := Sc.par a (by simp)
  have lb : scope.names.lookup b = some .local := Sc.par b (by simp)
  have lc : scope.names.lookup ("__class__" : Str) = some .free := Sc.frk "__class__" (by simp)
  have quiet := I.quiet
  refine PySem.ks_wpAt_execs_cons (PySem.ks_wpAt_Expr_any (superI hev (i := 0) I T S hsn lc rfl lk rfl hp har rfl rfl htop hmg la rfl rfl he fun s' J => ?_) quiet rfl)
  have st : PS (NdefX.ncx CX P w K mg base [a, b, "__class__"] ⟨name, qual, params, [.Expr (.Call (.Attribute (.Call (.Name "super" p0) [] [] p1) "__init__" p2) [.Constant (.str m) j p3] [] p4) p5, .Assign [.Attribute (.Name a q1) n q2] (.Name b q3) q4], scope, [("__class__", cc)], cda⟩ f A outer s H E) (.Assign [.Attribute (.Name a q1) n q2] (.Name b q3) q4) (tOst K n (tVar 0) (tVar 1)) :=
    ps_ost (pe_var (i := 0) rfl (.inl la) ha1 ha2) (pe_var (i := 1) rfl (.inl lb) hb1 hb2)
  have run := (pss_one st).run [] s' _ H { nx := fun _ H' => Q .non H', rt := Q } J ⟨y, rfl, .ref e, rfl, e, C, rfl, T, hno, .inl ⟨he, fun dx h1 h2 => hq dx h1 h2⟩⟩
  refine PySem.wpAt_of_wpAny (wpAny_mono run (fun fl s2 hs => ?_) fun _ _ z => z)
  cases fl with
  | next =>
    obtain ⟨σ', H', J', q⟩ := hs
    exact ⟨.non, H', J'.os, J'.bare, J'.base, J'.hok, rfl, q⟩
  | ret u =>
    obtain ⟨v, σ', H', J', rv, q⟩ := hs
    exact ⟨v, H', J'.os, J'.bare, J'.base, J'.hok, rv, q⟩
  | brk =>
    obtain ⟨_, _, _, q⟩ := hs
    exact False.elim q
  | cont =>
    obtain ⟨_, _, _, q⟩ := hs
    exact False.elim q
end
section
variable {X : Cx}
/-- C(e, ..): made, its context None -/
theorem made_oex {CX : CXT} {x : Str} {e : Expr} {es : List Expr} {ta : TA} {p pos : Pos} {C fI : Addr} {k : Nat} {fd : FuncData} {ps : List Str} {sp : Sp} (T : OexC X.K C) (iC : PySem.W.findIn X.K (.ref C) "__init__" = some (some (.ref fI))) (tI : PySem.W.typeIn X.K (.ref fI) = some (.type "function"))
    (F1 : FnOk X.prog X.w X.K X.mg X.base CX k fI fd ps sp) (hr : Room (k + 1) X.A) (hb : Binds X.K fd ps []) (hx : Passes CX X (fun _ _ _ => False)) (hg : Gl X x) (hm : X.mg x = some (.ref C)) (ha : PA X (e :: es) ta)
    (hdb : (x == ("__debug__" : Str)) = false := by decide) (he : starEach (e :: es) X.env = (false, eval e X.env) :: starEach es X.env := by rfl) (hpl : (backTo pos (starEach es X.env)).any (·.1) = false := by rfl) :
    L2N.PMk X (.Call (.Name x p) (e :: es) [] pos) (tMkO C sp [] ta) := by
  intro pins s σ H Q I h
  obtain ⟨nm, q, N, bs, bm, sn, sub, ab, col, dd, k0, k1, k2, k3, k5, hC, hbm⟩ := T.cls
  have made : ∀ (us : List Value) (s1 : Shared), (∃ vs H1, Inv X pins σ H1 s1 ∧ Vals vs us ∧ vs.length ≤ 1000 ∧ ∀ a, H1 a = none → sp (.ref a :: (vs ++ [])) (upd H1 a (exo a C none)) (fun v H2 => v = .non ∧ ∃ (d : Addr) (fs : List (Str × V)), H2 a = some (exo a C (some d)) ∧ H2 d = some (exd d fs) ∧ H1 d = none ∧ Q (.ref C) (some d) (upd (del H2 a) d (.xd fs))) fun _ _ _ => False) →
      wpAny (model X.prog X.w) X.A (call (.ref C) us) (L2N.MkP X pins σ Q) X.xe s1 := by
    rintro us ⟨hp, g, dr, tk, os⟩ ⟨vs, H1, I1, r1, hz, q1⟩
    have grow : ∀ b o, hp.get? b = some o → ((hp.push (PySem.W.kdv_tup us)).push (PySem.HandSPX.excO C hp.objs.size)).get? b = some o := fun b o e => Heap.get?_push_of_some _ (Heap.get?_push_of_some _ e)
    have new : ((hp.push (PySem.W.kdv_tup us)).push (PySem.HandSPX.excO C hp.objs.size)).get? (hp.objs.size + 1) = some (PySem.HandSPX.excO C hp.objs.size) := by heap_get
    have I2 := I1.laid (t' := tk) (o := exo (hp.objs.size + 1) C none) grow (Nat.le_succ _) (exo_ok new)
    have hq := q1 (hp.objs.size + 1) (I1.hok.fresh (Nat.le_succ _))
    have r2 : Vals (V.ref (hp.objs.size + 1) :: (vs ++ [])) (Value.ref (hp.objs.size + 1) :: us ++ []) := by
      rw [List.append_nil, List.append_nil]
      exact .cons rfl r1
    have n2 : (Value.ref (hp.objs.size + 1) :: us ++ []).length = ps.length := by
      rw [← r2.length]
      exact F1.len _ _ _ _ hq
    have small : us.length ≤ sizeLine := by
      rw [sizeLine_eq, ← Paired.length r1]
      omega
    have run := F1.run _ X.stack _ _ ⟨Value.ref (hp.objs.size + 1) :: us, []⟩ _ _ _ (fun _ _ _ => False) (hr.make C us []) (I2.env0.make C us []) (hb _ (Value.ref (hp.objs.size + 1) :: us) I2.kIn n2) r2 hq
    refine wpAny_call (PySem.HandSPX.call_own PySem.F.excBase_ValueError (fun Y => PySem.HandSPX.refsVE_contains Y bm hbm) (I1.kIn _ _ hC) (PySem.W.looks_findIn I1.kIn iC) (fun self => PySem.W.bind_fn I1.kIn self tI) small (codeAny_mono run fun r s' hq' => ?_))
    match r, hq' with
    | .error er, hq' => exact hx pins σ _ _ er s' I2 hq'
    | .ok (.ret u), hq' =>
      obtain ⟨v, H2, os2, bare2, un2, hok2, rv, rfl, d, fs, ea, ed, hd1, q2⟩ := hq'
      obtain ⟨h2, g2, d2, t2, os'⟩ := s'
      obtain ⟨t0, G, J, kG, ge, hoe, na⟩ := mk_end0 (d2 := d2) (t2 := t2) I1 (Nat.le_succ _) grow un2 hok2 os2 bare2 ea ed hd1
      exact ⟨rv, hp.objs.size + 1, _, _, ⟨G, g2, d2, t2, os'⟩, _, .ref C, some d, rfl, J, kG, ge, hoe, ⟨rfl, rfl, fun vs hv => by cases hv; rfl⟩, rfl, rfl, na, rfl, bare2, raises_own T.exC T.tyC, q2⟩
    | .ok .next, hq' => exact False.elim hq'
    | .ok .brk, hq' => exact False.elim hq'
    | .ok .cont, hq' => exact False.elim hq'
  exact wpAny_Call_Name_kw (ld_glob I hg hm (PySem.W.callWith_K (h₀ := X.base) I.ok.mod.kin T.kC (thn (ha.run pos pins s σ H _ I h) fun us s1 ⟨vs, H1, I1, r1, hz, q1⟩ => ⟨I1.kIn, made us s1 ⟨vs, H1, I1, r1, hz, q1⟩⟩) he hpl) hdb)
/-- raise C(e), the field n of the exception e's value -/
theorem s_raiseC {E : XK} {b : Bs} {x n : Str} {fI : Addr} {k : Nat} {e : Expr} {me : ME} {ps : List Str} {p pos pos2 : Pos} (hc : X.calm = true) (tk : L2N.Takes X (fun cls d _ H => E cls d H)) (hx : Passes (L2N.CX X.prog X.w) X (fun _ _ _ => False)) (TC : OexC X.K (He.ga X.K x)) (iC : PySem.W.findIn X.K (.ref (He.ga X.K x)) "__init__" = some (some (.ref fI))) (tI : PySem.W.typeIn X.K (.ref fI) = some (.type "function"))
    (F1 : ∃ fd, FnOk X.prog X.w X.K X.mg X.base (L2N.CX X.prog X.w) k fI fd ps (SpS (He.ga X.K x) n) ∧ Binds X.K fd ps []) (hr : Room (k + 1) X.A) (hm : X.mg x = some (.ref (He.ga X.K x))) (he : XE X E e me)
    (hg : Gl X x := by rfl) (hdb : (x == ("__debug__" : Str)) = false := by decide) (hs : starEach [e] X.env = (false, eval e X.env) :: starEach [] X.env := by rfl) (hpl : (backTo pos (starEach [] X.env)).any (·.1) = false := by rfl) :
    XS X E b (.Raise (some (.Call (.Name x p) [e] [] pos)) none pos2) (fun g => T.bind (me g) fun d => T.raise ⟨x, [(n, d)]⟩) := by
  obtain ⟨fd, F1, hb⟩ := F1
  refine ps_w (L2N.ps_raise hc tk (made_oex TC iC tI F1 hr hb hx hg hm (a_cons he a_nil hs) hdb hs hpl)) fun D σ H ⟨g, S, H0, Qd, Ed, r, hmm, hq, hex⟩ => ?_
  refine ⟨g, S, H0, fun ds S' => match ds with
    | [d] => Ed ⟨x, [(n, d)]⟩ S'
    | _ => False, Ed, r.rel, hmm, fun ds S' hd vs H' H0' st gr rv => ?_, fun y S' ey => (hex y S' ey).grow r.rel.st r.gb⟩
  match ds, hd, vs, rv with
  | [d], hd, _, .cons (v := v) rv .nil =>
    refine ⟨by simp, fun a na => ⟨a, v, rfl, upd_same, fun dx n1 ne => ⟨rfl, dx, [(n, v)], upd_same, by rw [upd_ne ne, upd_same], by rw [upd_ne ne] at n1; exact n1, ?_⟩⟩⟩
    have nd : H' dx = none := by rw [upd_ne ne] at n1; exact n1
    have e1 : upd (del (upd (upd (upd H' a (exo a (He.ga X.K x) none)) dx (exd dx [(n, v)])) a (exo a (He.ga X.K x) (some dx))) a) dx (.xd [(n, v)]) = upd H' dx (.xd [(n, v)]) := funext fun c => by
      by_cases h1 : c = dx
      · subst h1; rw [upd_same, upd_same]
      · rw [upd_ne h1, upd_ne h1]
        by_cases h2 : c = a
        · subst h2; rw [del_same, na]
        · rw [del_ne h2, upd_ne h2, upd_ne h1, upd_ne h2]
    rw [e1]
    obtain ⟨st2, gr2, _, _⟩ := alloc_n st nd (.xd [(n, v)])
    exact hex _ S' hd (some dx) _ H0' st2 (r.gb.trans r.rel.st (gr.trans st gr2)) (.inr ⟨by simp, dx, [(n, v)], rfl, upd_same, rfl, .cons rv .nil⟩)
end
end DL

set_option Elab.async false
set_option linter.all false
set_option maxRecDepth 100000
set_option maxHeartbeats 4000000
/-! such a class, read off the heap -/
namespace DL
open PySem PySem.Spec PyProof.Rows L2 STx OrdS
theorem oexB_ok {c : Str} {K : PySem.W.Frag} (h : oexB c K = true) : OexC K (He.ga K c) := by
  obtain ⟨h0, h⟩ := He.ba h
  obtain ⟨h1, h⟩ := He.ba h
  obtain ⟨h2, h⟩ := He.ba h
  obtain ⟨h3, h4⟩ := He.ba h
  refine ⟨?_, He.eqO_ok h1, of_decide_eq_true h2, of_decide_eq_true h3, h4⟩
  cases q : K.lookup (He.ga K c) with
  | none => rw [q] at h0; cases h0
  | some o =>
    obtain ⟨oc, dd, dt, ⟨sl⟩⟩ := o
    rw [q] at h0
    cases oc with
    | type t =>
      cases dt with
      | cls cd =>
        obtain ⟨k0, k1⟩ := He.ba h0
        have k0 := of_decide_eq_true k0
        subst k0
        obtain ⟨nm, bs, mro, ns, qn, hd, sn, sb, ab, col, del⟩ := cd
        dsimp only at k1
        split at k1
        · rename_i C' bm s0 s1 s2 s3 n s5
          obtain ⟨m1, m2⟩ := He.ba k1
          obtain ⟨m2, m3⟩ := He.ba m2
          obtain ⟨m3, m4⟩ := He.ba m3
          obtain ⟨m4, m5⟩ := He.ba m4
          have m1 := of_decide_eq_true m1
          have m2 := of_decide_eq_true m2
          have m3 : del = false := by simpa using m3
          have m4 : hd = true := m4
          subst m2 m3 m4
          rw [m1]
          exact ⟨nm, qn, ns, bs, bm, sn, sb, ab, col, dd, s0, s1, s2, s3, s5, rfl, m5⟩
        · cases k1
      | _ => cases h0
    | _ => cases dt <;> cases h0
theorem supB_ok {P : Program} {c file : Str} {K : PySem.W.Frag} (h : supB c file K = true) (hf : P.main.file = file) {oc : Value} {od : Option Addr} {osl : Array (Option Value)} {name qual : Str} {params : Arguments} {body : List Stmt} {scope : Scope} {dV kV doc pm ct : Value} {an : Option Addr} {cc cda : Addr}
    (lk : K.lookup (He.ma K (He.ga K c) "__init__") = some ⟨oc, od, .func (PySem.W.fnX name qual params body scope [("__class__", cc)] dV kV doc pm an (.ref cda) ct), osl⟩) :
    SupC P K (He.ga K c) cc cda ∧ PySem.W.findIn K (.ref (He.ga K c)) "__init__" = some (some (.ref (He.ma K (He.ga K c) "__init__"))) ∧ PySem.W.typeIn K (.ref (He.ma K (He.ga K c) "__init__")) = some (.type "function") := by
  obtain ⟨h0, h⟩ := He.ba h
  obtain ⟨h1, h⟩ := He.ba h
  obtain ⟨h2, h⟩ := He.ba h
  obtain ⟨h3, h⟩ := He.ba h
  obtain ⟨h4, h⟩ := He.ba h
  obtain ⟨h5, h6⟩ := He.ba h
  rw [lk] at h0
  obtain ⟨k1, k2⟩ := He.ba h0
  refine ⟨⟨?_, ?_, He.eqO_ok h1, He.eqO_ok h2, of_decide_eq_true h3, of_decide_eq_true h4⟩, He.eqO_ok h5, of_decide_eq_true h6⟩
  · dsimp only at k1
    split at k1
    · rename_i a b D s e
      have e1 := of_decide_eq_true k1
      exact ⟨_, _, _, by rw [e, e1]⟩
    · cases k1
  · dsimp only at k2
    split at k2
    · rename_i a b vs s e
      split at k2
      · rename_i f t e2
        have e3 := of_decide_eq_true k2
        exact ⟨_, _, _, _, f, t, e, e2, by rw [hf, e3]; simp⟩
      · cases k2
    · cases k2
/-- what else the walk needs of the program's text -/
structure HdP (P : Program) (file : Str) (fa : List He.Fa) (fn : List He.DefD) (ex : PySem.W.Frag → Bool) (fy : List DefY) (K : PySem.W.Frag) (mg : Str → Option Value) : Prop extends HdY fa fn ex fy K mg where
  file : P.main.file = file
  nosup : (P.main.scope.names.lookup ("super" : Str)).isSome = false
section
variable {P : Program} {w : World} {K : PySem.W.Frag} {mg : Str → Option Value} {base : Heap}
theorem mk_oks {CX : CXT} {c file : Str} {k : Nat} {name qual : Str} {params : Arguments} {body : List Stmt} {scope : Scope} {a b n m : Str} {j : Nat} {ar : Arg} {p0 p1 p2 p3 p4 p5 q1 q2 q3 q4 : Pos} {pl : Env → Sem Bool} (Z : FunS K name qual params body scope (He.ma K (He.ga K c) "__init__")) (T : oexB c K = true) (B : supB c file K = true) (hf : P.main.file = file)
    (hno : PySem.W.findIn K (.ref (He.ga K c)) n = some none) (hmg : mg "super" = none) (htop : (P.main.scope.names.lookup ("super" : Str)).isSome = false)
    (Sc : NdefX.nscB [a, b, "__class__"] [a, b] ["__class__"] scope = true) (hsn : scope.names.lookup ("super" : Str) = some .globalImplicit)
    (hbd : body = [.Expr (.Call (.Attribute (.Call (.Name "super" p0) [] [] p1) "__init__" p2) [.Constant (.str m) j p3] [] p4) p5, .Assign [.Attribute (.Name a q1) n q2] (.Name b q3) q4])
    (hp : (params.posonlyargs ++ params.args).head? = some ar) (har : ar.arg = a)
    (hb : ∀ (cc : Addr) (kV doc pm : Value) (an : Option Addr) (cda : Addr) (ct : Value) (us : List Value), us.length = 2 → bindArgs (PySem.W.fnX name qual params body scope [("__class__", cc)] .none kV doc pm an (.ref cda) ct) ⟨us, []⟩ = pure (([a, b] : List Str).zip us))
    (hev : ∀ env : Env, eval (.Call (.Attribute (.Call (.Name "super" p0) [] [] p1) "__init__" p2) [.Constant (.str m) j p3] [] p4) env = (do
      let ov ← attributeBase (.Call (.Name "super" p0) [] [] p1) "__init__" env (eval (.Call (.Name "super" p0) [] [] p1) env)
      standAt p2.atName
      let (f, first) ← holding [ov] (getMethod ov "__init__" (pl env))
      callWith p4 f first (backTo p4 (starEach [.Constant (.str m) j p3] env)) []))
    (ha1 : (a == ("__debug__" : Str)) = false := by decide) (ha2 : (a == ("__classdict__" : Str)) = false := by decide) (hb1 : (b == ("__debug__" : Str)) = false := by decide) (hb2 : (b == ("__classdict__" : Str)) = false := by decide) :
    ∃ fd, FnOk P w K mg base CX (k + 1) (He.ma K (He.ga K c) "__init__") fd [a, b] (SpS (He.ga K c) n) ∧ L2.Binds K fd [a, b] [] := by
  obtain ⟨oc, od, kV, doc, pm, an, cda, ct, osl, cc, lk, hcd⟩ := Z
  obtain ⟨S, _, _⟩ := supB_ok B hf lk
  exact ⟨_, fnS hev lk hcd (oexB_ok T) S hno hmg htop (NdefX.nscope_by Sc) hsn hbd hp har ha1 ha2 hb1 hb2, Binds.all fun us hl => hb cc kV doc pm an cda ct us hl⟩
end
section
variable {X : Cx}
/-- raise C(e) -/
theorem s_raiseO {E : XK} {b : Bs} {x n file : Str} {k kk : Nat} {e : Expr} {me : ME} {ps : List Str} {p pos pos2 : Pos} (hc : X.calm = true) (tk : L2N.Takes X (fun cls d _ H => E cls d H)) (hx : Passes (L2N.CX X.prog X.w) X (fun _ _ _ => False)) (TC : oexB x X.K = true) (B : supB x file X.K = true)
    (F1 : ∃ fd, FnOk X.prog X.w X.K X.mg X.base (L2N.CX X.prog X.w) k (He.ma X.K (He.ga X.K x) "__init__") fd ps (SpS (He.ga X.K x) n) ∧ Binds X.K fd ps []) (hr : Room kk X.A) (hj : k + 1 ≤ kk) (hm : X.mg x = some (.ref (He.ga X.K x))) (he : XE X E e me)
    (hg : Gl X x := by rfl) (hdb : (x == ("__debug__" : Str)) = false := by decide) (hs : starEach [e] X.env = (false, eval e X.env) :: starEach [] X.env := by rfl) (hpl : (backTo pos (starEach [] X.env)).any (·.1) = false := by rfl) :
    XS X E b (.Raise (some (.Call (.Name x p) [e] [] pos)) none pos2) (fun g => T.bind (me g) fun d => T.raise ⟨x, [(n, d)]⟩) := by
  obtain ⟨_, h⟩ := He.ba B
  obtain ⟨_, h⟩ := He.ba h
  obtain ⟨_, h⟩ := He.ba h
  obtain ⟨_, h⟩ := He.ba h
  obtain ⟨_, h⟩ := He.ba h
  obtain ⟨h5, h6⟩ := He.ba h
  exact s_raiseC hc tk hx (oexB_ok TC) (He.eqO_ok h5) (of_decide_eq_true h6) F1 (hr.mono hj) hm he hg hdb hs hpl
end
end DL

set_option Elab.async false
set_option linter.all false
set_option maxRecDepth 100000
set_option maxHeartbeats 4000000
/-! where an exception is handled -/
namespace DL
open PySem PySem.Spec PyProof.Rows L2 HotX L2H STx OrdS
section
variable {X : Cx} {E : XK} {o : Expr} {mo : ME} {pos : Pos}
theorem t_nilMH {k : Nat} {p2 : Pos} (hr : RoomH k X.A) (ho : XE X E o mo) : XT X E (.Compare o [.Eq] [.List [] p2] pos) (fun g => T.bind (T.bind (mo g) nilM) dAsB) :=
  pt_w (pt_cmpR (op_eqD (by have := hr.un; omega)) ho (pe_lst pa_nil) (nomark _)) fun σ H Q h => nilM_lf (lt_lf h)
/-- nothing is raised -/
theorem pass_no : ∀ σ, PassesAt (L2N.CX X.prog X.w) X σ (fun _ _ _ => False) := fun σ pins H s e s' I z => by
  obtain ⟨_, _, _, _, _, _, _, _, _, _, _, _, z⟩ := z
  exact z.elim
theorem passLN : Passes (L2N.CX X.prog X.w) X (fun _ _ _ => False) := fun _ _ _ _ _ _ _ z => by
  obtain ⟨_, _, _, _, _, _, _, _, _, _, _, _, z⟩ := z
  exact z.elim
end
end DL

set_option Elab.async false
set_option linter.all false
set_option maxRecDepth 100000
set_option maxHeartbeats 4000000
namespace Em
open PySem PySem.Spec PyProof.Rows L2 DL OrdS
theorem sc__law_error : FnScope ["_law_call", "_law_found", "e", "_law_some", "_law_labels", "_law_every", "_law_label", "_law_truth"] ["_law_call"] (defScope s__law_error) := ⟨rfl, rfl, rfl, by decide +kernel, rfl, by decide +kernel, by decide +kernel⟩
theorem errTB_ok {K : PySem.W.Frag} {M : Str} {ns : List Str} (h : errTB M ns K = true) {x : Str} (hx : x ∈ ns) : PySem.W.exmOne K (.ref (He.ga K x)) (.ref (He.ga K M)) = some true ∧ PySem.W.kitOne K (.ref (He.ga K x)) (.type "ValueError") = some true ∧ ∀ y ∈ ns, PySem.W.kitOne K (.ref (He.ga K x)) (.ref (He.ga K y)) = some (decide (x = y)) := by
  have h1 := List.all_eq_true.mp h x hx
  obtain ⟨a, b⟩ := Bool.and_eq_true_iff.mp h1
  obtain ⟨b, c⟩ := Bool.and_eq_true_iff.mp b
  exact ⟨of_decide_eq_true a, of_decide_eq_true b, fun y hy => of_decide_eq_true (List.all_eq_true.mp c y hy)⟩
def errWs : List Str := ["family", "letters", "set", "letter", "weights", "claim", "kinds", "word", "number", "facts", "text", "unlike", "undo", "many"]
def errCs : List (Str × Str) := errNs.zip (errWs.map (· ++ " value"))
def errBs (n : Str) : List Bool := errNs.map (fun m => decide (n = m)) ++ [true]
def errYl (n : Str) : List Str := labs (Txt.split ("family letters set letter weights claim kinds word" ++ " number facts text unlike undo many value") " ") (errBs n)
theorem err_words : ∀ q ∈ errCs, q.1 ∈ errNs ∧ q.2 = Txt.join " " (errYl q.1) ∧ ((errYl q.1).map (·.length)).sum + (errYl q.1).length * (" " : Str).length ≤ 16777216 := by decide +kernel
section
variable {X : Cx} (T : ExcT X.K "MeetError" errNs) (B : errTB "MeetError" errNs X.K = true)
  (gl : ∀ n ∈ (("MeetError" : Str) :: errNs), X.mg n = some (.ref (He.ga X.K n))) (mi : X.mg "isinstance" = none) (mv : X.mg "ValueError" = none) (mz : X.mg "zip" = none)
include T B gl mi mv mz
theorem WGe : ∀ cdv, GivesE X ["_law_call", "_law_found", "e", "_law_some", "_law_labels", "_law_every", "_law_label", "_law_truth"] "_law_error" (defScope s__law_error) (He.ga X.K "_law_error") cdv (defBody s__law_error) "_law_call" (errT X.K errCs) := by
  intro cdv
  have k : ∀ n ∈ errNs, ∀ m ∈ errNs, PySem.W.kitOne X.K (.ref (He.ga X.K n)) (.ref (He.ga X.K m)) = some (decide (n = m)) := fun n hn => (errTB_ok B hn).2.2
  have g : ∀ m ∈ errNs, X.mg m = some (.ref (He.ga X.K m)) := fun m hm => gl m (List.mem_cons_of_mem _ hm)
  refine err_gives (M := "MeetError") (ns := errNs) (yl := errYl) (io := 1) (ie := 2) (cs := errCs) T (fun n hn => (errTB_ok B hn).1) err_words sc__law_error.nd (by decide) rfl rfl (by decide) (by decide) (by decide) rfl rfl (by decide) (by decide) (by decide) (by decide) rfl mi
    (fun s H => ⟨rfl, by decide, .inl (gl _ List.mem_cons_self)⟩) (fun s H n hn a oe d pn W => ?_) (by decide +kernel)
  have i : ∀ m (hm : m ∈ errNs) (hg : (defScope s__law_error).names.lookup m = some .globalImplicit) (hd : (m == ("__debug__" : Str)) = false) {p1 p2 p3 p4 : Pos}, IsX ((cxOf C8.CX0 X.prog X.w X.K X.mg X.base ["_law_call", "_law_found", "e", "_law_some", "_law_labels", "_law_every", "_law_label", "_law_truth"] "_law_error" (defScope s__law_error) (He.ga X.K "_law_error") cdv X.A X.stack s H C8.E0).nox) a oe pn 2 d (.Call (.Name "isinstance" p1) [.Name "e" p2, .Name m p3] [] p4) (decide (n = m)) := fun m hm hg hd {_ _ _ _} => isx W hg (g m hm) (k n hn m hm) hd
  refine fst_ (L := 8) (iv := 3) W (i "InvalidFamily" (by decide) rfl (by decide)) (i "InvalidLetters" (by decide) rfl (by decide)) rfl (.inl rfl) (.inr rfl) (by decide) (by decide) ?_
  refine cat_ (iv := 3) W (i "InvalidSet" (by decide) rfl (by decide)) (i "InvalidLetter" (by decide) rfl (by decide)) rfl (.inl rfl) (.inr rfl) (by decide) (by decide) (by decide) (by decide) (Nat.le_of_ble_eq_true rfl) ?_
  refine cat_ (iv := 3) W (i "InvalidWeights" (by decide) rfl (by decide)) (i "InvalidClaim" (by decide) rfl (by decide)) rfl (.inl rfl) (.inr rfl) (by decide) (by decide) (by decide) (by decide) (Nat.le_of_ble_eq_true rfl) ?_
  refine cat_ (iv := 3) W (i "InvalidKinds" (by decide) rfl (by decide)) (i "InvalidWord" (by decide) rfl (by decide)) rfl (.inl rfl) (.inr rfl) (by decide) (by decide) (by decide) (by decide) (Nat.le_of_ble_eq_true rfl) ?_
  refine cat_ (iv := 3) W (i "InvalidNumber" (by decide) rfl (by decide)) (i "InvalidFacts" (by decide) rfl (by decide)) rfl (.inl rfl) (.inr rfl) (by decide) (by decide) (by decide) (by decide) (Nat.le_of_ble_eq_true rfl) ?_
  refine cat_ (iv := 3) W (i "InvalidText" (by decide) rfl (by decide)) (i "Unlike" (by decide) rfl (by decide)) rfl (.inl rfl) (.inr rfl) (by decide) (by decide) (by decide) (by decide) (Nat.le_of_ble_eq_true rfl) ?_
  refine cat_ (iv := 3) W (i "NothingToUndo" (by decide) rfl (by decide)) (i "TooMany" (by decide) rfl (by decide)) rfl (.inl rfl) (.inr rfl) (by decide) (by decide) (by decide) (by decide) (Nat.le_of_ble_eq_true rfl) ?_
  refine cat1_ (iv := 3) W (isv (n2 := "ValueError") W rfl mv (by decide +kernel) (errTB_ok B hn).2.1 (by decide) (by decide)) rfl (.inl rfl) (.inr rfl) (by decide) (by decide) (by decide) (by decide) (Nat.le_of_ble_eq_true rfl) ?_
  refine tail_ (ila := 4) (iev := 5) (i1 := 6) (i2 := 7) (bs := errBs n) W rfl rfl rfl rfl rfl rfl (fun v hv => ?_) (by decide) (by decide) (by decide) rfl mz (by kernel_rfl) ?_ (Nat.le_of_ble_eq_true rfl) (by decide) (by decide) (fun s H C cl fp => pgs_cons (pg_name (i := 6) sc__law_error.nd rfl (.inl rfl)) (pgs_cons (pg_name (i := 7) sc__law_error.nd rfl (.inl rfl)) pgs_nil)) (fun C cl => ⟨rfl, rfl⟩) (fun s H C cl fp => pts_one (pt_truth (pe_var (i := 7) rfl (.inl rfl)) (by intro _; rfl))) (fun s H C cl fp => pe_var (i := 6) rfl (.inl rfl)) (hsw4 := sw_true rfl rfl rfl rfl)
  · simp only [List.mem_cons, List.not_mem_nil, or_false] at hv
    rcases hv with rfl | rfl | rfl | rfl <;> exact ⟨rfl, by decide, by decide⟩
  · exact show (Txt.split (("family letters set letter weights claim kinds word" : Str) ++ " number facts text unlike undo many value") " ").length = 15 from by decide +kernel
end
end Em

set_option Elab.async false
set_option linter.all false
set_option maxRecDepth 100000
set_option maxHeartbeats 4000000
namespace Em
open PySem PySem.Spec PyProof.Rows L2 DL OrdS LamX
abbrev psC : List Str := ["_law_value", "_law_bench", "_law_bad"]
theorem sc__law_calls_of : FnScope psC psC (defScope s__law_calls_of) := ⟨rfl, rfl, rfl, by decide +kernel, rfl, by decide +kernel, by decide +kernel⟩
def retC : Expr := match defBody s__law_calls_of with
  | [.Return (some e) _] => e
  | _ => .Constant .none 0 ⟨0, 0, 0, 0⟩
def eltsC : List Expr := match retC with
  | .List es _ => es
  | _ => []
def lamC (i : Nat) : Expr := match eltsC.getD i (.Constant .none 0 ⟨0, 0, 0, 0⟩) with
  | .Tuple [_, l] _ _ => l
  | e => e
def noArgs : Arguments := ⟨[], [], none, [], [], none, []⟩
def cloC (i : Nat) : Clo := match lamC i with
  | .Lambda params body scope _ => ⟨"_law_calls_of.<locals>.<lambda>", params, body, scope, defScope s__law_calls_of⟩
  | e => ⟨"", noArgs, e, defScope s__law_calls_of, defScope s__law_calls_of⟩
theorem cl_eq (n : Addr) : cellsFrom (n + 1) (defScope s__law_calls_of).names [] = ([("_law_bad", n + 1 + 1 + 1), ("_law_bench", n + 1 + 1), ("_law_value", n + 1)] : List (Str × Addr)) := rfl
theorem lookup_inj {l : List (Str × Addr)} (nd : (l.map (·.2)).Nodup) {y z : Str} {c : Addr} (h1 : l.lookup y = some c) (h2 : l.lookup z = some c) : y = z := by
  induction l with
  | nil => cases h1
  | cons p r ih =>
    obtain ⟨n1, n2⟩ := List.nodup_cons.mp nd
    have m1 := PySem.mem_of_lookup h1
    have m2 := PySem.mem_of_lookup h2
    rcases List.mem_cons.mp m1 with e1 | e1
    · rcases List.mem_cons.mp m2 with e2 | e2
      · rw [← e1] at e2; exact (Prod.mk.inj e2).1.symm
      · exact absurd (List.mem_map.mpr ⟨_, e2, by rw [← e1]⟩) n1
    · rcases List.mem_cons.mp m2 with e2 | e2
      · exact absurd (List.mem_map.mpr ⟨_, e1, by rw [← e2]⟩) n1
      · have l1 : r.lookup y = some c := by
          by_cases q : y == p.1
          · rw [List.lookup, q] at h1
            exact absurd (List.mem_map.mpr ⟨_, e1, (Option.some.inj h1).symm⟩) n1
          · rw [List.lookup] at h1
            simpa [q] using h1
        have l2 : r.lookup z = some c := by
          by_cases q : z == p.1
          · rw [List.lookup, q] at h2
            exact absurd (List.mem_map.mpr ⟨_, e2, (Option.some.inj h2).symm⟩) n1
          · rw [List.lookup] at h2
            simpa [q] using h2
        exact ih n2 l1 l2
theorem injC (n : Addr) (y z : Str) (c : Addr) (h1 : cellAt (defScope s__law_calls_of) n y = some c) (h2 : cellAt (defScope s__law_calls_of) n z = some c) : y = z := by
  unfold cellAt at h1 h2
  rw [cl_eq] at h1 h2
  exact lookup_inj (by show ([n + 1 + 1 + 1, n + 1 + 1, n + 1] : List Nat).Nodup; simp; omega) h1 h2
theorem okC : ∀ i < 17, CloOk "_law_calls_of.<locals>." (defScope s__law_calls_of) psC (cloC i) := by
  intro i hi
  match i, hi with
  | 0, _ => exact ⟨rfl, rfl, lamS_by (by kernel_rfl), fun _ _ _ _ _ => rfl, by decide +kernel⟩
  | 1, _ => exact ⟨rfl, rfl, lamS_by (by kernel_rfl), fun _ _ _ _ _ => rfl, by decide +kernel⟩
  | 2, _ => exact ⟨rfl, rfl, lamS_by (by kernel_rfl), fun _ _ _ _ _ => rfl, by decide +kernel⟩
  | 3, _ => exact ⟨rfl, rfl, lamS_by (by kernel_rfl), fun _ _ _ _ _ => rfl, by decide +kernel⟩
  | 4, _ => exact ⟨rfl, rfl, lamS_by (by kernel_rfl), fun _ _ _ _ _ => rfl, by decide +kernel⟩
  | 5, _ => exact ⟨rfl, rfl, lamS_by (by kernel_rfl), fun _ _ _ _ _ => rfl, by decide +kernel⟩
  | 6, _ => exact ⟨rfl, rfl, lamS_by (by kernel_rfl), fun _ _ _ _ _ => rfl, by decide +kernel⟩
  | 7, _ => exact ⟨rfl, rfl, lamS_by (by kernel_rfl), fun _ _ _ _ _ => rfl, by decide +kernel⟩
  | 8, _ => exact ⟨rfl, rfl, lamS_by (by kernel_rfl), fun _ _ _ _ _ => rfl, by decide +kernel⟩
  | 9, _ => exact ⟨rfl, rfl, lamS_by (by kernel_rfl), fun _ _ _ _ _ => rfl, by decide +kernel⟩
  | 10, _ => exact ⟨rfl, rfl, lamS_by (by kernel_rfl), fun _ _ _ _ _ => rfl, by decide +kernel⟩
  | 11, _ => exact ⟨rfl, rfl, lamS_by (by kernel_rfl), fun _ _ _ _ _ => rfl, by decide +kernel⟩
  | 12, _ => exact ⟨rfl, rfl, lamS_by (by kernel_rfl), fun _ _ _ _ _ => rfl, by decide +kernel⟩
  | 13, _ => exact ⟨rfl, rfl, lamS_by (by kernel_rfl), fun _ _ _ _ _ => rfl, by decide +kernel⟩
  | 14, _ => exact ⟨rfl, rfl, lamS_by (by kernel_rfl), fun _ _ _ _ _ => rfl, by decide +kernel⟩
  | 15, _ => exact ⟨rfl, rfl, lamS_by (by kernel_rfl), fun _ _ _ _ _ => rfl, by decide +kernel⟩
  | 16, _ => exact ⟨rfl, rfl, lamS_by (by kernel_rfl), fun _ _ _ _ _ => rfl, by decide +kernel⟩
  | n + 17, h => exact absurd h (by omega)
noncomputable def m__law_calls_of (P n : Addr) : ME := fun g => T.bind ((argsC (fun g => T.bind ((argsC (fun _ => T.pure (.str "letters")) (argsC (fun _ => cloD P (cloC 0) n) args0)) g) fun xs => T.bind (needSize xs.length) fun _ => T.pure (.tup xs)) (argsC (fun g => T.bind ((argsC (fun _ => T.pure (.str "family")) (argsC (fun _ => cloD P (cloC 1) n) args0)) g) fun xs => T.bind (needSize xs.length) fun _ => T.pure (.tup xs)) (argsC (fun g => T.bind ((argsC (fun _ => T.pure (.str "text")) (argsC (fun _ => cloD P (cloC 2) n) args0)) g) fun xs => T.bind (needSize xs.length) fun _ => T.pure (.tup xs)) (argsC (fun g => T.bind ((argsC (fun _ => T.pure (.str "unlike")) (argsC (fun _ => cloD P (cloC 3) n) args0)) g) fun xs => T.bind (needSize xs.length) fun _ => T.pure (.tup xs)) (argsC (fun g => T.bind ((argsC (fun _ => T.pure (.str "unlike")) (argsC (fun _ => cloD P (cloC 4) n) args0)) g) fun xs => T.bind (needSize xs.length) fun _ => T.pure (.tup xs)) (argsC (fun g => T.bind ((argsC (fun _ => T.pure (.str "unlike")) (argsC (fun _ => cloD P (cloC 5) n) args0)) g) fun xs => T.bind (needSize xs.length) fun _ => T.pure (.tup xs)) (argsC (fun g => T.bind ((argsC (fun _ => T.pure (.str "unlike")) (argsC (fun _ => cloD P (cloC 6) n) args0)) g) fun xs => T.bind (needSize xs.length) fun _ => T.pure (.tup xs)) (argsC (fun g => T.bind ((argsC (fun _ => T.pure (.str "set")) (argsC (fun _ => cloD P (cloC 7) n) args0)) g) fun xs => T.bind (needSize xs.length) fun _ => T.pure (.tup xs)) (argsC (fun g => T.bind ((argsC (fun _ => T.pure (.str "set")) (argsC (fun _ => cloD P (cloC 8) n) args0)) g) fun xs => T.bind (needSize xs.length) fun _ => T.pure (.tup xs)) (argsC (fun g => T.bind ((argsC (fun _ => T.pure (.str "set")) (argsC (fun _ => cloD P (cloC 9) n) args0)) g) fun xs => T.bind (needSize xs.length) fun _ => T.pure (.tup xs)) (argsC (fun g => T.bind ((argsC (fun _ => T.pure (.str "number")) (argsC (fun _ => cloD P (cloC 10) n) args0)) g) fun xs => T.bind (needSize xs.length) fun _ => T.pure (.tup xs)) (argsC (fun g => T.bind ((argsC (fun _ => T.pure (.str "letters")) (argsC (fun _ => cloD P (cloC 11) n) args0)) g) fun xs => T.bind (needSize xs.length) fun _ => T.pure (.tup xs)) (argsC (fun g => T.bind ((argsC (fun _ => T.pure (.str "set")) (argsC (fun _ => cloD P (cloC 12) n) args0)) g) fun xs => T.bind (needSize xs.length) fun _ => T.pure (.tup xs)) (argsC (fun g => T.bind ((argsC (fun _ => T.pure (.str "set")) (argsC (fun _ => cloD P (cloC 13) n) args0)) g) fun xs => T.bind (needSize xs.length) fun _ => T.pure (.tup xs)) (argsC (fun g => T.bind ((argsC (fun _ => T.pure (.str "letter")) (argsC (fun _ => cloD P (cloC 14) n) args0)) g) fun xs => T.bind (needSize xs.length) fun _ => T.pure (.tup xs)) (argsC (fun g => T.bind ((argsC (fun _ => T.pure (.str "set")) (argsC (fun _ => cloD P (cloC 15) n) args0)) g) fun xs => T.bind (needSize xs.length) fun _ => T.pure (.tup xs)) (argsC (fun g => T.bind ((argsC (fun _ => T.pure (.str "number")) (argsC (fun _ => cloD P (cloC 16) n) args0)) g) fun xs => T.bind (needSize xs.length) fun _ => T.pure (.tup xs)) args0))))))))))))))))) g) fun xs => T.bind (needSize xs.length) fun _ => T.pure (.lst xs)
theorem X__law_calls_of : ∃ F : Addr → List D → T D, F = fun P => callsC (defScope s__law_calls_of) psC (m__law_calls_of P) := ⟨_, rfl⟩
noncomputable def F__law_calls_of : Addr → List D → T D := Classical.choose X__law_calls_of
theorem F__law_calls_of_eq : F__law_calls_of = fun P => callsC (defScope s__law_calls_of) psC (m__law_calls_of P) := Classical.choose_spec X__law_calls_of
section
variable {P : Program} {w : World} {K : PySem.W.Frag} {mg : Str → Option Value} {base : Heap}
theorem okc__law_calls_of (Fn : DefF K mg "_law_calls_of" s__law_calls_of) (TB : LamX.TabB base mg (He.cT K ("_law_calls_of", none)).1 (He.cT K ("_law_calls_of", none)).2) : Ok P w K mg base 2 "_law_calls_of" psC (F__law_calls_of (He.cT K ("_law_calls_of", none)).2) :=
  mk_okC (m := m__law_calls_of (He.cT K ("_law_calls_of", none)).2) (k := 1) Fn sc__law_calls_of rfl (by decide +kernel) (fun _ _ _ _ _ _ us hl => match us, hl with | [_, _, _], _ => rfl) (fun cdv A outer s H E hcdv hr => XN.stay (x_lst (a_cons (x_tup (a_cons x_str (a_cons (x_clo (Z := cloC 0) (n := s.heap.objs.size) TB hcdv (by kernel_rfl) rfl rfl rfl) a_nil))) (a_cons (x_tup (a_cons x_str (a_cons (x_clo (Z := cloC 1) (n := s.heap.objs.size) TB hcdv (by kernel_rfl) rfl rfl rfl) a_nil))) (a_cons (x_tup (a_cons x_str (a_cons (x_clo (Z := cloC 2) (n := s.heap.objs.size) TB hcdv (by kernel_rfl) rfl rfl rfl) a_nil))) (a_cons (x_tup (a_cons x_str (a_cons (x_clo (Z := cloC 3) (n := s.heap.objs.size) TB hcdv (by kernel_rfl) rfl rfl rfl) a_nil))) (a_cons (x_tup (a_cons x_str (a_cons (x_clo (Z := cloC 4) (n := s.heap.objs.size) TB hcdv (by kernel_rfl) rfl rfl rfl) a_nil))) (a_cons (x_tup (a_cons x_str (a_cons (x_clo (Z := cloC 5) (n := s.heap.objs.size) TB hcdv (by kernel_rfl) rfl rfl rfl) a_nil))) (a_cons (x_tup (a_cons x_str (a_cons (x_clo (Z := cloC 6) (n := s.heap.objs.size) TB hcdv (by kernel_rfl) rfl rfl rfl) a_nil))) (a_cons (x_tup (a_cons x_str (a_cons (x_clo (Z := cloC 7) (n := s.heap.objs.size) TB hcdv (by kernel_rfl) rfl rfl rfl) a_nil))) (a_cons (x_tup (a_cons x_str (a_cons (x_clo (Z := cloC 8) (n := s.heap.objs.size) TB hcdv (by kernel_rfl) rfl rfl rfl) a_nil))) (a_cons (x_tup (a_cons x_str (a_cons (x_clo (Z := cloC 9) (n := s.heap.objs.size) TB hcdv (by kernel_rfl) rfl rfl rfl) a_nil))) (a_cons (x_tup (a_cons x_str (a_cons (x_clo (Z := cloC 10) (n := s.heap.objs.size) TB hcdv (by kernel_rfl) rfl rfl rfl) a_nil))) (a_cons (x_tup (a_cons x_str (a_cons (x_clo (Z := cloC 11) (n := s.heap.objs.size) TB hcdv (by kernel_rfl) rfl rfl rfl) a_nil))) (a_cons (x_tup (a_cons x_str (a_cons (x_clo (Z := cloC 12) (n := s.heap.objs.size) TB hcdv (by kernel_rfl) rfl rfl rfl) a_nil))) (a_cons (x_tup (a_cons x_str (a_cons (x_clo (Z := cloC 13) (n := s.heap.objs.size) TB hcdv (by kernel_rfl) rfl rfl rfl) a_nil))) (a_cons (x_tup (a_cons x_str (a_cons (x_clo (Z := cloC 14) (n := s.heap.objs.size) TB hcdv (by kernel_rfl) rfl rfl rfl) a_nil))) (a_cons (x_tup (a_cons x_str (a_cons (x_clo (Z := cloC 15) (n := s.heap.objs.size) TB hcdv (by kernel_rfl) rfl rfl rfl) a_nil))) (a_cons (x_tup (a_cons x_str (a_cons (x_clo (Z := cloC 16) (n := s.heap.objs.size) TB hcdv (by kernel_rfl) rfl rfl rfl) a_nil))) a_nil))))))))))))))))))) (fun ds S Qd Ed hl h => by rw [F__law_calls_of_eq] at h; exact h)
end
end Em

set_option Elab.async false
set_option linter.all false
set_option maxRecDepth 100000
set_option maxHeartbeats 4000000
namespace Em
open PySem PySem.Spec PyProof.Rows L2 DL OrdS

noncomputable def m_is_number : MS := (fun g => T.bind ((fun g => T.bind ((fun g => T.bind ((argsC (fun g => getv g 0) (argsC (fun _ => T.pure (.ty "int")) args0)) g) dIsi) g) fun x => T.bind (dAsB x) fun k => T.ite k ((fun g => T.bind ((fun g => T.bind ((fun g => T.bind ((argsC (fun g => getv g 0) (argsC (fun _ => T.pure (.ty "bool")) args0)) g) dIsi) g) fun x => T.bind (dAsB x) fun k => T.pure (.bl (!k))) g) fun x => T.bind (dAsB x) fun k => T.ite k ((fun g => T.bind ((fun g => getv g 1) g) fun x => T.bind ((fun g => getv g 0) g) fun y => T.bind (dLe x y) fun z => T.bind (dAsB z) fun k => T.ite k (T.bind ((fun g => getv g 2) g) fun w => dLe y w) (T.pure (.bl false))) g) (T.pure (.bl false))) g) (T.pure (.bl false))) g) fun d => T.pure (.rt d))
theorem X_is_number : ∃ f : List D → T D, f = fun ds => runD (m_is_number) 3 ds := ⟨_, rfl⟩
noncomputable def F_is_number : List D → T D := Classical.choose X_is_number
theorem F_is_number_eq : F_is_number = fun ds => runD (m_is_number) 3 ds := Classical.choose_spec X_is_number
noncomputable def m_is_good_set : MS := (fun g => T.bind ((fun g => T.bind ((fun g => T.bind ((fun g => T.bind ((fun g => T.bind ((argsC (fun g => getv g 1) (argsC (fun _ => T.pure (.ty "str")) args0)) g) dIsi) g) dTru) g) fun k => T.pure (!k)) g) fun k => T.ite k ((fun g => T.bind ((fun _ => T.pure (.bl false)) g) fun d => T.pure (.rt d)) g) ((fun g => T.pure (.nx g)) g)) g) fun o => thenO o (fun g => T.bind ((fun g => T.bind ((fun g => getv g 1) g) fun x => T.bind ((fun g => T.bind ((fun _ => T.pure (.str "")) g) fun x => T.bind (dAsS x) fun s => T.bind ((dLc (fun g => T.bind ((fun g => T.bind ((fun _ => T.pure (.str "abcd")) g) fun d => T.bind ((fun _ => T.pure none) g) fun i => T.bind ((fun g => T.bind ((fun g => getv g 0) g) fun d => T.bind (dAsI d) fun i => T.pure (some i)) g) fun j => dSl d i j) g) dItS) [2] (gN 2) (fun g => T.bind ((fun g => T.bind ((fun g => getv g 2) g) fun x => T.bind ((fun g => getv g 1) g) fun y => (dIn false) x y) g) dAsB) (fun g => getv g 2)) g) fun y => dJoin s y) g) fun y => dEq x y) g) fun d => T.pure (.rt d)))
theorem X_is_good_set : ∃ f : List D → T D, f = fun ds => runD (m_is_good_set) 3 ds := ⟨_, rfl⟩
noncomputable def F_is_good_set : List D → T D := Classical.choose X_is_good_set
theorem F_is_good_set_eq : F_is_good_set = fun ds => runD (m_is_good_set) 3 ds := Classical.choose_spec X_is_good_set
noncomputable def m_is_good_family : MS := (fun g => T.bind ((fun g => T.bind ((fun g => T.bind ((fun g => T.bind ((fun g => T.bind ((fun g => T.bind ((argsC (fun g => getv g 1) (argsC (fun _ => T.pure (.ty "tuple")) args0)) g) dIsi) g) dTru) g) fun k => T.pure (!k)) g) fun k => T.ite k (T.pure true) ((fun g => T.bind ((fun g => T.bind ((fun g => T.bind ((argsC (dLc (fun g => T.bind ((fun g => getv g 1) g) dItT) [2] (gN 2) tY (fun g => T.bind ((argsC (fun g => getv g 0) (argsC (fun g => getv g 2) args0)) g) fun ds => T.bind (dNeed (ds.length = 2)) fun _ => F_is_good_set ds)) args0) g) dAll) g) dTru) g) fun k => T.pure (!k)) g)) g) fun k => T.ite k ((fun g => T.bind ((fun _ => T.pure (.bl false)) g) fun d => T.pure (.rt d)) g) ((fun g => T.pure (.nx g)) g)) g) fun o => thenO o (fun g => T.bind ((fun g => T.bind ((argsC (dLc (fun g => T.bind ((argsC (fun g => getv g 1) (argsC (fun g => T.bind ((fun g => getv g 1) g) fun d => T.bind ((fun g => T.bind ((fun _ => T.pure (.int 1)) g) fun d => T.bind (dAsI d) fun i => T.pure (some i)) g) fun i => T.bind ((fun _ => T.pure none) g) fun j => dSl d i j) args0)) g) dZip) [2, 3] (gT2 2 3) tY (fun g => T.bind ((fun g => getv g 2) g) fun x => T.bind ((fun g => getv g 3) g) fun y => dLt x y)) args0) g) dAll) g) fun d => T.pure (.rt d)))
theorem X_is_good_family : ∃ f : List D → T D, f = fun ds => runD (m_is_good_family) 4 ds := ⟨_, rfl⟩
noncomputable def F_is_good_family : List D → T D := Classical.choose X_is_good_family
theorem F_is_good_family_eq : F_is_good_family = fun ds => runD (m_is_good_family) 4 ds := Classical.choose_spec X_is_good_family
noncomputable def m_need_letters : MS := (fun g => T.bind ((fun g => T.bind ((fun g => T.bind ((fun g => T.bind ((argsC (fun g => getv g 0) (argsC (fun _ => T.pure (.int 1)) (argsC (fun g => getv g 1) args0))) g) fun ds => T.bind (dNeed (ds.length = 3)) fun _ => F_is_number ds) g) dTru) g) fun k => T.pure (!k)) g) fun k => T.ite k ((fun _ => T.raise ⟨"InvalidLetters", []⟩) g) ((fun g => T.pure (.nx g)) g))
theorem X_need_letters : ∃ f : List D → T D, f = fun ds => runD (m_need_letters) 2 ds := ⟨_, rfl⟩
noncomputable def F_need_letters : List D → T D := Classical.choose X_need_letters
theorem F_need_letters_eq : F_need_letters = fun ds => runD (m_need_letters) 2 ds := Classical.choose_spec X_need_letters
noncomputable def m_need_family : MS := (fun g => T.bind ((fun g => T.bind ((fun g => T.bind ((fun g => T.bind ((argsC (fun g => getv g 0) (argsC (fun g => getv g 1) args0)) g) fun ds => T.bind (dNeed (ds.length = 2)) fun _ => F_is_good_family ds) g) dTru) g) fun k => T.pure (!k)) g) fun k => T.ite k ((fun _ => T.raise ⟨"InvalidFamily", []⟩) g) ((fun g => T.pure (.nx g)) g))
theorem X_need_family : ∃ f : List D → T D, f = fun ds => runD (m_need_family) 2 ds := ⟨_, rfl⟩
noncomputable def F_need_family : List D → T D := Classical.choose X_need_family
theorem F_need_family_eq : F_need_family = fun ds => runD (m_need_family) 2 ds := Classical.choose_spec X_need_family
noncomputable def m_need_set : MS := (fun g => T.bind ((fun g => T.bind ((fun g => T.bind ((fun g => T.bind ((argsC (fun g => getv g 0) (argsC (fun g => getv g 1) args0)) g) fun ds => T.bind (dNeed (ds.length = 2)) fun _ => F_is_good_set ds) g) dTru) g) fun k => T.pure (!k)) g) fun k => T.ite k ((fun _ => T.raise ⟨"InvalidSet", []⟩) g) ((fun g => T.pure (.nx g)) g))
theorem X_need_set : ∃ f : List D → T D, f = fun ds => runD (m_need_set) 2 ds := ⟨_, rfl⟩
noncomputable def F_need_set : List D → T D := Classical.choose X_need_set
theorem F_need_set_eq : F_need_set = fun ds => runD (m_need_set) 2 ds := Classical.choose_spec X_need_set
noncomputable def m_joined : MS := (fun g => T.bind ((fun g => T.bind ((fun _ => T.pure (.str "")) g) fun x => T.bind (dAsS x) fun s => T.bind ((dLc (fun g => T.bind ((fun _ => T.pure (.str "abcd")) g) dItS) [2] (gN 2) (fun g => T.bind ((fun g => T.bind ((fun g => T.bind ((fun g => getv g 2) g) fun x => T.bind ((fun g => getv g 0) g) fun y => (dIn false) x y) g) dAsB) g) fun k => T.ite k (T.pure true) ((fun g => T.bind ((fun g => T.bind ((fun g => getv g 2) g) fun x => T.bind ((fun g => getv g 1) g) fun y => (dIn false) x y) g) dAsB) g)) (fun g => getv g 2)) g) fun y => dJoin s y) g) fun d => T.pure (.rt d))
theorem X_joined : ∃ f : List D → T D, f = fun ds => runD (m_joined) 3 ds := ⟨_, rfl⟩
noncomputable def F_joined : List D → T D := Classical.choose X_joined
theorem F_joined_eq : F_joined = fun ds => runD (m_joined) 3 ds := Classical.choose_spec X_joined
noncomputable def m_met : MS := (fun g => T.bind ((fun g => T.bind ((fun _ => T.pure (.str "")) g) fun x => T.bind (dAsS x) fun s => T.bind ((dLc (fun g => T.bind ((fun g => getv g 0) g) dItS) [2] (gN 2) (fun g => T.bind ((fun g => T.bind ((fun g => getv g 2) g) fun x => T.bind ((fun g => getv g 1) g) fun y => (dIn false) x y) g) dAsB) (fun g => getv g 2)) g) fun y => dJoin s y) g) fun d => T.pure (.rt d))
theorem X_met : ∃ f : List D → T D, f = fun ds => runD (m_met) 3 ds := ⟨_, rfl⟩
noncomputable def F_met : List D → T D := Classical.choose X_met
theorem F_met_eq : F_met = fun ds => runD (m_met) 3 ds := Classical.choose_spec X_met
noncomputable def m_less : MS := (fun g => T.bind ((fun g => T.bind ((fun _ => T.pure (.str "")) g) fun x => T.bind (dAsS x) fun s => T.bind ((dLc (fun g => T.bind ((fun g => getv g 0) g) dItS) [2] (gN 2) (fun g => T.bind ((fun g => T.bind ((fun g => getv g 2) g) fun x => T.bind ((fun g => getv g 1) g) fun y => (dIn true) x y) g) dAsB) (fun g => getv g 2)) g) fun y => dJoin s y) g) fun d => T.pure (.rt d))
theorem X_less : ∃ f : List D → T D, f = fun ds => runD (m_less) 3 ds := ⟨_, rfl⟩
noncomputable def F_less : List D → T D := Classical.choose X_less
theorem F_less_eq : F_less = fun ds => runD (m_less) 3 ds := Classical.choose_spec X_less
noncomputable def m_is_in : MS := (fun g => T.bind ((fun g => T.bind ((fun g => T.bind ((argsC (fun g => getv g 0) (argsC (fun g => getv g 1) args0)) g) fun ds => T.bind (dNeed (ds.length = 2)) fun _ => F_less ds) g) fun x => T.bind ((fun _ => T.pure (.str "")) g) fun y => dEq x y) g) fun d => T.pure (.rt d))
theorem X_is_in : ∃ f : List D → T D, f = fun ds => runD (m_is_in) 2 ds := ⟨_, rfl⟩
noncomputable def F_is_in : List D → T D := Classical.choose X_is_in
theorem F_is_in_eq : F_is_in = fun ds => runD (m_is_in) 2 ds := Classical.choose_spec X_is_in
noncomputable def m_every_set : MS := (fun g => T.bind ((setV (fun g => T.bind ((argsC (fun _ => T.pure (.str "")) args0) g) fun xs => T.bind (needSize xs.length) fun _ => T.pure (.lst xs)) 1) g) fun o => thenO o (fun g => T.bind ((fun g => T.bind ((fun g => T.bind ((fun g => T.bind ((fun _ => T.pure (.str "abcd")) g) fun d => T.bind ((fun _ => T.pure none) g) fun i => T.bind ((fun g => T.bind ((fun g => getv g 0) g) fun d => T.bind (dAsI d) fun i => T.pure (some i)) g) fun j => dSl d i j) g) dItS) g) fun ds => forT (gN 2) (setV (fun g => T.bind ((fun g => getv g 1) g) fun x => T.bind ((dLc (fun g => T.bind ((fun g => getv g 1) g) dItL) [3] (gN 3) tY (fun g => T.bind ((fun g => getv g 3) g) fun x => T.bind ((fun g => getv g 2) g) fun y => dAdd x y)) g) fun y => dCat x y) 1) ds g) g) fun o => thenO o (fun g => T.bind ((fun g => T.bind ((argsC (fun g => T.bind ((argsC (fun g => getv g 1) args0) g) dSorted) args0) g) dTuple) g) fun d => T.pure (.rt d))))
theorem X_every_set : ∃ f : List D → T D, f = fun ds => runD (m_every_set) 4 ds := ⟨_, rfl⟩
noncomputable def F_every_set : List D → T D := Classical.choose X_every_set
theorem F_every_set_eq : F_every_set = fun ds => runD (m_every_set) 4 ds := Classical.choose_spec X_every_set
noncomputable def m_joins_of : MS := (fun g => T.bind ((fun g => T.bind ((argsC (fun g => T.bind ((dLc2 (fun g => T.bind ((fun g => getv g 0) g) dItT) [2, 3] (gN 2) tY (fun g => T.bind ((fun g => getv g 1) g) dItT) [3] (gN 3) tY (fun g => T.bind ((argsC (fun g => getv g 2) (argsC (fun g => getv g 3) args0)) g) fun ds => T.bind (dNeed (ds.length = 2)) fun _ => F_joined ds)) g) dSset) args0) g) dTuple) g) fun d => T.pure (.rt d))
theorem X_joins_of : ∃ f : List D → T D, f = fun ds => runD (m_joins_of) 4 ds := ⟨_, rfl⟩
noncomputable def F_joins_of : List D → T D := Classical.choose X_joins_of
theorem F_joins_of_eq : F_joins_of = fun ds => runD (m_joins_of) 4 ds := Classical.choose_spec X_joins_of
noncomputable def m_meets_of : MS := (fun g => T.bind ((fun g => T.bind ((argsC (fun g => T.bind ((dLc2 (fun g => T.bind ((fun g => getv g 0) g) dItT) [2, 3] (gN 2) tY (fun g => T.bind ((fun g => getv g 1) g) dItT) [3] (gN 3) tY (fun g => T.bind ((argsC (fun g => getv g 2) (argsC (fun g => getv g 3) args0)) g) fun ds => T.bind (dNeed (ds.length = 2)) fun _ => F_met ds)) g) dSset) args0) g) dTuple) g) fun d => T.pure (.rt d))
theorem X_meets_of : ∃ f : List D → T D, f = fun ds => runD (m_meets_of) 4 ds := ⟨_, rfl⟩
noncomputable def F_meets_of : List D → T D := Classical.choose X_meets_of
theorem F_meets_of_eq : F_meets_of = fun ds => runD (m_meets_of) 4 ds := Classical.choose_spec X_meets_of
noncomputable def m_differences_of : MS := (fun g => T.bind ((fun g => T.bind ((argsC (fun g => T.bind ((dLc2 (fun g => T.bind ((fun g => getv g 0) g) dItT) [2, 3] (gN 2) tY (fun g => T.bind ((fun g => getv g 1) g) dItT) [3] (gN 3) tY (fun g => T.bind ((argsC (fun g => getv g 2) (argsC (fun g => getv g 3) args0)) g) fun ds => T.bind (dNeed (ds.length = 2)) fun _ => F_less ds)) g) dSset) args0) g) dTuple) g) fun d => T.pure (.rt d))
theorem X_differences_of : ∃ f : List D → T D, f = fun ds => runD (m_differences_of) 4 ds := ⟨_, rfl⟩
noncomputable def F_differences_of : List D → T D := Classical.choose X_differences_of
theorem F_differences_of_eq : F_differences_of = fun ds => runD (m_differences_of) 4 ds := Classical.choose_spec X_differences_of
noncomputable def m_need_letter : MS := (fun g => T.bind ((fun g => T.bind ((fun g => T.bind ((fun g => T.bind ((fun g => T.bind ((argsC (fun g => getv g 1) (argsC (fun _ => T.pure (.ty "str")) args0)) g) dIsi) g) dTru) g) fun k => T.pure (!k)) g) fun k => T.ite k (T.pure true) ((fun g => T.bind ((fun g => T.bind ((fun g => T.bind ((fun g => T.bind ((argsC (fun g => getv g 1) args0) g) dLen) g) fun x => T.bind ((fun _ => T.pure (.int 1)) g) fun y => dNe x y) g) dAsB) g) fun k => T.ite k (T.pure true) ((fun g => T.bind ((fun g => T.bind ((fun g => getv g 1) g) fun x => T.bind ((fun g => T.bind ((fun _ => T.pure (.str "abcd")) g) fun d => T.bind ((fun _ => T.pure none) g) fun i => T.bind ((fun g => T.bind ((fun g => getv g 0) g) fun d => T.bind (dAsI d) fun i => T.pure (some i)) g) fun j => dSl d i j) g) fun y => (dIn true) x y) g) dAsB) g)) g)) g) fun k => T.ite k ((fun _ => T.raise ⟨"InvalidLetter", []⟩) g) ((fun g => T.pure (.nx g)) g))
theorem X_need_letter : ∃ f : List D → T D, f = fun ds => runD (m_need_letter) 2 ds := ⟨_, rfl⟩
noncomputable def F_need_letter : List D → T D := Classical.choose X_need_letter
theorem F_need_letter_eq : F_need_letter = fun ds => runD (m_need_letter) 2 ds := Classical.choose_spec X_need_letter
noncomputable def m_squeezed_by : MS := (fun g => T.bind ((setO (fun g => T.bind (args0 g) fun xs => T.bind (needSize xs.length) fun _ => T.pure (.lst xs)) 2) g) fun o => thenO o (fun g => T.bind ((fun g => T.bind ((fun g => T.bind ((fun g => getv g 0) g) dItT) g) fun ds => forT (gN 3) (fun g => T.bind ((setV (fun g => T.bind ((argsC (fun g => getv g 3) (argsC (fun g => getv g 1) args0)) g) fun ds => T.bind (dNeed (ds.length = 2)) fun _ => F_less ds) 4) g) fun o => thenO o (appO 2 (fun g => T.bind ((fun g => T.bind ((fun g => T.bind ((fun g => getv g 4) g) fun x => T.bind ((fun g => getv g 0) g) fun y => (dIn false) x y) g) dAsB) g) fun k => T.ite k ((fun g => getv g 3) g) ((fun g => getv g 4) g)))) ds g) g) fun o => thenO o (fun g => T.bind ((fun g => T.bind ((argsC (fun g => T.bind ((argsC (fun g => getb g 2) args0) g) dSorted) args0) g) dTuple) g) fun d => T.pure (.rt d))))
theorem X_squeezed_by : ∃ f : List D → T D, f = fun ds => runD (m_squeezed_by) 5 ds := ⟨_, rfl⟩
noncomputable def F_squeezed_by : List D → T D := Classical.choose X_squeezed_by
theorem F_squeezed_by_eq : F_squeezed_by = fun ds => runD (m_squeezed_by) 5 ds := Classical.choose_spec X_squeezed_by
noncomputable def m_picks : MS := (fun g => T.bind ((setV (dLc (fun g => T.bind ((fun g => getv g 0) g) dItT) [3] (gN 3) tY (fun g => T.bind ((argsC (fun g => getv g 1) (argsC (fun g => getv g 3) args0)) g) fun ds => T.bind (dNeed (ds.length = 2)) fun _ => F_met ds)) 2) g) fun o => thenO o (fun g => T.bind ((fun g => T.bind ((argsC (dLc (fun g => T.bind ((fun g => T.bind ((argsC (fun _ => T.pure (.int 4)) args0) g) fun ds => T.bind (dNeed (ds.length = 1)) fun _ => F_every_set ds) g) dItT) [4] (gN 4) (fun g => T.bind ((fun g => T.bind ((argsC (fun g => getv g 4) (argsC (fun g => getv g 1) args0)) g) fun ds => T.bind (dNeed (ds.length = 2)) fun _ => F_is_in ds) g) dTru) (fun g => T.bind ((fun g => getv g 4) g) fun x => T.bind ((fun g => getv g 2) g) fun y => (dIn false) x y)) args0) g) dAll) g) fun d => T.pure (.rt d)))
theorem X_picks : ∃ f : List D → T D, f = fun ds => runD (m_picks) 5 ds := ⟨_, rfl⟩
noncomputable def F_picks : List D → T D := Classical.choose X_picks
theorem F_picks_eq : F_picks = fun ds => runD (m_picks) 5 ds := Classical.choose_spec X_picks
noncomputable def m_word_of : MS := (fun g => T.bind ((fun g => T.bind ((fun g => T.bind ((fun g => T.bind ((fun g => getv g 0) g) fun x => T.bind ((fun _ => T.pure (.str "")) g) fun y => dNe x y) g) dAsB) g) fun k => T.ite k ((fun g => getv g 0) g) ((fun _ => T.pure (.str "-")) g)) g) fun d => T.pure (.rt d))
theorem X_word_of : ∃ f : List D → T D, f = fun ds => runD (m_word_of) 1 ds := ⟨_, rfl⟩
noncomputable def F_word_of : List D → T D := Classical.choose X_word_of
theorem F_word_of_eq : F_word_of = fun ds => runD (m_word_of) 1 ds := Classical.choose_spec X_word_of
noncomputable def m_text_of : MS := (fun g => T.bind ((fun g => T.bind ((fun _ => T.pure (.str " ")) g) fun x => T.bind (dAsS x) fun s => T.bind ((fun g => T.bind ((fun g => T.bind ((argsC (fun g => T.bind ((argsC (fun g => getv g 0) args0) g) dStrI) args0) g) fun xs => T.bind (needSize xs.length) fun _ => T.pure (.lst xs)) g) fun x => T.bind ((dLc (fun g => T.bind ((fun g => getv g 1) g) dItT) [2] (gN 2) tY (fun g => T.bind ((argsC (fun g => getv g 2) args0) g) fun ds => T.bind (dNeed (ds.length = 1)) fun _ => F_word_of ds)) g) fun y => dCat x y) g) fun y => dJoin s y) g) fun d => T.pure (.rt d))
theorem X_text_of : ∃ f : List D → T D, f = fun ds => runD (m_text_of) 3 ds := ⟨_, rfl⟩
noncomputable def F_text_of : List D → T D := Classical.choose X_text_of
theorem F_text_of_eq : F_text_of = fun ds => runD (m_text_of) 3 ds := Classical.choose_spec X_text_of
noncomputable def m_family_in : MS := (fun g => T.bind ((fun g => T.bind ((fun g => T.bind ((fun g => T.bind ((fun g => T.bind ((argsC (fun g => getv g 0) (argsC (fun _ => T.pure (.ty "str")) args0)) g) dIsi) g) dTru) g) fun k => T.pure (!k)) g) fun k => T.ite k ((fun _ => T.raise ⟨"InvalidText", []⟩) g) ((fun g => T.pure (.nx g)) g)) g) fun o => thenO o (fun g => T.bind ((setV (fun g => T.bind ((fun g => getv g 0) g) fun x => T.bind (dAsS x) fun a => T.bind ((fun _ => T.pure (.str " ")) g) (dSplit a)) 1) g) fun o => thenO o (fun g => T.bind ((fun g => T.bind ((fun g => T.bind ((fun g => T.bind ((fun g => T.bind ((fun g => getv g 1) g) fun x => T.bind ((fun _ => T.pure (.int 0)) g) fun y => dIx x y) g) fun x => T.bind ((fun g => T.bind ((argsC (fun _ => T.pure (.str "1")) (argsC (fun _ => T.pure (.str "2")) (argsC (fun _ => T.pure (.str "3")) (argsC (fun _ => T.pure (.str "4")) args0)))) g) fun xs => T.bind (needSize xs.length) fun _ => T.pure (.tup xs)) g) fun y => (dIn true) x y) g) dAsB) g) fun k => T.ite k ((fun _ => T.raise ⟨"InvalidText", []⟩) g) ((fun g => T.pure (.nx g)) g)) g) fun o => thenO o (fun g => T.bind ((setV (fun g => T.bind ((argsC (fun g => T.bind ((fun g => getv g 1) g) fun x => T.bind ((fun _ => T.pure (.int 0)) g) fun y => dIx x y) args0) g) dInt1) 2) g) fun o => thenO o (fun g => T.bind ((setV (fun g => T.bind ((argsC (dLc (fun g => T.bind ((fun g => T.bind ((fun g => getv g 1) g) fun d => T.bind ((fun g => T.bind ((fun _ => T.pure (.int 1)) g) fun d => T.bind (dAsI d) fun i => T.pure (some i)) g) fun i => T.bind ((fun _ => T.pure none) g) fun j => dSl d i j) g) dItL) [4] (gN 4) tY (fun g => T.bind ((fun g => T.bind ((fun g => T.bind ((fun g => getv g 4) g) fun x => T.bind ((fun _ => T.pure (.str "-")) g) fun y => dNe x y) g) dAsB) g) fun k => T.ite k ((fun g => getv g 4) g) ((fun _ => T.pure (.str "")) g))) args0) g) dTuple) 3) g) fun o => thenO o (fun g => T.bind ((fun g => T.bind ((fun g => T.bind ((fun g => T.bind ((fun g => T.bind ((fun g => T.bind ((argsC (fun g => getv g 2) (argsC (fun g => getv g 3) args0)) g) fun ds => T.bind (dNeed (ds.length = 2)) fun _ => F_is_good_family ds) g) dTru) g) fun k => T.pure (!k)) g) fun k => T.ite k (T.pure true) ((fun g => T.bind ((fun g => T.bind ((fun g => T.bind ((argsC (fun g => getv g 2) (argsC (fun g => getv g 3) args0)) g) fun ds => T.bind (dNeed (ds.length = 2)) fun _ => F_text_of ds) g) fun x => T.bind ((fun g => getv g 0) g) fun y => dNe x y) g) dAsB) g)) g) fun k => T.ite k ((fun _ => T.raise ⟨"InvalidText", []⟩) g) ((fun g => T.pure (.nx g)) g)) g) fun o => thenO o (fun g => T.bind ((fun g => T.bind ((argsC (fun g => getv g 2) (argsC (fun g => getv g 3) args0)) g) fun xs => T.bind (needSize xs.length) fun _ => T.pure (.tup xs)) g) fun d => T.pure (.rt d))))))))
theorem X_family_in : ∃ f : List D → T D, f = fun ds => runD (m_family_in) 5 ds := ⟨_, rfl⟩
noncomputable def F_family_in : List D → T D := Classical.choose X_family_in
theorem F_family_in_eq : F_family_in = fun ds => runD (m_family_in) 5 ds := Classical.choose_spec X_family_in
noncomputable def m_exchanged : MS := (fun g => T.bind ((fun g => T.bind ((fun g => T.bind ((fun g => T.bind ((fun g => getv g 1) g) fun x => T.bind ((fun g => getv g 0) g) fun y => (dIn false) x y) g) dAsB) g) fun k => T.ite k ((fun g => T.bind ((fun g => T.bind ((argsC (dLc (fun g => T.bind ((fun g => getv g 0) g) dItT) [2] (gN 2) (fun g => T.bind ((fun g => T.bind ((fun g => getv g 2) g) fun x => T.bind ((fun g => getv g 1) g) fun y => dNe x y) g) dAsB) (fun g => getv g 2)) args0) g) dTuple) g) fun d => T.pure (.rt d)) g) ((fun g => T.pure (.nx g)) g)) g) fun o => thenO o (fun g => T.bind ((fun g => T.bind ((argsC (fun g => T.bind ((argsC (fun g => T.bind ((fun g => getv g 0) g) fun x => T.bind ((fun g => T.bind ((argsC (fun g => getv g 1) args0) g) fun xs => T.bind (needSize xs.length) fun _ => T.pure (.tup xs)) g) fun y => dAdd x y) args0) g) dSortedT) args0) g) dTuple) g) fun d => T.pure (.rt d)))
theorem X_exchanged : ∃ f : List D → T D, f = fun ds => runD (m_exchanged) 3 ds := ⟨_, rfl⟩
noncomputable def F_exchanged : List D → T D := Classical.choose X_exchanged
theorem F_exchanged_eq : F_exchanged = fun ds => runD (m_exchanged) 3 ds := Classical.choose_spec X_exchanged
noncomputable def m_Bench_len : MS := (fun g => T.bind ((fun g => T.bind ((argsC (fun g => T.bind ((fun g => getv g 0) g) (dFld "Bench" "past")) args0) g) dLenM) g) fun d => T.pure (.rt d))
theorem X_Bench_len : ∃ f : List D → T D, f = fun ds => runD m_Bench_len 1 ds := ⟨_, rfl⟩
noncomputable def F_Bench_len : List D → T D := Classical.choose X_Bench_len
theorem F_Bench_len_eq : F_Bench_len = fun ds => runD m_Bench_len 1 ds := Classical.choose_spec X_Bench_len
noncomputable def m_Family_getitem : MS := (fun g => T.bind ((fun g => T.bind ((fun g => T.bind ((fun g => T.bind ((fun g => T.bind ((argsC (fun g => getv g 1) (argsC (fun _ => T.pure (.int 0)) (argsC (fun g => T.bind ((fun g => T.bind ((argsC (fun g => T.bind ((fun g => T.bind ((fun g => getv g 0) g) (dFld "Family" "base")) g) fun x => T.bind ((fun _ => T.pure (.int 1)) g) fun y => dIx x y) args0) g) dLen) g) fun x => T.bind ((fun _ => T.pure (.int 1)) g) fun y => dSub x y) args0))) g) fun ds => T.bind (dNeed (ds.length = 3)) fun _ => F_is_number ds) g) dTru) g) fun k => T.pure (!k)) g) fun k => T.ite k ((fun _ => T.raise ⟨"InvalidNumber", []⟩) g) ((fun g => T.pure (.nx g)) g)) g) fun o => thenO o (fun g => T.bind ((fun g => T.bind ((fun g => T.bind ((fun g => T.bind ((fun g => getv g 0) g) (dFld "Family" "base")) g) fun x => T.bind ((fun _ => T.pure (.int 1)) g) fun y => dIx x y) g) fun x => T.bind ((fun g => getv g 1) g) fun y => dIx x y) g) fun d => T.pure (.rt d)))
theorem X_Family_getitem : ∃ f : List D → T D, f = fun ds => runD m_Family_getitem 2 ds := ⟨_, rfl⟩
noncomputable def F_Family_getitem : List D → T D := Classical.choose X_Family_getitem
theorem F_Family_getitem_eq : F_Family_getitem = fun ds => runD m_Family_getitem 2 ds := Classical.choose_spec X_Family_getitem
noncomputable def m_Bench_getitem : MS := (fun g => T.bind ((fun g => T.bind ((fun g => T.bind ((fun g => T.bind ((fun g => T.bind ((argsC (fun g => getv g 1) (argsC (fun _ => T.pure (.int 0)) (argsC (fun g => T.bind ((fun g => T.bind ((argsC (fun g => T.bind ((fun g => getv g 0) g) (dFld "Bench" "now")) args0) g) dLen) g) fun x => T.bind ((fun _ => T.pure (.int 1)) g) fun y => dSub x y) args0))) g) fun ds => T.bind (dNeed (ds.length = 3)) fun _ => F_is_number ds) g) dTru) g) fun k => T.pure (!k)) g) fun k => T.ite k ((fun _ => T.raise ⟨"InvalidNumber", []⟩) g) ((fun g => T.pure (.nx g)) g)) g) fun o => thenO o (fun g => T.bind ((fun g => T.bind ((fun g => T.bind ((fun g => getv g 0) g) (dFld "Bench" "now")) g) fun x => T.bind ((fun g => getv g 1) g) fun y => dIx x y) g) fun d => T.pure (.rt d)))
theorem X_Bench_getitem : ∃ f : List D → T D, f = fun ds => runD m_Bench_getitem 2 ds := ⟨_, rfl⟩
noncomputable def F_Bench_getitem : List D → T D := Classical.choose X_Bench_getitem
theorem F_Bench_getitem_eq : F_Bench_getitem = fun ds => runD m_Bench_getitem 2 ds := Classical.choose_spec X_Bench_getitem
noncomputable def m__law_source : MS := (fun g => T.bind ((setV (fun _ => T.pure (.int 0)) 2) g) fun o => thenO o (fun g => T.bind ((fun g => T.bind ((fun g => T.bind ((fun g => T.bind ((fun g => getv g 1) g) fun x => T.bind ((fun g => T.bind ((argsC (fun g => getv g 0) args0) g) dLen) g) fun y => dLt x y) g) dAsB) g) fun k => T.ite k ((setV (fun g => T.bind ((argsC (fun g => T.bind ((argsC (fun g => T.bind ((fun g => getv g 0) g) fun x => T.bind ((fun g => getv g 1) g) fun y => dIx x y) args0) g) dInt1) args0) g) dAbs) 2) g) ((fun g => T.pure (.nx g)) g)) g) fun o => thenO o (fun g => T.bind ((fun g => T.bind ((fun g => T.bind ((fun g => T.bind ((fun g => getv g 2) g) fun x => T.bind ((fun g => T.bind ((fun _ => T.pure (.int 10)) g) fun x => T.bind ((fun _ => T.pure (.int 18)) g) fun y => dPow x y) g) fun y => dLt x y) g) dAsB) g) fun k => T.ite k ((fun g => T.bind ((fun g => T.bind ((argsC (fun _ => T.pure (.int 0)) (argsC (fun g => T.bind ((fun _ => T.pure (.int 1)) g) fun x => T.bind ((fun g => T.bind ((fun g => T.bind ((argsC (fun g => T.bind ((fun g => T.bind ((fun g => getv g 2) g) fun x => T.bind ((fun _ => T.pure (.int 7919)) g) fun y => dMul x y) g) fun x => T.bind ((fun g => T.bind ((fun _ => T.pure (.int 104729)) g) fun x => T.bind ((fun g => getv g 1) g) fun y => dMul x y) g) fun y => dAdd x y) args0) g) dInt1) g) fun x => T.bind ((fun _ => T.pure (.int 2147483646)) g) fun y => dMod x y) g) fun y => dAdd x y) args0)) g) fun xs => T.bind (needSize xs.length) fun _ => T.pure (.lst xs)) g) srcD) g) ((fun g => T.pure (.nx g)) g)) g) fun o => thenO o (fun g => T.bind ((fun g => T.bind ((argsC (fun g => getv g 2) (argsC (fun g => T.bind ((fun _ => T.pure (.int 1)) g) fun x => T.bind ((fun g => T.bind ((fun g => T.bind ((argsC (fun g => T.bind ((fun g => getv g 2) g) fun x => T.bind ((fun g => getv g 1) g) fun y => dAdd x y) args0) g) dInt1) g) fun x => T.bind ((fun _ => T.pure (.int 2147483646)) g) fun y => dMod x y) g) fun y => dAdd x y) args0)) g) fun xs => T.bind (needSize xs.length) fun _ => T.pure (.lst xs)) g) srcD))))
theorem X__law_source : ∃ f : List D → T D, f = fun ds => runD (m__law_source) 3 ds := ⟨_, rfl⟩
noncomputable def F__law_source : List D → T D := Classical.choose X__law_source
theorem F__law_source_eq : F__law_source = fun ds => runD (m__law_source) 3 ds := Classical.choose_spec X__law_source
noncomputable def m__law_draw : MS := (fun g => T.bind ((fun g => T.bind ((fun g => T.bind ((fun g => T.bind ((fun g => T.bind ((fun g => getv g 0) g) fun x => T.bind ((fun _ => T.pure (.int 0)) g) fun y => dIx x y) g) fun x => T.bind ((fun _ => T.pure (.int 0)) g) fun y => dGt x y) g) dAsB) g) fun k => T.ite k ((fun g => T.bind ((setV (fun g => T.bind ((fun g => T.bind ((argsC (fun g => T.bind ((fun g => getv g 0) g) fun x => T.bind ((fun _ => T.pure (.int 0)) g) fun y => dIx x y) args0) g) dInt1) g) fun x => T.bind ((fun g => getv g 1) g) fun y => dMod x y) 2) g) fun o => thenO o (fun g => T.bind ((fun g => T.bind ((fun g => T.bind ((fun g => T.bind ((fun g => getv g 0) g) fun x => T.bind ((fun _ => T.pure (.int 0)) g) fun y => dIx x y) g) fun x => T.bind ((fun g => getv g 1) g) fun y => dFdiv x y) g) fun d => T.bind ((fun g => getv g 0) g) fun x => T.bind ((fun _ => T.pure (.int 0)) g) fun y => dPut x y d g) g) fun o => thenO o (fun g => T.bind ((fun g => getv g 2) g) fun d => T.pure (.rt d)))) g) ((fun g => T.pure (.nx g)) g)) g) fun o => thenO o (fun g => T.bind ((fun g => T.bind ((fun g => T.bind ((fun g => T.bind ((argsC (fun g => T.bind ((fun g => T.bind ((fun g => getv g 0) g) fun x => T.bind ((fun _ => T.pure (.int 1)) g) fun y => dIx x y) g) fun x => T.bind ((fun _ => T.pure (.int 48271)) g) fun y => dMul x y) args0) g) dInt1) g) fun x => T.bind ((fun _ => T.pure (.int 2147483647)) g) fun y => dMod x y) g) fun d => T.bind ((fun g => getv g 0) g) fun x => T.bind ((fun _ => T.pure (.int 1)) g) fun y => dPut x y d g) g) fun o => thenO o (fun g => T.bind ((fun g => T.bind ((fun g => T.bind ((argsC (fun g => T.bind ((fun g => T.bind ((fun g => T.bind ((argsC (fun g => T.bind ((fun g => T.bind ((fun g => getv g 0) g) fun x => T.bind ((fun _ => T.pure (.int 1)) g) fun y => dIx x y) g) fun x => T.bind ((fun g => T.bind ((fun g => getv g 0) g) fun x => T.bind ((fun _ => T.pure (.int 1)) g) fun y => dIx x y) g) fun y => dMul x y) args0) g) dInt1) g) fun x => T.bind ((fun _ => T.pure (.int 2147483629)) g) fun y => dMod x y) g) fun x => T.bind ((fun _ => T.pure (.int 64)) g) fun y => dFdiv x y) args0) g) dInt1) g) fun x => T.bind ((fun g => getv g 1) g) fun y => dMod x y) g) fun d => T.pure (.rt d))))
theorem X__law_draw : ∃ f : List D → T D, f = fun ds => runD (m__law_draw) 3 ds := ⟨_, rfl⟩
noncomputable def F__law_draw : List D → T D := Classical.choose X__law_draw
theorem F__law_draw_eq : F__law_draw = fun ds => runD (m__law_draw) 3 ds := Classical.choose_spec X__law_draw
noncomputable def m__law_of : MS := (fun g => T.bind ((fun g => T.bind ((fun g => getv g 1) g) fun x => T.bind ((fun g => T.bind ((argsC (fun g => getv g 0) (argsC (fun g => T.bind ((argsC (fun g => getv g 1) args0) g) dLen) args0)) g) fun ds => T.bind (dNeed (ds.length = 2)) fun _ => F__law_draw ds) g) fun y => dIx x y) g) fun d => T.pure (.rt d))
theorem X__law_of : ∃ f : List D → T D, f = fun ds => runD (m__law_of) 2 ds := ⟨_, rfl⟩
noncomputable def F__law_of : List D → T D := Classical.choose X__law_of
theorem F__law_of_eq : F__law_of = fun ds => runD (m__law_of) 2 ds := Classical.choose_spec X__law_of
noncomputable def m_Family_call : MS := (fun g => T.bind ((fun g => T.bind ((fun g => T.bind ((argsC (fun g => T.bind ((fun g => T.bind ((fun g => getv g 0) g) (dFld "Family" "base")) g) fun x => T.bind ((fun _ => T.pure (.int 0)) g) fun y => dIx x y) (argsC (fun g => getv g 1) args0)) g) fun ds => T.bind (dNeed (ds.length = 2)) fun _ => F_need_set ds) g) fun _ => T.pure (.nx g)) g) fun o => thenO o (fun g => T.bind ((fun g => T.bind ((argsC (fun g => T.bind ((fun g => T.bind ((fun g => getv g 0) g) (dFld "Family" "base")) g) fun x => T.bind ((fun _ => T.pure (.int 1)) g) fun y => dIx x y) (argsC (fun g => getv g 1) args0)) g) fun ds => T.bind (dNeed (ds.length = 2)) fun _ => F_picks ds) g) fun d => T.pure (.rt d)))
theorem X_Family_call : ∃ f : List D → T D, f = fun ds => runD m_Family_call 2 ds := ⟨_, rfl⟩
noncomputable def F_Family_call : List D → T D := Classical.choose X_Family_call
theorem F_Family_call_eq : F_Family_call = fun ds => runD m_Family_call 2 ds := Classical.choose_spec X_Family_call
noncomputable def m_Family_ixor : MS := (fun g => T.bind ((fun g => T.bind ((fun g => T.bind ((argsC (fun g => T.bind ((fun g => T.bind ((fun g => getv g 0) g) (dFld "Family" "base")) g) fun x => T.bind ((fun _ => T.pure (.int 0)) g) fun y => dIx x y) (argsC (fun g => getv g 1) args0)) g) fun ds => T.bind (dNeed (ds.length = 2)) fun _ => F_need_set ds) g) fun _ => T.pure (.nx g)) g) fun o => thenO o (fun g => T.bind ((fun g => T.bind ((fun g => T.bind ((argsC (fun g => T.bind ((fun g => T.bind ((fun g => getv g 0) g) (dFld "Family" "base")) g) fun x => T.bind ((fun _ => T.pure (.int 0)) g) fun y => dIx x y) (argsC (fun g => T.bind ((argsC (fun g => T.bind ((fun g => T.bind ((fun g => getv g 0) g) (dFld "Family" "base")) g) fun x => T.bind ((fun _ => T.pure (.int 1)) g) fun y => dIx x y) (argsC (fun g => getv g 1) args0)) g) fun ds => T.bind (dNeed (ds.length = 2)) fun _ => F_exchanged ds) args0)) g) fun xs => T.bind (needSize xs.length) fun _ => T.pure (.tup xs)) g) fun d => T.bind ((fun g => getv g 0) g) fun x => dSetF "Family" "base" x d g) g) fun o => thenO o (fun g => T.bind ((fun g => getv g 0) g) fun d => T.pure (.rt d))))
theorem X_Family_ixor : ∃ f : List D → T D, f = fun ds => runD m_Family_ixor 2 ds := ⟨_, rfl⟩
noncomputable def F_Family_ixor : List D → T D := Classical.choose X_Family_ixor
theorem F_Family_ixor_eq : F_Family_ixor = fun ds => runD m_Family_ixor 2 ds := Classical.choose_spec X_Family_ixor
noncomputable def m__law_turned : MS := (fun g => T.bind (getv g 0) fun o => T.bind ((fun g => getv g 1) g) fun d => insOf "Family" o fun _ _ => T.bind ((needN 2 F_Family_ixor) [o, d]) fun z => T.pure (.nx (g.set 0 (.va z))))
theorem X__law_turned : ∃ f : List D → T D, f = fun ds => runD (m__law_turned) 2 ds := ⟨_, rfl⟩
noncomputable def F__law_turned : List D → T D := Classical.choose X__law_turned
theorem F__law_turned_eq : F__law_turned = fun ds => runD (m__law_turned) 2 ds := Classical.choose_spec X__law_turned
noncomputable def m_Bench_keep : MS := (fun g => T.bind ((fun g => T.bind ((fun g => T.bind ((fun g => T.bind ((fun g => T.bind ((argsC (fun g => T.bind ((fun g => getv g 0) g) (dFld "Bench" "past")) args0) g) dLenM) g) fun x => T.bind ((fun _ => T.pure (.int 40)) g) fun y => dGe x y) g) dAsB) g) fun k => T.ite k ((fun g => T.bind ((fun _ => T.pure (.int 40)) g) fun d => T.raise ⟨"TooMany", [("limit", d)]⟩) g) ((fun g => T.pure (.nx g)) g)) g) fun o => thenO o (fun g => T.bind ((setV (fun g => T.bind ((fun g => getv g 0) g) (dFld "Bench" "now")) 2) g) fun o => thenO o (fun g => T.bind ((appM (fun g => T.bind ((fun g => getv g 0) g) (dFld "Bench" "past")) (fun g => getv g 2)) g) fun o => thenO o (fun g => T.bind ((fun g => T.bind ((fun g => getv g 1) g) fun d => T.bind ((fun g => getv g 0) g) fun x => dSetF "Bench" "now" x d g) g) fun o => thenO o (fun g => T.bind ((fun g => T.bind ((fun g => getv g 2) g) fun x => T.bind ((fun g => getv g 1) g) fun y => dNe x y) g) fun d => T.pure (.rt d))))))
theorem X_Bench_keep : ∃ f : List D → T D, f = fun ds => runD m_Bench_keep 3 ds := ⟨_, rfl⟩
noncomputable def F_Bench_keep : List D → T D := Classical.choose X_Bench_keep
theorem F_Bench_keep_eq : F_Bench_keep = fun ds => runD m_Bench_keep 3 ds := Classical.choose_spec X_Bench_keep
noncomputable def m_Bench_iadd : MS := (fun g => T.bind ((fun g => T.bind ((fun g => T.bind ((fun g => T.bind ((fun g => T.bind ((fun g => T.bind ((argsC (fun g => getv g 1) (argsC (fun _ => T.pure (.ty "tuple")) args0)) g) dIsi) g) dTru) g) fun k => T.pure (!k)) g) fun k => T.ite k (T.pure true) ((fun g => T.bind ((fun g => T.bind ((fun g => T.bind ((fun g => T.bind ((argsC (fun g => getv g 1) args0) g) dLen) g) fun x => T.bind ((fun _ => T.pure (.int 16)) g) fun y => dGt x y) g) dAsB) g) fun k => T.ite k (T.pure true) ((fun g => T.bind ((fun g => T.bind ((fun g => T.bind ((argsC (dLc (fun g => T.bind ((fun g => getv g 1) g) dItT) [2] (gN 2) tY (fun g => T.bind ((argsC (fun g => T.bind ((fun g => getv g 0) g) (dFld "Bench" "base")) (argsC (fun g => getv g 2) args0)) g) fun ds => T.bind (dNeed (ds.length = 2)) fun _ => F_is_good_set ds)) args0) g) dAll) g) dTru) g) fun k => T.pure (!k)) g)) g)) g) fun k => T.ite k ((fun _ => T.raise ⟨"InvalidSet", []⟩) g) ((fun g => T.pure (.nx g)) g)) g) fun o => thenO o (fun g => T.bind ((fun g => T.bind ((fun g => T.bind ((fun g => getv g 0) g) fun d => insOf "Bench" d fun _ fs => T.bind (dNeed (fs.lookup ("keep" : Str) = none)) fun _ => T.bind ((argsC (fun g => T.bind ((argsC (fun g => T.bind ((fun g => T.bind ((fun g => T.bind ((fun g => getv g 0) g) (dFld "Bench" "now")) g) fun x => T.bind ((fun g => getv g 1) g) fun y => dAdd x y) g) dSset) args0) g) dTuple) args0) g) fun ds => needN 2 F_Bench_keep (d :: ds)) g) fun _ => T.pure (.nx g)) g) fun o => thenO o (fun g => T.bind ((fun g => getv g 0) g) fun d => T.pure (.rt d))))
theorem X_Bench_iadd : ∃ f : List D → T D, f = fun ds => runD m_Bench_iadd 3 ds := ⟨_, rfl⟩
noncomputable def F_Bench_iadd : List D → T D := Classical.choose X_Bench_iadd
theorem F_Bench_iadd_eq : F_Bench_iadd = fun ds => runD m_Bench_iadd 3 ds := Classical.choose_spec X_Bench_iadd
noncomputable def m__law_grown : MS := (fun g => T.bind (getv g 0) fun o => T.bind ((fun g => getv g 1) g) fun d => insOf "Bench" o fun _ _ => T.bind ((needN 2 F_Bench_iadd) [o, d]) fun z => T.pure (.nx (g.set 0 (.va z))))
theorem X__law_grown : ∃ f : List D → T D, f = fun ds => runD (m__law_grown) 2 ds := ⟨_, rfl⟩
noncomputable def F__law_grown : List D → T D := Classical.choose X__law_grown
theorem F__law_grown_eq : F__law_grown = fun ds => runD (m__law_grown) 2 ds := Classical.choose_spec X__law_grown
noncomputable def m_Family_init : MS := (fun g => T.bind ((fun g => T.bind ((fun g => T.bind ((argsC (fun g => getv g 1) (argsC (fun _ => T.pure (.int 4)) args0)) g) fun ds => T.bind (dNeed (ds.length = 2)) fun _ => F_need_letters ds) g) fun _ => T.pure (.nx g)) g) fun o => thenO o (fun g => T.bind ((fun g => T.bind ((fun g => T.bind ((argsC (fun g => getv g 1) (argsC (fun g => getv g 2) args0)) g) fun ds => T.bind (dNeed (ds.length = 2)) fun _ => F_need_family ds) g) fun _ => T.pure (.nx g)) g) fun o => thenO o (fun g => T.bind ((fun g => T.bind ((argsC (fun g => getv g 1) (argsC (fun g => getv g 2) args0)) g) fun xs => T.bind (needSize xs.length) fun _ => T.pure (.tup xs)) g) fun d => T.bind ((fun g => getv g 0) g) fun x => dSetF "Family" "base" x d g)))
theorem X_Family_init : ∃ f : List D → T D, f = fun ds => runD m_Family_init 3 ds := ⟨_, rfl⟩
noncomputable def F_Family_init : List D → T D := Classical.choose X_Family_init
theorem F_Family_init_eq : F_Family_init = fun ds => runD m_Family_init 3 ds := Classical.choose_spec X_Family_init
noncomputable def m_Family_need_like : MS := (fun g => T.bind ((fun g => T.bind ((fun g => T.bind ((fun g => T.bind ((fun g => T.bind ((argsC (fun g => getv g 1) (argsC (fun _ => T.pure (D.glo "Family")) args0)) g) (dIsiC "Family")) g) dTru) g) fun k => T.pure (!k)) g) fun k => T.ite k (T.pure true) ((fun g => T.bind ((fun g => T.bind ((fun g => T.bind ((fun g => T.bind ((fun g => getv g 1) g) (dFld "Family" "base")) g) fun x => T.bind ((fun _ => T.pure (.int 0)) g) fun y => dIx x y) g) fun x => T.bind ((fun g => T.bind ((fun g => T.bind ((fun g => getv g 0) g) (dFld "Family" "base")) g) fun x => T.bind ((fun _ => T.pure (.int 0)) g) fun y => dIx x y) g) fun y => dNe x y) g) dAsB) g)) g) fun k => T.ite k ((fun _ => T.raise ⟨"Unlike", []⟩) g) ((fun g => T.pure (.nx g)) g))
theorem X_Family_need_like : ∃ f : List D → T D, f = fun ds => runD m_Family_need_like 2 ds := ⟨_, rfl⟩
noncomputable def F_Family_need_like : List D → T D := Classical.choose X_Family_need_like
theorem F_Family_need_like_eq : F_Family_need_like = fun ds => runD m_Family_need_like 2 ds := Classical.choose_spec X_Family_need_like
noncomputable def m_Family_or : MS := (fun g => T.bind ((fun g => T.bind ((fun g => T.bind ((fun g => getv g 0) g) fun d => insOf "Family" d fun _ fs => T.bind (dNeed (fs.lookup ("need_like" : Str) = none)) fun _ => T.bind ((argsC (fun g => getv g 1) args0) g) fun ds => needN 2 F_Family_need_like (d :: ds)) g) fun _ => T.pure (.nx g)) g) fun o => thenO o (fun g => T.bind ((setV (fun g => T.bind ((argsC (fun g => T.bind ((fun g => T.bind ((fun g => getv g 0) g) (dFld "Family" "base")) g) fun x => T.bind ((fun _ => T.pure (.int 1)) g) fun y => dIx x y) (argsC (fun g => T.bind ((fun g => T.bind ((fun g => getv g 1) g) (dFld "Family" "base")) g) fun x => T.bind ((fun _ => T.pure (.int 1)) g) fun y => dIx x y) args0)) g) fun ds => T.bind (dNeed (ds.length = 2)) fun _ => F_joins_of ds) 2) g) fun o => thenO o (fun g => T.bind ((fun g => T.bind ((argsC (fun g => T.bind ((fun g => T.bind ((fun g => getv g 0) g) (dFld "Family" "base")) g) fun x => T.bind ((fun _ => T.pure (.int 0)) g) fun y => dIx x y) (fun g => T.bind ((fun g => getv g 2) g) fun d => T.bind (starD d) fun xs => T.bind (args0 g) fun ys => T.pure (xs ++ ys))) g) (mkT "Family" (starF 2 F_Family_init))) g) fun d => T.pure (.rt d))))
theorem X_Family_or : ∃ f : List D → T D, f = fun ds => runD m_Family_or 3 ds := ⟨_, rfl⟩
noncomputable def F_Family_or : List D → T D := Classical.choose X_Family_or
theorem F_Family_or_eq : F_Family_or = fun ds => runD m_Family_or 3 ds := Classical.choose_spec X_Family_or
noncomputable def m_Family_and : MS := (fun g => T.bind ((fun g => T.bind ((fun g => T.bind ((fun g => getv g 0) g) fun d => insOf "Family" d fun _ fs => T.bind (dNeed (fs.lookup ("need_like" : Str) = none)) fun _ => T.bind ((argsC (fun g => getv g 1) args0) g) fun ds => needN 2 F_Family_need_like (d :: ds)) g) fun _ => T.pure (.nx g)) g) fun o => thenO o (fun g => T.bind ((setV (fun g => T.bind ((argsC (fun g => T.bind ((fun g => T.bind ((fun g => getv g 0) g) (dFld "Family" "base")) g) fun x => T.bind ((fun _ => T.pure (.int 1)) g) fun y => dIx x y) (argsC (fun g => T.bind ((fun g => T.bind ((fun g => getv g 1) g) (dFld "Family" "base")) g) fun x => T.bind ((fun _ => T.pure (.int 1)) g) fun y => dIx x y) args0)) g) fun ds => T.bind (dNeed (ds.length = 2)) fun _ => F_meets_of ds) 2) g) fun o => thenO o (fun g => T.bind ((fun g => T.bind ((argsC (fun g => T.bind ((fun g => T.bind ((fun g => getv g 0) g) (dFld "Family" "base")) g) fun x => T.bind ((fun _ => T.pure (.int 0)) g) fun y => dIx x y) (fun g => T.bind ((fun g => getv g 2) g) fun d => T.bind (starD d) fun xs => T.bind (args0 g) fun ys => T.pure (xs ++ ys))) g) (mkT "Family" (starF 2 F_Family_init))) g) fun d => T.pure (.rt d))))
theorem X_Family_and : ∃ f : List D → T D, f = fun ds => runD m_Family_and 3 ds := ⟨_, rfl⟩
noncomputable def F_Family_and : List D → T D := Classical.choose X_Family_and
theorem F_Family_and_eq : F_Family_and = fun ds => runD m_Family_and 3 ds := Classical.choose_spec X_Family_and
noncomputable def m_Family_sub : MS := (fun g => T.bind ((fun g => T.bind ((fun g => T.bind ((fun g => getv g 0) g) fun d => insOf "Family" d fun _ fs => T.bind (dNeed (fs.lookup ("need_like" : Str) = none)) fun _ => T.bind ((argsC (fun g => getv g 1) args0) g) fun ds => needN 2 F_Family_need_like (d :: ds)) g) fun _ => T.pure (.nx g)) g) fun o => thenO o (fun g => T.bind ((setV (fun g => T.bind ((argsC (fun g => T.bind ((fun g => T.bind ((fun g => getv g 0) g) (dFld "Family" "base")) g) fun x => T.bind ((fun _ => T.pure (.int 1)) g) fun y => dIx x y) (argsC (fun g => T.bind ((fun g => T.bind ((fun g => getv g 1) g) (dFld "Family" "base")) g) fun x => T.bind ((fun _ => T.pure (.int 1)) g) fun y => dIx x y) args0)) g) fun ds => T.bind (dNeed (ds.length = 2)) fun _ => F_differences_of ds) 2) g) fun o => thenO o (fun g => T.bind ((fun g => T.bind ((argsC (fun g => T.bind ((fun g => T.bind ((fun g => getv g 0) g) (dFld "Family" "base")) g) fun x => T.bind ((fun _ => T.pure (.int 0)) g) fun y => dIx x y) (fun g => T.bind ((fun g => getv g 2) g) fun d => T.bind (starD d) fun xs => T.bind (args0 g) fun ys => T.pure (xs ++ ys))) g) (mkT "Family" (starF 2 F_Family_init))) g) fun d => T.pure (.rt d))))
theorem X_Family_sub : ∃ f : List D → T D, f = fun ds => runD m_Family_sub 3 ds := ⟨_, rfl⟩
noncomputable def F_Family_sub : List D → T D := Classical.choose X_Family_sub
theorem F_Family_sub_eq : F_Family_sub = fun ds => runD m_Family_sub 3 ds := Classical.choose_spec X_Family_sub
noncomputable def m_Family_le : MS := (fun g => T.bind ((fun g => T.bind ((fun g => T.bind ((fun g => getv g 0) g) fun d => insOf "Family" d fun _ fs => T.bind (dNeed (fs.lookup ("need_like" : Str) = none)) fun _ => T.bind ((argsC (fun g => getv g 1) args0) g) fun ds => needN 2 F_Family_need_like (d :: ds)) g) fun _ => T.pure (.nx g)) g) fun o => thenO o (fun g => T.bind ((fun g => T.bind ((argsC (dLc (fun g => T.bind ((fun g => T.bind ((fun g => T.bind ((fun g => getv g 0) g) (dFld "Family" "base")) g) fun x => T.bind ((fun _ => T.pure (.int 1)) g) fun y => dIx x y) g) dItT) [2] (gN 2) tY (fun g => T.bind ((fun g => getv g 2) g) fun x => T.bind ((fun g => T.bind ((fun g => T.bind ((fun g => getv g 1) g) (dFld "Family" "base")) g) fun x => T.bind ((fun _ => T.pure (.int 1)) g) fun y => dIx x y) g) fun y => (dIn false) x y)) args0) g) dAll) g) fun d => T.pure (.rt d)))
theorem X_Family_le : ∃ f : List D → T D, f = fun ds => runD m_Family_le 3 ds := ⟨_, rfl⟩
noncomputable def F_Family_le : List D → T D := Classical.choose X_Family_le
theorem F_Family_le_eq : F_Family_le = fun ds => runD m_Family_le 3 ds := Classical.choose_spec X_Family_le
noncomputable def m_Family_xor : MS := (fun g => T.bind ((fun g => T.bind ((fun g => T.bind ((argsC (fun g => T.bind ((fun g => T.bind ((fun g => getv g 0) g) (dFld "Family" "base")) g) fun x => T.bind ((fun _ => T.pure (.int 0)) g) fun y => dIx x y) (argsC (fun g => getv g 1) args0)) g) fun ds => T.bind (dNeed (ds.length = 2)) fun _ => F_need_set ds) g) fun _ => T.pure (.nx g)) g) fun o => thenO o (fun g => T.bind ((setV (fun g => T.bind ((argsC (fun g => T.bind ((fun g => T.bind ((fun g => getv g 0) g) (dFld "Family" "base")) g) fun x => T.bind ((fun _ => T.pure (.int 1)) g) fun y => dIx x y) (argsC (fun g => getv g 1) args0)) g) fun ds => T.bind (dNeed (ds.length = 2)) fun _ => F_exchanged ds) 2) g) fun o => thenO o (fun g => T.bind ((fun g => T.bind ((argsC (fun g => T.bind ((fun g => T.bind ((fun g => getv g 0) g) (dFld "Family" "base")) g) fun x => T.bind ((fun _ => T.pure (.int 0)) g) fun y => dIx x y) (fun g => T.bind ((fun g => getv g 2) g) fun d => T.bind (starD d) fun xs => T.bind (args0 g) fun ys => T.pure (xs ++ ys))) g) (mkT "Family" (starF 2 F_Family_init))) g) fun d => T.pure (.rt d))))
theorem X_Family_xor : ∃ f : List D → T D, f = fun ds => runD m_Family_xor 3 ds := ⟨_, rfl⟩
noncomputable def F_Family_xor : List D → T D := Classical.choose X_Family_xor
theorem F_Family_xor_eq : F_Family_xor = fun ds => runD m_Family_xor 3 ds := Classical.choose_spec X_Family_xor
noncomputable def m_Family_read : MS := (fun g => T.bind ((fun g => T.bind ((fun g => T.bind ((argsC (fun g => getv g 1) args0) g) fun ds => T.bind (dNeed (ds.length = 1)) fun _ => F_family_in ds) g) fun d => T.bind ((gT2 2 3) d g) fun g' => T.pure (.nx g')) g) fun o => thenO o (fun g => T.bind ((fun g => T.bind (getv g 0) fun d => T.bind (dNeed (d = .glo "Family")) fun _ => T.bind ((argsC (fun g => getv g 2) (fun g => T.bind ((fun g => getv g 3) g) fun d => T.bind (starD d) fun xs => T.bind (args0 g) fun ys => T.pure (xs ++ ys))) g) (mkT "Family" (starF 2 F_Family_init))) g) fun d => T.pure (.rt d)))
theorem X_Family_read : ∃ f : List D → T D, f = fun ds => runD m_Family_read 4 ds := ⟨_, rfl⟩
noncomputable def F_Family_read : List D → T D := Classical.choose X_Family_read
theorem F_Family_read_eq : F_Family_read = fun ds => runD m_Family_read 4 ds := Classical.choose_spec X_Family_read
noncomputable def m_Bench_init : MS := (fun g => T.bind ((fun g => T.bind ((fun g => T.bind ((argsC (fun g => getv g 1) (argsC (fun _ => T.pure (.int 4)) args0)) g) fun ds => T.bind (dNeed (ds.length = 2)) fun _ => F_need_letters ds) g) fun _ => T.pure (.nx g)) g) fun o => thenO o (fun g => T.bind ((fun g => T.bind ((fun g => getv g 1) g) fun d => T.bind ((fun g => getv g 0) g) fun x => dSetF "Bench" "base" x d g) g) fun o => thenO o (fun g => T.bind ((fun g => T.bind ((fun g => T.bind (args0 g) fun xs => T.bind (needSize xs.length) fun _ => T.pure (.tup xs)) g) fun d => T.bind ((fun g => getv g 0) g) fun x => dSetF "Bench" "now" x d g) g) fun o => thenO o (fun g => T.bind ((fun g => T.bind ((fun g => T.bind (args0 g) fun xs => T.bind (needSize xs.length) fun _ => T.pure (.lst xs)) g) newL) g) fun d => T.bind ((fun g => getv g 0) g) fun x => dSetF "Bench" "past" x d g))))
theorem X_Bench_init : ∃ f : List D → T D, f = fun ds => runD m_Bench_init 2 ds := ⟨_, rfl⟩
noncomputable def F_Bench_init : List D → T D := Classical.choose X_Bench_init
theorem F_Bench_init_eq : F_Bench_init = fun ds => runD m_Bench_init 2 ds := Classical.choose_spec X_Bench_init
noncomputable def m_Bench_put : MS := (fun g => T.bind ((fun g => T.bind ((fun g => T.bind ((argsC (fun g => T.bind ((fun g => getv g 0) g) (dFld "Bench" "base")) (argsC (fun g => getv g 1) args0)) g) fun ds => T.bind (dNeed (ds.length = 2)) fun _ => F_need_set ds) g) fun _ => T.pure (.nx g)) g) fun o => thenO o (fun g => T.bind ((fun g => T.bind ((fun g => getv g 0) g) fun d => insOf "Bench" d fun _ fs => T.bind (dNeed (fs.lookup ("keep" : Str) = none)) fun _ => T.bind ((argsC (fun g => T.bind ((argsC (fun g => T.bind ((fun g => T.bind ((fun g => T.bind ((fun g => getv g 0) g) (dFld "Bench" "now")) g) fun x => T.bind ((fun g => T.bind ((argsC (fun g => getv g 1) args0) g) fun xs => T.bind (needSize xs.length) fun _ => T.pure (.tup xs)) g) fun y => dAdd x y) g) dSset) args0) g) dTuple) args0) g) fun ds => needN 2 F_Bench_keep (d :: ds)) g) fun d => T.pure (.rt d)))
theorem X_Bench_put : ∃ f : List D → T D, f = fun ds => runD m_Bench_put 2 ds := ⟨_, rfl⟩
noncomputable def F_Bench_put : List D → T D := Classical.choose X_Bench_put
theorem F_Bench_put_eq : F_Bench_put = fun ds => runD m_Bench_put 2 ds := Classical.choose_spec X_Bench_put
noncomputable def m_Bench_strike : MS := (fun g => T.bind ((fun g => T.bind ((fun g => T.bind ((argsC (fun g => T.bind ((fun g => getv g 0) g) (dFld "Bench" "base")) (argsC (fun g => getv g 1) args0)) g) fun ds => T.bind (dNeed (ds.length = 2)) fun _ => F_need_set ds) g) fun _ => T.pure (.nx g)) g) fun o => thenO o (fun g => T.bind ((fun g => T.bind ((fun g => getv g 0) g) fun d => insOf "Bench" d fun _ fs => T.bind (dNeed (fs.lookup ("keep" : Str) = none)) fun _ => T.bind ((argsC (fun g => T.bind ((argsC (dLc (fun g => T.bind ((fun g => T.bind ((fun g => getv g 0) g) (dFld "Bench" "now")) g) dItT) [2] (gN 2) (fun g => T.bind ((fun g => T.bind ((fun g => getv g 2) g) fun x => T.bind ((fun g => getv g 1) g) fun y => dNe x y) g) dAsB) (fun g => getv g 2)) args0) g) dTuple) args0) g) fun ds => needN 2 F_Bench_keep (d :: ds)) g) fun d => T.pure (.rt d)))
theorem X_Bench_strike : ∃ f : List D → T D, f = fun ds => runD m_Bench_strike 3 ds := ⟨_, rfl⟩
noncomputable def F_Bench_strike : List D → T D := Classical.choose X_Bench_strike
theorem F_Bench_strike_eq : F_Bench_strike = fun ds => runD m_Bench_strike 3 ds := Classical.choose_spec X_Bench_strike
noncomputable def m_Bench_squeeze : MS := (fun g => T.bind ((fun g => T.bind ((fun g => T.bind ((argsC (fun g => T.bind ((fun g => getv g 0) g) (dFld "Bench" "base")) (argsC (fun g => getv g 1) args0)) g) fun ds => T.bind (dNeed (ds.length = 2)) fun _ => F_need_letter ds) g) fun _ => T.pure (.nx g)) g) fun o => thenO o (fun g => T.bind ((fun g => T.bind ((fun g => getv g 0) g) fun d => insOf "Bench" d fun _ fs => T.bind (dNeed (fs.lookup ("keep" : Str) = none)) fun _ => T.bind ((argsC (fun g => T.bind ((argsC (fun g => T.bind ((fun g => getv g 0) g) (dFld "Bench" "now")) (argsC (fun g => getv g 1) args0)) g) fun ds => T.bind (dNeed (ds.length = 2)) fun _ => F_squeezed_by ds) args0) g) fun ds => needN 2 F_Bench_keep (d :: ds)) g) fun d => T.pure (.rt d)))
theorem X_Bench_squeeze : ∃ f : List D → T D, f = fun ds => runD m_Bench_squeeze 2 ds := ⟨_, rfl⟩
noncomputable def F_Bench_squeeze : List D → T D := Classical.choose X_Bench_squeeze
theorem F_Bench_squeeze_eq : F_Bench_squeeze = fun ds => runD m_Bench_squeeze 2 ds := Classical.choose_spec X_Bench_squeeze
noncomputable def mC0 : ME := (fun g => T.bind ((argsC (fun g => getv g 2) (argsC (fun _ => T.pure .non) args0)) g) (mkT "Family" (starF 2 F_Family_init)))
noncomputable def mC1 : ME := (fun g => T.bind ((argsC (fun _ => T.pure (.int 2)) (argsC (fun g => getv g 2) args0)) g) (mkT "Family" (starF 2 F_Family_init)))
noncomputable def mC2 : ME := (fun g => T.bind ((fun _ => T.pure (D.glo "Family")) g) fun d => T.bind (dNeed (d = .glo "Family")) fun _ => T.bind ((argsC (fun g => getv g 2) args0) g) fun ds => (needN 2 F_Family_read) (.glo "Family" :: ds))
noncomputable def mC3 : ME := (fun g => T.bind ((fun g => getv g 0) g) fun x => T.bind ((fun g => getv g 2) g) fun y => T.bind (rightD "Family" y) fun _ => callI "Family" (needN 2 F_Family_or) x [y])
noncomputable def mC4 : ME := (fun g => T.bind ((fun g => getv g 0) g) fun x => T.bind ((fun g => getv g 2) g) fun y => T.bind (rightD "Family" y) fun _ => callI "Family" (needN 2 F_Family_and) x [y])
noncomputable def mC5 : ME := (fun g => T.bind ((fun g => getv g 0) g) fun x => T.bind ((fun g => getv g 2) g) fun y => T.bind (rightD "Family" y) fun _ => callI "Family" (needN 2 F_Family_sub) x [y])
noncomputable def mC6 : ME := (fun g => T.bind ((fun g => getv g 0) g) fun x => T.bind ((fun g => getv g 2) g) fun y => T.bind (rightD "Family" y) fun _ => callI "Family" (needN 2 F_Family_le) x [y])
noncomputable def mC7 : ME := (fun g => T.bind ((fun g => getv g 0) g) fun x => T.bind ((fun g => getv g 2) g) fun y => T.bind (rightD "Family" y) fun _ => callI "Family" (needN 2 F_Family_xor) x [y])
noncomputable def mC8 : ME := (fun g => T.bind ((argsC (fun g => getv g 0) (argsC (fun g => getv g 2) args0)) g) fun ds => T.bind (dNeed (ds.length = 2)) fun _ => F__law_turned ds)
noncomputable def mC9 : ME := (fun g => T.bind ((fun g => getv g 0) g) fun d => insOf "Family" d fun _ _ => T.bind ((argsC (fun g => getv g 2) args0) g) fun ds => callI "Family" (needN 2 F_Family_call) d ds)
noncomputable def mC10 : ME := (fun g => T.bind ((fun g => getv g 0) g) fun x => T.bind ((fun g => getv g 2) g) fun y => callI "Family" (needN 2 F_Family_getitem) x [y])
noncomputable def mC11 : ME := (fun g => T.bind ((argsC (fun g => getv g 2) args0) g) (mkT "Bench" (needN 2 F_Bench_init)))
noncomputable def mC12 : ME := (fun g => T.bind ((fun g => getv g 1) g) fun d => insOf "Bench" d fun _ fs => T.bind (dNeed (fs.lookup ("put" : Str) = none)) fun _ => T.bind ((argsC (fun g => getv g 2) args0) g) fun ds => needN 2 F_Bench_put (d :: ds))
noncomputable def mC13 : ME := (fun g => T.bind ((fun g => getv g 1) g) fun d => insOf "Bench" d fun _ fs => T.bind (dNeed (fs.lookup ("strike" : Str) = none)) fun _ => T.bind ((argsC (fun g => getv g 2) args0) g) fun ds => needN 2 F_Bench_strike (d :: ds))
noncomputable def mC14 : ME := (fun g => T.bind ((fun g => getv g 1) g) fun d => insOf "Bench" d fun _ fs => T.bind (dNeed (fs.lookup ("squeeze" : Str) = none)) fun _ => T.bind ((argsC (fun g => getv g 2) args0) g) fun ds => needN 2 F_Bench_squeeze (d :: ds))
noncomputable def mC15 : ME := (fun g => T.bind ((argsC (fun g => getv g 1) (argsC (fun g => getv g 2) args0)) g) fun ds => T.bind (dNeed (ds.length = 2)) fun _ => F__law_grown ds)
noncomputable def mC16 : ME := (fun g => T.bind ((fun g => getv g 1) g) fun x => T.bind ((fun g => getv g 2) g) fun y => callI "Bench" (needN 2 F_Bench_getitem) x [y])
noncomputable def zsC : List (Clo × ME) := [(cloC 0, mC0), (cloC 1, mC1), (cloC 2, mC2), (cloC 3, mC3), (cloC 4, mC4), (cloC 5, mC5), (cloC 6, mC6), (cloC 7, mC7), (cloC 8, mC8), (cloC 9, mC9), (cloC 10, mC10), (cloC 11, mC11), (cloC 12, mC12), (cloC 13, mC13), (cloC 14, mC14), (cloC 15, mC15), (cloC 16, mC16)]
noncomputable def m_Bench_family : MS := (fun g => T.bind ((fun g => T.bind ((fun g => getv g 0) g) (dFld "Bench" "now")) g) fun d => T.pure (.rt d))
theorem X_Bench_family : ∃ f : List D → T D, f = fun ds => runD m_Bench_family 1 ds := ⟨_, rfl⟩
noncomputable def F_Bench_family : List D → T D := Classical.choose X_Bench_family
theorem F_Bench_family_eq : F_Bench_family = fun ds => runD m_Bench_family 1 ds := Classical.choose_spec X_Bench_family
noncomputable def m_Bench_undo : MS := (fun g => T.bind ((fun g => T.bind ((fun g => T.bind (T.bind ((fun g => T.bind ((fun g => getv g 0) g) (dFld "Bench" "past")) g) nilM) dAsB) g) fun k => T.ite k ((fun _ => T.raise ⟨"NothingToUndo", []⟩) g) ((fun g => T.pure (.nx g)) g)) g) fun o => thenO o (fun g => T.bind ((fun g => T.bind ((fun g => T.bind ((fun g => getv g 0) g) (dFld "Bench" "past")) g) popM) g) fun d => T.bind ((fun g => getv g 0) g) fun x => dSetF "Bench" "now" x d g))
theorem X_Bench_undo : ∃ f : List D → T D, f = fun ds => runD m_Bench_undo 1 ds := ⟨_, rfl⟩
noncomputable def F_Bench_undo : List D → T D := Classical.choose X_Bench_undo
theorem F_Bench_undo_eq : F_Bench_undo = fun ds => runD m_Bench_undo 1 ds := Classical.choose_spec X_Bench_undo
noncomputable def mH_Bench_undo : MS := (fun g => T.bind ((fun g => T.bind ((fun g => T.bind (T.bind ((fun g => T.bind ((fun g => getv g 0) g) (dFld "Bench" "past")) g) nilM) dAsB) g) fun k => T.ite k ((fun _ => T.fail) g) ((fun g => T.pure (.nx g)) g)) g) fun o => thenO o (fun g => T.bind ((fun g => T.bind ((fun g => T.bind ((fun g => getv g 0) g) (dFld "Bench" "past")) g) popM) g) fun d => T.bind ((fun g => getv g 0) g) fun x => dSetF "Bench" "now" x d g))
theorem XH_Bench_undo : ∃ f : List D → T D, f = fun ds => runD mH_Bench_undo 1 ds := ⟨_, rfl⟩
noncomputable def FH_Bench_undo : List D → T D := Classical.choose XH_Bench_undo
theorem FH_Bench_undo_eq : FH_Bench_undo = fun ds => runD mH_Bench_undo 1 ds := Classical.choose_spec XH_Bench_undo
noncomputable def m__law_full_right (P__law_full_right : Addr) : MS := (fun g => T.bind ((setV (fun g => T.bind ((argsC (fun _ => T.pure (.int 2)) args0) g) (mkT "Bench" (needN 2 F_Bench_init))) 0) g) fun o => thenO o (fun g => T.bind ((fun g => T.bind ((fun g => T.bind ((argsC (fun _ => T.pure (.int 39)) args0) g) dRng1) g) fun ds => forT (gN 1) (fun g => T.bind ((fun g => T.bind ((fun g => getv g 0) g) fun d => insOf "Bench" d fun _ fs => T.bind (dNeed (fs.lookup ("put" : Str) = none)) fun _ => T.bind ((argsC (fun _ => T.pure (.str "ab")) args0) g) fun ds => needN 2 F_Bench_put (d :: ds)) g) fun _ => T.pure (.nx g)) ds g) g) fun o => thenO o (fun g => T.bind ((fun g => T.bind (getv g 0) fun o => T.bind ((fun g => T.bind ((argsC (fun _ => T.pure (.str "a")) (argsC (fun _ => T.pure (.str "a")) args0)) g) fun xs => T.bind (needSize xs.length) fun _ => T.pure (.tup xs)) g) fun d => insOf "Bench" o fun _ _ => T.bind ((needN 2 F_Bench_iadd) [o, d]) fun z => T.pure (.nx (g.set 0 (.va z)))) g) fun o => thenO o (fun g => T.bind ((setO (fun g => T.bind ((argsC (fun g => lamD P__law_full_right "_law_full_right.<locals>.<lambda>" (errD errCs ((fun g => T.bind ((fun g => getv g 0) g) fun d => insOf "Bench" d fun _ fs => T.bind (dNeed (fs.lookup ("put" : Str) = none)) fun _ => T.bind ((argsC (fun _ => T.pure (.str "a")) args0) g) fun ds => needN 2 F_Bench_put (d :: ds)) g))) args0) g) fun xs => T.bind (needSize xs.length) fun _ => T.pure (.lst xs)) 2) g) fun o => thenO o (fun g => T.bind ((appO 2 (fun g => lamD P__law_full_right "_law_full_right.<locals>.<lambda>" (errD errCs ((fun g => T.bind ((fun g => getv g 0) g) fun d => insOf "Bench" d fun _ fs => T.bind (dNeed (fs.lookup ("put" : Str) = none)) fun _ => T.bind ((argsC (fun _ => T.pure (.str "c")) args0) g) fun ds => needN 2 F_Bench_put (d :: ds)) g)))) g) fun o => thenO o (fun g => T.bind ((appO 2 (fun g => lamD P__law_full_right "_law_full_right.<locals>.<lambda>" (errD errCs ((fun g => T.bind ((fun g => getv g 0) g) fun d => insOf "Bench" d fun _ fs => T.bind (dNeed (fs.lookup ("strike" : Str) = none)) fun _ => T.bind ((argsC (fun _ => T.pure (.str "b")) args0) g) fun ds => needN 2 F_Bench_strike (d :: ds)) g)))) g) fun o => thenO o (fun g => T.bind ((appO 2 (fun g => lamD P__law_full_right "_law_full_right.<locals>.<lambda>" (errD errCs ((fun g => T.bind ((fun g => getv g 0) g) fun d => insOf "Bench" d fun _ fs => T.bind (dNeed (fs.lookup ("squeeze" : Str) = none)) fun _ => T.bind ((argsC (fun _ => T.pure (.str "a")) args0) g) fun ds => needN 2 F_Bench_squeeze (d :: ds)) g)))) g) fun o => thenO o (fun g => T.bind ((appO 2 (fun g => lamD P__law_full_right "_law_full_right.<locals>.<lambda>" (errD errCs ((fun g => T.bind ((fun g => getv g 0) g) fun d => insOf "Bench" d fun _ fs => T.bind (dNeed (fs.lookup ("squeeze" : Str) = none)) fun _ => T.bind ((argsC (fun _ => T.pure (.str "c")) args0) g) fun ds => needN 2 F_Bench_squeeze (d :: ds)) g)))) g) fun o => thenO o (fun g => T.bind ((appO 2 (fun g => lamD P__law_full_right "_law_full_right.<locals>.<lambda>" (errD errCs ((fun g => T.bind ((argsC (fun g => getv g 0) (argsC (fun g => T.bind (args0 g) fun xs => T.bind (needSize xs.length) fun _ => T.pure (.tup xs)) args0)) g) fun ds => T.bind (dNeed (ds.length = 2)) fun _ => F__law_grown ds) g)))) g) fun o => thenO o (fun g => T.bind ((appO 2 (fun g => lamD P__law_full_right "_law_full_right.<locals>.<lambda>" (errD errCs ((fun g => T.bind ((argsC (fun g => getv g 0) (argsC (fun g => T.bind ((argsC (fun _ => T.pure (.str "c")) args0) g) fun xs => T.bind (needSize xs.length) fun _ => T.pure (.tup xs)) args0)) g) fun ds => T.bind (dNeed (ds.length = 2)) fun _ => F__law_grown ds) g)))) g) fun o => thenO o (fun g => T.bind ((setV (fun g => T.bind ((argsC (fun _ => T.pure (.str "many")) (argsC (fun _ => T.pure (.str "set")) (argsC (fun _ => T.pure (.str "many")) (argsC (fun _ => T.pure (.str "many")) (argsC (fun _ => T.pure (.str "letter")) (argsC (fun _ => T.pure (.str "many")) (argsC (fun _ => T.pure (.str "set")) args0))))))) g) fun xs => T.bind (needSize xs.length) fun _ => T.pure (.lst xs)) 3) g) fun o => thenO o (fun g => T.bind ((fun g => T.bind ((fun g => T.bind ((fun g => T.bind ((fun g => getb g 2) g) fun x => T.bind ((dLc (fun g => T.bind ((fun g => getv g 3) g) dItL) [5] (gN 5) tY (fun g => T.bind ((fun g => getv g 5) g) fun x => T.bind ((fun _ => T.pure (.str " value")) g) fun y => dAdd x y)) g) fun y => dNe x y) g) dAsB) g) fun k => T.ite k ((fun g => T.bind ((fun _ => T.pure (.bl false)) g) fun d => T.pure (.rt d)) g) ((fun g => T.pure (.nx g)) g)) g) fun o => thenO o (fun g => T.bind ((fun g => T.bind ((fun g => T.bind ((fun g => T.bind ((fun g => T.bind ((fun g => T.bind ((fun g => getv g 0) g) (dProp "Bench" F_Bench_family)) g) fun x => T.bind ((fun g => T.bind ((argsC (fun _ => T.pure (.str "a")) (argsC (fun _ => T.pure (.str "ab")) args0)) g) fun xs => T.bind (needSize xs.length) fun _ => T.pure (.tup xs)) g) fun y => dNe x y) g) dAsB) g) fun k => T.ite k (T.pure true) ((fun g => T.bind ((fun g => T.bind ((fun g => T.bind ((fun g => getv g 0) g) fun d => T.bind (callI "Bench" (needN 1 F_Bench_len) d []) natD) g) fun x => T.bind ((fun _ => T.pure (.int 40)) g) fun y => dNe x y) g) dAsB) g)) g) fun k => T.ite k ((fun g => T.bind ((fun _ => T.pure (.bl false)) g) fun d => T.pure (.rt d)) g) ((fun g => T.pure (.nx g)) g)) g) fun o => thenO o (fun g => T.bind ((tryLim 4 "TooMany" "limit" 40 (fun g => T.bind ((fun g => getv g 0) g) fun d => insOf "Bench" d fun _ fs => T.bind (dNeed (fs.lookup ("put" : Str) = none)) fun _ => T.bind ((argsC (fun _ => T.pure (.str "b")) args0) g) fun ds => needN 2 F_Bench_put (d :: ds)) (fun g => T.bind ((fun g => T.bind ((fun g => T.bind ((fun g => getv g 0) g) fun d => insOf "Bench" d fun _ fs => T.bind (dNeed (fs.lookup ("undo" : Str) = none)) fun _ => needN 1 FH_Bench_undo [d]) g) fun x => T.bind ((fun _ => T.pure .non) g) fun y => (dIsN true) x y) g) dAsB)) g) fun o => thenO o (fun g => T.bind ((fun g => T.bind ((fun g => T.bind ((fun g => T.bind ((fun g => getv g 0) g) fun d => T.bind (callI "Bench" (needN 1 F_Bench_len) d []) natD) g) fun x => T.bind ((fun _ => T.pure (.int 39)) g) fun y => dEq x y) g) fun x => T.bind (dAsB x) fun k => T.ite k ((fun g => T.bind ((fun g => T.bind ((fun g => getv g 0) g) (dProp "Bench" F_Bench_family)) g) fun x => T.bind ((fun g => T.bind ((argsC (fun _ => T.pure (.str "ab")) args0) g) fun xs => T.bind (needSize xs.length) fun _ => T.pure (.tup xs)) g) fun y => dEq x y) g) (T.pure (.bl false))) g) fun d => T.pure (.rt d))))))))))))))))
theorem X__law_full_right : ∃ f : Addr → List D → T D, f = fun P__law_full_right ds => runD (m__law_full_right P__law_full_right) 6 ds := ⟨_, rfl⟩
noncomputable def F__law_full_right : Addr → List D → T D := Classical.choose X__law_full_right
theorem F__law_full_right_eq : F__law_full_right = fun P__law_full_right ds => runD (m__law_full_right P__law_full_right) 6 ds := Classical.choose_spec X__law_full_right
noncomputable def m_Family_source : MS := (fun g => T.bind ((fun g => T.bind ((fun g => T.bind ((fun g => getv g 0) g) (dFld "Family" "base")) g) fun x => T.bind ((fun _ => T.pure (.int 1)) g) fun y => dIx x y) g) fun d => T.pure (.rt d))
theorem X_Family_source : ∃ f : List D → T D, f = fun ds => runD m_Family_source 1 ds := ⟨_, rfl⟩
noncomputable def F_Family_source : List D → T D := Classical.choose X_Family_source
theorem F_Family_source_eq : F_Family_source = fun ds => runD m_Family_source 1 ds := Classical.choose_spec X_Family_source
noncomputable def m_law (P__law_calls_of : Addr) (P__law_full_right : Addr) (P_law : Addr) : MS := (fun g => T.bind ((fun g => T.bind ((fun g => T.bind ((argsC (fun g => T.bind ((fun _ => T.pure (.int 1)) g) fun x => T.bind ((fun g => T.bind ((argsC (fun g => T.bind ((argsC (fun g => getv g 0) args0) g) dLen) (argsC (fun _ => T.pure (.int 8)) args0)) g) dMin2) g) fun y => dAdd x y) args0) g) dRng1) g) fun ds => forT (gN 1) (fun g => T.bind ((setV (fun g => T.bind ((argsC (fun g => getv g 0) (argsC (fun g => getv g 1) args0)) g) fun ds => T.bind (dNeed (ds.length = 2)) fun _ => F__law_source ds) 2) g) fun o => thenO o (fun g => T.bind ((setV (fun g => T.bind ((argsC (fun _ => T.pure .non) (argsC (fun _ => T.pure (.bl true)) (argsC (fun _ => T.pure (.str "e")) (argsC (fun _ => T.pure (.int (-1))) (argsC (fun _ => T.pure (.int 9)) (argsC (fun g => T.bind ((argsC (fun _ => T.pure (.str "a")) args0) g) fun xs => T.bind (needSize xs.length) fun _ => T.pure (.lst xs)) (argsC (fun g => T.bind ((argsC (fun _ => T.pure (.str "e")) args0) g) fun xs => T.bind (needSize xs.length) fun _ => T.pure (.tup xs)) (argsC (fun g => T.bind ((argsC (fun _ => T.pure (.str "ba")) (argsC (fun _ => T.pure (.str "a")) args0)) g) fun xs => T.bind (needSize xs.length) fun _ => T.pure (.tup xs)) (argsC (fun g => T.bind ((argsC (fun _ => T.pure (.int 1)) args0) g) fun xs => T.bind (needSize xs.length) fun _ => T.pure (.tup xs)) (argsC (fun _ => T.pure (.str "ba")) (argsC (fun g => T.bind ((argsC (fun _ => T.pure (.str "a")) (argsC (fun _ => T.pure .non) args0)) g) fun xs => T.bind (needSize xs.length) fun _ => T.pure (.tup xs)) (argsC (fun g => T.bind ((argsC (fun _ => T.pure (.int 0)) args0) g) fun xs => T.bind (needSize xs.length) fun _ => T.pure (.tup xs)) args0)))))))))))) g) fun xs => T.bind (needSize xs.length) fun _ => T.pure (.lst xs)) 3) g) fun o => thenO o (fun g => T.bind ((setV (fun g => T.bind ((argsC (fun g => getv g 2) (argsC (fun g => getv g 3) args0)) g) fun ds => T.bind (dNeed (ds.length = 2)) fun _ => F__law_of ds) 4) g) fun o => thenO o (fun g => T.bind ((fun g => T.bind ((fun g => T.bind ((argsC (fun g => T.bind ((argsC (fun _ => T.pure (.int 2)) (argsC (fun _ => T.pure (.str "a")) (argsC (fun _ => T.pure (.str "b")) args0))) g) (mkT "Family" (starF 2 F_Family_init))) (argsC (fun g => T.bind ((argsC (fun _ => T.pure (.int 2)) args0) g) (mkT "Bench" (needN 2 F_Bench_init))) args0)) g) fun xs => T.bind (needSize xs.length) fun _ => T.pure (.tup xs)) g) fun d => T.bind ((gT2 5 6) d g) fun g' => T.pure (.nx g')) g) fun o => thenO o (fun g => T.bind ((fun g => T.bind ((fun g => T.bind ((fun g => getv g 6) g) fun d => insOf "Bench" d fun _ fs => T.bind (dNeed (fs.lookup ("put" : Str) = none)) fun _ => T.bind ((argsC (fun _ => T.pure (.str "a")) args0) g) fun ds => needN 2 F_Bench_put (d :: ds)) g) fun _ => T.pure (.nx g)) g) fun o => thenO o (fun g => T.bind ((fun g => T.bind ((fun g => T.bind ((fun g => T.bind ((argsC (fun g => getv g 5) (argsC (fun g => getv g 6) (argsC (fun g => getv g 4) args0))) g) fun ds => T.bind (dNeed (ds.length = 3)) fun _ => (F__law_calls_of P__law_calls_of) ds) g) dItL) g) fun ds => forT (gT2 7 8) (fun g => T.bind ((fun g => T.bind ((fun g => T.bind ((fun g => T.bind ((fun g => T.bind ((fun g => getv g 8) g) fun d => errD errCs (cloRun zsC (defScope s__law_calls_of) psC d)) g) fun x => T.bind ((fun g => T.bind ((fun g => getv g 7) g) fun x => T.bind ((fun _ => T.pure (.str " value")) g) fun y => dAdd x y) g) fun y => dNe x y) g) dAsB) g) fun k => T.ite k ((fun g => T.bind ((fun _ => T.pure (.bl false)) g) fun d => T.pure (.rt d)) g) ((fun g => T.pure (.nx g)) g)) g) fun o => thenO o (fun g => T.bind ((fun g => T.bind ((fun g => T.bind ((fun g => T.bind ((fun g => T.bind ((fun g => getv g 5) g) (dProp "Family" F_Family_source)) g) fun x => T.bind ((fun g => T.bind ((argsC (fun _ => T.pure (.str "a")) (argsC (fun _ => T.pure (.str "b")) args0)) g) fun xs => T.bind (needSize xs.length) fun _ => T.pure (.tup xs)) g) fun y => dNe x y) g) dAsB) g) fun k => T.ite k (T.pure true) ((fun g => T.bind ((fun g => T.bind ((fun g => T.bind ((fun g => T.bind ((fun g => getv g 6) g) (dProp "Bench" F_Bench_family)) g) fun x => T.bind ((fun g => T.bind ((argsC (fun _ => T.pure (.str "a")) args0) g) fun xs => T.bind (needSize xs.length) fun _ => T.pure (.tup xs)) g) fun y => dNe x y) g) dAsB) g) fun k => T.ite k (T.pure true) ((fun g => T.bind ((fun g => T.bind ((fun g => T.bind ((fun g => getv g 6) g) fun d => T.bind (callI "Bench" (needN 1 F_Bench_len) d []) natD) g) fun x => T.bind ((fun _ => T.pure (.int 1)) g) fun y => dNe x y) g) dAsB) g)) g)) g) fun k => T.ite k ((fun g => T.bind ((fun _ => T.pure (.bl false)) g) fun d => T.pure (.rt d)) g) ((fun g => T.pure (.nx g)) g))) ds g) g) fun o => thenO o (fun g => T.bind ((setO (fun g => T.bind ((argsC (fun g => lamD P_law "law.<locals>.<lambda>" (errD errCs ((fun g => T.bind ((fun g => getv g 5) g) fun x => T.bind ((fun _ => T.pure (.str "c")) g) fun y => T.bind (rightD "Family" y) fun _ => callI "Family" (needN 2 F_Family_xor) x [y]) g))) args0) g) fun xs => T.bind (needSize xs.length) fun _ => T.pure (.lst xs)) 9) g) fun o => thenO o (fun g => T.bind ((appO 9 (fun g => lamD P_law "law.<locals>.<lambda>" (errD errCs ((fun g => T.bind ((fun g => getv g 5) g) fun x => T.bind ((fun g => T.bind ((argsC (fun _ => T.pure (.int 3)) args0) g) (mkT "Family" (starF 2 F_Family_init))) g) fun y => T.bind (rightD "Family" y) fun _ => callI "Family" (needN 2 F_Family_or) x [y]) g)))) g) fun o => thenO o (fun g => T.bind ((appO 9 (fun g => lamD P_law "law.<locals>.<lambda>" (errD errCs ((fun g => T.bind ((argsC (fun _ => T.pure (.int 2)) (argsC (fun _ => T.pure (.str "a")) (argsC (fun _ => T.pure (.str "a")) args0))) g) (mkT "Family" (starF 2 F_Family_init))) g)))) g) fun o => thenO o (fun g => T.bind ((appO 9 (fun g => lamD P_law "law.<locals>.<lambda>" (errD errCs ((fun g => T.bind ((argsC (fun _ => T.pure (.int 0)) (argsC (fun _ => T.pure (.str "e")) args0)) g) (mkT "Family" (starF 2 F_Family_init))) g)))) g) fun o => thenO o (fun g => T.bind ((appO 9 (fun g => lamD P_law "law.<locals>.<lambda>" (errD errCs ((fun g => T.bind ((fun g => getv g 6) g) fun d => insOf "Bench" d fun _ fs => T.bind (dNeed (fs.lookup ("undo" : Str) = none)) fun _ => needN 1 F_Bench_undo [d]) g)))) g) fun o => thenO o (fun g => T.bind ((appO 9 (fun g => lamD P_law "law.<locals>.<lambda>" (errD errCs ((fun g => T.bind ((fun g => getv g 6) g) fun d => insOf "Bench" d fun _ fs => T.bind (dNeed (fs.lookup ("undo" : Str) = none)) fun _ => needN 1 F_Bench_undo [d]) g)))) g) fun o => thenO o (fun g => T.bind ((appO 9 (fun g => lamD P_law "law.<locals>.<lambda>" (errD errCs ((fun g => T.bind ((argsC (fun g => getv g 6) (argsC (fun g => T.bind ((fun g => T.bind ((argsC (fun _ => T.pure (.str "a")) args0) g) fun xs => T.bind (needSize xs.length) fun _ => T.pure (.tup xs)) g) fun x => T.bind ((fun _ => T.pure (.int 17)) g) fun y => dRepT x y) args0)) g) fun ds => T.bind (dNeed (ds.length = 2)) fun _ => F__law_grown ds) g)))) g) fun o => thenO o (fun g => T.bind ((appO 9 (fun g => lamD P_law "law.<locals>.<lambda>" (errD errCs ((fun g => T.bind ((argsC (fun g => getv g 6) (argsC (fun g => T.bind ((fun g => T.bind ((argsC (fun _ => T.pure (.str "b")) (argsC (fun _ => T.pure (.str "a")) args0)) g) fun xs => T.bind (needSize xs.length) fun _ => T.pure (.tup xs)) g) fun x => T.bind ((fun _ => T.pure (.int 8)) g) fun y => dRepT x y) args0)) g) fun ds => T.bind (dNeed (ds.length = 2)) fun _ => F__law_grown ds) g)))) g) fun o => thenO o (fun g => T.bind ((setV (fun g => T.bind ((argsC (fun _ => T.pure (.str "set")) (argsC (fun _ => T.pure (.str "unlike")) (argsC (fun _ => T.pure (.str "family")) (argsC (fun _ => T.pure (.str "letters")) (argsC (fun _ => T.pure (.str "")) (argsC (fun _ => T.pure (.str "undo")) (argsC (fun _ => T.pure (.str "set")) (argsC (fun _ => T.pure (.str "")) args0)))))))) g) fun xs => T.bind (needSize xs.length) fun _ => T.pure (.lst xs)) 10) g) fun o => thenO o (fun g => T.bind ((fun g => T.bind ((fun g => T.bind ((fun g => T.bind ((fun g => getb g 9) g) fun x => T.bind ((dLc (fun g => T.bind ((fun g => getv g 10) g) dItL) [7] (gN 7) tY (fun g => T.bind ((fun g => T.bind ((fun g => T.bind ((fun g => getv g 7) g) fun x => T.bind ((fun _ => T.pure (.str "")) g) fun y => dNe x y) g) dAsB) g) fun k => T.ite k ((fun g => T.bind ((fun g => getv g 7) g) fun x => T.bind ((fun _ => T.pure (.str " value")) g) fun y => dAdd x y) g) ((fun _ => T.pure (.str "")) g))) g) fun y => dNe x y) g) dAsB) g) fun k => T.ite k ((fun g => T.bind ((fun _ => T.pure (.bl false)) g) fun d => T.pure (.rt d)) g) ((fun g => T.pure (.nx g)) g)) g) fun o => thenO o (fun g => T.bind ((fun g => T.bind ((fun g => T.bind ((fun g => T.bind ((fun g => T.bind ((fun g => getv g 6) g) (dProp "Bench" F_Bench_family)) g) fun x => T.bind ((fun g => T.bind ((argsC (fun _ => T.pure (.str "a")) (argsC (fun _ => T.pure (.str "b")) args0)) g) fun xs => T.bind (needSize xs.length) fun _ => T.pure (.tup xs)) g) fun y => dNe x y) g) dAsB) g) fun k => T.ite k ((fun g => T.bind ((fun _ => T.pure (.bl false)) g) fun d => T.pure (.rt d)) g) ((fun g => T.pure (.nx g)) g)) g) fun o => thenO o (fun g => T.bind ((fun g => T.bind ((fun g => T.bind ((fun g => T.bind ((fun g => getv g 1) g) fun x => T.bind ((fun _ => T.pure (.int 0)) g) fun y => dEq x y) g) dAsB) g) fun k => T.ite k ((fun g => T.bind ((fun g => T.bind ((fun _ => (F__law_full_right P__law_full_right) []) g) dTru) g) fun k => T.pure (!k)) g) (T.pure false)) g) fun k => T.ite k ((fun g => T.bind ((fun _ => T.pure (.bl false)) g) fun d => T.pure (.rt d)) g) ((fun g => T.pure (.nx g)) g))))))))))))))))))) ds g) g) fun o => thenO o (fun g => T.bind ((fun _ => T.pure (.bl true)) g) fun d => T.pure (.rt d)))
theorem X_law : ∃ f : Addr → Addr → Addr → List D → T D, f = fun P__law_calls_of P__law_full_right P_law ds => runD (m_law P__law_calls_of P__law_full_right P_law) 11 ds := ⟨_, rfl⟩
noncomputable def F_law : Addr → Addr → Addr → List D → T D := Classical.choose X_law
theorem F_law_eq : F_law = fun P__law_calls_of P__law_full_right P_law ds => runD (m_law P__law_calls_of P__law_full_right P_law) 11 ds := Classical.choose_spec X_law
end Em

set_option Elab.async false
set_option linter.all false
set_option maxRecDepth 100000
set_option maxHeartbeats 4000000
namespace Em
open PySem PySem.Spec PyProof.Rows L2 DL OrdS
/-! ### the sets of letters -/
def L4 : List Str := [⟨#[97]⟩, ⟨#[98]⟩, ⟨#[99]⟩, ⟨#[100]⟩]
theorem letters_n {n : Nat} (h : n ≤ 4) : chars (cutS "abcd" none (some (n : Int))) = (L4.take n).map D.str := by
  match n, h with
  | 0, _ => kernel_rfl
  | 1, _ => kernel_rfl
  | 2, _ => kernel_rfl
  | 3, _ => kernel_rfl
  | 4, _ => kernel_rfl
def genF : List Str → List Str → List Str
  | acc, [] => acc
  | acc, c :: r => genF (acc ++ acc.map fun s => s ++ c) r
/-- all sets of the first n letters, in no order -/
def genS (n : Nat) : List Str := genF [""] (L4.take n)
/-- all sets of the first n letters -/
def setsL (n : Nat) : List Str := ssort (genS n)
theorem take_len {n : Nat} (h : n ≤ 4) : ∀ c ∈ L4.take n, c.length = 1 := fun c hc => by
  have : c ∈ L4 := List.mem_of_mem_take hc
  simp only [L4, List.mem_cons, List.mem_nil_iff, or_false] at this
  rcases this with rfl | rfl | rfl | rfl <;> rfl
/-! ### a good set -/
def canon (n : Nat) (s : Str) : Str := Str.join "" ((L4.take n).filter fun c => strIn c s)
theorem eqD_str (a b : Str) : eqD (.str a) (.str b) = decide (a = b) := by
  show (a == b) = decide (a = b)
  by_cases h : a = b
  · simp [h]
  · simp [h]
theorem filter_str {p : D → Bool} {l : List Str} : (l.map D.str).filter p = (l.filter fun s => p (.str s)).map D.str := by
  rw [List.filter_map]; rfl
theorem len_sum : ∀ (l : List Str), (∀ c ∈ l, c.length = 1) → (l.map (·.length)).sum = l.length
  | [], _ => rfl
  | c :: r, h => by
    rw [List.map_cons, List.sum_cons, h c List.mem_cons_self, len_sum r fun c hc => h c (List.mem_cons_of_mem _ hc), List.length_cons, Nat.add_comm]
/-- what is_good_set says -/
def goodB (n : Nat) : D → Bool
  | .str s => decide (s = canon n s)
  | _ => false
theorem F_is_good_set_r {n : Nat} {d : D} {S : Sto} (h : n ≤ 4) (hd : ∃ t, tyN d = some t) : Ret (F_is_good_set [.int n, d]) S (.bl (goodB n d)) := by
  intro Q E hq
  rw [F_is_good_set_eq]
  delta m_is_good_set
  cases d with
  | str s =>
    conv => whnf
    refine ite_f rfl ?_
    conv => whnf
    refine ⟨sz (by decide), ?_⟩
    conv => whnf
    rw [letters_n h]
    have hl : (L4.take n).length ≤ 4 := by rw [List.length_take]; exact Nat.le_trans (Nat.min_le_left _ _) h
    refine ⟨sz (by rw [List.length_map]; omega), ?_⟩
    show lcT _ _ _ _ _ S _ _
    refine lc_n (fun d => match d with | .str c => strIn c s | _ => false) id (fun d hd => ?_) (fun d hd _ => ?_) _ _ ?_
    · obtain ⟨c, hc, rfl⟩ := List.mem_map.mp hd
      intro Q E hq
      conv => whnf
      exact hq
    · obtain ⟨c, hc, rfl⟩ := List.mem_map.mp hd
      intro Q E hq
      conv => whnf
      exact hq
    · rw [filter_str, List.map_id]
      conv => whnf
      have e : strsIn (.lst (((L4.take n).filter fun c => strIn c s).map D.str)) = some ((L4.take n).filter fun c => strIn c s) := strsOf_map _
      refine opt_s e ?_
      conv => whnf
      have hf : ((L4.take n).filter fun c => strIn c s).length ≤ 4 := Nat.le_trans (List.length_filter_le _ _) hl
      have e0 : Str.length "" = 0 := by decide
      refine ⟨?_, ?_⟩
      · rw [len_sum _ fun c hc => take_len h c (List.mem_filter.mp hc).1, e0]; omega
      · conv => whnf
        refine ⟨.inl rfl, ?_⟩
        conv => whnf
        show Q (.bl (eqD (.str s) (.str (canon n s)))) S
        rw [eqD_str]
        exact hq
  | non => conv => whnf
           exact ite_t rfl hq
  | bl _ => conv => whnf
            exact ite_t rfl hq
  | int _ => conv => whnf
             exact ite_t rfl hq
  | tup _ => conv => whnf
             exact ite_t rfl hq
  | lst _ => conv => whnf
             exact ite_t rfl hq
  | _ => obtain ⟨t, ht⟩ := hd; cases ht
theorem canon_in : ∀ n ≤ 4, ∀ s ∈ setsL n, s = canon n s := by decide +kernel
theorem sel_in : ∀ n ≤ 4, ∀ a b c d : Bool, Str.join "" ((L4.take n).filter fun s => if s = ⟨#[97]⟩ then a else if s = ⟨#[98]⟩ then b else if s = ⟨#[99]⟩ then c else d) ∈ setsL n := by decide +kernel
theorem in_canon {n : Nat} (h : n ≤ 4) (s : Str) : canon n s ∈ setsL n := by
  have k := sel_in n h (strIn ⟨#[97]⟩ s) (strIn ⟨#[98]⟩ s) (strIn ⟨#[99]⟩ s) (strIn ⟨#[100]⟩ s)
  have e : ((L4.take n).filter fun c => strIn c s) = (L4.take n).filter fun t => if t = ⟨#[97]⟩ then strIn ⟨#[97]⟩ s else if t = ⟨#[98]⟩ then strIn ⟨#[98]⟩ s else if t = ⟨#[99]⟩ then strIn ⟨#[99]⟩ s else strIn ⟨#[100]⟩ s := by
    refine List.filter_congr fun c hc => ?_
    have : c ∈ L4 := List.mem_of_mem_take hc
    simp only [L4, List.mem_cons, List.mem_nil_iff, or_false] at this
    rcases this with rfl | rfl | rfl | rfl <;> simp
  unfold canon
  rw [e]
  exact k
theorem canon_iff {n : Nat} (h : n ≤ 4) (s : Str) : s = canon n s ↔ s ∈ setsL n := ⟨fun e => e ▸ in_canon h s, fun m => canon_in n h s m⟩
end Em


set_option Elab.async false
set_option linter.all false
set_option maxRecDepth 100000
set_option maxHeartbeats 4000000
namespace Em
open PySem PySem.Spec PyProof.Rows L2 DL OrdS
/-! ### values of any kind, of a size -/
def okA (b : Nat) : D → Prop
  | .non => True
  | .bl _ => True
  | .int _ => True
  | .str s => s.length ≤ b ∧ PyData.strOk s = true
  | _ => False
def okV : Nat → Nat → D → Prop
  | 0, b, d => okA b d
  | k + 1, b, .tup xs => xs.length ≤ b ∧ ∀ x ∈ xs, okV k b x
  | k + 1, b, .lst xs => xs.length ≤ b ∧ ∀ x ∈ xs, okV k b x
  | _ + 1, b, d => okA b d
theorem okA.up {b c : Nat} (h : b ≤ c) : ∀ {d : D}, okA b d → okA c d
  | .non, _ => True.intro
  | .bl _, _ => True.intro
  | .int _, _ => True.intro
  | .str s, h' => ⟨Nat.le_trans h'.1 h, h'.2⟩
theorem okA.v {b : Nat} : ∀ {k : Nat} {d : D}, okA b d → okV k b d
  | 0, _, h => h
  | _ + 1, .non, h => h
  | _ + 1, .bl _, h => h
  | _ + 1, .int _, h => h
  | _ + 1, .str _, h => h
theorem okV.up {b c : Nat} (h : b ≤ c) : ∀ {k j : Nat} {d : D}, k ≤ j → okV k b d → okV j c d
  | 0, j, d, _, h' => (okA.up h h').v
  | k + 1, 0, d, hk, _ => absurd hk (by omega)
  | k + 1, j + 1, .tup xs, hk, h' => ⟨Nat.le_trans h'.1 h, fun x hx => okV.up h (by omega) (h'.2 x hx)⟩
  | k + 1, j + 1, .lst xs, hk, h' => ⟨Nat.le_trans h'.1 h, fun x hx => okV.up h (by omega) (h'.2 x hx)⟩
  | k + 1, j + 1, .non, _, h' => h'
  | k + 1, j + 1, .bl _, _, h' => h'
  | k + 1, j + 1, .int _, _, h' => h'
  | k + 1, j + 1, .str _, _, h' => okA.up h (d := .str _) h'
theorem okV.ty {k b : Nat} {d : D} (h : okV k b d) : ∃ t, tyN d = some t := by
  cases k <;> cases d <;> first | exact ⟨_, rfl⟩ | exact h.elim
theorem okV.p : ∀ {k b : Nat} {d : D}, okV k b d → ∃ p, toP d = some p ∧ p.canLay0 = true ∧ p.depth ≤ k := by
  intro k
  induction k with
  | zero =>
    intro b d h
    cases d with
    | non => exact ⟨.none, rfl, rfl, Nat.le_refl _⟩
    | bl q => exact ⟨.bool q, rfl, rfl, Nat.le_refl _⟩
    | int i => exact ⟨.int i, rfl, rfl, Nat.le_refl _⟩
    | str s => exact ⟨.str s, rfl, h.2, Nat.le_refl _⟩
    | _ => exact h.elim
  | succ k ih =>
    intro b d h
    have all : ∀ {xs : List D}, (∀ x ∈ xs, okV k b x) → ∃ ps, toPs xs = some ps ∧ PyData.canLayAll0 ps = true ∧ PyData.depthAll ps ≤ k := by
      intro xs
      induction xs with
      | nil => exact fun _ => ⟨[], rfl, rfl, Nat.zero_le _⟩
      | cons x r ihr =>
        intro hx
        obtain ⟨p, h1, h2, h3⟩ := ih (hx x List.mem_cons_self)
        obtain ⟨ps, e1, e2, e3⟩ := ihr fun y hy => hx y (List.mem_cons_of_mem _ hy)
        refine ⟨p :: ps, by unfold toPs; rw [h1, e1], ?_, ?_⟩
        · show (p.canLay0 && PyData.canLayAll0 ps) = true
          rw [h2, e2]; rfl
        · show max p.depth (PyData.depthAll ps) ≤ k
          exact Nat.max_le.mpr ⟨h3, e3⟩
    cases d with
    | tup xs =>
      obtain ⟨ps, e1, e2, e3⟩ := all h.2
      refine ⟨.tuple ps, by unfold toP; rw [e1]; rfl, e2, ?_⟩
      show PyData.depthAll ps + 1 ≤ k + 1
      omega
    | lst xs =>
      obtain ⟨ps, e1, e2, e3⟩ := all h.2
      refine ⟨.list ps, by unfold toP; rw [e1]; rfl, e2, ?_⟩
      show PyData.depthAll ps + 1 ≤ k + 1
      omega
    | non => exact ⟨.none, rfl, rfl, Nat.zero_le _⟩
    | bl q => exact ⟨.bool q, rfl, rfl, Nat.zero_le _⟩
    | int i => exact ⟨.int i, rfl, rfl, Nat.zero_le _⟩
    | str s => exact ⟨.str s, rfl, h.2, Nat.zero_le _⟩
    | _ => exact h.elim
theorem okV.ok {k b : Nat} {d : D} (hk : k ≤ 64) (h : okV k b d) : okD d = true := by
  obtain ⟨p, h1, h2, h3⟩ := h.p
  unfold okD
  rw [h1]
  show SeqAt.shaped p = true
  exact Bool.and_eq_true_iff.mpr ⟨h2, decide_eq_true (Nat.le_trans h3 hk)⟩
end Em


set_option Elab.async false
set_option linter.all false
set_option maxRecDepth 100000
set_option maxHeartbeats 4000000
namespace Em
open PySem PySem.Spec PyProof.Rows L2 DL OrdS
/-! ### a good family -/
theorem cut1 (xs : List D) : DL.cutD xs (some 1) none = xs.tail := by
  unfold DL.cutD
  rw [show (some (1 : Int)) = some ((1 : Nat) : Int) from rfl, HT.sIx_nat, HT.sIx_none]
  cases xs with
  | nil => rfl
  | cons a r =>
    have e : min 1 (a :: r).length = 1 := by rw [List.length_cons]; omega
    rw [e, List.drop_succ_cons, List.drop_zero, List.take_of_length_le (by rw [List.length_cons]; omega)]
    rfl
/-- texts rising strictly, neighbour by neighbour -/
def adjB : List Str → Bool
  | a :: b :: r => lts a b && adjB (b :: r)
  | _ => true
theorem adj_iff : ∀ l : List Str, adjB l = true ↔ l.Pairwise Lt
  | [] => ⟨fun _ => .nil, fun _ => rfl⟩
  | [a] => ⟨fun _ => List.pairwise_singleton _ _, fun _ => rfl⟩
  | a :: b :: r => by
    have ih := adj_iff (b :: r)
    rw [adjB, Bool.and_eq_true, ih]
    constructor
    · rintro ⟨h1, h2⟩
      refine List.pairwise_cons.mpr ⟨fun x hx => ?_, h2⟩
      rcases List.mem_cons.mp hx with rfl | hx
      · exact h1
      · exact lts_tr h1 ((List.pairwise_cons.mp h2).1 x hx)
    · intro h
      exact ⟨(List.pairwise_cons.mp h).1 b List.mem_cons_self, (List.pairwise_cons.mp h).2⟩
def pairLt : D → D
  | .tup [.str a, .str b] => .bl (lts a b)
  | d => d
theorem zip_adj : ∀ l : List Str, ∃ bs : List Bool, (zipD (l.map D.str) (l.map D.str).tail).map pairLt = bs.map D.bl ∧ bs.all id = adjB l
  | [] => ⟨[], rfl, rfl⟩
  | [a] => ⟨[], rfl, rfl⟩
  | a :: b :: r => by
    obtain ⟨bs, h1, h2⟩ := zip_adj (b :: r)
    exact ⟨lts a b :: bs, by
      show pairLt (.tup [.str a, .str b]) :: (zipD ((b :: r).map D.str) ((b :: r).map D.str).tail).map pairLt = _
      rw [h1]; rfl, by
      show (lts a b && bs.all id) = _
      rw [h2]; rfl⟩
/-- what is_good_family says -/
def famB (n : Nat) : D → Bool
  | .tup xs => xs.all (goodB n) && match strsOf xs with
    | some ss => adjB ss
    | none => false
  | _ => false
theorem good_strs {n : Nat} : ∀ {xs : List D}, xs.all (goodB n) = true → ∃ ss : List Str, xs = ss.map D.str
  | [], _ => ⟨[], rfl⟩
  | x :: r, h => by
    rw [List.all_cons, Bool.and_eq_true] at h
    obtain ⟨ss, rfl⟩ := good_strs h.2
    cases x with
    | str s => exact ⟨s :: ss, rfl⟩
    | _ => cases h.1
theorem F_is_good_family_t {n : Nat} {xs : List D} {S : Sto} (h : n ≤ 4) (hl : xs.length ≤ 1000) (hx : ∀ x ∈ xs, ∃ t, tyN x = some t) : Ret (F_is_good_family [.int n, .tup xs]) S (.bl (famB n (.tup xs))) := by
  intro Q E hq
  rw [F_is_good_family_eq]
  delta m_is_good_family
  conv => whnf
  refine ite_f rfl ?_
  conv => whnf
  refine ⟨sz (by omega), ?_⟩
  show lcT _ _ _ _ _ S _ _
  refine lc_m (fun d => .bl (goodB n d)) (fun d hd => ?_) _ _ ?_
  · intro Q E hq
    conv => whnf
    exact ⟨rfl, F_is_good_set_r h (hx d hd) _ _ hq⟩
  · conv => whnf
    refine opt_s (a := xs.map (goodB n)) (by
      have := blsOf_map (xs.map (goodB n))
      rw [List.map_map] at this
      exact this) ?_
    conv => whnf
    refine ite_i (fun hk => ?_) (fun hk => ?_)
    · have e : famB n (.tup xs) = false := by
        have hk : (!(xs.map (goodB n)).all id) = true := hk
        rw [List.all_map] at hk
        have : xs.all (goodB n) = false := by simpa using hk
        show (xs.all (goodB n) && _) = false
        rw [this]; rfl
      rw [e] at hq
      conv => whnf
      exact hq
    · have hk : (!(xs.map (goodB n)).all id) = false := hk
      rw [List.all_map] at hk
      have ha : xs.all (goodB n) = true := by simpa using hk
      obtain ⟨ss, rfl⟩ := good_strs ha
      conv => whnf
      rw [cut1]
      have hz : (zipD (ss.map D.str) (ss.map D.str).tail).length ≤ 1000 := by
        rw [zipD_len]
        exact Nat.le_trans (Nat.min_le_left _ _) hl
      refine ⟨sz (by omega), ?_⟩
      show lcT _ _ _ _ _ S _ _
      have pr : ∀ d ∈ zipD (ss.map D.str) (ss.map D.str).tail, ∃ a b : Str, d = .tup [.str a, .str b] := fun d hd => by
        obtain ⟨i, hi⟩ := List.getElem?_of_mem hd
        obtain ⟨x, y, hx, hy, rfl⟩ := zipD_get hi
        obtain ⟨a, _, rfl⟩ := List.mem_map.mp (List.mem_of_getElem? hx)
        obtain ⟨b, _, rfl⟩ := List.mem_map.mp (List.mem_of_mem_tail (List.mem_of_getElem? hy))
        exact ⟨a, b, rfl⟩
      obtain ⟨bs, e1, e2⟩ := zip_adj ss
      refine lc_2m pairLt (fun d hd => let ⟨a, b, e⟩ := pr d hd; ⟨_, _, e⟩) (fun d hd => ?_) _ _ ?_
      · obtain ⟨a, b, rfl⟩ := pr d hd
        intro Q E hq
        conv => whnf
        rw [lts_dec]
        exact hq
      · rw [e1]
        conv => whnf
        refine opt_s (blsOf_map bs) ?_
        conv => whnf
        have e : famB n (.tup (ss.map D.str)) = bs.all id := by
          show ((ss.map D.str).all (goodB n) && _) = _
          rw [ha, strsOf_map, e2]; rfl
        rw [e] at hq
        exact hq
theorem F_is_good_family_r {n k b : Nat} {d : D} {S : Sto} (h : n ≤ 4) (hb : b ≤ 1000) (hd : okV k b d) : Ret (F_is_good_family [.int n, d]) S (.bl (famB n d)) := by
  intro Q E hq
  cases d with
  | tup xs =>
    cases k with
    | zero => exact hd.elim
    | succ k =>
    obtain ⟨hl, hx⟩ := hd
    exact F_is_good_family_t h (Nat.le_trans hl hb) (fun x hx' => (hx x hx').ty) _ _ hq
  | non => rw [F_is_good_family_eq]; delta m_is_good_family
           conv => whnf
           refine ite_t rfl ?_
           conv => whnf
           exact ite_t rfl hq
  | bl _ => rw [F_is_good_family_eq]; delta m_is_good_family
            conv => whnf
            refine ite_t rfl ?_
            conv => whnf
            exact ite_t rfl hq
  | int _ => rw [F_is_good_family_eq]; delta m_is_good_family
             conv => whnf
             refine ite_t rfl ?_
             conv => whnf
             exact ite_t rfl hq
  | str _ => rw [F_is_good_family_eq]; delta m_is_good_family
             conv => whnf
             refine ite_t rfl ?_
             conv => whnf
             exact ite_t rfl hq
  | lst _ => rw [F_is_good_family_eq]; delta m_is_good_family
             conv => whnf
             refine ite_t rfl ?_
             conv => whnf
             exact ite_t rfl hq
  | _ => obtain ⟨t, ht⟩ := hd.ty; cases ht
end Em


set_option Elab.async false
set_option linter.all false
set_option maxRecDepth 100000
set_option maxHeartbeats 4000000
namespace Em
open PySem PySem.Spec PyProof.Rows L2 DL OrdS
/-! ### the law's own reading -/
theorem eqD_any (s : Str) (l : List Str) : ((l.map D.str).any fun z => eqD z (.str s)) = decide (s ∈ l) := by
  induction l with
  | nil => rfl
  | cons a r ih =>
    rw [List.map_cons, List.any_cons, ih, eqD_str]
    by_cases h : a = s
    · subst h; simp
    · have h' : ¬ s = a := fun e => h e.symm
      simp [h, h']
theorem flat_strs (l : List Str) : (l.map D.str).all flatD = true := by
  rw [List.all_map, List.all_eq_true]; exact fun _ _ => rfl
theorem eqvAll_strs : ∀ a b : List Str, PyData.eqvAll (a.map PyData.str) (b.map PyData.str) = decide (a = b)
  | [], [] => rfl
  | [], _ :: _ => rfl
  | _ :: _, [] => rfl
  | x :: a, y :: b => by
    show ((x == y) && PyData.eqvAll (a.map PyData.str) (b.map PyData.str)) = _
    rw [eqvAll_strs a b]
    by_cases h : x = y
    · subst h; simp
    · simp [h]
theorem toPs_strs : ∀ l : List Str, toPs (l.map D.str) = some (l.map PyData.str)
  | [] => rfl
  | x :: l => by
    rw [List.map_cons]
    unfold toPs
    rw [toPs_strs l]; rfl
theorem eqD_tup (a b : List Str) : eqD (.tup (a.map D.str)) (.tup (b.map D.str)) = decide (a = b) := by
  unfold eqD toP
  rw [toPs_strs, toPs_strs]
  exact eqvAll_strs a b
theorem sets_pw {n : Nat} (h : n ≤ 4) : (setsL n).Pairwise Lt := by
  have k : ∀ n ≤ 4, adjB (setsL n) = true := by decide +kernel
  exact (adj_iff _).mp (k n h)
theorem sets_len {n : Nat} (h : n ≤ 4) : (setsL n).length ≤ 16 := by
  have k : ∀ n ≤ 4, (setsL n).length ≤ 16 := by decide +kernel
  exact k n h
theorem sets_ok {n : Nat} (h : n ≤ 4) : ∀ s ∈ setsL n, s.length ≤ 4 ∧ PyData.strOk s = true := by
  have k : ∀ n ≤ 4, ∀ s ∈ setsL n, s.length ≤ 4 ∧ PyData.strOk s = true := by decide +kernel
  exact k n h
theorem sset_in {n : Nat} (h : n ≤ 4) {ss : List Str} (hs : ∀ s ∈ ss, s ∈ setsL n) : sset ss = (setsL n).filter fun s => decide (s ∈ ss) :=
  (sset_unique ((sets_pw h).filter _) fun x => by
    rw [List.mem_filter, decide_eq_true_eq]
    exact ⟨fun q => q.2, fun q => ⟨hs x q, q⟩⟩).symm
theorem sset_len {n : Nat} (h : n ≤ 4) {ss : List Str} (hs : ∀ s ∈ ss, s ∈ setsL n) : (sset ss).length ≤ 16 := by
  rw [sset_in h hs]
  exact Nat.le_trans (List.length_filter_le _ _) (sets_len h)
theorem eqD_nil {ys : List D} (h : okD (.lst ys) = true) : eqD (.lst ys) (.lst []) = ys.isEmpty := by
  cases ys with
  | nil => rfl
  | cons y r =>
    obtain ⟨p, hp, _⟩ := okD_some h
    unfold toP at hp
    cases q : toPs (y :: r) with
    | none => rw [q] at hp; cases hp
    | some ps =>
      unfold eqD toP
      rw [q]
      cases ps with
      | nil =>
        unfold toPs at q
        split at q
        · cases q
        · cases q
      | cons p ps => rfl
end Em


set_option Elab.async false
set_option linter.all false
set_option maxRecDepth 100000
set_option maxHeartbeats 4000000
namespace Em
open PySem PySem.Spec PyProof.Rows L2 DL OrdS
theorem F__law_draw_r {a : Addr} {m : Int} {S : Sto} (hs : S a = some .src) (m0 : 0 < m) (m1 : m < 1073741824) : Rets (F__law_draw [.ref a, .int m]) S fun d => ∃ r, d = .int r ∧ 0 ≤ r ∧ r < m := by
  intro Q E hq
  have fin : ∀ i : Int, Q (.int (i % m)) S := fun i => hq _ ⟨_, rfl, Int.emod_nonneg _ (by omega), Int.emod_lt_of_pos _ m0⟩
  rw [F__law_draw_eq]
  delta m__law_draw
  conv => whnf
  refine ix_src0 hs fun c c0 c1 => ?_
  conv => whnf
  refine ite_i (fun h => ?_) (fun h => ?_)
  · conv => whnf
    refine ix_src0 hs fun c' c0' c1' => ?_
    conv => whnf
    refine ⟨m0, ?_⟩
    conv => whnf
    refine ix_src0 hs fun d d0 d1 => ?_
    conv => whnf
    refine ⟨⟨m0, m1⟩, ?_⟩
    conv => whnf
    refine put_src0 hs (Int.ediv_nonneg d0 (by omega)) (Int.lt_of_le_of_lt (Int.ediv_le_self _ d0) d1) ?_
    conv => whnf
    exact fin _
  · conv => whnf
    refine ix_src1 hs fun c' c0' c1' => ?_
    conv => whnf
    refine ⟨by unfold CMul; omega, ?_⟩
    conv => whnf
    refine ⟨by omega, ?_⟩
    conv => whnf
    refine put_src1 hs (Int.emod_nonneg _ (by omega)) (Int.lt_trans (Int.emod_lt_of_pos _ (by omega)) (by omega)) ?_
    conv => whnf
    refine ix_src1 hs fun d d0 d1 => ?_
    conv => whnf
    refine ix_src1 hs fun e e0 e1 => ?_
    conv => whnf
    refine ⟨by unfold CMul; omega, ?_⟩
    conv => whnf
    refine ⟨by omega, ?_⟩
    conv => whnf
    refine ⟨by unfold CDiv; omega, ?_⟩
    conv => whnf
    refine ⟨m0, ?_⟩
    conv => whnf
    exact fin _
theorem atI_nat {α : Type} {l : List α} {i : Nat} (h : i < l.length) : L2.atI l (i : Int) = some l[i] := by
  unfold L2.atI ixN
  simp [h]
theorem F__law_source_r {ns : List Int} {k : Nat} {S : Sto} {Q : D → Sto → Prop} {E : Xn → Sto → Prop} (hb : ∀ z ∈ ns, Builtin.Int.intBits z ≤ 1048576) (hk : k ≤ 64) (hl : ns.length ≤ 63)
    (hq : ∀ a, S a = none → Q (.ref a) (S.up a .src)) : F__law_source [.frz (ns.map D.int), .int k] S Q E := by
  rw [F__law_source_eq]
  delta m__law_source
  conv => whnf
  have fin : ∀ c : Int, 0 ≤ c → c < 2 ^ srcBits → ∀ s : Int, srcR c (1 + s % 2147483646) S (fun a S' => outD a S' Q E) E := fun c c0 c1 s => by
    refine ⟨⟨c0, c1, ?_, ?_⟩, fun a ha => hq a ha⟩
    · have := Int.emod_nonneg s (b := 2147483646) (by decide); omega
    · have := Int.emod_lt_of_pos s (b := 2147483646) (by decide); omega
  have pw : CPow 10 18 := ⟨by decide, by decide, by decide⟩
  refine ite_i (fun h => ?_) (fun h => ?_)
  · have hk' : k < (ns.map D.int).length := by have := of_decide_eq_true h; omega
    conv => whnf
    refine opt_s (atI_nat hk') ?_
    rw [List.getElem_map]
    have hz := src_lt (hb (ns[k]'(by simpa using hk')) (List.getElem_mem _))
    generalize ns[k]'(by simpa using hk') = z at hz
    conv => whnf
    refine ⟨pw, ?_⟩
    conv => whnf
    refine ite_i (fun h => ?_) (fun h => ?_)
    · conv => whnf
      refine ⟨by unfold CMul; omega, ?_⟩
      conv => whnf
      refine ⟨by unfold CMul; omega, ?_⟩
      conv => whnf
      refine ⟨by omega, ?_⟩
      conv => whnf
      refine ⟨sz (n := 2) (by decide), ?_⟩
      exact fin _ (by omega) (Int.pow_pos (by decide)) _
    · conv => whnf
      refine ⟨by omega, ?_⟩
      conv => whnf
      refine ⟨sz (n := 2) (by decide), ?_⟩
      exact fin _ hz.2 hz.1 _
  · conv => whnf
    refine ⟨pw, ?_⟩
    conv => whnf
    refine ite_i (fun h => ?_) (fun h => ?_)
    · conv => whnf
      refine ⟨by unfold CMul; omega, ?_⟩
      conv => whnf
      refine ⟨by unfold CMul; omega, ?_⟩
      conv => whnf
      refine ⟨by omega, ?_⟩
      conv => whnf
      refine ⟨sz (n := 2) (by decide), ?_⟩
      exact fin _ (by omega) (Int.pow_pos (by decide)) _
    · conv => whnf
      refine ⟨by omega, ?_⟩
      conv => whnf
      refine ⟨sz (n := 2) (by decide), ?_⟩
      exact fin _ (by omega) (Int.pow_pos (by decide)) _
theorem F__law_of_r {a : Addr} {ds : List D} {S : Sto} (hs : S a = some .src) (h0 : 0 < ds.length) (h1 : ds.length < 1073741824) : Rets (F__law_of [.ref a, .lst ds]) S fun d => d ∈ ds := by
  intro Q E hq
  rw [F__law_of_eq]
  delta m__law_of
  conv => whnf
  refine ⟨rfl, ?_⟩
  refine F__law_draw_r hs (by omega) (by omega) _ _ fun d hd => ?_
  obtain ⟨r, rfl, r0, r1⟩ := hd
  conv => whnf
  have hr : r.toNat < ds.length := by omega
  have e : r = (r.toNat : Int) := by omega
  rw [e]
  refine opt_s (atI_nat hr) ?_
  exact hq _ (List.getElem_mem _)
end Em


set_option Elab.async false
set_option linter.all false
set_option maxRecDepth 100000
set_option maxHeartbeats 4000000
namespace Em
open PySem PySem.Spec PyProof.Rows L2 DL OrdS
/-! ### values spoilt -/
def okAb (b : Nat) : D → Bool
  | .non => true
  | .bl _ => true
  | .int _ => true
  | .str s => decide (s.length ≤ b) && PyData.strOk s
  | _ => false
def okVb : Nat → Nat → D → Bool
  | 0, b, d => okAb b d
  | k + 1, b, .tup xs => decide (xs.length ≤ b) && xs.all (okVb k b)
  | k + 1, b, .lst xs => decide (xs.length ≤ b) && xs.all (okVb k b)
  | _ + 1, b, d => okAb b d
theorem okAb_ok {b : Nat} : ∀ {d : D}, okAb b d = true → okA b d
  | .non, _ => True.intro
  | .bl _, _ => True.intro
  | .int _, _ => True.intro
  | .str s, h => by
    have h := Bool.and_eq_true_iff.mp h
    exact ⟨of_decide_eq_true h.1, h.2⟩
theorem okVb_ok : ∀ {k b : Nat} {d : D}, okVb k b d = true → okV k b d
  | 0, b, d, h => okAb_ok h
  | k + 1, b, .tup xs, h => by
    have h := Bool.and_eq_true_iff.mp h
    exact ⟨of_decide_eq_true h.1, fun x hx => okVb_ok (List.all_eq_true.mp h.2 x hx)⟩
  | k + 1, b, .lst xs, h => by
    have h := Bool.and_eq_true_iff.mp h
    exact ⟨of_decide_eq_true h.1, fun x hx => okVb_ok (List.all_eq_true.mp h.2 x hx)⟩
  | k + 1, b, .non, h => True.intro
  | k + 1, b, .bl _, h => True.intro
  | k + 1, b, .int _, h => True.intro
  | k + 1, b, .str s, h => okAb_ok (d := .str s) h
end Em


set_option Elab.async false
set_option linter.all false
set_option maxRecDepth 100000
set_option maxHeartbeats 4000000
namespace Em
open PySem PySem.Spec PyProof.Rows L2 DL OrdS
/-! ### a number of letters asked -/
def numB (lo hi : Int) : D → Bool
  | .int n => decide (lo ≤ n) && decide (n ≤ hi)
  | _ => false
theorem F_is_number_r {d : D} {lo hi : Int} {S : Sto} (hd : ∃ t, tyN d = some t) : Ret (F_is_number [d, .int lo, .int hi]) S (.bl (numB lo hi d)) := by
  intro Q E hq
  rw [F_is_number_eq]
  delta m_is_number
  cases d with
  | int n =>
    conv => whnf
    refine ite_t rfl ?_
    conv => whnf
    refine ite_t rfl ?_
    conv => whnf
    have e : numB lo hi (.int n) = (decide (lo ≤ n) && decide (n ≤ hi)) := rfl
    rw [e] at hq
    refine ite_i (fun h => ?_) (fun h => ?_)
    · rw [h, Bool.true_and] at hq
      conv => whnf
      exact hq
    · rw [h, Bool.false_and] at hq
      conv => whnf
      exact hq
  | bl b =>
    conv => whnf
    refine ite_t rfl ?_
    conv => whnf
    refine ite_f rfl ?_
    conv => whnf
    exact hq
  | non => conv => whnf
           exact ite_f rfl hq
  | str _ => conv => whnf
             exact ite_f rfl hq
  | tup _ => conv => whnf
             exact ite_f rfl hq
  | lst _ => conv => whnf
             exact ite_f rfl hq
  | _ => obtain ⟨t, ht⟩ := hd; cases ht
theorem F_need_letters_ok {n : Nat} {m : Int} {S : Sto} (h1 : 1 ≤ n) (h2 : (n : Int) ≤ m) : Ret (F_need_letters [.int n, .int m]) S .non := by
  intro Q E hq
  rw [F_need_letters_eq]
  delta m_need_letters
  conv => whnf
  refine ⟨rfl, F_is_number_r ⟨_, rfl⟩ _ _ ?_⟩
  conv => whnf
  refine ite_f ?_ ?_
  · show (!(decide ((1 : Int) ≤ n) && decide ((n : Int) ≤ m))) = false
    rw [decide_eq_true (by omega), decide_eq_true h2]; rfl
  · conv => whnf
    exact hq
theorem F_need_letters_bad {d : D} {m : Int} {S : Sto} {Q : D → Sto → Prop} {E : Xn → Sto → Prop} (hd : ∃ t, tyN d = some t) (hb : numB 1 m d = false) (he : E ⟨"InvalidLetters", []⟩ S) : F_need_letters [d, .int m] S Q E := by
  rw [F_need_letters_eq]
  delta m_need_letters
  conv => whnf
  refine ⟨rfl, F_is_number_r hd _ _ ?_⟩
  rw [hb]
  conv => whnf
  exact ite_t rfl he
/-! ### the law -/
end Em


set_option Elab.async false
set_option linter.all false
set_option maxRecDepth 100000
set_option maxHeartbeats 4000000
namespace Em
open PySem PySem.Spec PyProof.Rows L2 DL OrdS
/-! ### sets joined, met, less -/
def lettersOf (s : Str) : List Str := s.cps.toList.map fun c => ⟨#[c]⟩
theorem chars_eq (s : Str) : chars s = (lettersOf s).map D.str := by
  unfold chars lettersOf
  rw [List.map_map]; rfl
theorem lettersOf_len (s : Str) : (lettersOf s).length = s.length := by
  unfold lettersOf
  rw [List.length_map, Array.length_toList]; rfl
theorem lettersOf_one (s : Str) : ∀ c ∈ lettersOf s, c.length = 1 := fun c hc => by
  obtain ⟨x, _, rfl⟩ := List.mem_map.mp hc; rfl
def lessS (s t : Str) : Str := Str.join "" ((lettersOf s).filter fun c => !strIn c t)
/-- behind a comprehension over letters: '' .join -/
theorem join_fin {l : List Str} {p : Str → Bool} {S : Sto} {Q : D → Sto → Prop} {E : Xn → Sto → Prop} (h1 : ∀ c ∈ l, c.length = 1) (hl : l.length ≤ 1000) (h : Q (.str (Str.join "" (l.filter p))) S) : dJoin "" (.lst ((l.filter p).map D.str)) S Q E := by
  unfold dJoin
  refine opt_s (show strsIn (.lst ((l.filter p).map D.str)) = some (l.filter p) from strsOf_map _) ?_
  have e0 : Str.length "" = 0 := by decide
  refine ⟨?_, h⟩
  have := List.length_filter_le p l
  rw [len_sum _ fun c hc => h1 c (List.mem_filter.mp hc).1, e0]; omega
def letP (p : Str → Bool) : D → Bool
  | .str c => p c
  | _ => false
theorem F_less_r {s t : Str} {S : Sto} (hs : s.length ≤ 100) : Ret (F_less [.str s, .str t]) S (.str (lessS s t)) := by
  intro Q E hq
  rw [F_less_eq]
  delta m_less
  conv => whnf
  rw [chars_eq]
  refine ⟨sz (by rw [List.length_map, lettersOf_len]; omega), ?_⟩
  show lcT _ _ _ _ _ S _ _
  refine lc_n (letP fun c => !strIn c t) id (fun d hd => ?_) (fun d hd _ => ?_) _ _ ?_
  · obtain ⟨c, hc, rfl⟩ := List.mem_map.mp hd
    intro Q E hq
    conv => whnf
    exact hq
  · intro Q E hq
    conv => whnf
    exact hq
  · rw [filter_str, List.map_id]
    exact join_fin (lettersOf_one s) (by rw [lettersOf_len]; omega) hq
end Em


set_option Elab.async false
set_option linter.all false
set_option maxRecDepth 100000
set_option maxHeartbeats 4000000
namespace Em
open PySem PySem.Spec PyProof.Rows L2 DL OrdS
/-- a family: sets, each once, in order -/
structure IsFam (A : List Str) : Prop where
  mem : ∀ s ∈ A, s ∈ setsL 4
  pw : A.Pairwise Lt
theorem IsFam.len {A : List Str} (h : IsFam A) : A.length ≤ 16 := by
  have e := sset_self h.pw
  rw [← e]
  exact sset_len (by decide) h.mem
theorem IsFam.s4 {A : List Str} (h : IsFam A) {s : Str} (hs : s ∈ A) : s.length ≤ 4 := (sets_ok (n := 4) (by decide) s (h.mem s hs)).1
end Em


set_option Elab.async false
set_option linter.all false
set_option maxRecDepth 100000
set_option maxHeartbeats 4000000
namespace Em
open PySem PySem.Spec PyProof.Rows L2 DL OrdS
/-! ### families asked -/
theorem fam_okV {A : List Str} (h : IsFam A) : okV 1 16 (.tup (A.map D.str)) := ⟨by rw [List.length_map]; exact h.len, fun x hx => by
  obtain ⟨s, hs, rfl⟩ := List.mem_map.mp hx
  have := sets_ok (n := 4) (by decide) s (h.mem s hs)
  exact ⟨by omega, this.2⟩⟩
theorem fam_B {n : Nat} (h : n ≤ 4) {A : List Str} (hm : ∀ s ∈ A, s ∈ setsL n) (hp : A.Pairwise Lt) : famB n (.tup (A.map D.str)) = true := by
  show ((A.map D.str).all (goodB n) && _) = true
  rw [strsOf_map, Bool.and_eq_true]
  refine ⟨?_, (adj_iff A).mpr hp⟩
  rw [List.all_map, List.all_eq_true]
  exact fun s hs => decide_eq_true ((canon_iff h s).mpr (hm s hs))
theorem F_need_family_r {n : Nat} {A : List Str} {S : Sto} (h : n ≤ 4) (hA : IsFam A) (hm : ∀ s ∈ A, s ∈ setsL n) : Ret (F_need_family [.int n, .tup (A.map D.str)]) S .non := by
  intro Q E hq
  rw [F_need_family_eq]
  delta m_need_family
  conv => whnf
  refine ⟨rfl, F_is_good_family_r h (b := 16) (by decide) (fam_okV hA) _ _ ?_⟩
  rw [fam_B h hm hA.pw]
  conv => whnf
  refine ite_f rfl ?_
  conv => whnf
  exact hq
theorem F_need_family_bad {n k b : Nat} {d : D} {S : Sto} {Q : D → Sto → Prop} {E : Xn → Sto → Prop} (h : n ≤ 4) (hb : b ≤ 1000) (hd : okV k b d) (hf : famB n d = false) (he : E ⟨"InvalidFamily", []⟩ S) : F_need_family [.int n, d] S Q E := by
  rw [F_need_family_eq]
  delta m_need_family
  conv => whnf
  refine ⟨rfl, F_is_good_family_r h hb hd _ _ ?_⟩
  rw [hf]
  conv => whnf
  exact ite_t rfl he
end Em


set_option Elab.async false
set_option linter.all false
set_option maxRecDepth 100000
set_option maxHeartbeats 4000000


set_option Elab.async false
set_option linter.all false
set_option maxRecDepth 100000
set_option maxHeartbeats 4000000


set_option Elab.async false
set_option linter.all false
set_option maxRecDepth 100000
namespace Four
/-! the four functions theorem, on lists of truths -/
theorem two {P Q x y : Nat} (hx : x ≤ P) (hy : y ≤ P) (h : x * y ≤ P * Q) : x + y ≤ P + Q := by
  rcases Nat.eq_zero_or_pos P with h0 | hP
  · omega
  obtain ⟨a, rfl⟩ := Nat.exists_eq_add_of_le hx
  -- P = x + a; y ≤ x + a
  by_cases hya : y ≤ a
  · omega
  · obtain ⟨b, rfl⟩ : ∃ b, y = a + b := ⟨y - a, by omega⟩
    -- b ≤ x; want x + a + b ≤ x + a + Q, so b ≤ Q
    have hb : b ≤ x := by omega
    have e : (x + a) * b ≤ x * (a + b) := by
      rw [Nat.add_mul, Nat.mul_add, Nat.add_comm]
      refine Nat.add_le_add ?_ (Nat.le_refl _)
      rw [Nat.mul_comm x a]
      exact Nat.mul_le_mul_left _ hb
    have k : (x + a) * b ≤ (x + a) * Q := Nat.le_trans e h
    have := Nat.le_of_mul_le_mul_left k hP
    omega
theorem one {a0 a1 b0 b1 c0 c1 d0 d1 : Nat} (h00 : a0 * b0 ≤ c0 * d0) (h01 : a0 * b1 ≤ c1 * d0) (h10 : a1 * b0 ≤ c1 * d0) (h11 : a1 * b1 ≤ c1 * d1) : (a0 + a1) * (b0 + b1) ≤ (c0 + c1) * (d0 + d1) := by
  have k : a0 * b1 + a1 * b0 ≤ c1 * d0 + c0 * d1 := two h01 h10 (by
    calc a0 * b1 * (a1 * b0) = (a0 * b0) * (a1 * b1) := by ac_rfl
      _ ≤ (c0 * d0) * (c1 * d1) := Nat.mul_le_mul h00 h11
      _ = c1 * d0 * (c0 * d1) := by ac_rfl)
  rw [Nat.add_mul, Nat.mul_add, Nat.mul_add, Nat.add_mul, Nat.mul_add, Nat.mul_add]
  omega
end Four

set_option Elab.async false
set_option linter.all false
set_option maxRecDepth 100000

set_option Elab.async false
set_option linter.all false
set_option maxRecDepth 100000
set_option maxHeartbeats 4000000
namespace Em
open PySem PySem.Spec PyProof.Rows L2 DL OrdS
/-! ### how many -/
def bsOf (s : Str) : List Bool := L4.map fun c => strIn c s
theorem bs_inj : ∀ s ∈ setsL 4, ∀ t ∈ setsL 4, bsOf s = bsOf t → s = t := by decide +kernel
theorem bs_nd : ∀ {A : List Str}, (∀ s ∈ A, s ∈ setsL 4) → A.Nodup → (A.map bsOf).Nodup
  | [], _, _ => List.nodup_nil
  | s :: A, hm, nd => by
    rw [List.nodup_cons] at nd
    rw [List.map_cons, List.nodup_cons]
    refine ⟨fun h => ?_, bs_nd (fun t ht => hm t (List.mem_cons_of_mem _ ht)) nd.2⟩
    obtain ⟨t, ht, e⟩ := List.mem_map.mp h
    exact nd.1 (by rw [bs_inj s (hm s List.mem_cons_self) t (hm t (List.mem_cons_of_mem _ ht)) e.symm]; exact ht)
theorem IsFam.nd {A : List Str} (h : IsFam A) : (A.map bsOf).Nodup := bs_nd h.mem (pw_nodup h.pw)
end Em


set_option Elab.async false
set_option linter.all false
set_option maxRecDepth 100000
set_option maxHeartbeats 4000000
namespace Em
open PySem PySem.Spec PyProof.Rows L2 DL OrdS
theorem fam_ok {A : List Str} (h : IsFam A) : okD (.tup (A.map D.str)) = true := (fam_okV h).ok (by decide)
end Em


set_option Elab.async false
set_option linter.all false
set_option maxRecDepth 100000
set_option maxHeartbeats 4000000


set_option Elab.async false
set_option linter.all false
set_option maxRecDepth 100000
set_option maxHeartbeats 4000000


set_option Elab.async false
set_option linter.all false
set_option maxRecDepth 100000
set_option maxHeartbeats 4000000


set_option Elab.async false
set_option linter.all false
set_option maxRecDepth 100000
set_option maxHeartbeats 4000000


set_option Elab.async false
set_option linter.all false
set_option maxRecDepth 100000
set_option maxHeartbeats 4000000


set_option Elab.async false
set_option linter.all false
set_option maxRecDepth 100000
set_option maxHeartbeats 4000000


set_option Elab.async false
set_option linter.all false
set_option maxRecDepth 100000
set_option maxHeartbeats 4000000


set_option Elab.async false
set_option linter.all false
set_option maxRecDepth 100000
set_option maxHeartbeats 4000000


set_option Elab.async false
set_option linter.all false
set_option maxRecDepth 100000
set_option maxHeartbeats 4000000


set_option Elab.async false
set_option linter.all false
set_option maxRecDepth 100000
set_option maxHeartbeats 4000000


set_option Elab.async false
set_option linter.all false
set_option maxRecDepth 100000
set_option maxHeartbeats 4000000
namespace Em
open PySem PySem.Spec PyProof.Rows L2 DL OrdS
/-! ### loops over told items -/
def qLaw : Str := "law.<locals>.<lambda>"
theorem for_l {α : Type} (c : α → D) {f : D → Sg → T Sg} {body : MS} {Q : Out → Sto → Prop} {E : Xn → Sto → Prop} (I : List α → Sg → Sto → Prop)
    (hs : ∀ x r g S, I (x :: r) g S → ∀ Q' : Out → Sto → Prop, (∀ g2 S2, I r g2 S2 → Q' (.nx g2) S2) → (∀ d S2, Q (.rt d) S2 → Q' (.rt d) S2) → f (c x) g S (fun g1 S1 => body g1 S1 Q' E) E)
    (he : ∀ g S, I [] g S → Q (.nx g) S) : ∀ (l : List α) (g : Sg) (S : Sto), I l g S → forT f body (l.map c) g S Q E
  | [], g, S, h => he g S h
  | x :: r, g, S, h => hs x r g S h _ (fun g2 S2 h2 => for_l c I hs he r g2 S2 h2) (fun d S2 h2 => h2)
/-! ### squeezed -/
def sqzF (A : List Str) (c : Str) (s : Str) : Str := if lessS s c ∈ A then s else lessS s c
def sqz (A : List Str) (c : Str) : List Str := ssort (A.map (sqzF A c))
theorem F_squeezed_by_r {A : List Str} {c : Str} {S : Sto} (hA : IsFam A) (hc : c ∈ L4) : Ret (F_squeezed_by [.tup (A.map D.str), .str c]) S (.tup ((sqz A c).map D.str)) := by
  intro Q E hq
  have lA := hA.len
  rw [F_squeezed_by_eq]
  delta m_squeezed_by
  conv => whnf
  refine ⟨sz (n := 0) (by decide), ?_⟩
  refine for_l D.str (fun r g S' => S = S' ∧ ∃ A1 s3 s4, A = A1 ++ r ∧ g = [.va (.tup (A.map D.str)), .va (.str c), .ow ((A1.map (sqzF A c)).map D.str), s3, s4])
    (fun s r g S' hI Q1 hn hr => ?_) (fun g S' hI => ?_) _ _ _ ⟨rfl, [], _, _, rfl, rfl⟩
  · obtain ⟨rfl, A1, s3, s4, hAA, rfl⟩ := hI
    have hs : s ∈ A := by rw [hAA]; simp
    have l1 : A1.length ≤ 16 := by have := congrArg List.length hAA; rw [List.length_append] at this; omega
    have fin : Q1 (.nx [.va (.tup (A.map D.str)), .va (.str c), .ow ((A1.map (sqzF A c)).map D.str ++ [.str (sqzF A c s)]), .va (.str s), .va (.str (lessS s c))]) S :=
      hn _ _ ⟨rfl, A1 ++ [s], .va (.str s), .va (.str (lessS s c)), by rw [hAA]; simp, by simp⟩
    conv => whnf
    refine ⟨rfl, F_less_r (by have := hA.s4 hs; omega) _ _ ?_⟩
    conv => whnf
    refine ⟨.inl ⟨rfl, flat_strs _⟩, ?_⟩
    conv => whnf
    rw [eqD_any]
    refine ite_i (fun h => ?_) (fun h => ?_)
    · have h := of_decide_eq_true h
      conv => whnf
      refine ⟨by rw [List.length_map, List.length_map, sizeLine_eq]; omega, ?_⟩
      have e : sqzF A c s = s := if_pos h
      rw [e] at fin
      exact fin
    · have h := of_decide_eq_false h
      conv => whnf
      refine ⟨by rw [List.length_map, List.length_map, sizeLine_eq]; omega, ?_⟩
      have e : sqzF A c s = lessS s c := if_neg h
      rw [e] at fin
      exact fin
  · obtain ⟨rfl, A1, s3, s4, hAA, rfl⟩ := hI
    rw [List.append_nil] at hAA
    subst hAA
    conv => whnf
    refine opt_s (strsOf_map _) ?_
    conv => whnf
    exact ⟨by rw [List.length_map]; omega, hq⟩
end Em


set_option Elab.async false
set_option linter.all false
set_option maxRecDepth 100000
set_option maxHeartbeats 4000000
namespace Em
open PySem PySem.Spec PyProof.Rows L2 DL OrdS
/-! ### pressed -/
def dFam (A : List Str) : D := .tup (A.map D.str)
end Em


set_option Elab.async false
set_option linter.all false
set_option maxRecDepth 100000
set_option maxHeartbeats 4000000
namespace Em
open PySem PySem.Spec PyProof.Rows L2 DL OrdS
/-! ### picked whole -/
/-! ### letters asked -/
def letB (n : Nat) : D → Bool
  | .str s => decide ((s.length : Int) = 1) && strIn s (cutS "abcd" none (some (n : Int)))
  | _ => false
theorem letB_in : ∀ n ≤ 4, ∀ c ∈ L4.take n, letB n (.str c) = true := by decide +kernel
theorem F_need_letter_ok {n : Nat} {c : Str} {S : Sto} (h : n ≤ 4) (hc : c ∈ L4.take n) : Ret (F_need_letter [.int n, .str c]) S .non := by
  intro Q E hq
  have k := letB_in n h c hc
  have k : (decide ((c.length : Int) = 1) && strIn c (cutS "abcd" none (some (n : Int)))) = true := k
  rw [Bool.and_eq_true] at k
  rw [F_need_letter_eq]
  delta m_need_letter
  conv => whnf
  refine ite_f rfl ?_
  conv => whnf
  have k1 := of_decide_eq_true k.1
  refine ⟨sz (by omega), ?_⟩
  conv => whnf
  refine ⟨.inl rfl, ?_⟩
  conv => whnf
  refine ite_f (by
    show (!decide ((c.length : Int) = 1)) = false
    rw [k.1]; rfl) ?_
  conv => whnf
  refine ⟨sz (by decide), ?_⟩
  conv => whnf
  refine ite_f (by
    show (!strIn c (cutS "abcd" none (some (n : Int)))) = false
    rw [k.2]; rfl) ?_
  conv => whnf
  exact hq
theorem F_need_letter_bad {n : Nat} {d : D} {S : Sto} {Q : D → Sto → Prop} {E : Xn → Sto → Prop} (hl : ∀ c, d = .str c → c.length ≤ 1000) (hd : ∃ t, tyN d = some t) (hb : letB n d = false) (he : E ⟨"InvalidLetter", []⟩ S) : F_need_letter [.int n, d] S Q E := by
  rw [F_need_letter_eq]
  delta m_need_letter
  cases d with
  | str c =>
    have hb : (decide ((c.length : Int) = 1) && strIn c (cutS "abcd" none (some (n : Int)))) = false := hb
    conv => whnf
    refine ite_f rfl ?_
    conv => whnf
    refine ⟨sz (by have := hl c rfl; omega), ?_⟩
    conv => whnf
    refine ⟨.inl rfl, ?_⟩
    conv => whnf
    refine ite_i (fun h => ?_) (fun h => ?_)
    · conv => whnf
      exact ite_t rfl he
    · have h : (!decide ((c.length : Int) = 1)) = false := h
      have h' : decide ((c.length : Int) = 1) = true := by simpa using h
      rw [h', Bool.true_and] at hb
      conv => whnf
      refine ⟨sz (by decide), ?_⟩
      conv => whnf
      refine ite_t (by
        show (!strIn c (cutS "abcd" none (some (n : Int)))) = true
        rw [hb]; rfl) ?_
      exact he
  | non => conv => whnf
           refine ite_t rfl ?_
           conv => whnf
           exact ite_t rfl he
  | bl _ => conv => whnf
            refine ite_t rfl ?_
            conv => whnf
            exact ite_t rfl he
  | int _ => conv => whnf
             refine ite_t rfl ?_
             conv => whnf
             exact ite_t rfl he
  | tup _ => conv => whnf
             refine ite_t rfl ?_
             conv => whnf
             exact ite_t rfl he
  | lst _ => conv => whnf
             refine ite_t rfl ?_
             conv => whnf
             exact ite_t rfl he
  | _ => obtain ⟨t, ht⟩ := hd; cases ht
/-! ### the calls -/
end Em


set_option Elab.async false
set_option linter.all false
set_option maxRecDepth 100000
set_option maxHeartbeats 4000000


set_option Elab.async false
set_option linter.all false
set_option maxRecDepth 100000
set_option maxHeartbeats 4000000
namespace Em
open PySem PySem.Spec PyProof.Rows L2 DL OrdS
/-! ### shown by lots, boxes -/
/-! ### sets asked -/
theorem F_need_set_r {n : Nat} {s : Str} {S : Sto} (h : n ≤ 4) (hs : s ∈ setsL n) : Ret (F_need_set [.int n, .str s]) S .non := by
  intro Q E hq
  rw [F_need_set_eq]
  delta m_need_set
  conv => whnf
  refine ⟨rfl, F_is_good_set_r h ⟨_, rfl⟩ _ _ ?_⟩
  rw [show goodB n (.str s) = true from decide_eq_true ((canon_iff h s).mpr hs)]
  conv => whnf
  refine ite_f rfl ?_
  conv => whnf
  exact hq
theorem F_need_set_bad {n : Nat} {d : D} {S : Sto} {Q : D → Sto → Prop} {E : Xn → Sto → Prop} (h : n ≤ 4) (hd : ∃ t, tyN d = some t) (hf : goodB n d = false) (he : E ⟨"InvalidSet", []⟩ S) : F_need_set [.int n, d] S Q E := by
  rw [F_need_set_eq]
  delta m_need_set
  conv => whnf
  refine ⟨rfl, F_is_good_set_r h hd _ _ ?_⟩
  rw [hf]
  conv => whnf
  exact ite_t rfl he
/-! ### the calls -/
end Em


set_option Elab.async false
set_option linter.all false
set_option maxRecDepth 100000
set_option maxHeartbeats 4000000
namespace Em
open PySem PySem.Spec PyProof.Rows L2 DL OrdS TL
/-! ### texts, cut and joined -/
theorem spl_step {s c : Nat} {acc r : List Nat} : spl [s] 0 acc (c :: r) = if c = s then acc :: spl [s] 0 [] r else spl [s] 0 (acc ++ [c]) r := by
  by_cases h : c = s
  · rw [if_pos h, spl_hit (by subst h; simp [pre])]
    rfl
  · rw [if_neg h, spl_miss (by simp [pre, h])]
theorem spl_ne {s : Nat} : ∀ (l acc : List Nat), spl [s] 0 acc l ≠ []
  | [], acc => by rw [spl_nil]; simp
  | c :: r, acc => by
    rw [spl_step]
    by_cases h : c = s
    · rw [if_pos h]; simp
    · rw [if_neg h]; exact spl_ne r _
def spc : Str := " "
theorem tl_spc : tl spc = [32] := by decide +kernel
theorem split_ne (t : Str) : Txt.split t spc ≠ [] := fun h => by
  have e := split_spl t spc (by rw [tl_spc]; simp) (kind_ok (by decide +kernel))
  rw [h, tl_spc] at e
  exact spl_ne _ _ e.symm
/-! ### families as texts -/
def wd (s : Str) : Str := if s = "" then "-" else s
def unwd (w : Str) : Str := if w = "-" then "" else w
def nS (n : Nat) : Str := toString (n : Int)
def txtW (n : Nat) (A : List Str) : Str := Str.join spc (nS n :: A.map wd)
theorem sets_up : ∀ n : Nat, n ≤ 4 → ∀ s ∈ setsL n, s ∈ setsL 4 := by decide +kernel
/-- what is read: by the program's way, by the law's way -/
def numOf (w : Str) : Option Nat := if w = "1" then some 1 else if w = "2" then some 2 else if w = "3" then some 3 else if w = "4" then some 4 else none
theorem numOf_le {w : Str} {n : Nat} (h : numOf w = some n) : 1 ≤ n ∧ n ≤ 4 ∧ nS n = w := by
  unfold numOf at h
  split at h
  · rename_i e; cases h; exact ⟨by decide, by decide, by rw [e]; decide +kernel⟩
  · split at h
    · rename_i e; cases h; exact ⟨by decide, by decide, by rw [e]; decide +kernel⟩
    · split at h
      · rename_i e; cases h; exact ⟨by decide, by decide, by rw [e]; decide +kernel⟩
      · split at h
        · rename_i e; cases h; exact ⟨by decide, by decide, by rw [e]; decide +kernel⟩
        · cases h
def readp (t : Str) : Option (Nat × List Str) := match Txt.split t spc with
  | [] => none
  | w0 :: r => match numOf w0 with
    | none => none
    | some n => if famB n (.tup ((r.map unwd).map D.str)) && decide (txtW n (r.map unwd) = t) then some (n, r.map unwd) else none
theorem famB_iff {n : Nat} (h : n ≤ 4) (A : List Str) : famB n (.tup (A.map D.str)) = true ↔ (∀ s ∈ A, s ∈ setsL n) ∧ A.Pairwise Lt := by
  have e : famB n (.tup (A.map D.str)) = ((A.map D.str).all (goodB n) && adjB A) := by
    show (_ && (match strsOf (A.map D.str) with
      | some ss => adjB ss
      | none => false)) = _
    rw [strsOf_map]
  rw [e, Bool.and_eq_true, List.all_map, List.all_eq_true, adj_iff]
  constructor
  · rintro ⟨h1, h2⟩
    refine ⟨fun s hs => ?_, h2⟩
    have := h1 s hs
    exact (canon_iff h s).mp (of_decide_eq_true this)
  · rintro ⟨h1, h2⟩
    exact ⟨fun s hs => decide_eq_true ((canon_iff h s).mpr (h1 s hs)), h2⟩
end Em


set_option Elab.async false
set_option linter.all false
set_option maxRecDepth 100000
set_option maxHeartbeats 4000000
namespace Em
open PySem PySem.Spec PyProof.Rows L2 DL OrdS
theorem sum_le {k : Nat} : ∀ (ys : List Str), (∀ y ∈ ys, y.length ≤ k) → (ys.map (·.length)).sum ≤ ys.length * k
  | [], _ => by simp
  | y :: r, h => by
    have ih := sum_le r fun z hz => h z (List.mem_cons_of_mem _ hz)
    have h0 := h y List.mem_cons_self
    rw [List.map_cons, List.sum_cons, List.length_cons, Nat.succ_mul]
    omega
theorem wd_len : ∀ s ∈ setsL 4, (wd s).length ≤ 4 := by decide +kernel
theorem F_word_of_r {s : Str} {S : Sto} : Ret (F_word_of [.str s]) S (.str (wd s)) := by
  intro Q E hq
  rw [F_word_of_eq]
  delta m_word_of
  conv => whnf
  refine ⟨.inl rfl, ?_⟩
  conv => whnf
  have e : (!eqD (.str s) (.str "")) = !decide (s = "") := by rw [eqD_str]
  refine ite_i (fun h => ?_) (fun h => ?_)
  · have h : (!eqD (.str s) (.str "")) = true := h
    rw [e] at h
    have h : s ≠ "" := by simpa using h
    conv => whnf
    have : wd s = s := by unfold wd; rw [if_neg h]
    rw [this] at hq; exact hq
  · have h : (!eqD (.str s) (.str "")) = false := h
    rw [e] at h
    have h : s = "" := by simpa using h
    conv => whnf
    have : wd s = "-" := by unfold wd; rw [if_pos h]
    rw [this] at hq; exact hq
theorem txt_sum {n : Nat} (hn : n ≤ 4) {A : List Str} (hA : IsFam A) : ((nS n :: A.map wd).map (·.length)).sum + (nS n :: A.map wd).length * (spc : Str).length ≤ 16777216 := by
  have hl := hA.len
  have h1 := sum_le (k := 4) (nS n :: A.map wd) fun y hy => by
    rcases List.mem_cons.mp hy with rfl | hy
    · have : ∀ n : Nat, n ≤ 4 → (nS n).length ≤ 4 := by decide +kernel
      exact this n hn
    · obtain ⟨s, hs, rfl⟩ := List.mem_map.mp hy
      exact wd_len s (hA.1 s hs)
  have h2 : (spc : Str).length = 1 := by decide +kernel
  rw [h2]
  have h3 : (nS n :: A.map wd).length = A.length + 1 := by simp
  rw [h3] at h1 ⊢
  omega
theorem F_text_of_r {n : Nat} {A : List Str} {S : Sto} (hn : n ≤ 4) (hA : IsFam A) : Ret (F_text_of [.int n, .tup (A.map D.str)]) S (.str (txtW n A)) := by
  intro Q E hq
  have hl := hA.len
  rw [F_text_of_eq]
  delta m_text_of
  conv => whnf
  refine ⟨by
    have : ∀ n : Nat, n ≤ 4 → (n : Int).natAbs.log2 < 1920 := by decide +kernel
    exact this n hn, ?_⟩
  conv => whnf
  refine ⟨sz (n := 1) (by decide), ?_⟩
  conv => whnf
  refine ⟨sz (by rw [List.length_map]; omega), ?_⟩
  show lcT _ _ _ _ _ S _ _
  refine lc_m (fun d => match d with | .str s => .str (wd s) | d => d) (fun d hd => ?_) _ _ ?_
  · obtain ⟨s, hs, rfl⟩ := List.mem_map.mp hd
    intro Q E hq
    conv => whnf
    exact ⟨rfl, F_word_of_r _ _ hq⟩
  · rw [List.map_map, show ((fun d => match d with | .str s => D.str (wd s) | d => d) ∘ D.str) = D.str ∘ wd from rfl, ← List.map_map]
    conv => whnf
    refine ⟨sz (by simp; omega), ?_⟩
    refine opt_s (strsOf_map (nS n :: A.map wd)) ?_
    conv => whnf
    exact ⟨txt_sum hn hA, hq⟩
/-! ### a set put in or taken out -/
end Em


set_option Elab.async false
set_option linter.all false
set_option maxRecDepth 100000
set_option maxHeartbeats 4000000
namespace Em
open PySem PySem.Spec PyProof.Rows L2 DL OrdS
/-! ### a text read -/
def one4 : List Str := ["1", "2", "3", "4"]
theorem numOf_mem {w : Str} : w ∈ one4 ↔ (numOf w).isSome = true := by
  unfold one4 numOf
  simp only [List.mem_cons, List.not_mem_nil, or_false]
  constructor
  · rintro (h | h | h | h) <;> subst h <;> decide +kernel
  · intro h
    split at h
    · exact .inl ‹_›
    · split at h
      · exact .inr (.inl ‹_›)
      · split at h
        · exact .inr (.inr (.inl ‹_›))
        · split at h
          · exact .inr (.inr (.inr ‹_›))
          · cases h
theorem numOf_int {w : Str} {n : Nat} (h : numOf w = some n) : intText? w = some (n : Int) ∧ w.length ≤ 640 := by
  have hm : w ∈ one4 := numOf_mem.mpr (by rw [h]; rfl)
  have : ∀ w ∈ one4, intText? w = (numOf w).map (fun n : Nat => (n : Int)) ∧ w.length ≤ 640 := by decide +kernel
  obtain ⟨k1, k2⟩ := this w hm
  exact ⟨by rw [k1, h]; rfl, k2⟩
theorem at0 {x : D} {xs : List D} : L2.atI (x :: xs) (0 : Int) = some x := atI_nat (l := x :: xs) (i := 0) (by simp)
theorem strs_ty {l : List Str} : ∀ x ∈ l.map D.str, ∃ t, tyN x = some t := fun x hx => by
  obtain ⟨s, _, rfl⟩ := List.mem_map.mp hx
  exact ⟨_, rfl⟩
theorem spl_len {s : Nat} : ∀ (l acc : List Nat), (TL.spl [s] 0 acc l).length ≤ l.length + 1
  | [], acc => by rw [TL.spl_nil]; simp
  | c :: r, acc => by
    rw [spl_step]
    by_cases h : c = s
    · rw [if_pos h]
      have := spl_len (s := s) r []
      simp; omega
    · rw [if_neg h]
      have := spl_len (s := s) r (acc ++ [c])
      simp; omega
theorem split_len (t : Str) : (Txt.split t spc).length ≤ t.length + 1 := by
  have e := TL.split_spl t spc (by rw [tl_spc]; simp) (TL.kind_ok (by decide +kernel))
  have h := congrArg List.length e
  rw [List.length_map, tl_spc] at h
  rw [h]
  have := spl_len (s := 32) (TL.tl t) []
  have e2 := TL.len_tl t
  omega
theorem F_family_in_r {t : Str} {S : Sto} {Q : D → Sto → Prop} {E : Xn → Sto → Prop} (ht : t.length ≤ 900) (hg : ∀ n A, readp t = some (n, A) → Q (.tup [.int (n : Nat), .tup (A.map D.str)]) S) (hb : readp t = none → E ⟨"InvalidText", []⟩ S) : F_family_in [.str t] S Q E := by
  rw [F_family_in_eq]
  delta m_family_in
  have hsl := split_len t
  conv => whnf
  refine ite_f rfl ?_
  conv => whnf
  refine ⟨⟨by decide +kernel, sz (by omega)⟩, ?_⟩
  unfold readp at hg hb
  rw [show Txt.split t " " = Txt.split t spc from rfl]
  cases e : Txt.split t spc with
  | nil => exact absurd e (split_ne t)
  | cons w0 r =>
    rw [e] at hg hb hsl
    dsimp only at hg hb
    conv => whnf
    refine opt_s (show L2.atI ((w0 :: r).map D.str) 0 = some (.str w0) from at0) ?_
    conv => whnf
    refine ⟨sz (n := 4) (by decide), ?_⟩
    conv => whnf
    refine ⟨.inl ⟨rfl, rfl⟩, ?_⟩
    conv => whnf
    have k : ((one4.map D.str).any fun z => eqD z (.str w0)) = decide (w0 ∈ one4) := eqD_any w0 one4
    refine ite_i (fun h => ?_) (fun h => ?_)
    · have h : (!((one4.map D.str).any fun z => eqD z (.str w0))) = true := h
      rw [k] at h
      have h : w0 ∉ one4 := by simpa using h
      have en : numOf w0 = none := by
        cases q : numOf w0 with
        | none => rfl
        | some n => exact absurd (numOf_mem.mpr (by rw [q]; rfl)) h
      rw [en] at hb
      conv => whnf
      exact hb rfl
    · have h : (!((one4.map D.str).any fun z => eqD z (.str w0))) = false := h
      rw [k] at h
      have h : w0 ∈ one4 := by simpa using h
      obtain ⟨n, en⟩ := Option.isSome_iff_exists.mp (numOf_mem.mp h)
      rw [en] at hg hb
      dsimp only at hg hb
      obtain ⟨n1, n4, ew⟩ := numOf_le en
      obtain ⟨k1, k2⟩ := numOf_int en
      conv => whnf
      refine opt_s (show L2.atI ((w0 :: r).map D.str) 0 = some (.str w0) from at0) ?_
      conv => whnf
      refine opt_s k1 ?_
      conv => whnf
      refine ⟨k2, ?_⟩
      conv => whnf
      have ec : DL.cutD ((w0 :: r).map D.str) (some 1) none = r.map D.str := cut1 _
      rw [ec]
      have hrl : r.length ≤ 900 := by rw [List.length_cons] at hsl; omega
      refine ⟨sz (by rw [List.length_map]; omega), ?_⟩
      show lcT _ _ _ _ _ S _ _
      refine lc_m (fun d => match d with | .str s => .str (unwd s) | d => d) (fun d hd => ?_) _ _ ?_
      · obtain ⟨s, hs, rfl⟩ := List.mem_map.mp hd
        intro Q E hq
        conv => whnf
        refine ⟨.inl rfl, ?_⟩
        conv => whnf
        have e3 : (!eqD (.str s) (.str "-")) = !decide (s = "-") := by rw [eqD_str]
        refine ite_i (fun h => ?_) (fun h => ?_)
        · have h : (!eqD (.str s) (.str "-")) = true := h
          rw [e3] at h
          have h : s ≠ "-" := by simpa using h
          conv => whnf
          have : unwd s = s := by unfold unwd; rw [if_neg h]
          have hq : Q (.str (unwd s)) S := hq
          rw [this] at hq; exact hq
        · have h : (!eqD (.str s) (.str "-")) = false := h
          rw [e3] at h
          have h : s = "-" := by simpa using h
          conv => whnf
          have : unwd s = "" := by unfold unwd; rw [if_pos h]
          have hq : Q (.str (unwd s)) S := hq
          rw [this] at hq; exact hq
      · rw [List.map_map, show ((fun d => match d with | .str s => D.str (unwd s) | d => d) ∘ D.str) = D.str ∘ unwd from rfl, ← List.map_map]
        conv => whnf
        refine ⟨rfl, F_is_good_family_t n4 (by simp; omega) strs_ty _ _ ?_⟩
        conv => whnf
        refine ite_i (fun hk => ?_) (fun hk => ?_)
        · have hk : (!famB n (.tup ((r.map unwd).map D.str))) = true := hk
          have hk : famB n (.tup ((r.map unwd).map D.str)) = false := by simpa using hk
          conv => whnf
          refine ite_t rfl ?_
          conv => whnf
          exact hb (by rw [hk]; rfl)
        · have hk : (!famB n (.tup ((r.map unwd).map D.str))) = false := hk
          have hk : famB n (.tup ((r.map unwd).map D.str)) = true := by simpa using hk
          obtain ⟨f1, f2⟩ := (famB_iff n4 _).mp hk
          have hf : IsFam (r.map unwd) := ⟨fun s hs => sets_up n n4 s (f1 s hs), f2⟩
          conv => whnf
          refine ⟨rfl, F_text_of_r n4 hf _ _ ?_⟩
          conv => whnf
          refine ⟨.inl rfl, ?_⟩
          conv => whnf
          have e4 : (!eqD (.str (txtW n (r.map unwd))) (.str t)) = !decide (txtW n (r.map unwd) = t) := by rw [eqD_str]
          refine ite_i (fun h => ?_) (fun h => ?_)
          · have h : (!eqD (.str (txtW n (r.map unwd))) (.str t)) = true := h
            rw [e4] at h
            have h : decide (txtW n (r.map unwd) = t) = false := by simpa using h
            conv => whnf
            exact hb (by rw [hk, h]; rfl)
          · have h : (!eqD (.str (txtW n (r.map unwd))) (.str t)) = false := h
            rw [e4] at h
            have h : decide (txtW n (r.map unwd) = t) = true := by simpa using h
            conv => whnf
            refine ⟨sz (n := 2) (by decide), ?_⟩
            exact hg n _ (by rw [hk, h]; rfl)
theorem F_family_in_bad {d : D} {S : Sto} {Q : D → Sto → Prop} {E : Xn → Sto → Prop} (hd : ∃ t, tyN d = some t ∧ t ≠ "str" ∧ kitB t "str" = some false) (hb : E ⟨"InvalidText", []⟩ S) : F_family_in [d] S Q E := by
  obtain ⟨t, h1, h2, h3⟩ := hd
  rw [F_family_in_eq]
  delta m_family_in
  cases d with
  | str s => cases h1; exact absurd rfl h2
  | non => conv => whnf
           refine ite_t rfl ?_
           conv => whnf
           exact hb
  | bl _ => conv => whnf
            refine ite_t rfl ?_
            conv => whnf
            exact hb
  | int _ => conv => whnf
             refine ite_t rfl ?_
             conv => whnf
             exact hb
  | tup _ => conv => whnf
             refine ite_t rfl ?_
             conv => whnf
             exact hb
  | lst _ => conv => whnf
             refine ite_t rfl ?_
             conv => whnf
             exact hb
  | _ => cases h1
end Em


set_option Elab.async false
set_option linter.all false
set_option maxRecDepth 100000
set_option maxHeartbeats 4000000


set_option Elab.async false
set_option linter.all false
set_option maxRecDepth 100000
set_option maxHeartbeats 4000000
namespace Em
open PySem PySem.Spec PyProof.Rows L2 DL OrdS
theorem readp_ok {t : Str} {n : Nat} {A : List Str} (h : readp t = some (n, A)) : 1 ≤ n ∧ n ≤ 4 ∧ IsFam A ∧ ∀ s ∈ A, s ∈ setsL n := by
  unfold readp at h
  split at h
  · cases h
  · split at h
    · cases h
    · rename_i m en
      obtain ⟨n1, n4, _⟩ := numOf_le en
      split at h
      · rename_i hk
        injection h with h
        injection h with e1 e2
        subst e1 e2
        obtain ⟨f1, f2⟩ := (famB_iff n4 _).mp (Bool.and_eq_true_iff.mp hk).1
        exact ⟨n1, n4, ⟨fun s hs => sets_up _ n4 s (f1 s hs), f2⟩, f1⟩
      · cases h
/-! ### families as values -/
theorem up_same {S : Sto} {a : Addr} {m : MO} : S.up a m a = some m := by unfold Sto.up; rw [if_pos rfl]
theorem up_ne {S : Sto} {a b : Addr} {m : MO} (h : b ≠ a) : S.up a m b = S b := by unfold Sto.up; rw [if_neg h]
theorem up_up {S : Sto} {a : Addr} {m m' : MO} : (S.up a m).up a m' = S.up a m' := by
  funext b
  unfold Sto.up
  by_cases h : b = a
  · rw [if_pos h, if_pos h]
  · rw [if_neg h, if_neg h, if_neg h]
def famO (n : Nat) (A : List Str) : MO := .ins "Family" [("base", .tup [.int n, .tup (A.map D.str)])]
theorem num_ok {n : Nat} (h1 : 1 ≤ n) (h4 : n ≤ 4) {S : Sto} : Ret (F_need_letters [.int n, .int 4]) S .non := F_need_letters_ok (m := 4) h1 (by omega)
theorem F_Family_init_r {n : Nat} {A : List Str} {x : Addr} {S : Sto} {Q : D → Sto → Prop} {E : Xn → Sto → Prop} (h1 : 1 ≤ n) (h4 : n ≤ 4) (hA : IsFam A) (hm : ∀ s ∈ A, s ∈ setsL n) (hx : S x = some (.ins "Family" [])) (hq : Q .non (S.up x (famO n A))) : F_Family_init [.ref x, .int n, .tup (A.map D.str)] S Q E := by
  rw [F_Family_init_eq]
  delta m_Family_init
  conv => whnf
  refine ⟨rfl, num_ok h1 h4 _ _ ?_⟩
  conv => whnf
  refine ⟨rfl, F_need_family_r h4 hA hm _ _ ?_⟩
  conv => whnf
  refine ⟨sz (n := 2) (by decide), ?_⟩
  conv => whnf
  refine ⟨x, [], rfl, hx, ?_⟩
  conv => whnf
  refine ⟨by decide, ?_⟩
  exact hq
theorem make_r {n : Nat} {A : List Str} {ds : List D} {S : Sto} {Q : D → Sto → Prop} {E : Xn → Sto → Prop} (hd : ds = .int n :: A.map D.str) (h1 : 1 ≤ n) (h4 : n ≤ 4) (hA : IsFam A) (hm : ∀ s ∈ A, s ∈ setsL n)
    (hq : ∀ x, S x = none → Q (.ref x) (S.up x (famO n A))) : mkT "Family" (starF 2 F_Family_init) ds S Q E := by
  subst hd
  intro x hx
  have hl := hA.len
  refine ⟨⟨by simp, sz (by simp; omega)⟩, ?_⟩
  refine F_Family_init_r h1 h4 hA hm up_same ?_
  rw [up_up]
  exact ⟨rfl, hq x hx⟩
theorem make_u {n : Nat} {A : List Str} {ds : List D} {S : Sto} {Q : Addr → Sto → Prop} {E : Xn → Sto → Prop} (hd : ds = .int n :: A.map D.str) (h1 : 1 ≤ n) (h4 : n ≤ 4) (hA : IsFam A) (hm : ∀ s ∈ A, s ∈ setsL n)
    (hq : ∀ x, S x = none → Q x (S.up x (famO n A))) : ∀ x, S x = none → starF 2 F_Family_init (.ref x :: ds) (S.up x (.ins "Family" [])) (fun d S' => d = .non ∧ Q x S') E := by
  subst hd
  intro x hx
  have hl := hA.len
  refine ⟨⟨by simp, sz (by simp; omega)⟩, ?_⟩
  refine F_Family_init_r h1 h4 hA hm up_same ?_
  rw [up_up]
  exact ⟨rfl, hq x hx⟩
theorem F_Family_source_r {n : Nat} {A : List Str} {x : Addr} {S : Sto} (hx : S x = some (famO n A)) : Ret (F_Family_source [.ref x]) S (.tup (A.map D.str)) := by
  intro Q E hq
  rw [F_Family_source_eq]
  delta m_Family_source
  conv => whnf
  refine ⟨x, _, rfl, hx, ?_⟩
  conv => whnf
  exact hq
theorem F_Family_read_r {t : Str} {S : Sto} {Q : D → Sto → Prop} {E : Xn → Sto → Prop} (ht : t.length ≤ 900) (hg : ∀ n A, readp t = some (n, A) → ∀ x, S x = none → Q (.ref x) (S.up x (famO n A))) (hb : readp t = none → E ⟨"InvalidText", []⟩ S) : F_Family_read [.glo "Family", .str t] S Q E := by
  rw [F_Family_read_eq]
  delta m_Family_read
  conv => whnf
  refine ⟨rfl, F_family_in_r ht (fun n A h => ?_) hb⟩
  obtain ⟨h1, h4, hA, hm⟩ := readp_ok h
  conv => whnf
  refine ⟨rfl, ?_⟩
  conv => whnf
  refine make_r (by simp) h1 h4 hA hm fun x hx => ?_
  exact hg n A h x hx
theorem F_Family_read_bad {d : D} {S : Sto} {Q : D → Sto → Prop} {E : Xn → Sto → Prop} (hd : ∃ t, tyN d = some t ∧ t ≠ "str" ∧ kitB t "str" = some false) (hb : E ⟨"InvalidText", []⟩ S) : F_Family_read [.glo "Family", d] S Q E := by
  rw [F_Family_read_eq]
  delta m_Family_read
  conv => whnf
  exact ⟨rfl, F_family_in_bad hd hb⟩
/-! ### a family made set by set -/
end Em


set_option Elab.async false
set_option linter.all false
set_option maxRecDepth 100000
set_option maxHeartbeats 4000000
namespace Em
open PySem PySem.Spec PyProof.Rows L2 DL OrdS
/-! ### what is made of values -/
theorem F_Family_need_like_bad {n : Nat} {A : List Str} {x : Addr} {d : D} {S : Sto} {Q : D → Sto → Prop} {E : Xn → Sto → Prop} (hx : S x = some (famO n A)) (hd : (∃ t, tyN d = some t) ∨ ∃ y m B, d = .ref y ∧ S y = some (famO m B) ∧ m ≠ n) (he : E ⟨"Unlike", []⟩ S) : F_Family_need_like [.ref x, d] S Q E := by
  rw [F_Family_need_like_eq]
  delta m_Family_need_like
  conv => whnf
  rcases hd with hd | ⟨y, m, B, rfl, hy, hne⟩
  · refine ⟨d, rfl, .inr ⟨hd, ?_⟩⟩
    conv => whnf
    refine ite_t rfl ?_
    conv => whnf
    refine ite_t rfl ?_
    conv => whnf
    exact he
  · refine ⟨.ref y, rfl, .inl ⟨⟨y, _, rfl, hy⟩, ?_⟩⟩
    conv => whnf
    refine ite_f rfl ?_
    conv => whnf
    refine ⟨y, _, rfl, hy, ?_⟩
    conv => whnf
    refine ⟨x, _, rfl, hx, ?_⟩
    conv => whnf
    refine ⟨.inl rfl, ?_⟩
    conv => whnf
    refine ite_t (by
      show (!decide ((m : Int) = n)) = true
      have : (m : Int) ≠ n := fun h => hne (by omega)
      simp [this]) ?_
    conv => whnf
    exact he
/-- a family of n letters -/
structure FamN (n : Nat) (A : List Str) : Prop where
  h1 : 1 ≤ n
  h4 : n ≤ 4
  f : IsFam A
  m : ∀ s ∈ A, s ∈ setsL n
/-! ### a set put in or taken out -/
theorem F_Family_xor_bad {n : Nat} {A : List Str} {d : D} {x : Addr} {S : Sto} {Q : D → Sto → Prop} {E : Xn → Sto → Prop} (hA : FamN n A) (hd : ∃ t, tyN d = some t) (hf : goodB n d = false) (hx : S x = some (famO n A)) (he : E ⟨"InvalidSet", []⟩ S) : F_Family_xor [.ref x, d] S Q E := by
  rw [F_Family_xor_eq]
  delta m_Family_xor
  conv => whnf
  refine ⟨x, _, rfl, hx, ?_⟩
  conv => whnf
  exact ⟨rfl, F_need_set_bad hA.h4 hd hf he⟩
theorem F_Family_ixor_bad {n : Nat} {A : List Str} {d : D} {x : Addr} {S : Sto} {Q : D → Sto → Prop} {E : Xn → Sto → Prop} (hA : FamN n A) (hd : ∃ t, tyN d = some t) (hf : goodB n d = false) (hx : S x = some (famO n A)) (he : E ⟨"InvalidSet", []⟩ S) : F_Family_ixor [.ref x, d] S Q E := by
  rw [F_Family_ixor_eq]
  delta m_Family_ixor
  conv => whnf
  refine ⟨x, _, rfl, hx, ?_⟩
  conv => whnf
  exact ⟨rfl, F_need_set_bad hA.h4 hd hf he⟩
/-! ### asked -/
theorem F_Family_call_bad {n : Nat} {A : List Str} {d : D} {x : Addr} {S : Sto} {Q : D → Sto → Prop} {E : Xn → Sto → Prop} (hA : FamN n A) (hd : ∃ t, tyN d = some t) (hf : goodB n d = false) (hx : S x = some (famO n A)) (he : E ⟨"InvalidSet", []⟩ S) : F_Family_call [.ref x, d] S Q E := by
  rw [F_Family_call_eq]
  delta m_Family_call
  conv => whnf
  refine ⟨x, _, rfl, hx, ?_⟩
  conv => whnf
  exact ⟨rfl, F_need_set_bad hA.h4 hd hf he⟩
end Em


set_option Elab.async false
set_option linter.all false
set_option maxRecDepth 100000
set_option maxHeartbeats 4000000
namespace Em
open PySem PySem.Spec PyProof.Rows L2 DL OrdS
theorem F_Family_getitem_bad {n : Nat} {A : List Str} {d : D} {x : Addr} {S : Sto} {Q : D → Sto → Prop} {E : Xn → Sto → Prop} (hA : IsFam A) (hd : ∃ t, tyN d = some t) (hb : numB 0 ((A.length : Int) - 1) d = false) (hx : S x = some (famO n A)) (he : E ⟨"InvalidNumber", []⟩ S) : F_Family_getitem [.ref x, d] S Q E := by
  have hl := hA.len
  rw [F_Family_getitem_eq]
  delta m_Family_getitem
  conv => whnf
  refine ⟨x, _, rfl, hx, ?_⟩
  conv => whnf
  refine ⟨rfl, F_is_number_r hd _ _ ?_⟩
  rw [List.length_map]
  conv => whnf
  refine ite_t (by
    show (!numB 0 ((A.length : Int) - 1) d) = true
    rw [hb]; rfl) ?_
  conv => whnf
  exact he
end Em


set_option Elab.async false
set_option linter.all false
set_option maxRecDepth 100000
set_option maxHeartbeats 4000000
namespace Em
open PySem PySem.Spec PyProof.Rows L2 DL OrdS
/-! ### what stands in the store stays -/
def Keep (S S' : Sto) : Prop := ∀ a m, S a = some m → S' a = some m
theorem Keep.rfl' {S : Sto} : Keep S S := fun _ _ h => h
theorem Keep.trans {S S' S2 : Sto} (h : Keep S S') (k : Keep S' S2) : Keep S S2 := fun a m e => k a m (h a m e)
theorem Keep.none {S S' : Sto} (h : Keep S S') {a : Addr} (e : S' a = none) : S a = none := by
  cases q : S a with
  | none => rfl
  | some m => rw [h a m q] at e; cases e
theorem keep_up {S : Sto} {x : Addr} {m : MO} (h : S x = none) : Keep S (S.up x m) := fun a m' e => by
  rw [up_ne (fun z => by rw [z, h] at e; cases e)]; exact e
-- only: k13 k17
theorem F__law_turned_bad {n : Nat} {A : List Str} {d : D} {x : Addr} {S : Sto} {Q : D → Sto → Prop} {E : Xn → Sto → Prop} (hA : FamN n A) (hd : ∃ t, tyN d = some t) (hf : goodB n d = false) (hx : S x = some (famO n A)) (he : E ⟨"InvalidSet", []⟩ S) : F__law_turned [.ref x, d] S Q E := by
  rw [F__law_turned_eq]
  delta m__law_turned
  conv => whnf
  refine ⟨x, _, rfl, hx, ?_⟩
  exact ⟨rfl, F_Family_ixor_bad hA hd hf hx he⟩
end Em


set_option Elab.async false
set_option linter.all false
set_option maxRecDepth 100000
set_option maxHeartbeats 4000000


set_option Elab.async false
set_option linter.all false
set_option maxRecDepth 100000
set_option maxHeartbeats 4000000


set_option Elab.async false
set_option linter.all false
set_option maxRecDepth 100000
set_option maxHeartbeats 4000000


set_option Elab.async false
set_option linter.all false
set_option maxRecDepth 100000
set_option maxHeartbeats 4000000
namespace Em
open PySem PySem.Spec PyProof.Rows L2 DL OrdS
/-! ### what is refused -/
theorem F_Family_or_bad {n : Nat} {A : List Str} {x : Addr} {d : D} {S : Sto} {Q : D → Sto → Prop} {E : Xn → Sto → Prop} (hx : S x = some (famO n A)) (hd : (∃ t, tyN d = some t) ∨ ∃ y m B, d = .ref y ∧ S y = some (famO m B) ∧ m ≠ n) (he : E ⟨"Unlike", []⟩ S) : F_Family_or [.ref x, d] S Q E := by
  rw [F_Family_or_eq]
  delta m_Family_or
  conv => whnf
  refine ⟨x, _, rfl, hx, ?_⟩
  conv => whnf
  exact ⟨rfl, rfl, F_Family_need_like_bad hx hd he⟩
theorem F_Family_and_bad {n : Nat} {A : List Str} {x : Addr} {d : D} {S : Sto} {Q : D → Sto → Prop} {E : Xn → Sto → Prop} (hx : S x = some (famO n A)) (hd : (∃ t, tyN d = some t) ∨ ∃ y m B, d = .ref y ∧ S y = some (famO m B) ∧ m ≠ n) (he : E ⟨"Unlike", []⟩ S) : F_Family_and [.ref x, d] S Q E := by
  rw [F_Family_and_eq]
  delta m_Family_and
  conv => whnf
  refine ⟨x, _, rfl, hx, ?_⟩
  conv => whnf
  exact ⟨rfl, rfl, F_Family_need_like_bad hx hd he⟩
theorem F_Family_sub_bad {n : Nat} {A : List Str} {x : Addr} {d : D} {S : Sto} {Q : D → Sto → Prop} {E : Xn → Sto → Prop} (hx : S x = some (famO n A)) (hd : (∃ t, tyN d = some t) ∨ ∃ y m B, d = .ref y ∧ S y = some (famO m B) ∧ m ≠ n) (he : E ⟨"Unlike", []⟩ S) : F_Family_sub [.ref x, d] S Q E := by
  rw [F_Family_sub_eq]
  delta m_Family_sub
  conv => whnf
  refine ⟨x, _, rfl, hx, ?_⟩
  conv => whnf
  exact ⟨rfl, rfl, F_Family_need_like_bad hx hd he⟩
theorem F_Family_le_bad {n : Nat} {A : List Str} {x : Addr} {d : D} {S : Sto} {Q : D → Sto → Prop} {E : Xn → Sto → Prop} (hx : S x = some (famO n A)) (hd : (∃ t, tyN d = some t) ∨ ∃ y m B, d = .ref y ∧ S y = some (famO m B) ∧ m ≠ n) (he : E ⟨"Unlike", []⟩ S) : F_Family_le [.ref x, d] S Q E := by
  rw [F_Family_le_eq]
  delta m_Family_le
  conv => whnf
  refine ⟨x, _, rfl, hx, ?_⟩
  conv => whnf
  exact ⟨rfl, rfl, F_Family_need_like_bad hx hd he⟩
end Em


set_option Elab.async false
set_option linter.all false
set_option maxRecDepth 100000
set_option maxHeartbeats 4000000


set_option Elab.async false
set_option linter.all false
set_option maxRecDepth 100000
set_option maxHeartbeats 4000000


set_option Elab.async false
set_option linter.all false
set_option maxRecDepth 100000
set_option maxHeartbeats 4000000


set_option Elab.async false
set_option linter.all false
set_option maxRecDepth 100000
set_option maxHeartbeats 4000000
namespace Em
open PySem PySem.Spec PyProof.Rows L2 DL OrdS
/-! ### benches -/
def benO (n : Nat) (A : List Str) (p : Addr) : MO := .ins "Bench" [("base", .int n), ("now", .tup (A.map D.str)), ("past", .ref p)]
def pastO (past : List (List Str)) : MO := .lst (past.map dFam)
structure Ben (S : Sto) (x p : Addr) (n : Nat) (A : List Str) (past : List (List Str)) : Prop where
  hx : S x = some (benO n A p)
  hp : S p = some (pastO past)
theorem Ben.ne {S : Sto} {x p : Addr} {n : Nat} {A : List Str} {past : List (List Str)} (h : Ben S x p n A past) : x ≠ p := fun e => by
  have := h.hx
  rw [e, h.hp] at this
  unfold benO pastO at this
  cases this
/-- all but the bench and its list stays -/
structure Kp (x p : Addr) (S S' : Sto) : Prop where
  src : ∀ a, S a = some .src → S' a = some .src
  tab : ∀ a q, S a = some (.tab q) → S' a = some (.tab q)
  oth : ∀ a m, a ≠ x → a ≠ p → S a = some m → S' a = some m
theorem Kp.rfl' {x p : Addr} {S : Sto} : Kp x p S S := ⟨fun _ h => h, fun _ _ h => h, fun _ _ _ _ h => h⟩
theorem Kp.trans {x p : Addr} {S S1 S2 : Sto} (a : Kp x p S S1) (b : Kp x p S1 S2) : Kp x p S S2 := ⟨fun x h => b.src x (a.src x h), fun x q h => b.tab x q (a.tab x q h), fun y m n1 n2 h => b.oth y m n1 n2 (a.oth y m n1 n2 h)⟩
theorem Keep.kp {x p : Addr} {S S' : Sto} (h : Keep S S') : Kp x p S S' := ⟨fun a e => h a _ e, fun a q e => h a _ e, fun a m _ _ e => h a m e⟩
theorem kp_up {x p y : Addr} {S : Sto} {m m' : MO} (hx : S y = some m) (h1 : m ≠ .src) (h2 : ∀ q, m ≠ .tab q) (hy : y = x ∨ y = p) : Kp x p S (S.up y m') :=
  ⟨fun a e => by rw [up_ne (fun z => by rw [z, hx] at e; cases e; exact h1 rfl)]; exact e, fun a q e => by rw [up_ne (fun z => by rw [z, hx] at e; cases e; exact h2 q rfl)]; exact e, fun a m n1 n2 e => by
    rw [up_ne (fun z => by rcases hy with h | h; exact n1 (z.trans h); exact n2 (z.trans h))]; exact e⟩
theorem ben_set {S : Sto} {x p : Addr} {n : Nat} {A A' : List Str} {past past' : List (List Str)} (h : Ben S x p n A past) : Ben ((S.up p (pastO past')).up x (benO n A' p)) x p n A' past' ∧ Kp x p S ((S.up p (pastO past')).up x (benO n A' p)) := by
  have ne := h.ne
  have hx : (S.up p (pastO past')) x = some (benO n A p) := by rw [up_ne ne]; exact h.hx
  refine ⟨⟨up_same, by rw [up_ne (Ne.symm ne), up_same]⟩, ?_⟩
  exact (kp_up h.hp (by unfold pastO; exact fun z => nomatch z) (by unfold pastO; exact fun q z => nomatch z) (.inr rfl)).trans (kp_up hx (by unfold benO; exact fun z => nomatch z) (by unfold benO; exact fun q z => nomatch z) (.inl rfl))
-- only: k14 k15 k17 k18 k20
theorem F_Bench_init_r {n : Nat} {x : Addr} {S : Sto} {Q : D → Sto → Prop} {E : Xn → Sto → Prop} (h1 : 1 ≤ n) (h4 : n ≤ 4) (hx : S x = some (.ins "Bench" [])) (hq : ∀ S' p, Ben S' x p n [] [] → (∀ a m, a ≠ x → S a = some m → S' a = some m) → Q .non S') : F_Bench_init [.ref x, .int n] S Q E := by
  rw [F_Bench_init_eq]
  delta m_Bench_init
  conv => whnf
  refine ⟨rfl, num_ok h1 h4 _ _ ?_⟩
  conv => whnf
  refine ⟨x, _, rfl, hx, ?_⟩
  conv => whnf
  refine ⟨by decide, ?_⟩
  conv => whnf
  refine ⟨sz (n := 0) (by decide), ?_⟩
  conv => whnf
  refine ⟨x, _, rfl, up_same, ?_⟩
  conv => whnf
  refine ⟨show (1 : Nat) < 1000 from by decide, ?_⟩
  conv => whnf
  refine ⟨sz (n := 0) (by decide), ?_⟩
  conv => whnf
  intro p hp
  conv => whnf
  have hpx : p ≠ x := fun e => by rw [e, up_same] at hp; cases hp
  have e1 : ((S.up x (.ins "Bench" (putD "base" (.int n) []))).up x (.ins "Bench" (putD "now" (.tup []) (putD "base" (.int n) [])))) x = some (.ins "Bench" (putD "now" (.tup []) (putD "base" (.int n) []))) := up_same
  refine ⟨x, _, rfl, by rw [up_ne (Ne.symm hpx)]; exact e1, ?_⟩
  conv => whnf
  refine ⟨show (2 : Nat) < 1000 from by decide, ?_⟩
  conv => whnf
  refine hq _ p ⟨up_same, ?_⟩ fun a m ha e => ?_
  · rw [up_ne hpx, up_same]; rfl
  · have hap : a ≠ p := fun z => by
      rw [z] at e
      rw [up_ne hpx, up_ne hpx, e] at hp
      cases hp
    rw [up_ne ha, up_ne hap, up_ne ha, up_ne ha]; exact e
-- only: k14 k15 k17 k18 k20
theorem bench_make {n : Nat} {S : Sto} {Q : Addr → Sto → Prop} {E : Xn → Sto → Prop} (h1 : 1 ≤ n) (h4 : n ≤ 4) (hq : ∀ x S' p, Ben S' x p n [] [] → S x = none → Keep S S' → Q x S') : ∀ x, S x = none → needN 2 F_Bench_init (.ref x :: [.int n]) (S.up x (.ins "Bench" [])) (fun d S' => d = .non ∧ Q x S') E := by
  intro x hx
  refine ⟨rfl, F_Bench_init_r h1 h4 up_same fun S' p hb hk => ⟨rfl, hq x S' p hb hx fun a m e => ?_⟩⟩
  have ha : a ≠ x := fun z => by rw [z, hx] at e; cases e
  exact hk a m ha (by rw [up_ne ha]; exact e)
-- only: k14 k15 k17 k18 k20
theorem F_Bench_keep_r {n : Nat} {x p : Addr} {A A' : List Str} {past : List (List Str)} {S : Sto} {Q : D → Sto → Prop} {E : Xn → Sto → Prop} (hA : IsFam A) (hA' : IsFam A') (h : Ben S x p n A past) (hl : past.length < 40)
    (hq : ∀ S', Ben S' x p n A' (past ++ [A]) → Kp x p S S' → Q (.bl (!decide (A = A'))) S') : F_Bench_keep [.ref x, .tup (A'.map D.str)] S Q E := by
  rw [F_Bench_keep_eq]
  delta m_Bench_keep
  conv => whnf
  refine ⟨x, _, rfl, h.hx, ?_⟩
  conv => whnf
  refine ⟨p, _, rfl, h.hp, ?_⟩
  conv => whnf
  refine ite_f (by show decide ((40 : Int) ≤ ((past.map dFam).length : Nat)) = false; rw [List.length_map]; exact decide_eq_false (by omega)) ?_
  conv => whnf
  refine ⟨x, _, rfl, h.hx, ?_⟩
  conv => whnf
  refine ⟨x, _, rfl, h.hx, ?_⟩
  conv => whnf
  refine ⟨p, _, rfl, h.hp, ?_⟩
  conv => whnf
  refine ⟨p, _, rfl, h.hp, ?_⟩
  conv => whnf
  refine ⟨sz (by rw [List.length_map]; show _ + 1 ≤ _; omega), ?_⟩
  conv => whnf
  refine ⟨x, _, rfl, by rw [up_ne h.ne]; exact h.hx, ?_⟩
  conv => whnf
  refine ⟨show (3 : Nat) < 1000 from by decide, ?_⟩
  conv => whnf
  refine ⟨.inr ⟨fam_ok hA, fam_ok hA'⟩, ?_⟩
  conv => whnf
  have key := ben_set (A' := A') (past' := past ++ [A]) h
  have e : past.map dFam ++ [.tup (A.map D.str)] = (past ++ [A]).map dFam := by simp [dFam]
  show Q (.bl (!eqD (.tup (A.map D.str)) (.tup (A'.map D.str)))) ((S.up p (.lst (past.map dFam ++ [.tup (A.map D.str)]))).up x (benO n A' p))
  rw [e, eqD_tup]
  exact hq _ key.1 key.2
/-! ### read -/
section
variable {n : Nat} {x p : Addr} {A : List Str} {past : List (List Str)} {S : Sto}
theorem F_Bench_family_r (h : Ben S x p n A past) : Ret (F_Bench_family [.ref x]) S (.tup (A.map D.str)) := by
  intro Q E hq
  rw [F_Bench_family_eq]
  delta m_Bench_family
  conv => whnf
  refine ⟨x, _, rfl, h.hx, ?_⟩
  conv => whnf
  exact hq
theorem F_Bench_len_r (h : Ben S x p n A past) : Ret (F_Bench_len [.ref x]) S (.int (past.length : Nat)) := by
  intro Q E hq
  rw [F_Bench_len_eq]
  delta m_Bench_len
  conv => whnf
  refine ⟨x, _, rfl, h.hx, ?_⟩
  conv => whnf
  refine ⟨p, _, rfl, h.hp, ?_⟩
  conv => whnf
  rw [List.length_map]
  exact hq
theorem F_Bench_getitem_bad {d : D} {Q : D → Sto → Prop} {E : Xn → Sto → Prop} (hA : IsFam A) (hd : ∃ t, tyN d = some t) (hb : numB 0 ((A.length : Int) - 1) d = false) (h : Ben S x p n A past) (he : E ⟨"InvalidNumber", []⟩ S) : F_Bench_getitem [.ref x, d] S Q E := by
  rw [F_Bench_getitem_eq]
  delta m_Bench_getitem
  conv => whnf
  refine ⟨x, _, rfl, h.hx, ?_⟩
  conv => whnf
  refine ⟨rfl, F_is_number_r hd _ _ ?_⟩
  rw [List.length_map]
  conv => whnf
  refine ite_t (by show (!numB 0 ((A.length : Int) - 1) d) = true; rw [hb]; rfl) ?_
  conv => whnf
  exact he
end
end Em


set_option Elab.async false
set_option linter.all false
set_option maxRecDepth 100000
set_option maxHeartbeats 4000000
namespace Em
open PySem PySem.Spec PyProof.Rows L2 DL OrdS
/-! ### benches changed -/
theorem sset_n {n : Nat} {l : List Str} (h1 : 1 ≤ n) (h4 : n ≤ 4) (hm : ∀ s ∈ l, s ∈ setsL n) : FamN n (sset l) := by
  have hm' : ∀ s ∈ sset l, s ∈ setsL n := fun s hs => hm s ((sset_mem s l).mp hs)
  exact ⟨h1, h4, ⟨fun s hs => sets_up n h4 s (hm' s hs), sset_pw _⟩, hm'⟩
section
variable {n : Nat} {x p : Addr} {A : List Str} {past : List (List Str)} {S : Sto} {Q : D → Sto → Prop} {E : Xn → Sto → Prop}
-- only: k14 k15 k17 k18 k20
theorem F_Bench_put_r {s : Str} (hA : FamN n A) (hs : s ∈ setsL n) (h : Ben S x p n A past) (hl : past.length < 40)
    (hq : ∀ S', Ben S' x p n (sset (A ++ [s])) (past ++ [A]) → Kp x p S S' → Q (.bl (!decide (A = sset (A ++ [s])))) S') : F_Bench_put [.ref x, .str s] S Q E := by
  have lA := hA.f.len
  have hB := sset_n (l := A ++ [s]) hA.h1 hA.h4 (fun t ht => by
    rcases List.mem_append.mp ht with ht | ht
    · exact hA.m t ht
    · rw [List.mem_singleton.mp ht]; exact hs)
  have lB := hB.f.len
  rw [F_Bench_put_eq]
  delta m_Bench_put
  conv => whnf
  refine ⟨x, _, rfl, h.hx, ?_⟩
  conv => whnf
  refine ⟨rfl, F_need_set_r hA.h4 hs _ _ ?_⟩
  conv => whnf
  refine ⟨x, _, rfl, h.hx, ?_⟩
  conv => whnf
  refine ⟨rfl, ?_⟩
  conv => whnf
  refine ⟨x, _, rfl, h.hx, ?_⟩
  conv => whnf
  refine ⟨sz (n := 1) (by decide), ?_⟩
  conv => whnf
  refine ⟨sz (by rw [List.length_map]; show _ + 1 ≤ _; omega), ?_⟩
  conv => whnf
  rw [show A.map D.str ++ [D.str s] = (A ++ [s]).map D.str by simp]
  refine opt_s (show strsIn (.tup ((A ++ [s]).map D.str)) = some _ from strsOf_map _) ?_
  conv => whnf
  have e : scanBound = 4096 := rfl
  refine ⟨⟨by rw [List.length_append, e]; show A.length + 1 + 1 < 4096; omega, by omega⟩, ?_⟩
  conv => whnf
  exact ⟨rfl, F_Bench_keep_r hA.f hB.f h hl hq⟩
theorem F_Bench_put_bad {d : D} (hA : FamN n A) (hd : ∃ t, tyN d = some t) (hf : goodB n d = false) (h : Ben S x p n A past) (he : E ⟨"InvalidSet", []⟩ S) : F_Bench_put [.ref x, d] S Q E := by
  rw [F_Bench_put_eq]
  delta m_Bench_put
  conv => whnf
  refine ⟨x, _, rfl, h.hx, ?_⟩
  conv => whnf
  exact ⟨rfl, F_need_set_bad hA.h4 hd hf he⟩
theorem F_Bench_strike_bad {d : D} (hA : FamN n A) (hd : ∃ t, tyN d = some t) (hf : goodB n d = false) (h : Ben S x p n A past) (he : E ⟨"InvalidSet", []⟩ S) : F_Bench_strike [.ref x, d] S Q E := by
  rw [F_Bench_strike_eq]
  delta m_Bench_strike
  conv => whnf
  refine ⟨x, _, rfl, h.hx, ?_⟩
  conv => whnf
  exact ⟨rfl, F_need_set_bad hA.h4 hd hf he⟩
theorem L4_take : ∀ n : Nat, n ≤ 4 → ∀ c ∈ L4.take n, c ∈ L4 := by decide +kernel
theorem F_Bench_squeeze_bad {d : D} (hld : ∀ c, d = .str c → c.length ≤ 1000) (hd : ∃ t, tyN d = some t) (hb : letB n d = false) (h : Ben S x p n A past) (he : E ⟨"InvalidLetter", []⟩ S) : F_Bench_squeeze [.ref x, d] S Q E := by
  rw [F_Bench_squeeze_eq]
  delta m_Bench_squeeze
  conv => whnf
  refine ⟨x, _, rfl, h.hx, ?_⟩
  conv => whnf
  exact ⟨rfl, F_need_letter_bad hld hd hb he⟩
theorem okV_fam {A : List Str} (hA : IsFam A) : okV 1 1000 (dFam A) := by
  have hl := hA.len
  exact ⟨by rw [List.length_map]; omega, fun y hy => by
    obtain ⟨s, hs, rfl⟩ := List.mem_map.mp hy
    have := sets_ok (n := 4) (by decide) s (hA.1 s hs)
    exact ⟨by omega, this.2⟩⟩
theorem past_ok {l : List (List Str)} (hl : l.length ≤ 1000) (h : ∀ C ∈ l, IsFam C) : okD (.lst (l.map dFam)) = true := okV.ok (k := 2) (b := 1000) (by decide) ⟨by rw [List.length_map]; exact hl, fun x hx => by
  obtain ⟨C, hC, rfl⟩ := List.mem_map.mp hx
  exact okV_fam (h C hC)⟩
theorem F_Bench_undo_r {B : List Str} (h : Ben S x p n A (past ++ [B])) (hf : ∀ C ∈ past ++ [B], IsFam C) (hl : past.length < 64) (hq : ∀ S', Ben S' x p n B past → Kp x p S S' → Q .non S') : F_Bench_undo [.ref x] S Q E := by
  rw [F_Bench_undo_eq]
  delta m_Bench_undo
  conv => whnf
  refine ⟨x, _, rfl, h.hx, ?_⟩
  conv => whnf
  refine ⟨p, _, rfl, h.hp, ?_⟩
  conv => whnf
  have ok := past_ok (l := past ++ [B]) (by rw [List.length_append]; show past.length + 1 ≤ 1000; omega) hf
  refine ⟨ok, ?_⟩
  conv => whnf
  refine ite_f (by show eqD (.lst ((past ++ [B]).map dFam)) (.lst []) = false; rw [eqD_nil ok]; simp) ?_
  conv => whnf
  refine ⟨x, _, rfl, h.hx, ?_⟩
  conv => whnf
  refine ⟨p, _, rfl, h.hp, ?_⟩
  conv => whnf
  refine opt_s (show ((past ++ [B]).map dFam)[((past ++ [B]).map dFam).length - 1]? = some (dFam B) by simp) ?_
  conv => whnf
  refine ⟨x, _, rfl, by rw [up_ne h.ne]; exact h.hx, ?_⟩
  conv => whnf
  refine ⟨show (3 : Nat) < 1000 from by decide, ?_⟩
  conv => whnf
  have key := ben_set (A' := B) (past' := past) h
  show Q .non ((S.up p (.lst ((past ++ [B]).map dFam).dropLast)).up x (benO n B p))
  rw [show ((past ++ [B]).map dFam).dropLast = past.map dFam by simp]
  exact hq _ key.1 key.2
theorem F_Bench_undo_bad (h : Ben S x p n A []) (he : E ⟨"NothingToUndo", []⟩ S) : F_Bench_undo [.ref x] S Q E := by
  rw [F_Bench_undo_eq]
  delta m_Bench_undo
  conv => whnf
  refine ⟨x, _, rfl, h.hx, ?_⟩
  conv => whnf
  refine ⟨p, _, rfl, h.hp, ?_⟩
  conv => whnf
  refine ⟨by decide +kernel, ?_⟩
  conv => whnf
  refine ite_t (by decide +kernel) ?_
  conv => whnf
  exact he
def iaddB (n : Nat) : D → Bool
  | .tup xs => decide (xs.length ≤ 16) && xs.all (goodB n)
  | _ => false
theorem good_in : ∀ n : Nat, n ≤ 4 → ∀ s ∈ setsL n, goodB n (.str s) = true := by decide +kernel
theorem F_Bench_iadd_r {L : List Str} (hA : FamN n A) (hL : ∀ s ∈ L, s ∈ setsL n) (hlen : L.length ≤ 16) (h : Ben S x p n A past) (hl : past.length < 40)
    (hq : ∀ S', Ben S' x p n (sset (A ++ L)) (past ++ [A]) → Kp x p S S' → Q (.ref x) S') : F_Bench_iadd [.ref x, .tup (L.map D.str)] S Q E := by
  have lA := hA.f.len
  have hB := sset_n (l := A ++ L) hA.h1 hA.h4 (fun t ht => by
    rcases List.mem_append.mp ht with ht | ht
    · exact hA.m t ht
    · exact hL t ht)
  have lB := hB.f.len
  rw [F_Bench_iadd_eq]
  delta m_Bench_iadd
  conv => whnf
  refine ite_f (rfl) ?_
  conv => whnf
  refine ite_f (by show decide ((16 : Int) < ((L.map D.str).length : Nat)) = false; rw [List.length_map]; exact decide_eq_false (by omega)) ?_
  conv => whnf
  refine ⟨sz (by rw [List.length_map]; omega), ?_⟩
  show lcT _ _ _ _ _ S _ _
  refine lc_m (fun _ => .bl true) (fun d hd => ?_) _ _ ?_
  · obtain ⟨s, hs, rfl⟩ := List.mem_map.mp hd
    intro Q E hq
    conv => whnf
    refine ⟨x, _, rfl, h.hx, ?_⟩
    conv => whnf
    refine ⟨rfl, F_is_good_set_r hA.h4 ⟨_, rfl⟩ _ _ ?_⟩
    rw [good_in n hA.h4 s (hL s hs)]
    exact hq
  · have e : (L.map D.str).map (fun _ => D.bl true) = (L.map fun _ => true).map D.bl := by rw [List.map_map, List.map_map]; rfl
    rw [e]
    conv => whnf
    refine opt_s (blsOf_map _) ?_
    conv => whnf
    refine ite_f (by show (!(L.map fun _ => true).all id) = false; simp) ?_
    conv => whnf
    refine ⟨x, _, rfl, h.hx, ?_⟩
    conv => whnf
    refine ⟨rfl, ?_⟩
    conv => whnf
    refine ⟨x, _, rfl, h.hx, ?_⟩
    conv => whnf
    refine ⟨sz (by rw [List.length_map, List.length_map]; omega), ?_⟩
    conv => whnf
    rw [show A.map D.str ++ L.map D.str = (A ++ L).map D.str by simp]
    refine opt_s (show strsIn (.tup ((A ++ L).map D.str)) = some _ from strsOf_map _) ?_
    conv => whnf
    have e : scanBound = 4096 := rfl
    refine ⟨⟨by rw [List.length_append, e]; omega, by omega⟩, ?_⟩
    conv => whnf
    refine ⟨rfl, F_Bench_keep_r hA.f hB.f h hl fun S' hb hk => ?_⟩
    exact hq S' hb hk
theorem F_Bench_iadd_bad {d : D} (hA : FamN n A) (hd : ∃ t, tyN d = some t) (he1 : ∀ xs, d = .tup xs → xs.length ≤ 1000 ∧ ∀ y ∈ xs, ∃ t, tyN y = some t) (hb : iaddB n d = false) (h : Ben S x p n A past) (he : E ⟨"InvalidSet", []⟩ S) : F_Bench_iadd [.ref x, d] S Q E := by
  rw [F_Bench_iadd_eq]
  delta m_Bench_iadd
  cases d with
  | tup xs =>
    obtain ⟨l1, l2⟩ := he1 xs rfl
    conv => whnf
    refine ite_f (rfl) ?_
    conv => whnf
    by_cases h16 : xs.length ≤ 16
    · refine ite_f (by show decide ((16 : Int) < (xs.length : Nat)) = false; exact decide_eq_false (by omega)) ?_
      conv => whnf
      refine ⟨sz (by omega), ?_⟩
      show lcT _ _ _ _ _ S _ _
      refine lc_m (fun d => .bl (goodB n d)) (fun d hd => ?_) _ _ ?_
      · intro Q E hq
        conv => whnf
        refine ⟨x, _, rfl, h.hx, ?_⟩
        conv => whnf
        exact ⟨rfl, F_is_good_set_r hA.h4 (l2 d hd) _ _ hq⟩
      · have e : xs.map (fun d => D.bl (goodB n d)) = (xs.map (goodB n)).map D.bl := by rw [List.map_map]; rfl
        rw [e]
        conv => whnf
        refine opt_s (blsOf_map _) ?_
        conv => whnf
        have hb : (decide (xs.length ≤ 16) && xs.all (goodB n)) = false := hb
        rw [decide_eq_true h16, Bool.true_and] at hb
        refine ite_t (by show (!(xs.map (goodB n)).all id) = true; rw [List.all_map]; show (!xs.all (goodB n)) = true; rw [hb]; rfl) ?_
        conv => whnf
        exact he
    · refine ite_t (by show decide ((16 : Int) < (xs.length : Nat)) = true; exact decide_eq_true (by omega)) ?_
      conv => whnf
      refine ite_t (rfl) ?_
      conv => whnf
      exact he
  | str s => conv => whnf
             refine ite_t rfl ?_
             conv => whnf
             refine ite_t rfl ?_
             conv => whnf
             exact he
  | non => conv => whnf
           refine ite_t rfl ?_
           conv => whnf
           refine ite_t rfl ?_
           conv => whnf
           exact he
  | bl _ => conv => whnf
            refine ite_t rfl ?_
            conv => whnf
            refine ite_t rfl ?_
            conv => whnf
            exact he
  | int _ => conv => whnf
             refine ite_t rfl ?_
             conv => whnf
             refine ite_t rfl ?_
             conv => whnf
             exact he
  | lst _ => conv => whnf
             refine ite_t rfl ?_
             conv => whnf
             refine ite_t rfl ?_
             conv => whnf
             exact he
  | _ => obtain ⟨t, ht⟩ := hd; cases ht
-- only: k14 k17
theorem F__law_grown_bad {d : D} (hA : FamN n A) (hd : ∃ t, tyN d = some t) (he1 : ∀ xs, d = .tup xs → xs.length ≤ 1000 ∧ ∀ y ∈ xs, ∃ t, tyN y = some t) (hb : iaddB n d = false) (h : Ben S x p n A past) (he : E ⟨"InvalidSet", []⟩ S) : F__law_grown [.ref x, d] S Q E := by
  rw [F__law_grown_eq]
  delta m__law_grown
  conv => whnf
  refine ⟨x, _, rfl, h.hx, ?_⟩
  conv => whnf
  exact ⟨rfl, F_Bench_iadd_bad hA hd he1 hb h he⟩
end
end Em


set_option Elab.async false
set_option linter.all false
set_option maxRecDepth 100000
set_option maxHeartbeats 4000000


set_option Elab.async false
set_option linter.all false
set_option maxRecDepth 100000
set_option maxHeartbeats 4000000
namespace Em
open PySem PySem.Spec PyProof.Rows L2 DL OrdS
/-! ### a bench that is full -/
section
variable {n : Nat} {x p : Addr} {A : List Str} {past : List (List Str)} {S : Sto} {Q : D → Sto → Prop} {E : Xn → Sto → Prop}
-- only: k17
theorem F_Bench_keep_many {d : D} (h : Ben S x p n A past) (hl : past.length = 40) (he : E ⟨"TooMany", [("limit", .int 40)]⟩ S) : F_Bench_keep [.ref x, d] S Q E := by
  rw [F_Bench_keep_eq]
  delta m_Bench_keep
  conv => whnf
  refine ⟨x, _, rfl, h.hx, ?_⟩
  conv => whnf
  refine ⟨p, _, rfl, h.hp, ?_⟩
  conv => whnf
  refine ite_t (by show decide ((40 : Int) ≤ ((past.map dFam).length : Nat)) = true; rw [List.length_map, hl]; decide) ?_
  conv => whnf
  exact he
-- only: k17
theorem F_Bench_put_many {s : Str} (hA : FamN n A) (hs : s ∈ setsL n) (h : Ben S x p n A past) (hl : past.length = 40) (he : E ⟨"TooMany", [("limit", .int 40)]⟩ S) : F_Bench_put [.ref x, .str s] S Q E := by
  have lA := hA.f.len
  have lB := (sset_n (l := A ++ [s]) hA.h1 hA.h4 (fun t ht => by
    rcases List.mem_append.mp ht with ht | ht
    · exact hA.m t ht
    · rw [List.mem_singleton.mp ht]; exact hs)).f.len
  rw [F_Bench_put_eq]
  delta m_Bench_put
  conv => whnf
  refine ⟨x, _, rfl, h.hx, ?_⟩
  conv => whnf
  refine ⟨rfl, F_need_set_r hA.h4 hs _ _ ?_⟩
  conv => whnf
  refine ⟨x, _, rfl, h.hx, ?_⟩
  conv => whnf
  refine ⟨rfl, ?_⟩
  conv => whnf
  refine ⟨x, _, rfl, h.hx, ?_⟩
  conv => whnf
  refine ⟨sz (n := 1) (by decide), ?_⟩
  conv => whnf
  refine ⟨sz (by rw [List.length_map]; show _ + 1 ≤ _; omega), ?_⟩
  conv => whnf
  rw [show A.map D.str ++ [D.str s] = (A ++ [s]).map D.str by simp]
  refine opt_s (show strsIn (.tup ((A ++ [s]).map D.str)) = some _ from strsOf_map _) ?_
  conv => whnf
  have e : scanBound = 4096 := rfl
  refine ⟨⟨by rw [List.length_append, e]; show A.length + 1 + 1 < 4096; omega, by omega⟩, ?_⟩
  conv => whnf
  exact ⟨rfl, F_Bench_keep_many h hl he⟩
-- only: k17
theorem F_Bench_strike_many {s : Str} (hA : FamN n A) (hs : s ∈ setsL n) (h : Ben S x p n A past) (hl : past.length = 40) (he : E ⟨"TooMany", [("limit", .int 40)]⟩ S) : F_Bench_strike [.ref x, .str s] S Q E := by
  have lA := hA.f.len
  rw [F_Bench_strike_eq]
  delta m_Bench_strike
  conv => whnf
  refine ⟨x, _, rfl, h.hx, ?_⟩
  conv => whnf
  refine ⟨rfl, F_need_set_r hA.h4 hs _ _ ?_⟩
  conv => whnf
  refine ⟨x, _, rfl, h.hx, ?_⟩
  conv => whnf
  refine ⟨rfl, ?_⟩
  conv => whnf
  refine ⟨x, _, rfl, h.hx, ?_⟩
  conv => whnf
  refine ⟨sz (by rw [List.length_map]; omega), ?_⟩
  show lcT _ _ _ _ _ S _ _
  refine lc_n (fun d => !eqD d (.str s)) id (fun d hd => ?_) (fun d hd _ => ?_) _ _ ?_
  · obtain ⟨t, ht, rfl⟩ := List.mem_map.mp hd
    intro Q E hq
    conv => whnf
    exact ⟨.inl rfl, hq⟩
  · intro Q E hq
    conv => whnf
    exact hq
  · conv => whnf
    exact ⟨rfl, F_Bench_keep_many h hl he⟩
-- only: k17
theorem F_Bench_squeeze_many {c : Str} (hA : FamN n A) (hc : c ∈ L4.take n) (h : Ben S x p n A past) (hl : past.length = 40) (he : E ⟨"TooMany", [("limit", .int 40)]⟩ S) : F_Bench_squeeze [.ref x, .str c] S Q E := by
  have hc4 := L4_take n hA.h4 c hc
  rw [F_Bench_squeeze_eq]
  delta m_Bench_squeeze
  conv => whnf
  refine ⟨x, _, rfl, h.hx, ?_⟩
  conv => whnf
  refine ⟨rfl, F_need_letter_ok hA.h4 hc _ _ ?_⟩
  conv => whnf
  refine ⟨x, _, rfl, h.hx, ?_⟩
  conv => whnf
  refine ⟨rfl, ?_⟩
  conv => whnf
  refine ⟨x, _, rfl, h.hx, ?_⟩
  conv => whnf
  refine ⟨rfl, F_squeezed_by_r hA.f hc4 _ _ ?_⟩
  conv => whnf
  exact ⟨rfl, F_Bench_keep_many h hl he⟩
-- only: k17
theorem F_Bench_iadd_many {L : List Str} (hA : FamN n A) (hL : ∀ s ∈ L, s ∈ setsL n) (hlen : L.length ≤ 16) (h : Ben S x p n A past) (hl : past.length = 40) (he : E ⟨"TooMany", [("limit", .int 40)]⟩ S) : F_Bench_iadd [.ref x, .tup (L.map D.str)] S Q E := by
  have lA := hA.f.len
  have lB := (sset_n (l := A ++ L) hA.h1 hA.h4 (fun t ht => by
    rcases List.mem_append.mp ht with ht | ht
    · exact hA.m t ht
    · exact hL t ht)).f.len
  rw [F_Bench_iadd_eq]
  delta m_Bench_iadd
  conv => whnf
  refine ite_f (rfl) ?_
  conv => whnf
  refine ite_f (by show decide ((16 : Int) < ((L.map D.str).length : Nat)) = false; rw [List.length_map]; exact decide_eq_false (by omega)) ?_
  conv => whnf
  refine ⟨sz (by rw [List.length_map]; omega), ?_⟩
  show lcT _ _ _ _ _ S _ _
  refine lc_m (fun _ => .bl true) (fun d hd => ?_) _ _ ?_
  · obtain ⟨s, hs, rfl⟩ := List.mem_map.mp hd
    intro Q E hq
    conv => whnf
    refine ⟨x, _, rfl, h.hx, ?_⟩
    conv => whnf
    refine ⟨rfl, F_is_good_set_r hA.h4 ⟨_, rfl⟩ _ _ ?_⟩
    rw [good_in n hA.h4 s (hL s hs)]
    exact hq
  · have e : (L.map D.str).map (fun _ => D.bl true) = (L.map fun _ => true).map D.bl := by rw [List.map_map, List.map_map]; rfl
    rw [e]
    conv => whnf
    refine opt_s (blsOf_map _) ?_
    conv => whnf
    refine ite_f (by show (!(L.map fun _ => true).all id) = false; simp) ?_
    conv => whnf
    refine ⟨x, _, rfl, h.hx, ?_⟩
    conv => whnf
    refine ⟨rfl, ?_⟩
    conv => whnf
    refine ⟨x, _, rfl, h.hx, ?_⟩
    conv => whnf
    refine ⟨sz (by rw [List.length_map, List.length_map]; omega), ?_⟩
    conv => whnf
    rw [show A.map D.str ++ L.map D.str = (A ++ L).map D.str by simp]
    refine opt_s (show strsIn (.tup ((A ++ L).map D.str)) = some _ from strsOf_map _) ?_
    conv => whnf
    have e : scanBound = 4096 := rfl
    refine ⟨⟨by rw [List.length_append, e]; omega, by omega⟩, ?_⟩
    conv => whnf
    exact ⟨rfl, F_Bench_keep_many h hl he⟩
-- only: k17
theorem F__law_grown_n {L : List Str} (hA : FamN n A) (hL : ∀ s ∈ L, s ∈ setsL n) (hlen : L.length ≤ 16) (h : Ben S x p n A past) (hl : past.length < 40)
    (hq : ∀ S', Ben S' x p n (sset (A ++ L)) (past ++ [A]) → Kp x p S S' → Q .non S') : F__law_grown [.ref x, .tup (L.map D.str)] S Q E := by
  rw [F__law_grown_eq]
  delta m__law_grown
  conv => whnf
  refine ⟨x, _, rfl, h.hx, ?_⟩
  conv => whnf
  refine ⟨rfl, F_Bench_iadd_r hA hL hlen h hl fun S' hb hk => ?_⟩
  conv => whnf
  exact hq S' hb hk
-- only: k17
theorem F__law_grown_many {L : List Str} (hA : FamN n A) (hL : ∀ s ∈ L, s ∈ setsL n) (hlen : L.length ≤ 16) (h : Ben S x p n A past) (hl : past.length = 40) (he : E ⟨"TooMany", [("limit", .int 40)]⟩ S) : F__law_grown [.ref x, .tup (L.map D.str)] S Q E := by
  rw [F__law_grown_eq]
  delta m__law_grown
  conv => whnf
  refine ⟨x, _, rfl, h.hx, ?_⟩
  conv => whnf
  exact ⟨rfl, F_Bench_iadd_many hA hL hlen h hl he⟩
-- only: k17
theorem FH_Bench_undo_r {B : List Str} (h : Ben S x p n A (past ++ [B])) (hf : ∀ C ∈ past ++ [B], IsFam C) (hl : past.length < 64) (hq : ∀ S', Ben S' x p n B past → Kp x p S S' → Q .non S') : FH_Bench_undo [.ref x] S Q E := by
  rw [FH_Bench_undo_eq]
  delta mH_Bench_undo
  conv => whnf
  refine ⟨x, _, rfl, h.hx, ?_⟩
  conv => whnf
  refine ⟨p, _, rfl, h.hp, ?_⟩
  conv => whnf
  have ok := past_ok (l := past ++ [B]) (by rw [List.length_append]; show past.length + 1 ≤ 1000; omega) hf
  refine ⟨ok, ?_⟩
  conv => whnf
  refine ite_f (by show eqD (.lst ((past ++ [B]).map dFam)) (.lst []) = false; rw [eqD_nil ok]; simp) ?_
  conv => whnf
  refine ⟨x, _, rfl, h.hx, ?_⟩
  conv => whnf
  refine ⟨p, _, rfl, h.hp, ?_⟩
  conv => whnf
  refine opt_s (show ((past ++ [B]).map dFam)[((past ++ [B]).map dFam).length - 1]? = some (dFam B) by simp) ?_
  conv => whnf
  refine ⟨x, _, rfl, by rw [up_ne h.ne]; exact h.hx, ?_⟩
  conv => whnf
  refine ⟨show (3 : Nat) < 1000 from by decide, ?_⟩
  conv => whnf
  have key := ben_set (A' := B) (past' := past) h
  show Q .non ((S.up p (.lst ((past ++ [B]).map dFam).dropLast)).up x (benO n B p))
  rw [show ((past ++ [B]).map dFam).dropLast = past.map dFam by simp]
  exact hq _ key.1 key.2
end
/-! ### what is refused when made -/
-- only: k17
theorem F_Family_init_badl {x : Addr} {d : D} {ds : List D} {S : Sto} {Q : D → Sto → Prop} {E : Xn → Sto → Prop} (hd : ∃ t, tyN d = some t) (hb : numB 1 4 d = false) (he : E ⟨"InvalidLetters", []⟩ S) : F_Family_init [.ref x, d, .tup ds] S Q E := by
  rw [F_Family_init_eq]
  delta m_Family_init
  conv => whnf
  exact ⟨rfl, F_need_letters_bad hd hb he⟩
-- only: k17
theorem F_Family_init_badf {n k b : Nat} {x : Addr} {ds : List D} {S : Sto} {Q : D → Sto → Prop} {E : Xn → Sto → Prop} (h1 : 1 ≤ n) (h4 : n ≤ 4) (hb : b ≤ 1000) (hd : okV k b (.tup ds)) (hf : famB n (.tup ds) = false) (he : E ⟨"InvalidFamily", []⟩ S) : F_Family_init [.ref x, .int n, .tup ds] S Q E := by
  rw [F_Family_init_eq]
  delta m_Family_init
  conv => whnf
  refine ⟨rfl, num_ok h1 h4 _ _ ?_⟩
  conv => whnf
  exact ⟨rfl, F_need_family_bad h4 hb hd hf he⟩
-- only: k17
theorem F_Bench_init_bad {x : Addr} {d : D} {S : Sto} {Q : D → Sto → Prop} {E : Xn → Sto → Prop} (hd : ∃ t, tyN d = some t) (hb : numB 1 4 d = false) (he : E ⟨"InvalidLetters", []⟩ S) : F_Bench_init [.ref x, d] S Q E := by
  rw [F_Bench_init_eq]
  delta m_Bench_init
  conv => whnf
  exact ⟨rfl, F_need_letters_bad hd hb he⟩
end Em


set_option Elab.async false
set_option linter.all false
set_option maxRecDepth 100000
set_option maxHeartbeats 4000000
namespace Em
open PySem PySem.Spec PyProof.Rows L2 DL OrdS
/-! ### odd arguments -/
def odd17 : List D := [.non, .bl true, .str "e", .int (-1), .int 9, .lst [.str "a"], .tup [.str "e"], .tup [.str "ba", .str "a"], .tup [.int 1], .str "ba", .tup [.str "a", .non], .tup [.int 0]]
theorem odd17_all : ∀ d ∈ odd17, (∃ t, tyN d = some t) ∧ goodB 2 d = false ∧ numB 1 4 d = false ∧ numB 0 1 d = false ∧ numB 0 0 d = false ∧ letB 2 d = false ∧ iaddB 2 d = false ∧ famB 2 (.tup [d]) = false := by
  intro d hd
  simp only [odd17, List.mem_cons, List.not_mem_nil, or_false] at hd
  rcases hd with rfl | rfl | rfl | rfl | rfl | rfl | rfl | rfl | rfl | rfl | rfl | rfl <;> exact ⟨⟨_, rfl⟩, by decide +kernel, by decide +kernel, by decide +kernel, by decide +kernel, by decide +kernel, by decide +kernel, by decide +kernel⟩
theorem odd17_ok : ∀ d ∈ odd17, okV 3 1000 (.tup [d]) := by
  intro d hd
  simp only [odd17, List.mem_cons, List.not_mem_nil, or_false] at hd
  rcases hd with rfl | rfl | rfl | rfl | rfl | rfl | rfl | rfl | rfl | rfl | rfl | rfl <;> exact okVb_ok (by decide +kernel)
theorem odd17_len : ∀ d ∈ odd17, ∀ c, d = .str c → c.length ≤ 1000 := by
  intro d hd c e
  simp only [odd17, List.mem_cons, List.not_mem_nil, or_false] at hd
  rcases hd with rfl | rfl | rfl | rfl | rfl | rfl | rfl | rfl | rfl | rfl | rfl | rfl <;> cases e <;> decide +kernel
theorem odd17_tup : ∀ d ∈ odd17, ∀ xs, d = .tup xs → xs.length ≤ 1000 ∧ ∀ y ∈ xs, ∃ t, tyN y = some t := by
  intro d hd xs e
  simp only [odd17, List.mem_cons, List.not_mem_nil, or_false] at hd
  rcases hd with rfl | rfl | rfl | rfl | rfl | rfl | rfl | rfl | rfl | rfl | rfl | rfl <;> cases e <;> refine ⟨by decide, fun y hy => ?_⟩ <;> simp only [List.mem_cons, List.not_mem_nil, or_false] at hy
  · rw [hy]; exact ⟨_, rfl⟩
  · rcases hy with rfl | rfl <;> exact ⟨_, rfl⟩
  · rw [hy]; exact ⟨_, rfl⟩
  · rcases hy with rfl | rfl <;> exact ⟨_, rfl⟩
  · rw [hy]; exact ⟨_, rfl⟩
theorem famAB : FamN 2 ["a", "b"] := by
  have h := sset_n (n := 2) (l := ["a", "b"]) (by decide) (by decide) (by decide +kernel)
  rwa [show sset (["a", "b"] : List Str) = (["a", "b"] : List Str) from by decide +kernel] at h
theorem famA : FamN 2 ["a"] := by
  have h := sset_n (n := 2) (l := ["a"]) (by decide) (by decide) (by decide +kernel)
  rwa [show sset (["a"] : List Str) = (["a"] : List Str) from by decide +kernel] at h
/-- what a closure's body raises -/
def CloB (m : ME) (c : Str) : Prop := ∀ (d : D) (x b p : Addr) (S : Sto) (Q : D → Sto → Prop) (E : Xn → Sto → Prop), d ∈ odd17 → S x = some (famO 2 ["a", "b"]) → Ben S b p 2 ["a"] [[]] → (∀ S', Keep S S' → E ⟨c, []⟩ S') → m (startG 3 [.ref x, .ref b, d]) S Q E
-- only: k17
theorem clB0 : CloB mC0 "InvalidLetters" := by
  intro d x b p S Q E hd hx hb he
  obtain ⟨h1, h2, h3, h4, h5, h6, h7, h8⟩ := odd17_all d hd
  delta mC0
  conv => whnf
  intro y hy
  refine ⟨⟨by simp, sz (n := 1) (by decide)⟩, ?_⟩
  exact F_Family_init_badl h1 h3 (he _ (keep_up hy))
-- only: k17
theorem clB1 : CloB mC1 "InvalidFamily" := by
  intro d x b p S Q E hd hx hb he
  obtain ⟨h1, h2, h3, h4, h5, h6, h7, h8⟩ := odd17_all d hd
  delta mC1
  conv => whnf
  intro y hy
  refine ⟨⟨by simp, sz (n := 1) (by decide)⟩, ?_⟩
  exact F_Family_init_badf (n := 2) (by decide) (by decide) (by decide) (odd17_ok d hd) h8 (he _ (keep_up hy))
-- only: k17
theorem clB2 : CloB mC2 "InvalidText" := by
  intro d x b p S Q E hd hx hb he
  delta mC2
  conv => whnf
  refine ⟨rfl, ?_⟩
  conv => whnf
  refine ⟨rfl, ?_⟩
  have he := he S Keep.rfl'
  simp only [odd17, List.mem_cons, List.not_mem_nil, or_false] at hd
  rcases hd with rfl | rfl | rfl | rfl | rfl | rfl | rfl | rfl | rfl | rfl | rfl | rfl
  · exact F_Family_read_bad ⟨_, rfl, by decide, rfl⟩ he
  · exact F_Family_read_bad ⟨_, rfl, by decide, rfl⟩ he
  · exact F_Family_read_r (by decide +kernel) (fun n A h => absurd (show readp "e" = none from by decide +kernel) (by rw [h]; exact fun z => nomatch z)) fun _ => he
  · exact F_Family_read_bad ⟨_, rfl, by decide, rfl⟩ he
  · exact F_Family_read_bad ⟨_, rfl, by decide, rfl⟩ he
  · exact F_Family_read_bad ⟨_, rfl, by decide, rfl⟩ he
  · exact F_Family_read_bad ⟨_, rfl, by decide, rfl⟩ he
  · exact F_Family_read_bad ⟨_, rfl, by decide, rfl⟩ he
  · exact F_Family_read_bad ⟨_, rfl, by decide, rfl⟩ he
  · exact F_Family_read_r (by decide +kernel) (fun n A h => absurd (show readp "ba" = none from by decide +kernel) (by rw [h]; exact fun z => nomatch z)) fun _ => he
  · exact F_Family_read_bad ⟨_, rfl, by decide, rfl⟩ he
  · exact F_Family_read_bad ⟨_, rfl, by decide, rfl⟩ he
-- only: k17
theorem clB3 : CloB mC3 "Unlike" := by
  intro d x b p S Q E hd hx hb he
  obtain ⟨h1, h2, h3, h4, h5, h6, h7, h8⟩ := odd17_all d hd
  delta mC3
  conv => whnf
  refine ⟨.inr h1, ?_⟩
  conv => whnf
  refine ⟨x, _, rfl, hx, ?_⟩
  exact ⟨rfl, F_Family_or_bad hx (.inl h1) (he _ Keep.rfl')⟩
-- only: k17
theorem clB4 : CloB mC4 "Unlike" := by
  intro d x b p S Q E hd hx hb he
  obtain ⟨h1, h2, h3, h4, h5, h6, h7, h8⟩ := odd17_all d hd
  delta mC4
  conv => whnf
  refine ⟨.inr h1, ?_⟩
  conv => whnf
  refine ⟨x, _, rfl, hx, ?_⟩
  exact ⟨rfl, F_Family_and_bad hx (.inl h1) (he _ Keep.rfl')⟩
-- only: k17
theorem clB5 : CloB mC5 "Unlike" := by
  intro d x b p S Q E hd hx hb he
  obtain ⟨h1, h2, h3, h4, h5, h6, h7, h8⟩ := odd17_all d hd
  delta mC5
  conv => whnf
  refine ⟨.inr h1, ?_⟩
  conv => whnf
  refine ⟨x, _, rfl, hx, ?_⟩
  exact ⟨rfl, F_Family_sub_bad hx (.inl h1) (he _ Keep.rfl')⟩
-- only: k17
theorem clB6 : CloB mC6 "Unlike" := by
  intro d x b p S Q E hd hx hb he
  obtain ⟨h1, h2, h3, h4, h5, h6, h7, h8⟩ := odd17_all d hd
  delta mC6
  conv => whnf
  refine ⟨.inr h1, ?_⟩
  conv => whnf
  refine ⟨x, _, rfl, hx, ?_⟩
  exact ⟨rfl, F_Family_le_bad hx (.inl h1) (he _ Keep.rfl')⟩
-- only: k17
theorem clB7 : CloB mC7 "InvalidSet" := by
  intro d x b p S Q E hd hx hb he
  obtain ⟨h1, h2, h3, h4, h5, h6, h7, h8⟩ := odd17_all d hd
  delta mC7
  conv => whnf
  refine ⟨.inr h1, ?_⟩
  conv => whnf
  refine ⟨x, _, rfl, hx, ?_⟩
  exact ⟨rfl, F_Family_xor_bad famAB h1 h2 hx (he _ Keep.rfl')⟩
-- only: k17
theorem clB8 : CloB mC8 "InvalidSet" := by
  intro d x b p S Q E hd hx hb he
  obtain ⟨h1, h2, h3, h4, h5, h6, h7, h8⟩ := odd17_all d hd
  delta mC8
  conv => whnf
  exact ⟨rfl, F__law_turned_bad famAB h1 h2 hx (he _ Keep.rfl')⟩
-- only: k17
theorem clB9 : CloB mC9 "InvalidSet" := by
  intro d x b p S Q E hd hx hb he
  obtain ⟨h1, h2, h3, h4, h5, h6, h7, h8⟩ := odd17_all d hd
  delta mC9
  conv => whnf
  refine ⟨x, _, rfl, hx, ?_⟩
  conv => whnf
  refine ⟨x, _, rfl, hx, ?_⟩
  exact ⟨rfl, F_Family_call_bad famAB h1 h2 hx (he _ Keep.rfl')⟩
-- only: k17
theorem clB10 : CloB mC10 "InvalidNumber" := by
  intro d x b p S Q E hd hx hb he
  obtain ⟨h1, h2, h3, h4, h5, h6, h7, h8⟩ := odd17_all d hd
  delta mC10
  conv => whnf
  refine ⟨x, _, rfl, hx, ?_⟩
  exact ⟨rfl, F_Family_getitem_bad famAB.f h1 h4 hx (he _ Keep.rfl')⟩
-- only: k17
theorem clB11 : CloB mC11 "InvalidLetters" := by
  intro d x b p S Q E hd hx hb he
  obtain ⟨h1, h2, h3, h4, h5, h6, h7, h8⟩ := odd17_all d hd
  delta mC11
  conv => whnf
  intro y hy
  exact ⟨rfl, F_Bench_init_bad h1 h3 (he _ (keep_up hy))⟩
-- only: k17
theorem clB12 : CloB mC12 "InvalidSet" := by
  intro d x b p S Q E hd hx hb he
  obtain ⟨h1, h2, h3, h4, h5, h6, h7, h8⟩ := odd17_all d hd
  delta mC12
  conv => whnf
  refine ⟨b, _, rfl, hb.hx, ?_⟩
  conv => whnf
  refine ⟨rfl, ?_⟩
  conv => whnf
  exact ⟨rfl, F_Bench_put_bad famA h1 h2 hb (he _ Keep.rfl')⟩
-- only: k17
theorem clB13 : CloB mC13 "InvalidSet" := by
  intro d x b p S Q E hd hx hb he
  obtain ⟨h1, h2, h3, h4, h5, h6, h7, h8⟩ := odd17_all d hd
  delta mC13
  conv => whnf
  refine ⟨b, _, rfl, hb.hx, ?_⟩
  conv => whnf
  refine ⟨rfl, ?_⟩
  conv => whnf
  exact ⟨rfl, F_Bench_strike_bad famA h1 h2 hb (he _ Keep.rfl')⟩
-- only: k17
theorem clB14 : CloB mC14 "InvalidLetter" := by
  intro d x b p S Q E hd hx hb he
  obtain ⟨h1, h2, h3, h4, h5, h6, h7, h8⟩ := odd17_all d hd
  delta mC14
  conv => whnf
  refine ⟨b, _, rfl, hb.hx, ?_⟩
  conv => whnf
  refine ⟨rfl, ?_⟩
  conv => whnf
  exact ⟨rfl, F_Bench_squeeze_bad (odd17_len d hd) h1 h6 hb (he _ Keep.rfl')⟩
-- only: k17
theorem clB15 : CloB mC15 "InvalidSet" := by
  intro d x b p S Q E hd hx hb he
  obtain ⟨h1, h2, h3, h4, h5, h6, h7, h8⟩ := odd17_all d hd
  delta mC15
  conv => whnf
  exact ⟨rfl, F__law_grown_bad famA h1 (odd17_tup d hd) h7 hb (he _ Keep.rfl')⟩
-- only: k17
theorem clB16 : CloB mC16 "InvalidNumber" := by
  intro d x b p S Q E hd hx hb he
  obtain ⟨h1, h2, h3, h4, h5, h6, h7, h8⟩ := odd17_all d hd
  delta mC16
  conv => whnf
  refine ⟨b, _, rfl, hb.hx, ?_⟩
  exact ⟨rfl, F_Bench_getitem_bad famA.f h1 h5 hb (he _ Keep.rfl')⟩
end Em


set_option Elab.async false
set_option linter.all false
set_option maxRecDepth 100000
set_option maxHeartbeats 4000000
namespace Em
open PySem PySem.Spec PyProof.Rows L2 DL OrdS
/-! ### the closures made and run -/
theorem keep_own {S : Sto} : ∀ {a : Addr} {m : MO}, isOwn (S a) = false → S a = some m → dropOwn S a = some m := fun {a m} h e => by
  unfold dropOwn
  rw [if_neg (by rw [h]; decide)]; exact e
theorem back_keep {S S' : Sto} (k : Keep (dropOwn S) S') : Keep S (backOwn S S') := fun a m e => by
  unfold backOwn
  by_cases h : isOwn (S a) = true
  · rw [if_pos h]; exact e
  · rw [if_neg h]
    exact k a m (keep_own (by simpa using h) e)
abbrev scC : Scope := defScope s__law_calls_of
/-- the table of the closures -/
def l17 : List (Str × Clo) := [("letters", cloC 0), ("family", cloC 1), ("text", cloC 2), ("unlike", cloC 3), ("unlike", cloC 4), ("unlike", cloC 5), ("unlike", cloC 6), ("set", cloC 7), ("set", cloC 8), ("set", cloC 9), ("number", cloC 10), ("letters", cloC 11), ("set", cloC 12), ("set", cloC 13), ("letter", cloC 14), ("set", cloC 15), ("number", cloC 16)]
-- only: k17
theorem l17_all : ∀ t ∈ l17, ∃ m c, (t.2, m) ∈ zsC ∧ CloB m c ∧ errCs.lookup c = some (t.1 ++ " value") ∧ t.1.length ≤ 20 := by
  intro t ht
  simp only [l17, List.mem_cons, List.not_mem_nil, or_false] at ht
  rcases ht with rfl | rfl | rfl | rfl | rfl | rfl | rfl | rfl | rfl | rfl | rfl | rfl | rfl | rfl | rfl | rfl | rfl
  · exact ⟨mC0, _, by simp [zsC], clB0, by decide +kernel, by decide +kernel⟩
  · exact ⟨mC1, _, by simp [zsC], clB1, by decide +kernel, by decide +kernel⟩
  · exact ⟨mC2, _, by simp [zsC], clB2, by decide +kernel, by decide +kernel⟩
  · exact ⟨mC3, _, by simp [zsC], clB3, by decide +kernel, by decide +kernel⟩
  · exact ⟨mC4, _, by simp [zsC], clB4, by decide +kernel, by decide +kernel⟩
  · exact ⟨mC5, _, by simp [zsC], clB5, by decide +kernel, by decide +kernel⟩
  · exact ⟨mC6, _, by simp [zsC], clB6, by decide +kernel, by decide +kernel⟩
  · exact ⟨mC7, _, by simp [zsC], clB7, by decide +kernel, by decide +kernel⟩
  · exact ⟨mC8, _, by simp [zsC], clB8, by decide +kernel, by decide +kernel⟩
  · exact ⟨mC9, _, by simp [zsC], clB9, by decide +kernel, by decide +kernel⟩
  · exact ⟨mC10, _, by simp [zsC], clB10, by decide +kernel, by decide +kernel⟩
  · exact ⟨mC11, _, by simp [zsC], clB11, by decide +kernel, by decide +kernel⟩
  · exact ⟨mC12, _, by simp [zsC], clB12, by decide +kernel, by decide +kernel⟩
  · exact ⟨mC13, _, by simp [zsC], clB13, by decide +kernel, by decide +kernel⟩
  · exact ⟨mC14, _, by simp [zsC], clB14, by decide +kernel, by decide +kernel⟩
  · exact ⟨mC15, _, by simp [zsC], clB15, by decide +kernel, by decide +kernel⟩
  · exact ⟨mC16, _, by simp [zsC], clB16, by decide +kernel, by decide +kernel⟩
/-- the maker's cells -/
structure Cel (S : Sto) (n x b : Addr) (d : D) : Prop where
  v : ∃ c, cellAt scC n "_law_value" = some c ∧ S c = some (.own (cellM (.ref x)))
  b : ∃ c, cellAt scC n "_law_bench" = some c ∧ S c = some (.own (cellM (.ref b)))
  d : ∃ c, cellAt scC n "_law_bad" = some c ∧ S c = some (.own (cellM d))
theorem Cel.keep {S S' : Sto} {n x b : Addr} {d : D} (h : Cel S n x b d) (k : Keep S S') : Cel S' n x b d :=
  ⟨let ⟨c, h1, h2⟩ := h.v; ⟨c, h1, k _ _ h2⟩, let ⟨c, h1, h2⟩ := h.b; ⟨c, h1, k _ _ h2⟩, let ⟨c, h1, h2⟩ := h.d; ⟨c, h1, k _ _ h2⟩⟩
/-- how the list of closures is made -/
def mkA (P n : Addr) : List (Str × Clo) → MA
  | [] => args0
  | t :: r => argsC (fun g => T.bind ((argsC (fun _ => T.pure (.str t.1)) (argsC (fun _ => cloD P t.2 n) args0)) g) fun xs => T.bind (needSize xs.length) fun _ => T.pure (.tup xs)) (mkA P n r)
theorem mkA_r {P n : Addr} {q : Str} {g : Sg} {E : Xn → Sto → Prop} : ∀ (l : List (Str × Clo)) (S : Sto) (Q : List D → Sto → Prop), (∀ t ∈ l, t.2.q = q) → S P = some (.tab q) →
    (∀ (ts : List (Str × Clo × Addr)) (S' : Sto), ts.map (fun t => (t.1, t.2.1)) = l → Keep S S' → (∀ t ∈ ts, S' t.2.2 = some (.own (fnM t.2.1 n))) → Q (ts.map fun t => .tup [.str t.1, .ref t.2.2]) S') → mkA P n l g S Q E
  | [], S, Q, _, _, h => h [] S rfl Keep.rfl' (fun t z => nomatch z)
  | t :: r, S, Q, hq, hP, h => by
    show _ ∧ _
    refine ⟨by rw [hq t List.mem_cons_self]; exact hP, fun f hf => ⟨by show (2 : Nat) ≤ _; rw [sizeLine_eq]; omega, ?_⟩⟩
    have k1 := keep_up (m := .own (fnM t.2 n)) hf
    refine mkA_r r _ _ (fun t ht => hq t (List.mem_cons_of_mem _ ht)) (k1 _ _ hP) fun ts S' e k2 ho => ?_
    refine h ((t.1, t.2, f) :: ts) S' (by rw [List.map_cons, e]) (k1.trans k2) fun u hu => ?_
    rcases List.mem_cons.mp hu with rfl | hu
    · exact k2 _ _ up_same
    · exact ho u hu
-- only: k17
theorem F__law_calls_of_r {P x b : Addr} {d : D} {S : Sto} {Q : D → Sto → Prop} {E : Xn → Sto → Prop} (hP : S P = some (.tab "_law_calls_of.<locals>.<lambda>"))
    (h : ∀ (n : Addr) (ts : List (Str × Clo × Addr)) (S' : Sto), ts.map (fun t => (t.1, t.2.1)) = l17 → Keep S S' → (∀ t ∈ ts, S' t.2.2 = some (.own (fnM t.2.1 n))) → Cel S' n x b d → Q (.lst (ts.map fun t => .tup [.str t.1, .ref t.2.2])) S') : F__law_calls_of P [.ref x, .ref b, d] S Q E := by
  rw [F__law_calls_of_eq]
  intro n
  have hql : ∀ t ∈ l17, t.2.q = "_law_calls_of.<locals>.<lambda>" := by
    intro t ht
    simp only [l17, List.mem_cons, List.not_mem_nil, or_false] at ht
    rcases ht with rfl | rfl | rfl | rfl | rfl | rfl | rfl | rfl | rfl | rfl | rfl | rfl | rfl | rfl | rfl | rfl | rfl <;> exact (okC _ (by decide)).q
  show mkA P n l17 _ S _ _
  refine mkA_r l17 S _ hql hP fun ts S' e k ho => ?_
  have el : ts.length = 17 := by have := congrArg List.length e; rw [List.length_map] at this; exact this
  refine ⟨by rw [List.length_map, el, sizeLine_eq]; omega, fun hc => ?_⟩
  obtain ⟨c0, e0, n0⟩ := hc "_law_value" (by simp)
  obtain ⟨c1, e1, n1⟩ := hc "_law_bench" (by simp)
  obtain ⟨c2, e2, n2⟩ := hc "_law_bad" (by simp)
  have d01 : c0 ≠ c1 := fun z => absurd (injC n _ _ c0 e0 (by rw [z]; exact e1)) (by decide)
  have d02 : c0 ≠ c2 := fun z => absurd (injC n _ _ c0 e0 (by rw [z]; exact e2)) (by decide)
  have d12 : c1 ≠ c2 := fun z => absurd (injC n _ _ c1 e1 (by rw [z]; exact e2)) (by decide)
  have eS : cellUp (cellAt scC n) psC [.ref x, .ref b, d] S' = ((S'.up c2 (.own (cellM d))).up c1 (.own (cellM (.ref b)))).up c0 (.own (cellM (.ref x))) := by
    show ((S'.up ((cellAt scC n "_law_bad").getD 0) _).up ((cellAt scC n "_law_bench").getD 0) _).up ((cellAt scC n "_law_value").getD 0) _ = _
    rw [e0, e1, e2]; rfl
  rw [eS]
  have k2 : Keep S' (((S'.up c2 (.own (cellM d))).up c1 (.own (cellM (.ref b)))).up c0 (.own (cellM (.ref x)))) :=
    (keep_up n2).trans ((keep_up (by rw [up_ne d12]; exact n1)).trans (keep_up (by rw [up_ne d01, up_ne d02]; exact n0)))
  refine h n ts _ e (k.trans k2) (fun t ht => k2 _ _ (ho t ht)) ⟨⟨c0, e0, up_same⟩, ⟨c1, e1, by rw [up_ne (Ne.symm d01), up_same]⟩, ⟨c2, e2, by rw [up_ne (Ne.symm d02), up_ne (Ne.symm d12), up_same]⟩⟩
end Em


set_option Elab.async false
set_option linter.all false
set_option maxRecDepth 100000
set_option maxHeartbeats 4000000
namespace Em
open PySem PySem.Spec PyProof.Rows L2 DL OrdS
/-! ### a bench takes forty calls, and no more -/
def qFull : Str := "_law_full_right.<locals>.<lambda>"
def abL : List Str := ["ab"]
theorem famAb : FamN 2 abL := by
  have h := sset_n (n := 2) (l := ["ab"]) (by decide) (by decide) (by decide +kernel)
  rwa [show sset (["ab"] : List Str) = abL from by decide +kernel] at h
theorem famAAb : FamN 2 ["a", "ab"] := by
  have h := sset_n (n := 2) (l := ["a", "ab"]) (by decide) (by decide) (by decide +kernel)
  rwa [show sset (["a", "ab"] : List Str) = (["a", "ab"] : List Str) from by decide +kernel] at h
theorem fam20 : FamN 2 [] := by
  have h := sset_n (n := 2) (l := []) (by decide) (by decide) (by decide +kernel)
  rwa [show sset ([] : List Str) = ([] : List Str) from by decide +kernel] at h
/-- the tables stay -/
def TK (S S' : Sto) : Prop := ∀ a q, S a = some (.tab q) → S' a = some (.tab q)
theorem TK.rfl' {S : Sto} : TK S S := fun _ _ h => h
theorem TK.trans {S S1 S2 : Sto} (h : TK S S1) (k : TK S1 S2) : TK S S2 := fun a q e => k a q (h a q e)
theorem Keep.tk {S S' : Sto} (h : Keep S S') : TK S S' := fun a q e => h a _ e
theorem Kp.tk {x p : Addr} {S S' : Sto} (h : Kp x p S S') : TK S S' := h.tab
theorem addV (w : Str) (h : w.length ≤ 20) : w.length + (" value" : Str).length ≤ sizeLine := by
  rw [sizeLine_eq]
  have : (" value" : Str).length = 6 := by decide +kernel
  omega
def vlD : D → D
  | .str w => .str (w ++ " value")
  | d => d
-- only: k17
theorem F__law_full_right_k {P : Addr} {S : Sto} {Q : D → Sto → Prop} {E : Xn → Sto → Prop} (hP : S P = some (.tab qFull)) (hq : ∀ S', TK S S' → Q (.bl true) S') : F__law_full_right P [] S Q E := by
  rw [F__law_full_right_eq]
  show runD (m__law_full_right P) 6 [] S Q E
  delta m__law_full_right
  conv => whnf
  refine bench_make (n := 2) (by decide) (by decide) fun x S1 p hb hx0 k1 => ?_
  have k1 := k1.tk
  clear hx0
  conv => whnf
  refine ⟨by decide, ?_⟩
  refine for_l (fun k : Nat => D.int (0 + (k : Int))) (fun r g S' => ∃ past A, (∀ C ∈ past, IsFam C) ∧ past.length + r.length = 39 ∧ FamN 2 A ∧ sset (A ++ abL) = abL ∧ (past ≠ [] → A = abL) ∧ Ben S' x p 2 A past ∧ TK S S' ∧ ∃ s1, g = [.va (.ref x), s1, .un, .un, .un, .un])
    (fun k r g S' hI Q' hn' hr => ?_) (fun g S' hI => ?_) _ _ _ ⟨[], [], fun _ h => absurd h List.not_mem_nil, by simp, fam20, by decide +kernel, fun h => absurd rfl h, hb, k1, _, rfl⟩
  · obtain ⟨past, A, hp, hl, hA, hs, _, hb, kt, s1, rfl⟩ := hI
    simp only [List.length_cons] at hl
    conv => whnf
    refine ⟨x, _, rfl, hb.hx, ?_⟩
    conv => whnf
    refine ⟨rfl, ?_⟩
    conv => whnf
    refine ⟨rfl, F_Bench_put_r hA (by decide +kernel) hb (by omega) fun S2 hb2 kp => ?_⟩
    rw [show A ++ [("ab" : Str)] = A ++ abL from rfl, hs] at hb2
    conv => whnf
    refine hn' _ _ ⟨past ++ [A], abL, fun C hC => ?_, by rw [List.length_append]; simp; omega, famAb, by decide +kernel, fun _ => rfl, hb2, kt.trans kp.tk, _, rfl⟩
    rcases List.mem_append.mp hC with hC | hC
    · exact hp C hC
    · rw [List.mem_singleton.mp hC]; exact hA.f
  · obtain ⟨past, A, hp, hl, hA, hs, hab, hb, kt, s1, rfl⟩ := hI
    simp only [List.length_nil, Nat.add_zero] at hl
    obtain rfl := hab (fun e => by rw [e] at hl; cases hl)
    have hP := kt _ _ hP
    conv => whnf
    refine ⟨sz (n := 2) (by decide), ?_⟩
    conv => whnf
    refine ⟨x, _, rfl, hb.hx, ?_⟩
    conv => whnf
    refine ⟨rfl, F_Bench_iadd_r (L := ["a", "a"]) famAb (by decide +kernel) (by decide) hb (by omega) fun S2 hb2 kp => ?_⟩
    rw [show sset (abL ++ (["a", "a"] : List Str)) = (["a", "ab"] : List Str) from by decide +kernel] at hb2
    have hP := kp.tk _ _ hP
    have kt := kt.trans kp.tk
    have hf : ∀ C ∈ past ++ [abL], IsFam C := fun C hC => by
      rcases List.mem_append.mp hC with hC | hC
      · exact hp C hC
      · rw [List.mem_singleton.mp hC]; exact famAb.f
    have h40 : (past ++ [abL]).length = 40 := by rw [List.length_append, hl]; rfl
    clear hb kp hp hab hs hA
    conv => whnf
    refine ⟨hP, ?_⟩
    conv => whnf
    refine ⟨x, _, rfl, hb2.hx, ?_⟩
    conv => whnf
    refine ⟨rfl, ?_⟩
    conv => whnf
    refine ⟨rfl, F_Bench_put_many famAAb (by decide +kernel) hb2 h40 ⟨"many value", by decide +kernel, ?_⟩⟩
    conv => whnf
    refine ⟨sz (n := 1) (by decide), ?_⟩
    conv => whnf
    refine ⟨hP, ?_⟩
    conv => whnf
    refine ⟨x, _, rfl, hb2.hx, ?_⟩
    conv => whnf
    refine ⟨rfl, ?_⟩
    conv => whnf
    refine ⟨rfl, F_Bench_put_bad famAAb ⟨_, rfl⟩ (by decide +kernel) hb2 ⟨"set value", by decide +kernel, ?_⟩⟩
    conv => whnf
    refine ⟨sz (n := 2) (by decide), ?_⟩
    conv => whnf
    refine ⟨hP, ?_⟩
    conv => whnf
    refine ⟨x, _, rfl, hb2.hx, ?_⟩
    conv => whnf
    refine ⟨rfl, ?_⟩
    conv => whnf
    refine ⟨rfl, F_Bench_strike_many famAAb (by decide +kernel) hb2 h40 ⟨"many value", by decide +kernel, ?_⟩⟩
    conv => whnf
    refine ⟨sz (n := 3) (by decide), ?_⟩
    conv => whnf
    refine ⟨hP, ?_⟩
    conv => whnf
    refine ⟨x, _, rfl, hb2.hx, ?_⟩
    conv => whnf
    refine ⟨rfl, ?_⟩
    conv => whnf
    refine ⟨rfl, F_Bench_squeeze_many famAAb (by decide +kernel) hb2 h40 ⟨"many value", by decide +kernel, ?_⟩⟩
    conv => whnf
    refine ⟨sz (n := 4) (by decide), ?_⟩
    conv => whnf
    refine ⟨hP, ?_⟩
    conv => whnf
    refine ⟨x, _, rfl, hb2.hx, ?_⟩
    conv => whnf
    refine ⟨rfl, ?_⟩
    conv => whnf
    refine ⟨rfl, F_Bench_squeeze_bad (fun c e => by cases e; decide +kernel) ⟨_, rfl⟩ (by decide +kernel) hb2 ⟨"letter value", by decide +kernel, ?_⟩⟩
    conv => whnf
    refine ⟨sz (n := 5) (by decide), ?_⟩
    conv => whnf
    refine ⟨hP, ?_⟩
    conv => whnf
    refine ⟨sz (n := 0) (by decide), ?_⟩
    conv => whnf
    refine ⟨rfl, F__law_grown_many (L := []) famAAb (fun s h => absurd h List.not_mem_nil) (by decide) hb2 h40 ⟨"many value", by decide +kernel, ?_⟩⟩
    conv => whnf
    refine ⟨sz (n := 6) (by decide), ?_⟩
    conv => whnf
    refine ⟨hP, ?_⟩
    conv => whnf
    refine ⟨sz (n := 1) (by decide), ?_⟩
    conv => whnf
    refine ⟨rfl, F__law_grown_bad (d := .tup [.str "c"]) famAAb ⟨_, rfl⟩ (fun xs e => by cases e; exact ⟨by decide, fun y hy => by rw [List.mem_singleton.mp hy]; exact ⟨_, rfl⟩⟩) (by decide +kernel) hb2 ⟨"set value", by decide +kernel, ?_⟩⟩
    conv => whnf
    refine ⟨sz (n := 7) (by decide), ?_⟩
    conv => whnf
    refine ⟨sz (n := 7) (by decide), ?_⟩
    conv => whnf
    refine ⟨sz (n := 7) (by decide), ?_⟩
    show lcT _ _ _ _ _ S2 _ _
    refine lc_m vlD (fun d hd => ?_) _ _ ?_
    · have hd : d ∈ (["many", "set", "many", "many", "letter", "many", "set"] : List Str).map D.str := hd
      obtain ⟨w, hw, rfl⟩ := List.mem_map.mp hd
      have hw : w.length ≤ 20 := (show ∀ w ∈ (["many", "set", "many", "many", "letter", "many", "set"] : List Str), w.length ≤ 20 from by decide +kernel) w hw
      intro Q E hq
      conv => whnf
      refine ⟨addV w hw, ?_⟩
      conv => whnf
      exact hq
    · conv => whnf
      refine ⟨.inr ⟨by decide +kernel, by decide +kernel⟩, ?_⟩
      conv => whnf
      refine ite_f (by decide +kernel) ?_
      conv => whnf
      refine ⟨x, _, rfl, hb2.hx, F_Bench_family_r hb2 _ _ ?_⟩
      conv => whnf
      refine ⟨sz (n := 2) (by decide), ?_⟩
      conv => whnf
      refine ⟨.inr ⟨fam_ok famAAb.f, fam_ok famAAb.f⟩, ?_⟩
      conv => whnf
      refine ite_f (by decide +kernel) ?_
      conv => whnf
      refine ⟨x, _, rfl, hb2.hx, ?_⟩
      refine ⟨rfl, F_Bench_len_r hb2 _ _ ?_⟩
      rw [h40]
      conv => whnf
      refine ⟨⟨by decide, by decide⟩, ?_⟩
      conv => whnf
      refine ⟨.inl rfl, ?_⟩
      conv => whnf
      refine ite_f (by decide +kernel) ?_
      conv => whnf
      refine ⟨x, _, rfl, hb2.hx, ?_⟩
      conv => whnf
      refine ⟨rfl, ?_⟩
      conv => whnf
      refine ⟨rfl, F_Bench_put_many famAAb (by decide +kernel) hb2 h40 ⟨rfl, ?_⟩⟩
      conv => whnf
      refine ⟨x, _, rfl, hb2.hx, ?_⟩
      conv => whnf
      refine ⟨rfl, ?_⟩
      refine ⟨rfl, FH_Bench_undo_r (past := past) (B := abL) hb2 hf (by omega) fun S3 hb3 kp => ?_⟩
      conv => whnf
      refine ⟨x, _, rfl, hb3.hx, ?_⟩
      refine ⟨rfl, F_Bench_len_r hb3 _ _ ?_⟩
      rw [hl]
      conv => whnf
      refine ⟨⟨by decide, by decide⟩, ?_⟩
      conv => whnf
      refine ⟨.inl rfl, ?_⟩
      conv => whnf
      refine ite_t (by decide +kernel) ?_
      conv => whnf
      refine ⟨x, _, rfl, hb3.hx, F_Bench_family_r hb3 _ _ ?_⟩
      conv => whnf
      refine ⟨sz (n := 1) (by decide), ?_⟩
      conv => whnf
      refine ⟨.inr ⟨fam_ok famAb.f, fam_ok famAb.f⟩, ?_⟩
      conv => whnf
      show Q (.bl (eqD (.tup (abL.map D.str)) (.tup (abL.map D.str)))) S3
      rw [show eqD (.tup (abL.map D.str)) (.tup (abL.map D.str)) = true from by decide +kernel]
      exact hq S3 (kt.trans kp.tk)
end Em


set_option Elab.async false
set_option linter.all false
set_option maxRecDepth 100000
set_option maxHeartbeats 4000000
namespace Em
open PySem PySem.Spec PyProof.Rows L2 DL OrdS
/-! ### the law -/
def qCalls : Str := "_law_calls_of.<locals>.<lambda>"
theorem rep17 : ∀ y ∈ (List.replicate 17 [D.str "a"]).flatten, y = .str "a" := fun y hy => by simpa using hy
theorem cel_at {S : Sto} {n x b : Addr} {d : D} (h : Cel S n x b d) (i : Nat) (y : Str) (hi : psC[i]? = some y) : ∃ c dd, cellAt scC n y = some c ∧ ([.ref x, .ref b, d] : List D)[i]? = some dd ∧ S c = some (.own (cellM dd)) := by
  match i, hi with
  | 0, hi => cases hi; obtain ⟨c, h1, h2⟩ := h.v; exact ⟨c, _, h1, rfl, h2⟩
  | 1, hi => cases hi; obtain ⟨c, h1, h2⟩ := h.b; exact ⟨c, _, h1, rfl, h2⟩
  | 2, hi => cases hi; obtain ⟨c, h1, h2⟩ := h.d; exact ⟨c, _, h1, rfl, h2⟩
def valE : D → D
  | .str w => if w ≠ "" then .str (w ++ " value") else .str ""
  | d => d
theorem fam30 : FamN 3 [] := by
  have h := sset_n (n := 3) (l := []) (by decide) (by decide) (by decide +kernel)
  rwa [show sset ([] : List Str) = ([] : List Str) from by decide +kernel] at h
-- only: k17
theorem k17_data {P1 P2 P3 : Addr} {S : Sto} {ns : List Int} (h1 : S P1 = some (.tab qCalls)) (h2 : S P2 = some (.tab qFull)) (h3 : S P3 = some (.tab qLaw)) (hl : ns.length ≤ 63) (hb : ∀ z ∈ ns, Builtin.Int.intBits z ≤ 1048576) : F_law P1 P2 P3 [.frz (ns.map D.int)] S (fun d _ => d = .bl true) fun _ _ => False := by
  rw [F_law_eq]
  show runD (m_law P1 P2 P3) 11 [.frz (ns.map D.int)] S _ _
  delta m_law
  conv => whnf
  have hn : (if (8 : Int) < ((ns.map D.int).length : Int) then (8 : Int) else ((ns.map D.int).length : Int)) ≤ 8 ∧ 0 ≤ (if (8 : Int) < ((ns.map D.int).length : Int) then (8 : Int) else ((ns.map D.int).length : Int)) := by split <;> omega
  refine ⟨by omega, ?_⟩
  refine for_l (fun k : Nat => D.int (0 + (k : Int))) (fun r g S' => (∀ k ∈ r, k ≤ 9) ∧ S' P1 = some (.tab qCalls) ∧ S' P2 = some (.tab qFull) ∧ S' P3 = some (.tab qLaw) ∧ ∃ s1 s2 s3 s4 s5 s6 s7 s8 s9 s10, g = [.va (.frz (ns.map D.int)), s1, s2, s3, s4, s5, s6, s7, s8, s9, s10])
    (fun k r g S' hI Q' hn' hr => ?_) (fun g S' hI => ?_) _ _ _ ⟨fun k hk => ?_, h1, h2, h3, _, _, _, _, _, _, _, _, _, _, rfl⟩
  · obtain ⟨hk, h1, h2, h3, s1, s2, s3, s4, s5, s6, s7, s8, s9, s10, rfl⟩ := hI
    have hk1 := hk k List.mem_cons_self
    rw [Int.zero_add]
    conv => whnf
    refine ⟨rfl, F__law_source_r hb (by omega) hl fun a ha => ?_⟩
    have kz := (keep_up ha (m := .src)).tk
    have h1 := kz _ _ h1
    have h2 := kz _ _ h2
    have h3 := kz _ _ h3
    have hs : (S'.up a .src) a = some .src := up_same
    generalize S'.up a .src = S1 at h1 h2 h3 hs
    clear kz ha
    conv => whnf
    refine ⟨sz (n := 1) (by decide), ?_⟩
    conv => whnf
    refine ⟨sz (n := 1) (by decide), ?_⟩
    conv => whnf
    refine ⟨sz (n := 2) (by decide), ?_⟩
    conv => whnf
    refine ⟨sz (n := 1) (by decide), ?_⟩
    conv => whnf
    refine ⟨sz (n := 2) (by decide), ?_⟩
    conv => whnf
    refine ⟨sz (n := 1) (by decide), ?_⟩
    conv => whnf
    refine ⟨sz (n := 12) (by decide), ?_⟩
    conv => whnf
    refine ⟨rfl, F__law_of_r (ds := odd17) hs (by decide) (by decide) _ _ fun d hd => ?_⟩
    conv => whnf
    refine make_u (n := 2) (A := ["a", "b"]) rfl (by decide) (by decide) famAB.f famAB.m fun x hx0 => ?_
    have kx := (keep_up (m := famO 2 ["a", "b"]) hx0).tk
    have h1 := kx _ _ h1
    have h2 := kx _ _ h2
    have h3 := kx _ _ h3
    have hx : (S1.up x (famO 2 ["a", "b"])) x = some (famO 2 ["a", "b"]) := up_same
    generalize S1.up x (famO 2 ["a", "b"]) = S2 at h1 h2 h3 hx
    clear kx hx0 hs
    conv => whnf
    refine bench_make (n := 2) (by decide) (by decide) fun b S3 p hb3 _ k3 => ?_
    have h1 := k3 _ _ h1
    have h2 := k3 _ _ h2
    have h3 := k3 _ _ h3
    have hx := k3 _ _ hx
    clear k3
    conv => whnf
    refine ⟨sz (n := 2) (by decide), ?_⟩
    conv => whnf
    refine ⟨b, _, rfl, hb3.hx, ?_⟩
    conv => whnf
    refine ⟨rfl, ?_⟩
    conv => whnf
    refine ⟨rfl, F_Bench_put_r fam20 (by decide +kernel) hb3 (by decide) fun S4 hb4 kp => ?_⟩
    rw [show sset ([] ++ [("a" : Str)]) = ([("a" : Str)]) from by decide +kernel] at hb4
    have h1 := kp.tk _ _ h1
    have h2 := kp.tk _ _ h2
    have h3 := kp.tk _ _ h3
    have hx : S4 x = some (famO 2 ["a", "b"]) := kp.oth x _ (fun e => by rw [e, hb3.hx] at hx; cases hx) (fun e => by rw [e, hb3.hp] at hx; cases hx) hx
    clear kp hb3
    conv => whnf
    refine ⟨rfl, F__law_calls_of_r h1 fun n ts S5 he k5 ho hc => ?_⟩
    have h1 := k5 _ _ h1
    have h2 := k5 _ _ h2
    have h3 := k5 _ _ h3
    have hx := k5 _ _ hx
    have hb5 : Ben S5 b p 2 ["a"] [[]] := ⟨k5 _ _ hb4.hx, k5 _ _ hb4.hp⟩
    clear k5 hb4
    conv => whnf
    refine for_l (fun t : Str × Clo × Addr => D.tup [.str t.1, .ref t.2.2]) (fun r g S' => (∀ t ∈ r, (t.1, t.2.1) ∈ l17 ∧ S' t.2.2 = some (.own (fnM t.2.1 n))) ∧ S' P1 = some (.tab qCalls) ∧ S' P2 = some (.tab qFull) ∧ S' P3 = some (.tab qLaw) ∧ S' x = some (famO 2 ["a", "b"]) ∧ Ben S' b p 2 ["a"] [[]] ∧ Cel S' n x b d ∧
      ∃ s7 s8, g = [.va (.frz (ns.map D.int)), .va (.int k), .va (.ref a), .va (.lst odd17), .va d, .va (.ref x), .va (.ref b), s7, s8, s9, s10])
      (fun t r g S6 hI Q2 hn2 hr2 => ?_) (fun g S6 hI => ?_) _ _ _ ⟨fun t ht => ⟨by rw [← he]; exact List.mem_map.mpr ⟨t, ht, rfl⟩, ho t ht⟩, h1, h2, h3, hx, hb5, hc, _, _, rfl⟩
    · obtain ⟨hts, h1, h2, h3, hx, hb5, hc, s7, s8, rfl⟩ := hI
      obtain ⟨ht, ho⟩ := hts t List.mem_cons_self
      obtain ⟨m, c, hz, hB, hw, hlen⟩ := l17_all _ ht
      have nx : isOwn (S6 x) = false := by rw [hx]; rfl
      have nb : isOwn (S6 b) = false := by rw [hb5.hx]; rfl
      have np : isOwn (S6 p) = false := by rw [hb5.hp]; rfl
      conv => whnf
      refine ⟨t.2.2, n, t.2.1, m, [.ref x, .ref b, d], rfl, hz, ho, rfl, cel_at hc, hB d x b p (dropOwn S6) _ _ hd (keep_own nx hx) ⟨keep_own nb hb5.hx, keep_own np hb5.hp⟩ fun S8 k8 => ⟨_, hw, ?_⟩⟩
      have kk := back_keep k8
      generalize backOwn S6 S8 = S7 at kk
      clear k8 nx nb np
      have h1 := kk _ _ h1
      have h2 := kk _ _ h2
      have h3 := kk _ _ h3
      have hx := kk _ _ hx
      have hb5 : Ben S7 b p 2 ["a"] [[]] := ⟨kk _ _ hb5.hx, kk _ _ hb5.hp⟩
      conv => whnf
      refine ⟨addV t.1 hlen, ?_⟩
      conv => whnf
      refine ⟨.inl rfl, ?_⟩
      conv => whnf
      refine ite_f (by show (!decide (t.1 ++ (" value" : Str) = t.1 ++ " value")) = false; simp) ?_
      conv => whnf
      refine ⟨x, _, rfl, hx, F_Family_source_r hx _ _ ?_⟩
      conv => whnf
      refine ⟨sz (n := 2) (by decide), ?_⟩
      conv => whnf
      refine ⟨.inr ⟨fam_ok famAB.f, fam_ok famAB.f⟩, ?_⟩
      conv => whnf
      refine ite_f (by decide +kernel) ?_
      conv => whnf
      refine ⟨b, _, rfl, hb5.hx, F_Bench_family_r hb5 _ _ ?_⟩
      conv => whnf
      refine ⟨sz (n := 1) (by decide), ?_⟩
      conv => whnf
      refine ⟨.inr ⟨fam_ok famA.f, fam_ok famA.f⟩, ?_⟩
      conv => whnf
      refine ite_f (by decide +kernel) ?_
      conv => whnf
      refine ⟨b, _, rfl, hb5.hx, ?_⟩
      refine ⟨rfl, F_Bench_len_r hb5 _ _ ?_⟩
      conv => whnf
      refine ⟨⟨by decide, by decide⟩, ?_⟩
      conv => whnf
      refine ⟨.inl rfl, ?_⟩
      conv => whnf
      refine ite_f (by decide +kernel) ?_
      conv => whnf
      exact hn2 _ _ ⟨fun u hu => ⟨(hts u (List.mem_cons_of_mem _ hu)).1, kk _ _ (hts u (List.mem_cons_of_mem _ hu)).2⟩, h1, h2, h3, hx, hb5, hc.keep kk, _, _, rfl⟩
    · obtain ⟨_, h1, h2, h3, hx, hb5, _, s7, s8, rfl⟩ := hI
      conv => whnf
      refine ⟨h3, ?_⟩
      conv => whnf
      refine ⟨.inr ⟨_, rfl⟩, ?_⟩
      conv => whnf
      refine ⟨x, _, rfl, hx, ?_⟩
      refine ⟨rfl, F_Family_xor_bad famAB ⟨_, rfl⟩ (by decide +kernel) hx ⟨"set value", by decide +kernel, ?_⟩⟩
      conv => whnf
      refine ⟨sz (n := 1) (by decide), ?_⟩
      -- Family(3)
      conv => whnf
      refine ⟨h3, ?_⟩
      conv => whnf
      refine make_u (n := 3) (A := []) rfl (by decide) (by decide) fam30.f fam30.m fun y hy0 => ?_
      have ky := keep_up (m := famO 3 []) hy0
      have h1 := ky _ _ h1
      have h2 := ky _ _ h2
      have h3 := ky _ _ h3
      have hx := ky _ _ hx
      have hb5 : Ben _ b p 2 ["a"] [[]] := ⟨ky _ _ hb5.hx, ky _ _ hb5.hp⟩
      have hy : (S6.up y (famO 3 [])) y = some (famO 3 []) := up_same
      generalize S6.up y (famO 3 []) = S7 at h1 h2 h3 hx hb5 hy
      clear ky hy0
      conv => whnf
      refine ⟨.inl ⟨y, _, rfl, hy⟩, ?_⟩
      conv => whnf
      refine ⟨x, _, rfl, hx, ?_⟩
      refine ⟨rfl, F_Family_or_bad hx (.inr ⟨y, 3, [], rfl, hy, by decide⟩) ⟨"unlike value", by decide +kernel, ?_⟩⟩
      conv => whnf
      refine ⟨sz (n := 2) (by decide), ?_⟩
      -- Family(2, "a", "a")
      conv => whnf
      refine ⟨h3, ?_⟩
      conv => whnf
      intro z hz
      have kz := keep_up (m := .ins "Family" []) hz
      have h1 := kz _ _ h1
      have h2 := kz _ _ h2
      have h3 := kz _ _ h3
      have hx := kz _ _ hx
      have hb5 : Ben _ b p 2 ["a"] [[]] := ⟨kz _ _ hb5.hx, kz _ _ hb5.hp⟩
      refine ⟨⟨by simp, sz (n := 2) (by decide)⟩, F_Family_init_badf (n := 2) (k := 2) (b := 10) (ds := [.str "a", .str "a"]) (by decide) (by decide) (by decide) (okVb_ok (by decide +kernel)) (by decide +kernel) ⟨"family value", by decide +kernel, ?_⟩⟩
      generalize S7.up z (.ins "Family" []) = S8 at h1 h2 h3 hx hb5
      clear kz hz
      conv => whnf
      refine ⟨sz (n := 3) (by decide), ?_⟩
      -- Family(0, "e")
      conv => whnf
      refine ⟨h3, ?_⟩
      conv => whnf
      intro z hz
      have kz := keep_up (m := .ins "Family" []) hz
      have h1 := kz _ _ h1
      have h2 := kz _ _ h2
      have h3 := kz _ _ h3
      have hx := kz _ _ hx
      have hb5 : Ben _ b p 2 ["a"] [[]] := ⟨kz _ _ hb5.hx, kz _ _ hb5.hp⟩
      refine ⟨⟨by simp, sz (n := 1) (by decide)⟩, F_Family_init_badl ⟨_, rfl⟩ (by decide +kernel) ⟨"letters value", by decide +kernel, ?_⟩⟩
      generalize S8.up z (.ins "Family" []) = S9 at h1 h2 h3 hx hb5
      clear kz hz
      conv => whnf
      refine ⟨sz (n := 4) (by decide), ?_⟩
      -- undo
      conv => whnf
      refine ⟨h3, ?_⟩
      conv => whnf
      refine ⟨b, _, rfl, hb5.hx, ?_⟩
      conv => whnf
      refine ⟨rfl, ?_⟩
      refine ⟨rfl, F_Bench_undo_r (past := []) (B := []) hb5 (fun C hC => by rw [List.mem_singleton.mp hC]; exact fam20.f) (by decide) fun S10 hb6 kp => ?_⟩
      have h1 := kp.tk _ _ h1
      have h2 := kp.tk _ _ h2
      have h3 := kp.tk _ _ h3
      clear kp hb5
      conv => whnf
      refine ⟨sz (n := 5) (by decide), ?_⟩
      -- undo again
      conv => whnf
      refine ⟨h3, ?_⟩
      conv => whnf
      refine ⟨b, _, rfl, hb6.hx, ?_⟩
      conv => whnf
      refine ⟨rfl, ?_⟩
      refine ⟨rfl, F_Bench_undo_bad hb6 ⟨"undo value", by decide +kernel, ?_⟩⟩
      conv => whnf
      refine ⟨sz (n := 6) (by decide), ?_⟩
      -- too many sets
      conv => whnf
      refine ⟨h3, ?_⟩
      conv => whnf
      refine ⟨sz (n := 1) (by decide), ?_⟩
      conv => whnf
      refine ⟨⟨by simp, by decide, by decide, by decide⟩, ?_⟩
      conv => whnf
      refine ⟨rfl, F__law_grown_bad (d := .tup (List.replicate 17 [D.str "a"]).flatten) fam20 ⟨_, rfl⟩ (fun xs e => by cases e; exact ⟨by decide, fun y hy => by rw [rep17 y hy]; exact ⟨_, rfl⟩⟩) (by decide +kernel) hb6 ⟨"set value", by decide +kernel, ?_⟩⟩
      conv => whnf
      refine ⟨sz (n := 7) (by decide), ?_⟩
      -- as many as are let
      conv => whnf
      refine ⟨h3, ?_⟩
      conv => whnf
      refine ⟨sz (n := 2) (by decide), ?_⟩
      conv => whnf
      refine ⟨⟨by simp, by decide, by decide, by decide⟩, ?_⟩
      conv => whnf
      refine ⟨rfl, F__law_grown_n (L := (List.replicate 8 [("b" : Str), "a"]).flatten) fam20 (by decide +kernel) (by decide) hb6 (by decide) fun S11 hb7 kp => ?_⟩
      rw [show sset ([] ++ (List.replicate 8 [("b" : Str), "a"]).flatten) = ([("a" : Str), "b"]) from by decide +kernel] at hb7
      have h1 := kp.tk _ _ h1
      have h2 := kp.tk _ _ h2
      have h3 := kp.tk _ _ h3
      clear kp hb6
      conv => whnf
      refine ⟨sz (n := 8) (by decide), ?_⟩
      -- due
      conv => whnf
      refine ⟨sz (n := 8) (by decide), ?_⟩
      conv => whnf
      refine ⟨sz (n := 8) (by decide), ?_⟩
      show lcT _ _ _ _ _ S11 _ _
      refine lc_m valE (fun d hd => ?_) _ _ ?_
      · have hd : d ∈ (["set", "unlike", "family", "letters", "", "undo", "set", ""] : List Str).map D.str := hd
        obtain ⟨w, hw, rfl⟩ := List.mem_map.mp hd
        have hw : w.length ≤ 20 := (show ∀ w ∈ (["set", "unlike", "family", "letters", "", "undo", "set", ""] : List Str), w.length ≤ 20 from by decide +kernel) w hw
        intro Q E hq
        conv => whnf
        refine ⟨.inl rfl, ?_⟩
        conv => whnf
        refine ite_i (fun h => ?_) (fun h => ?_)
        · have h : (!eqD (.str w) (.str "")) = true := h
          rw [eqD_str] at h
          have h : w ≠ "" := by simpa using h
          conv => whnf
          refine ⟨addV w hw, ?_⟩
          conv => whnf
          have e : valE (.str w) = .str (w ++ " value") := if_pos h
          rw [e] at hq
          exact hq
        · have h : (!eqD (.str w) (.str "")) = false := h
          rw [eqD_str] at h
          have h : w = "" := by simpa using h
          conv => whnf
          have e : valE (.str w) = .str "" := if_neg (fun z => z h)
          rw [e] at hq
          exact hq
      · conv => whnf
        refine ⟨.inr ⟨by decide +kernel, by decide +kernel⟩, ?_⟩
        conv => whnf
        refine ite_f (by decide +kernel) ?_
        conv => whnf
        refine ⟨b, _, rfl, hb7.hx, F_Bench_family_r hb7 _ _ ?_⟩
        conv => whnf
        refine ⟨sz (n := 2) (by decide), ?_⟩
        conv => whnf
        refine ⟨.inr ⟨fam_ok famAB.f, fam_ok famAB.f⟩, ?_⟩
        conv => whnf
        refine ite_f (by decide +kernel) ?_
        conv => whnf
        refine ⟨.inl rfl, ?_⟩
        conv => whnf
        refine ite_i (fun h => ?_) (fun h => ?_)
        · conv => whnf
          refine F__law_full_right_k h2 fun S12 kt => ?_
          have h1 := kt _ _ h1
          have h2 := kt _ _ h2
          have h3 := kt _ _ h3
          conv => whnf
          refine ite_f rfl ?_
          conv => whnf
          exact hn' _ _ ⟨fun k hk' => hk k (List.mem_cons_of_mem _ hk'), h1, h2, h3, _, _, _, _, _, _, _, _, _, _, rfl⟩
        · conv => whnf
          refine ite_f rfl ?_
          conv => whnf
          exact hn' _ _ ⟨fun k hk' => hk k (List.mem_cons_of_mem _ hk'), h1, h2, h3, _, _, _, _, _, _, _, _, _, _, rfl⟩
  · obtain ⟨_, _, _, _, s1, s2, s3, s4, s5, s6, s7, s8, s9, s10, rfl⟩ := hI
    conv => whnf
  · have := List.mem_range.mp hk; omega
-- only: k17
def tq17 : List (He.Defn × Str) := [(("_law_calls_of", none), "_law_calls_of.<locals>.<lambda>"), (("_law_full_right", none), "_law_full_right.<locals>.<lambda>"), (("law", none), "law.<locals>.<lambda>")]
-- only: k17
theorem data_ok0 (K : PySem.W.Frag) (ns : List Int) (hx : (tq17.map fun p => (He.cT K p.1).2).Nodup) (hl : ns.length ≤ 63) (hb : ∀ z ∈ ns, Builtin.Int.intBits z ≤ 1048576) : F_law (He.cT K ("_law_calls_of", none)).2 (He.cT K ("_law_full_right", none)).2 (He.cT K ("law", none)).2 [.frz (ns.map D.int)] (S0 K tq17) (fun d _ => d = .bl true) fun _ _ => False := by
  have nd : ((tq17.map fun p => ((He.cT K p.1).2, p.2)).map (·.1)).Nodup := by rw [List.map_map]; exact hx
  refine k17_data ?_ ?_ ?_ hl hb
  · unfold S0
    rw [lookup_of nd (p := ((He.cT K ("_law_calls_of", none)).2, qCalls)) (List.Mem.head _)]; rfl
  · unfold S0
    rw [lookup_of nd (p := ((He.cT K ("_law_full_right", none)).2, qFull)) (List.Mem.tail _ (List.Mem.head _))]; rfl
  · unfold S0
    rw [lookup_of nd (p := ((He.cT K ("law", none)).2, qLaw)) (List.Mem.tail _ (List.Mem.tail _ (List.Mem.head _)))]; rfl
end Em


set_option Elab.async false
set_option linter.all false
set_option maxRecDepth 100000
set_option maxHeartbeats 4000000
/-! the head's run asked piece by piece -/
namespace DL
open PySem PySem.Spec PyProof.Rows L2 STx OrdS PySem.Calls
abbrev obsL (as : Nat) (fa : List He.Fa) (fn : List He.DefD) (ts : List He.Tab) (tf : List He.Defn) (ex : PySem.W.Frag → Bool) (fy : List DefY) (g : Addr → Option Obj) : AlY := obsY as fa fn ts tf ex fy g
abbrev hookL (as : Nat) (fa : List He.Fa) (fn : List He.DefD) (ts : List He.Tab) (tf : List He.Defn) (ex : PySem.W.Frag → Bool) (fy : List DefY) : PySem.W.Hook := hookY as fa fn ts tf ex fy
theorem obsL_eq {as : Nat} {fa : List He.Fa} {fn : List He.DefD} {ts : List He.Tab} {tf : List He.Defn} {ex : PySem.W.Frag → Bool} {fy : List DefY} {g : Addr → Option Obj} {s : Shared} (h : ∀ a, g a = s.heap.get? a) : obsL as fa fn ts tf ex fy g = (hookL as fa fn ts tf ex fy).obs s := obsY_eq h
theorem Tells.at_ {r : PySem.W.OpenRow} {M : Nat} {α : Type} {F : PySem.W.SharedT → α} {v : α} {w : World} (h : Tells r M F v w) {os : OsState} {s : PySem.W.SharedT} (hs : HandSHeadRun.endF (HandSHeadRun.stepQ (HandSHeadRun.denQ HandSHeadRun.tabQ) r.prog w) M r.prog w os = some s) : F s = v := by
  have := h os
  rw [hs] at this
  exact Option.some.inj this
theorem lookE_all {as : Nat} {l m : List (PySem.W.Frag → Bool)} {s : PySem.W.SharedT} (h1 : lookE as (fun K => l.all fun b => b K) [] s = true) (h2 : lookE as (fun K => m.all fun b => b K) [] s = true) : lookE as (fun K => (l ++ m).all fun b => b K) [] s = true := by
  unfold lookE at *
  obtain ⟨p1, _⟩ := Bool.and_eq_true_iff.mp h1
  obtain ⟨q1, q2⟩ := Bool.and_eq_true_iff.mp h2
  show (((l ++ m).all fun b => b (KL (HandSHeadRun.getT s) as)) && He.tabsB (HandSHeadRun.getT s) [] (KL (HandSHeadRun.getT s) as)) = true
  rw [List.all_append, show (l.all fun b => b (KL (HandSHeadRun.getT s) as)) = true from p1, show (m.all fun b => b (KL (HandSHeadRun.getT s) as)) = true from q1, q2]; rfl
theorem lookE_and' {as : Nat} {e1 e2 : PySem.W.Frag → Bool} {tf : List He.Defn} {s : PySem.W.SharedT} (h1 : lookE as e1 tf s = true) (h2 : lookE as e2 [] s = true) : lookE as (fun K => e1 K && e2 K) tf s = true := by
  unfold lookE at *
  obtain ⟨p1, p2⟩ := Bool.and_eq_true_iff.mp h1
  obtain ⟨q1, _⟩ := Bool.and_eq_true_iff.mp h2
  show ((e1 (KL (HandSHeadRun.getT s) as) && e2 (KL (HandSHeadRun.getT s) as)) && He.tabsB (HandSHeadRun.getT s) tf (KL (HandSHeadRun.getT s) as)) = true
  rw [p1, q1, p2]; rfl
theorem join_obs {as : Nat} {fa : List He.Fa} {fn : List He.DefD} {tf : List He.Defn} {ex : PySem.W.Frag → Bool} {fy : List DefY} {s : PySem.W.SharedT} {w : World} (h1 : lookF as fa s = true) (h2 : lookD as fn s = valD fn) (h3 : lookE as ex tf s = true) (h4 : lookY as fy s = valYs fy) :
    obsL as fa fn [] tf ex fy (HandSHeadRun.getT s) = valY fn [] fy w := by
  unfold lookF at h1
  unfold lookD valD at h2
  unfold lookE at h3
  unfold lookY valYs at h4
  obtain ⟨p1, p2⟩ := Prod.mk.inj h2
  show obsY as fa fn [] tf ex fy (HandSHeadRun.getT s) = _
  unfold obsY valY He.obsT He.valX He.valT He.obsD He.valD
  rw [h1, p1, p2, h3, h4]; rfl
theorem run_join {r : PySem.W.OpenRow} {q : Program} {as : Nat} {fa : List He.Fa} {fn : List He.DefD} {tf : List He.Defn} {ex : PySem.W.Frag → Bool} {fy : List DefY} {M : Nat} {loose : List PySem.Str} {w : World}
    (h0 : Tells r M (fun s => HandSHeadRun.looksF r.prog (PySem.W.boot_heap w.params) s.abs) true w) (h1 : Tells r M (fun s => HandSHeadRun.seenQ q loose (importedModules r.prog.main.body) (fun s => PySem.W.xlAt q [] s && PySem.W.recOk r.toRowW.records s) s.abs) (PySem.W.openGood q loose) w)
    (h2 : ∀ (os : OsState) (s : PySem.W.SharedT), HandSHeadRun.endF (HandSHeadRun.stepQ (HandSHeadRun.denQ HandSHeadRun.tabQ) r.prog w) M r.prog w os = some s → lookF as fa s = true ∧ lookD as fn s = valD fn ∧ lookE as ex tf s = true ∧ lookY as fy s = valYs fy) :
    HandSHeadRun.RunEq r q (hookL as fa fn [] tf ex fy) (fun s => obsL as fa fn [] tf ex fy (HandSHeadRun.getT s)) M loose w := by
  intro os
  obtain ⟨s, hs, e0⟩ := Option.map_eq_some_iff.mp (h0 os)
  have e1 := h1.at_ hs
  obtain ⟨k1, k2, k3, k4⟩ := h2 os s hs
  rw [hs]
  exact congrArg some (Prod.ext e0 (Prod.ext e1 (join_obs (w := w) k1 k2 k3 k4)))
end DL

set_option Elab.async false
set_option linter.all false
set_option maxRecDepth 100000
set_option maxHeartbeats 4000000
namespace Em
open PySem PySem.Spec PyProof.Rows L2 DL OrdS PySem.Calls
abbrev hk : PySem.W.Hook := hookL as fa fn [] (tq.map (·.1)) ex fy
def ob (s : PySem.W.SharedT) : AlY := obsL as fa fn [] (tq.map (·.1)) ex fy (HandSHeadRun.getT s)
theorem ob_eq (s : PySem.W.SharedT) : ob s = hk.obs s.abs := obsL_eq (HandSHeadRun.getT_eq s)
end Em

set_option Elab.async false
set_option linter.all false
set_option maxRecDepth 100000
set_option maxHeartbeats 4000000

set_option Elab.async false
set_option linter.all false
set_option maxRecDepth 100000
set_option maxHeartbeats 4000000

set_option Elab.async false
set_option linter.all false
set_option maxRecDepth 100000
set_option maxHeartbeats 4000000

set_option Elab.async false
set_option linter.all false
set_option maxRecDepth 100000
set_option maxHeartbeats 4000000

set_option Elab.async false
set_option linter.all false
set_option maxRecDepth 100000
set_option maxHeartbeats 4000000

set_option Elab.async false
set_option linter.all false
set_option maxRecDepth 100000
set_option maxHeartbeats 4000000

set_option Elab.async false
set_option linter.all false
set_option maxRecDepth 100000
set_option maxHeartbeats 4000000

set_option Elab.async false
set_option linter.all false
set_option maxRecDepth 100000
set_option maxHeartbeats 4000000

set_option Elab.async false
set_option linter.all false
set_option maxRecDepth 100000
set_option maxHeartbeats 4000000

set_option Elab.async false
set_option linter.all false
set_option maxRecDepth 100000
set_option maxHeartbeats 4000000
namespace Em
open PySem PySem.Spec PyProof.Rows L2 DL OrdS PySem.Calls
theorem sc_is_number : FnScope ["value", "least", "most"] ["value", "least", "most"] (defScope s_is_number) := ⟨rfl, rfl, rfl, by decide +kernel, rfl, by decide +kernel, by decide +kernel⟩
theorem sc_is_good_set : FnScope ["letters", "value", "letter"] ["letters", "value"] (defScope s_is_good_set) := ⟨rfl, rfl, rfl, by decide +kernel, rfl, by decide +kernel, by decide +kernel⟩
theorem sc_is_good_family : FnScope ["letters", "value", "one", "other"] ["letters", "value"] (defScope s_is_good_family) := ⟨rfl, rfl, rfl, by decide +kernel, rfl, by decide +kernel, by decide +kernel⟩
theorem sc_need_letters : FnScope ["letters", "most"] ["letters", "most"] (defScope s_need_letters) := ⟨rfl, rfl, rfl, by decide +kernel, rfl, by decide +kernel, by decide +kernel⟩
theorem sc_need_family : FnScope ["letters", "value"] ["letters", "value"] (defScope s_need_family) := ⟨rfl, rfl, rfl, by decide +kernel, rfl, by decide +kernel, by decide +kernel⟩
theorem sc_need_set : FnScope ["letters", "value"] ["letters", "value"] (defScope s_need_set) := ⟨rfl, rfl, rfl, by decide +kernel, rfl, by decide +kernel, by decide +kernel⟩
theorem sc_joined : FnScope ["one", "other", "letter"] ["one", "other"] (defScope s_joined) := ⟨rfl, rfl, rfl, by decide +kernel, rfl, by decide +kernel, by decide +kernel⟩
theorem sc_met : FnScope ["one", "other", "letter"] ["one", "other"] (defScope s_met) := ⟨rfl, rfl, rfl, by decide +kernel, rfl, by decide +kernel, by decide +kernel⟩
theorem sc_less : FnScope ["one", "other", "letter"] ["one", "other"] (defScope s_less) := ⟨rfl, rfl, rfl, by decide +kernel, rfl, by decide +kernel, by decide +kernel⟩
theorem sc_is_in : FnScope ["one", "other"] ["one", "other"] (defScope s_is_in) := ⟨rfl, rfl, rfl, by decide +kernel, rfl, by decide +kernel, by decide +kernel⟩
theorem sc_every_set : FnScope ["letters", "found", "letter", "one"] ["letters"] (defScope s_every_set) := ⟨rfl, rfl, rfl, by decide +kernel, rfl, by decide +kernel, by decide +kernel⟩
theorem sc_joins_of : FnScope ["one", "other", "mine", "yours"] ["one", "other"] (defScope s_joins_of) := ⟨rfl, rfl, rfl, by decide +kernel, rfl, by decide +kernel, by decide +kernel⟩
theorem sc_meets_of : FnScope ["one", "other", "mine", "yours"] ["one", "other"] (defScope s_meets_of) := ⟨rfl, rfl, rfl, by decide +kernel, rfl, by decide +kernel, by decide +kernel⟩
theorem sc_differences_of : FnScope ["one", "other", "mine", "yours"] ["one", "other"] (defScope s_differences_of) := ⟨rfl, rfl, rfl, by decide +kernel, rfl, by decide +kernel, by decide +kernel⟩
theorem sc_need_letter : FnScope ["letters", "value"] ["letters", "value"] (defScope s_need_letter) := ⟨rfl, rfl, rfl, by decide +kernel, rfl, by decide +kernel, by decide +kernel⟩
theorem sc_squeezed_by : FnScope ["family", "letter", "found", "one", "rest"] ["family", "letter"] (defScope s_squeezed_by) := ⟨rfl, rfl, rfl, by decide +kernel, rfl, by decide +kernel, by decide +kernel⟩
theorem sc_picks : FnScope ["family", "one", "parts", "other", "part"] ["family", "one"] (defScope s_picks) := ⟨rfl, rfl, rfl, by decide +kernel, rfl, by decide +kernel, by decide +kernel⟩
theorem sc_word_of : FnScope ["one"] ["one"] (defScope s_word_of) := ⟨rfl, rfl, rfl, by decide +kernel, rfl, by decide +kernel, by decide +kernel⟩
theorem sc_text_of : FnScope ["letters", "family", "one"] ["letters", "family"] (defScope s_text_of) := ⟨rfl, rfl, rfl, by decide +kernel, rfl, by decide +kernel, by decide +kernel⟩
theorem sc_family_in : FnScope ["value", "words", "letters", "family", "word"] ["value"] (defScope s_family_in) := ⟨rfl, rfl, rfl, by decide +kernel, rfl, by decide +kernel, by decide +kernel⟩
theorem sc_exchanged : FnScope ["family", "lot", "one"] ["family", "lot"] (defScope s_exchanged) := ⟨rfl, rfl, rfl, by decide +kernel, rfl, by decide +kernel, by decide +kernel⟩
theorem sc_Bench_len : FnScope ["self"] ["self"] (defScope s_Bench_len) := ⟨rfl, rfl, rfl, by decide +kernel, rfl, by decide +kernel, by decide +kernel⟩
theorem sc_Family_getitem : FnScope ["self", "index"] ["self", "index"] (defScope s_Family_getitem) := ⟨rfl, rfl, rfl, by decide +kernel, rfl, by decide +kernel, by decide +kernel⟩
theorem sc_Bench_getitem : FnScope ["self", "index"] ["self", "index"] (defScope s_Bench_getitem) := ⟨rfl, rfl, rfl, by decide +kernel, rfl, by decide +kernel, by decide +kernel⟩
theorem sc__law_source : FnScope ["_law_script", "_law_k", "_law_cell"] ["_law_script", "_law_k"] (defScope s__law_source) := ⟨rfl, rfl, rfl, by decide +kernel, rfl, by decide +kernel, by decide +kernel⟩
theorem sc__law_draw : FnScope ["_law_source_here", "_law_many", "_law_found"] ["_law_source_here", "_law_many"] (defScope s__law_draw) := ⟨rfl, rfl, rfl, by decide +kernel, rfl, by decide +kernel, by decide +kernel⟩
theorem sc__law_of : FnScope ["_law_source_here", "_law_items"] ["_law_source_here", "_law_items"] (defScope s__law_of) := ⟨rfl, rfl, rfl, by decide +kernel, rfl, by decide +kernel, by decide +kernel⟩
theorem sc_Family_call : FnScope ["self", "lot"] ["self", "lot"] (defScope s_Family_call) := ⟨rfl, rfl, rfl, by decide +kernel, rfl, by decide +kernel, by decide +kernel⟩
theorem sc_Family_ixor : FnScope ["self", "lot"] ["self", "lot"] (defScope s_Family_ixor) := ⟨rfl, rfl, rfl, by decide +kernel, rfl, by decide +kernel, by decide +kernel⟩
theorem sc__law_turned : FnScope ["_law_value", "_law_other"] ["_law_value", "_law_other"] (defScope s__law_turned) := ⟨rfl, rfl, rfl, by decide +kernel, rfl, by decide +kernel, by decide +kernel⟩
theorem sc_Bench_keep : FnScope ["self", "now", "old"] ["self", "now"] (defScope s_Bench_keep) := ⟨rfl, rfl, rfl, by decide +kernel, rfl, by decide +kernel, by decide +kernel⟩
theorem sc_Bench_iadd : FnScope ["self", "sets", "one"] ["self", "sets"] (defScope s_Bench_iadd) := ⟨rfl, rfl, rfl, by decide +kernel, rfl, by decide +kernel, by decide +kernel⟩
theorem sc__law_grown : FnScope ["_law_value", "_law_other"] ["_law_value", "_law_other"] (defScope s__law_grown) := ⟨rfl, rfl, rfl, by decide +kernel, rfl, by decide +kernel, by decide +kernel⟩
theorem sc_Family_init : FnScope ["self", "letters", "sets"] ((["self", "letters"] : List Str) ++ (["sets"] : List Str)) (defScope s_Family_init) := ⟨rfl, rfl, rfl, by decide +kernel, rfl, by decide +kernel, by decide +kernel⟩
theorem sc_Family_need_like : FnScope ["self", "other"] ["self", "other"] (defScope s_Family_need_like) := ⟨rfl, rfl, rfl, by decide +kernel, rfl, by decide +kernel, by decide +kernel⟩
theorem sc_Family_or : FnScope ["self", "other", "found"] ["self", "other"] (defScope s_Family_or) := ⟨rfl, rfl, rfl, by decide +kernel, rfl, by decide +kernel, by decide +kernel⟩
theorem sc_Family_and : FnScope ["self", "other", "found"] ["self", "other"] (defScope s_Family_and) := ⟨rfl, rfl, rfl, by decide +kernel, rfl, by decide +kernel, by decide +kernel⟩
theorem sc_Family_sub : FnScope ["self", "other", "found"] ["self", "other"] (defScope s_Family_sub) := ⟨rfl, rfl, rfl, by decide +kernel, rfl, by decide +kernel, by decide +kernel⟩
theorem sc_Family_le : FnScope ["self", "other", "one"] ["self", "other"] (defScope s_Family_le) := ⟨rfl, rfl, rfl, by decide +kernel, rfl, by decide +kernel, by decide +kernel⟩
theorem sc_Family_xor : FnScope ["self", "lot", "found"] ["self", "lot"] (defScope s_Family_xor) := ⟨rfl, rfl, rfl, by decide +kernel, rfl, by decide +kernel, by decide +kernel⟩
theorem sc_Family_read : FnScope ["cls", "value", "letters", "family"] ["cls", "value"] (defScope s_Family_read) := ⟨rfl, rfl, rfl, by decide +kernel, rfl, by decide +kernel, by decide +kernel⟩
theorem sc_Bench_init : FnScope ["self", "letters"] ["self", "letters"] (defScope s_Bench_init) := ⟨rfl, rfl, rfl, by decide +kernel, rfl, by decide +kernel, by decide +kernel⟩
theorem sc_Bench_put : FnScope ["self", "lot"] ["self", "lot"] (defScope s_Bench_put) := ⟨rfl, rfl, rfl, by decide +kernel, rfl, by decide +kernel, by decide +kernel⟩
theorem sc_Bench_strike : FnScope ["self", "lot", "one"] ["self", "lot"] (defScope s_Bench_strike) := ⟨rfl, rfl, rfl, by decide +kernel, rfl, by decide +kernel, by decide +kernel⟩
theorem sc_Bench_squeeze : FnScope ["self", "letter"] ["self", "letter"] (defScope s_Bench_squeeze) := ⟨rfl, rfl, rfl, by decide +kernel, rfl, by decide +kernel, by decide +kernel⟩
theorem sc_Bench_family : FnScope ["self"] ["self"] (defScope s_Bench_family) := ⟨rfl, rfl, rfl, by decide +kernel, rfl, by decide +kernel, by decide +kernel⟩
theorem sc_Bench_undo : FnScope ["self"] ["self"] (defScope s_Bench_undo) := ⟨rfl, rfl, rfl, by decide +kernel, rfl, by decide +kernel, by decide +kernel⟩
theorem sc__law_full_right : FnScope ["_law_bench", "_law_turn", "_law_words", "_law_due", "e", "_law_word"] [] (defScope s__law_full_right) := ⟨rfl, rfl, rfl, by decide +kernel, rfl, by decide +kernel, by decide +kernel⟩
theorem sc_Family_source : FnScope ["self"] ["self"] (defScope s_Family_source) := ⟨rfl, rfl, rfl, by decide +kernel, rfl, by decide +kernel, by decide +kernel⟩
theorem sc_law : FnScope ["_law_script", "_law_k", "_law_source_here", "_law_odds", "_law_bad", "_law_value", "_law_bench", "_law_word", "_law_call", "_law_words", "_law_due"] ["_law_script"] (defScope s_law) := ⟨rfl, rfl, rfl, by decide +kernel, rfl, by decide +kernel, by decide +kernel⟩
section
variable {P : Program} {w : World} {K : PySem.W.Frag} {mg : Str → Option Value} {base : Heap} (W : HdP P "/claim/cut.py" fa fn ex fy K mg)
include W

theorem WEx : (exl.all fun b => b K) = true := (Bool.and_eq_true_iff.mp W.x).2
theorem WX : excTB "MeetError" errNs K = true := exAll (WEx W) 27 rfl
theorem WB : errTB "MeetError" errNs K = true := exAll (WEx W) 28 rfl
theorem ok_TooMany_init : ∃ fd, FnOk P w K mg base (L2N.CX P w) 1 (He.ma K (He.ga K "TooMany") "__init__") fd ["self", "limit"] (SpS (He.ga K "TooMany") "limit") ∧ L2.Binds K fd ["self", "limit"] [] :=
  mk_oks (k := 0) (file := "/claim/cut.py") (W.z 0 _ rfl rfl) (exAll (WEx W) 0 rfl) (exAll (WEx W) 1 rfl) W.file (W.noatF 0 rfl) (W.free 1 rfl) W.nosup (by kernel_rfl) rfl rfl rfl rfl (fun _ _ _ _ _ _ _ us hl => match us, hl with | [_, _], _ => rfl) (fun _ => rfl)
theorem ok_is_number : Ok P w K mg base 1 "is_number" ["value", "least", "most"] F_is_number :=
  mk_ok (m := m_is_number) (W.def_ 3 1 rfl rfl) sc_is_number (fun _ _ _ _ _ _ us hl => match us, hl with | [_, _, _], _ => rfl) (fun cdv A outer s H E b hcdv hr => (ss_one (s_ret (x_and (x_callB back_F call_isi s_isi (W.free 5 rfl) bb_isinstance (ab_cons (XE.bor (x_var 0)) (ab_cons (XE.bor (x_ty (W.free 4 rfl) bb_int)) ab_nil))) (x_and (x_not (x_callB back_F call_isi s_isi (W.free 5 rfl) bb_isinstance (ab_cons (XE.bor (x_var 0)) (ab_cons (XE.bor (x_ty (W.free 6 rfl) bb_bool)) ab_nil)))) (x_one (x_lele (XE.bor (x_var 1)) (XE.bor (x_var 0)) (XE.bor (x_var 2))))))))) (fun ds S Qd Ed hl h => by rw [F_is_number_eq] at h; exact h)
theorem ok_is_good_set : Ok P w K mg base 1 "is_good_set" ["letters", "value"] F_is_good_set :=
  mk_ok (m := m_is_good_set) (W.def_ 7 2 rfl rfl) sc_is_good_set (fun _ _ _ _ _ _ us hl => match us, hl with | [_, _], _ => rfl) (fun cdv A outer s H E b hcdv hr => (ss_cons (s_if (t_not (t_val (XE.bor (x_callB back_F call_isi s_isi (W.free 5 rfl) bb_isinstance (ab_cons (XE.bor (x_var 1)) (ab_cons (XE.bor (x_ty (W.free 8 rfl) bb_str)) ab_nil)))))) (ss_one (s_ret x_bl)) ss_nil) (ss_one (s_ret (x_eq hr (XE.bor (x_var 1)) (XE.bor (x_join (XE.bor x_str) (XN.bor (x_lc [("letter", 2)] rfl sc_is_good_set.nd (i_str (XE.bor (x_slice (XE.bor (x_gstr' (W.str 9 rfl))) o_non (o_som (XE.bor (x_var 0)))))) (by kernel_rfl) (tg_name 2) (by decide) (fun _ _ _ _ _ => (pg_name sc_is_good_set.nd (i := 2) rfl (by first | exact .inl rfl | exact .inr rfl))) (fun _ _ _ _ _ => (ts_one (t_in hr (XE.bor (x_var 2)) (XE.bor (x_var 1))))) (fun _ _ _ _ _ => (x_var 2))))))))))) (fun ds S Qd Ed hl h => by rw [F_is_good_set_eq] at h; exact h)
theorem ok_is_good_family : Ok P w K mg base 2 "is_good_family" ["letters", "value"] F_is_good_family :=
  mk_ok (m := m_is_good_family) (W.def_ 10 3 rfl rfl) sc_is_good_family (fun _ _ _ _ _ _ us hl => match us, hl with | [_, _], _ => rfl) (fun cdv A outer s H E b hcdv hr => (ss_cons (s_if (XW.t (w_or (t_not (t_val (XE.bor (x_callB back_F call_isi s_isi (W.free 5 rfl) bb_isinstance (ab_cons (XE.bor (x_var 1)) (ab_cons (XE.bor (x_ty (W.free 11 rfl) bb_tuple)) ab_nil)))))) (w_or1 (t_not (t_val (XE.bor (x_callB back_F (cr_all rfl) s_all (W.free 12 rfl) bb_all (ab_cons (XN.bor (x_lc [("one", 2)] rfl sc_is_good_family.nd (i_tup (x_var 1)) (by kernel_rfl) (tg_name 2) (by decide) (fun _ _ _ _ _ => (pg_name sc_is_good_family.nd (i := 2) rfl (by first | exact .inl rfl | exact .inr rfl))) (fun _ _ _ _ _ => ts_nil) (fun _ _ _ _ _ => (x_fn (ok_is_good_set W) hr (by decide) passLN (a_cons (x_var 0) (a_cons (x_var 2) a_nil)))))) ab_nil)))))))) (ss_one (s_ret x_bl)) ss_nil) (ss_one (s_ret (x_callB back_F (cr_all rfl) s_all (W.free 12 rfl) bb_all (ab_cons (XN.bor (x_lc [("one", 2), ("other", 3)] rfl sc_is_good_family.nd (i_zip (W.free 13 rfl) (a_cons (x_var 1) (a_cons (x_slice (XE.bor (x_var 1)) (o_som (XE.bor x_int)) o_non) a_nil))) (by kernel_rfl) (tg_two 2 3) (by decide) (fun _ _ _ _ _ => (pg_tup rfl (pgs_cons (pg_name sc_is_good_family.nd (i := 2) rfl (by first | exact .inl rfl | exact .inr rfl)) (pgs_cons (pg_name sc_is_good_family.nd (i := 3) rfl (by first | exact .inl rfl | exact .inr rfl)) pgs_nil)))) (fun _ _ _ _ _ => ts_nil) (fun _ _ _ _ _ => (x_lt (XE.bor (x_var 2)) (XE.bor (x_var 3)))))) ab_nil)))))) (fun ds S Qd Ed hl h => by rw [F_is_good_family_eq] at h; exact h)
theorem ok_need_letters : Ok P w K mg base 2 "need_letters" ["letters", "most"] F_need_letters :=
  mk_ok (m := m_need_letters) (W.def_ 14 4 rfl rfl) sc_need_letters (fun _ _ _ _ _ _ us hl => match us, hl with | [_, _], _ => rfl) (fun cdv A outer s H E b hcdv hr => (ss_one (s_if (t_not (t_val (XE.bor (x_fn (ok_is_number W) hr (by decide) passB (a_cons (x_var 0) (a_cons x_int (a_cons (x_var 1) a_nil))))))) (ss_one (s_raise rfl takeB (W.exc 15 16 rfl rfl))) ss_nil))) (fun ds S Qd Ed hl h => by rw [F_need_letters_eq] at h; exact h)
theorem ok_need_family : Ok P w K mg base 3 "need_family" ["letters", "value"] F_need_family :=
  mk_ok (m := m_need_family) (W.def_ 17 5 rfl rfl) sc_need_family (fun _ _ _ _ _ _ us hl => match us, hl with | [_, _], _ => rfl) (fun cdv A outer s H E b hcdv hr => (ss_one (s_if (t_not (t_val (XE.bor (x_fn (ok_is_good_family W) hr (by decide) passB (a_cons (x_var 0) (a_cons (x_var 1) a_nil)))))) (ss_one (s_raise rfl takeB (W.exc 18 19 rfl rfl))) ss_nil))) (fun ds S Qd Ed hl h => by rw [F_need_family_eq] at h; exact h)
theorem ok_need_set : Ok P w K mg base 2 "need_set" ["letters", "value"] F_need_set :=
  mk_ok (m := m_need_set) (W.def_ 20 6 rfl rfl) sc_need_set (fun _ _ _ _ _ _ us hl => match us, hl with | [_, _], _ => rfl) (fun cdv A outer s H E b hcdv hr => (ss_one (s_if (t_not (t_val (XE.bor (x_fn (ok_is_good_set W) hr (by decide) passB (a_cons (x_var 0) (a_cons (x_var 1) a_nil)))))) (ss_one (s_raise rfl takeB (W.exc 21 22 rfl rfl))) ss_nil))) (fun ds S Qd Ed hl h => by rw [F_need_set_eq] at h; exact h)
theorem ok_joined : Ok P w K mg base 1 "joined" ["one", "other"] F_joined :=
  mk_ok (m := m_joined) (W.def_ 23 7 rfl rfl) sc_joined (fun _ _ _ _ _ _ us hl => match us, hl with | [_, _], _ => rfl) (fun cdv A outer s H E b hcdv hr => (ss_one (s_ret (x_join (XE.bor x_str) (XN.bor (x_lc [("letter", 2)] rfl sc_joined.nd (i_str (XE.bor (x_gstr' (W.str 9 rfl)))) (by kernel_rfl) (tg_name 2) (by decide) (fun _ _ _ _ _ => (pg_name sc_joined.nd (i := 2) rfl (by first | exact .inl rfl | exact .inr rfl))) (fun _ _ _ _ _ => (ts_one (XW.t (w_or (t_in hr (XE.bor (x_var 2)) (XE.bor (x_var 0))) (w_or1 (t_in hr (XE.bor (x_var 2)) (XE.bor (x_var 1)))))))) (fun _ _ _ _ _ => (x_var 2)))))))) (fun ds S Qd Ed hl h => by rw [F_joined_eq] at h; exact h)
theorem ok_met : Ok P w K mg base 1 "met" ["one", "other"] F_met :=
  mk_ok (m := m_met) (W.def_ 24 8 rfl rfl) sc_met (fun _ _ _ _ _ _ us hl => match us, hl with | [_, _], _ => rfl) (fun cdv A outer s H E b hcdv hr => (ss_one (s_ret (x_join (XE.bor x_str) (XN.bor (x_lc [("letter", 2)] rfl sc_met.nd (i_str (XE.bor (x_var 0))) (by kernel_rfl) (tg_name 2) (by decide) (fun _ _ _ _ _ => (pg_name sc_met.nd (i := 2) rfl (by first | exact .inl rfl | exact .inr rfl))) (fun _ _ _ _ _ => (ts_one (t_in hr (XE.bor (x_var 2)) (XE.bor (x_var 1))))) (fun _ _ _ _ _ => (x_var 2)))))))) (fun ds S Qd Ed hl h => by rw [F_met_eq] at h; exact h)
theorem ok_less : Ok P w K mg base 1 "less" ["one", "other"] F_less :=
  mk_ok (m := m_less) (W.def_ 25 9 rfl rfl) sc_less (fun _ _ _ _ _ _ us hl => match us, hl with | [_, _], _ => rfl) (fun cdv A outer s H E b hcdv hr => (ss_one (s_ret (x_join (XE.bor x_str) (XN.bor (x_lc [("letter", 2)] rfl sc_less.nd (i_str (XE.bor (x_var 0))) (by kernel_rfl) (tg_name 2) (by decide) (fun _ _ _ _ _ => (pg_name sc_less.nd (i := 2) rfl (by first | exact .inl rfl | exact .inr rfl))) (fun _ _ _ _ _ => (ts_one (t_nin hr (XE.bor (x_var 2)) (XE.bor (x_var 1))))) (fun _ _ _ _ _ => (x_var 2)))))))) (fun ds S Qd Ed hl h => by rw [F_less_eq] at h; exact h)
theorem ok_is_in : Ok P w K mg base 2 "is_in" ["one", "other"] F_is_in :=
  mk_ok (m := m_is_in) (W.def_ 26 10 rfl rfl) sc_is_in (fun _ _ _ _ _ _ us hl => match us, hl with | [_, _], _ => rfl) (fun cdv A outer s H E b hcdv hr => (ss_one (s_ret (x_eq hr (XE.bor (x_fn (ok_less W) hr (by decide) passB (a_cons (x_var 0) (a_cons (x_var 1) a_nil)))) (XE.bor x_str))))) (fun ds S Qd Ed hl h => by rw [F_is_in_eq] at h; exact h)
theorem ok_every_set : Ok P w K mg base 1 "every_set" ["letters"] F_every_set :=
  mk_ok (m := m_every_set) (W.def_ 27 11 rfl rfl) sc_every_set (fun _ _ _ _ _ _ us hl => match us, hl with | [_], _ => rfl) (fun cdv A outer s H E b hcdv hr => (ss_cons (s_set 1 sc_every_set.nd (XN.stay (x_lst (a_cons x_str a_nil)))) (ss_cons (s_for ownB rfl (i_str (XE.bor (x_slice (XE.bor (x_gstr' (W.str 9 rfl))) o_non (o_som (XE.bor (x_var 0)))))) (pg_name sc_every_set.nd (i := 2) rfl (by first | exact .inl rfl | exact .inr rfl)) (tg_name 2) (ss_one (s_set 1 sc_every_set.nd (XN.stay (x_cat (XE.bor (x_var 1)) (XN.bor (x_lc [("one", 3)] rfl sc_every_set.nd (i_lst (x_var 1)) (by kernel_rfl) (tg_name 3) (by decide) (fun _ _ _ _ _ => (pg_name sc_every_set.nd (i := 3) rfl (by first | exact .inl rfl | exact .inr rfl))) (fun _ _ _ _ _ => ts_nil) (fun _ _ _ _ _ => (x_add (XE.bor (x_var 3)) (XE.bor (x_var 2))))))))))) (ss_one (s_ret (x_callTy back_F call_tuple_of s_tuple (W.free 11 rfl) bb_tuple (ab_cons (XN.bor (x_callB back_N cr_sortedS s_sorted (W.free 28 rfl) bb_sorted (ab_cons (XE.bor (x_var 1)) ab_nil))) ab_nil))))))) (fun ds S Qd Ed hl h => by rw [F_every_set_eq] at h; exact h)
theorem ok_joins_of : Ok P w K mg base 2 "joins_of" ["one", "other"] F_joins_of :=
  mk_ok (m := m_joins_of) (W.def_ 29 12 rfl rfl) sc_joins_of (fun _ _ _ _ _ _ us hl => match us, hl with | [_, _], _ => rfl) (fun cdv A outer s H E b hcdv hr => (ss_one (s_ret (x_callTy back_F call_tuple_of s_tuple (W.free 11 rfl) bb_tuple (ab_cons (XN.bor (x_sset rfl (W.free 28 rfl) (W.free 30 rfl) (XN.bor (x_lc2 [("mine", 2), ("yours", 3)] (vs1 := [3]) rfl sc_joins_of.nd (i_tup (x_var 0)) (by kernel_rfl) (tg_name 2) (by decide) (by decide) (tg_name 3) (by decide) (fun _ _ _ _ _ => (pg_name sc_joins_of.nd (i := 2) rfl (by first | exact .inl rfl | exact .inr rfl))) (fun _ _ _ _ _ => ts_nil) (fun _ _ _ _ _ => (i_tup (x_var 1))) (fun _ _ _ _ _ => (pg_name sc_joins_of.nd (i := 3) rfl (by first | exact .inl rfl | exact .inr rfl))) (fun _ _ _ _ _ => ts_nil) (fun _ _ _ _ _ => (x_fn (ok_joined W) hr (by decide) passLN (a_cons (x_var 2) (a_cons (x_var 3) a_nil)))))))) ab_nil))))) (fun ds S Qd Ed hl h => by rw [F_joins_of_eq] at h; exact h)
theorem ok_meets_of : Ok P w K mg base 2 "meets_of" ["one", "other"] F_meets_of :=
  mk_ok (m := m_meets_of) (W.def_ 31 13 rfl rfl) sc_meets_of (fun _ _ _ _ _ _ us hl => match us, hl with | [_, _], _ => rfl) (fun cdv A outer s H E b hcdv hr => (ss_one (s_ret (x_callTy back_F call_tuple_of s_tuple (W.free 11 rfl) bb_tuple (ab_cons (XN.bor (x_sset rfl (W.free 28 rfl) (W.free 30 rfl) (XN.bor (x_lc2 [("mine", 2), ("yours", 3)] (vs1 := [3]) rfl sc_meets_of.nd (i_tup (x_var 0)) (by kernel_rfl) (tg_name 2) (by decide) (by decide) (tg_name 3) (by decide) (fun _ _ _ _ _ => (pg_name sc_meets_of.nd (i := 2) rfl (by first | exact .inl rfl | exact .inr rfl))) (fun _ _ _ _ _ => ts_nil) (fun _ _ _ _ _ => (i_tup (x_var 1))) (fun _ _ _ _ _ => (pg_name sc_meets_of.nd (i := 3) rfl (by first | exact .inl rfl | exact .inr rfl))) (fun _ _ _ _ _ => ts_nil) (fun _ _ _ _ _ => (x_fn (ok_met W) hr (by decide) passLN (a_cons (x_var 2) (a_cons (x_var 3) a_nil)))))))) ab_nil))))) (fun ds S Qd Ed hl h => by rw [F_meets_of_eq] at h; exact h)
theorem ok_differences_of : Ok P w K mg base 2 "differences_of" ["one", "other"] F_differences_of :=
  mk_ok (m := m_differences_of) (W.def_ 32 14 rfl rfl) sc_differences_of (fun _ _ _ _ _ _ us hl => match us, hl with | [_, _], _ => rfl) (fun cdv A outer s H E b hcdv hr => (ss_one (s_ret (x_callTy back_F call_tuple_of s_tuple (W.free 11 rfl) bb_tuple (ab_cons (XN.bor (x_sset rfl (W.free 28 rfl) (W.free 30 rfl) (XN.bor (x_lc2 [("mine", 2), ("yours", 3)] (vs1 := [3]) rfl sc_differences_of.nd (i_tup (x_var 0)) (by kernel_rfl) (tg_name 2) (by decide) (by decide) (tg_name 3) (by decide) (fun _ _ _ _ _ => (pg_name sc_differences_of.nd (i := 2) rfl (by first | exact .inl rfl | exact .inr rfl))) (fun _ _ _ _ _ => ts_nil) (fun _ _ _ _ _ => (i_tup (x_var 1))) (fun _ _ _ _ _ => (pg_name sc_differences_of.nd (i := 3) rfl (by first | exact .inl rfl | exact .inr rfl))) (fun _ _ _ _ _ => ts_nil) (fun _ _ _ _ _ => (x_fn (ok_less W) hr (by decide) passLN (a_cons (x_var 2) (a_cons (x_var 3) a_nil)))))))) ab_nil))))) (fun ds S Qd Ed hl h => by rw [F_differences_of_eq] at h; exact h)
theorem ok_need_letter : Ok P w K mg base 1 "need_letter" ["letters", "value"] F_need_letter :=
  mk_ok (m := m_need_letter) (W.def_ 35 16 rfl rfl) sc_need_letter (fun _ _ _ _ _ _ us hl => match us, hl with | [_, _], _ => rfl) (fun cdv A outer s H E b hcdv hr => (ss_one (s_if (XW.t (w_or (t_not (t_val (XE.bor (x_callB back_F call_isi s_isi (W.free 5 rfl) bb_isinstance (ab_cons (XE.bor (x_var 1)) (ab_cons (XE.bor (x_ty (W.free 8 rfl) bb_str)) ab_nil)))))) (w_or (t_ne hr (XE.bor (x_callB back_F call_len s_len (W.free 36 rfl) bb_len (ab_cons (XE.bor (x_var 1)) ab_nil))) (XE.bor x_int)) (w_or1 (t_nin hr (XE.bor (x_var 1)) (XE.bor (x_slice (XE.bor (x_gstr' (W.str 9 rfl))) o_non (o_som (XE.bor (x_var 0)))))))))) (ss_one (s_raise rfl takeB (W.exc 37 38 rfl rfl))) ss_nil))) (fun ds S Qd Ed hl h => by rw [F_need_letter_eq] at h; exact h)
theorem ok_squeezed_by : Ok P w K mg base 2 "squeezed_by" ["family", "letter"] F_squeezed_by :=
  mk_ok (m := m_squeezed_by) (W.def_ 39 17 rfl rfl) sc_squeezed_by (fun _ _ _ _ _ _ us hl => match us, hl with | [_, _], _ => rfl) (fun cdv A outer s H E b hcdv hr => (ss_cons (s_setN 2 sc_squeezed_by.nd (x_lst a_nil)) (ss_cons (s_for ownB rfl (i_tup (x_var 0)) (pg_name sc_squeezed_by.nd (i := 3) rfl (by first | exact .inl rfl | exact .inr rfl)) (tg_name 3) (ss_cons (s_set 4 sc_squeezed_by.nd (x_fn (ok_less W) hr (by decide) passB (a_cons (x_var 3) (a_cons (x_var 1) a_nil)))) (ss_one (s_app 2 (pv 2) (x_ife (t_in hr (XE.bor (x_var 4)) (XE.bor (x_var 0))) (x_var 3) (x_var 4)))))) (ss_one (s_ret (x_callTy back_F call_tuple_of s_tuple (W.free 11 rfl) bb_tuple (ab_cons (XN.bor (x_callB back_N cr_sortedS s_sorted (W.free 28 rfl) bb_sorted (ab_cons (x_varB 2) ab_nil))) ab_nil))))))) (fun ds S Qd Ed hl h => by rw [F_squeezed_by_eq] at h; exact h)
theorem ok_picks : Ok P w K mg base 3 "picks" ["family", "one"] F_picks :=
  mk_ok (m := m_picks) (W.def_ 40 18 rfl rfl) sc_picks (fun _ _ _ _ _ _ us hl => match us, hl with | [_, _], _ => rfl) (fun cdv A outer s H E b hcdv hr => (ss_cons (s_set 2 sc_picks.nd (XN.stay (x_lc [("other", 3)] rfl sc_picks.nd (i_tup (x_var 0)) (by kernel_rfl) (tg_name 3) (by decide) (fun _ _ _ _ _ => (pg_name sc_picks.nd (i := 3) rfl (by first | exact .inl rfl | exact .inr rfl))) (fun _ _ _ _ _ => ts_nil) (fun _ _ _ _ _ => (x_fn (ok_met W) hr (by decide) passLN (a_cons (x_var 1) (a_cons (x_var 3) a_nil))))))) (ss_one (s_ret (x_callB back_F (cr_all rfl) s_all (W.free 12 rfl) bb_all (ab_cons (XN.bor (x_lc [("part", 4)] rfl sc_picks.nd (i_tup (x_fn (ok_every_set W) hr (by decide) passB (a_cons x_int a_nil))) (by kernel_rfl) (tg_name 4) (by decide) (fun _ _ _ _ _ => (pg_name sc_picks.nd (i := 4) rfl (by first | exact .inl rfl | exact .inr rfl))) (fun _ _ _ _ _ => (ts_one (t_val (XE.bor (x_fn (ok_is_in W) hr (by decide) passLN (a_cons (x_var 4) (a_cons (x_var 1) a_nil))))))) (fun _ _ _ _ _ => (x_in hr (XE.bor (x_var 4)) (XE.bor (x_var 2)))))) ab_nil)))))) (fun ds S Qd Ed hl h => by rw [F_picks_eq] at h; exact h)
theorem ok_word_of : Ok P w K mg base 1 "word_of" ["one"] F_word_of :=
  mk_ok (m := m_word_of) (W.def_ 41 19 rfl rfl) sc_word_of (fun _ _ _ _ _ _ us hl => match us, hl with | [_], _ => rfl) (fun cdv A outer s H E b hcdv hr => (ss_one (s_ret (x_ife (t_ne hr (XE.bor (x_var 0)) (XE.bor x_str)) (x_var 0) x_str)))) (fun ds S Qd Ed hl h => by rw [F_word_of_eq] at h; exact h)
theorem ok_text_of : Ok P w K mg base 2 "text_of" ["letters", "family"] F_text_of :=
  mk_ok (m := m_text_of) (W.def_ 42 20 rfl rfl) sc_text_of (fun _ _ _ _ _ _ us hl => match us, hl with | [_, _], _ => rfl) (fun cdv A outer s H E b hcdv hr => (ss_one (s_ret (x_join (XE.bor x_str) (XN.bor (x_cat (XN.bor (x_lst (a_cons (x_callTy back_F call_str_int s_strI (W.free 8 rfl) bb_str (ab_cons (XE.bor (x_var 0)) ab_nil)) a_nil))) (XN.bor (x_lc [("one", 2)] rfl sc_text_of.nd (i_tup (x_var 1)) (by kernel_rfl) (tg_name 2) (by decide) (fun _ _ _ _ _ => (pg_name sc_text_of.nd (i := 2) rfl (by first | exact .inl rfl | exact .inr rfl))) (fun _ _ _ _ _ => ts_nil) (fun _ _ _ _ _ => (x_fn (ok_word_of W) hr (by decide) passLN (a_cons (x_var 2) a_nil))))))))))) (fun ds S Qd Ed hl h => by rw [F_text_of_eq] at h; exact h)
theorem ok_family_in : Ok P w K mg base 3 "family_in" ["value"] F_family_in :=
  mk_ok (m := m_family_in) (W.def_ 43 21 rfl rfl) sc_family_in (fun _ _ _ _ _ _ us hl => match us, hl with | [_], _ => rfl) (fun cdv A outer s H E b hcdv hr => (ss_cons (s_if (t_not (t_val (XE.bor (x_callB back_F call_isi s_isi (W.free 5 rfl) bb_isinstance (ab_cons (XE.bor (x_var 0)) (ab_cons (XE.bor (x_ty (W.free 8 rfl) bb_str)) ab_nil)))))) (ss_one (s_raise rfl takeB (W.exc 44 45 rfl rfl))) ss_nil) (ss_cons (s_set 1 sc_family_in.nd (XN.stay (x_split (x_var 0) x_str))) (ss_cons (s_if (t_nin hr (XE.bor (x_ix (XE.bor (x_var 1)) (XE.bor x_int))) (XE.bor (x_tup (a_cons x_str (a_cons x_str (a_cons x_str (a_cons x_str a_nil))))))) (ss_one (s_raise rfl takeB (W.exc 44 45 rfl rfl))) ss_nil) (ss_cons (s_set 2 sc_family_in.nd (x_callTy back_F (call_int1.or call_int_str) s_int1 (W.free 4 rfl) bb_int (ab_cons (XE.bor (x_ix (XE.bor (x_var 1)) (XE.bor x_int))) ab_nil))) (ss_cons (s_set 3 sc_family_in.nd (x_callTy back_F call_tuple_of s_tuple (W.free 11 rfl) bb_tuple (ab_cons (XN.bor (x_lc [("word", 4)] rfl sc_family_in.nd (i_lst (x_slice (XE.bor (x_var 1)) (o_som (XE.bor x_int)) o_non)) (by kernel_rfl) (tg_name 4) (by decide) (fun _ _ _ _ _ => (pg_name sc_family_in.nd (i := 4) rfl (by first | exact .inl rfl | exact .inr rfl))) (fun _ _ _ _ _ => ts_nil) (fun _ _ _ _ _ => (x_ife (t_ne hr (XE.bor (x_var 4)) (XE.bor x_str)) (x_var 4) x_str)))) ab_nil))) (ss_cons (s_if (XW.t (w_or (t_not (t_val (XE.bor (x_fn (ok_is_good_family W) hr (by decide) passB (a_cons (x_var 2) (a_cons (x_var 3) a_nil)))))) (w_or1 (t_ne hr (XE.bor (x_fn (ok_text_of W) hr (by decide) passB (a_cons (x_var 2) (a_cons (x_var 3) a_nil)))) (XE.bor (x_var 0)))))) (ss_one (s_raise rfl takeB (W.exc 44 45 rfl rfl))) ss_nil) (ss_one (s_ret (x_tup (a_cons (x_var 2) (a_cons (x_var 3) a_nil)))))))))))) (fun ds S Qd Ed hl h => by rw [F_family_in_eq] at h; exact h)
theorem ok_exchanged : Ok P w K mg base 1 "exchanged" ["family", "lot"] F_exchanged :=
  mk_ok (m := m_exchanged) (W.def_ 46 22 rfl rfl) sc_exchanged (fun _ _ _ _ _ _ us hl => match us, hl with | [_, _], _ => rfl) (fun cdv A outer s H E b hcdv hr => (ss_cons (s_if (t_in hr (XE.bor (x_var 1)) (XE.bor (x_var 0))) (ss_one (s_ret (x_callTy back_F call_tuple_of s_tuple (W.free 11 rfl) bb_tuple (ab_cons (XN.bor (x_lc [("one", 2)] rfl sc_exchanged.nd (i_tup (x_var 0)) (by kernel_rfl) (tg_name 2) (by decide) (fun _ _ _ _ _ => (pg_name sc_exchanged.nd (i := 2) rfl (by first | exact .inl rfl | exact .inr rfl))) (fun _ _ _ _ _ => (ts_one (t_ne hr (XE.bor (x_var 2)) (XE.bor (x_var 1))))) (fun _ _ _ _ _ => (x_var 2)))) ab_nil)))) ss_nil) (ss_one (s_ret (x_callTy back_F call_tuple_of s_tuple (W.free 11 rfl) bb_tuple (ab_cons (XN.bor (x_callB back_N cr_sortedTup s_sortedT (W.free 28 rfl) bb_sorted (ab_cons (XE.bor (x_add (XE.bor (x_var 0)) (XE.bor (x_tup (a_cons (x_var 1) a_nil))))) ab_nil))) ab_nil)))))) (fun ds S Qd Ed hl h => by rw [F_exchanged_eq] at h; exact h)
theorem okn_Bench_len : ∃ fd, FnOk P w K mg base (L2N.CX P w) 1 (He.ma K (He.ga K "Bench") "__len__") fd ["self"] (SpT K (["self"] : List Str).length F_Bench_len) ∧ L2.Binds K fd ["self"] [] :=
  mk_okn (m := m_Bench_len) (W.c.def_ 24 rfl) sc_Bench_len (fun _ _ _ _ _ _ us hl => match us, hl with | [_], _ => rfl) (fun cdv A outer s H E b hr => (ss_one (s_ret (x_callB back_F call_len s_lenM (W.free 36 rfl) bb_len (ab_cons (XE.bor (x_fld (W.clsF 49 rfl) (W.noatF 50 rfl) (x_var 0))) ab_nil))))) (fun ds S Qd Ed hl h => by rw [F_Bench_len_eq] at h; exact h)
theorem ok_Bench_len : OkM P w K mg base 1 (He.ma K (He.ga K "Bench") "__len__") (needN 1 F_Bench_len) := okm_of (okn_Bench_len W)
theorem okn_Family_getitem : ∃ fd, FnOk P w K mg base (L2N.CX P w) 2 (He.ma K (He.ga K "Family") "__getitem__") fd ["self", "index"] (SpT K (["self", "index"] : List Str).length F_Family_getitem) ∧ L2.Binds K fd ["self", "index"] [] :=
  mk_okn (m := m_Family_getitem) (W.c.def_ 25 rfl) sc_Family_getitem (fun _ _ _ _ _ _ us hl => match us, hl with | [_, _], _ => rfl) (fun cdv A outer s H E b hr => (ss_cons (s_if (t_not (t_val (XE.bor (x_fn (ok_is_number W) hr (by decide) passB (a_cons (x_var 1) (a_cons x_int (a_cons (x_sub (XE.bor (x_callB back_F call_len s_len (W.free 36 rfl) bb_len (ab_cons (XE.bor (x_ix (XE.bor (x_fld (W.clsF 47 rfl) (W.noatF 48 rfl) (x_var 0))) (XE.bor x_int))) ab_nil))) (XE.bor x_int)) a_nil))))))) (ss_one (s_raise rfl takeB (W.exc 51 52 rfl rfl))) ss_nil) (ss_one (s_ret (x_ix (XE.bor (x_ix (XE.bor (x_fld (W.clsF 47 rfl) (W.noatF 48 rfl) (x_var 0))) (XE.bor x_int))) (XE.bor (x_var 1))))))) (fun ds S Qd Ed hl h => by rw [F_Family_getitem_eq] at h; exact h)
theorem ok_Family_getitem : OkM P w K mg base 2 (He.ma K (He.ga K "Family") "__getitem__") (needN 2 F_Family_getitem) := okm_of (okn_Family_getitem W)
theorem okn_Bench_getitem : ∃ fd, FnOk P w K mg base (L2N.CX P w) 2 (He.ma K (He.ga K "Bench") "__getitem__") fd ["self", "index"] (SpT K (["self", "index"] : List Str).length F_Bench_getitem) ∧ L2.Binds K fd ["self", "index"] [] :=
  mk_okn (m := m_Bench_getitem) (W.c.def_ 26 rfl) sc_Bench_getitem (fun _ _ _ _ _ _ us hl => match us, hl with | [_, _], _ => rfl) (fun cdv A outer s H E b hr => (ss_cons (s_if (t_not (t_val (XE.bor (x_fn (ok_is_number W) hr (by decide) passB (a_cons (x_var 1) (a_cons x_int (a_cons (x_sub (XE.bor (x_callB back_F call_len s_len (W.free 36 rfl) bb_len (ab_cons (XE.bor (x_fld (W.clsF 49 rfl) (W.noatF 53 rfl) (x_var 0))) ab_nil))) (XE.bor x_int)) a_nil))))))) (ss_one (s_raise rfl takeB (W.exc 51 52 rfl rfl))) ss_nil) (ss_one (s_ret (x_ix (XE.bor (x_fld (W.clsF 49 rfl) (W.noatF 53 rfl) (x_var 0))) (XE.bor (x_var 1))))))) (fun ds S Qd Ed hl h => by rw [F_Bench_getitem_eq] at h; exact h)
theorem ok_Bench_getitem : OkM P w K mg base 2 (He.ma K (He.ga K "Bench") "__getitem__") (needN 2 F_Bench_getitem) := okm_of (okn_Bench_getitem W)
theorem ok__law_source : Ok P w K mg base 6 "_law_source" ["_law_script", "_law_k"] F__law_source :=
  mk_ok (m := m__law_source) (W.def_ 54 27 rfl rfl) sc__law_source (fun _ _ _ _ _ _ us hl => match us, hl with | [_, _], _ => rfl) (fun cdv A outer s H E b hcdv hr => (ss_cons (s_set 2 sc__law_source.nd x_int) (ss_cons (s_if (t_lt (XE.bor (x_var 1)) (XE.bor (x_callB back_F call_len s_len (W.free 36 rfl) bb_len (ab_cons (XE.bor (x_var 0)) ab_nil)))) (ss_one (s_set 2 sc__law_source.nd (x_callB back_F call_abs s_abs (W.free 55 rfl) bb_abs (ab_cons (XE.bor (x_callTy back_F (call_int1.or call_int_str) s_int1 (W.free 4 rfl) bb_int (ab_cons (XE.bor (x_ix (XE.bor (x_var 0)) (XE.bor (x_var 1)))) ab_nil))) ab_nil)))) ss_nil) (ss_cons (s_if (t_lt (XE.bor (x_var 2)) (XE.bor (x_pow (XE.bor x_int) (XE.bor x_int)))) (ss_one (s_retSrc (x_lst (a_cons x_int (a_cons (x_add (XE.bor x_int) (XE.bor (x_mod (XE.bor (x_callTy back_F (call_int1.or call_int_str) s_int1 (W.free 4 rfl) bb_int (ab_cons (XE.bor (x_add (XE.bor (x_mul (XE.bor (x_var 2)) (XE.bor x_int))) (XE.bor (x_mul (XE.bor x_int) (XE.bor (x_var 1)))))) ab_nil))) (XE.bor x_int)))) a_nil))))) ss_nil) (ss_one (s_retSrc (x_lst (a_cons (x_var 2) (a_cons (x_add (XE.bor x_int) (XE.bor (x_mod (XE.bor (x_callTy back_F (call_int1.or call_int_str) s_int1 (W.free 4 rfl) bb_int (ab_cons (XE.bor (x_add (XE.bor (x_var 2)) (XE.bor (x_var 1)))) ab_nil))) (XE.bor x_int)))) a_nil))))))))) (fun ds S Qd Ed hl h => by rw [F__law_source_eq] at h; exact h)
theorem ok__law_draw : Ok P w K mg base 6 "_law_draw" ["_law_source_here", "_law_many"] F__law_draw :=
  mk_ok (m := m__law_draw) (W.def_ 56 28 rfl rfl) sc__law_draw (fun _ _ _ _ _ _ us hl => match us, hl with | [_, _], _ => rfl) (fun cdv A outer s H E b hcdv hr => (ss_cons (s_if (t_gt (XE.bor (x_ix (XE.bor (x_var 0)) (XE.bor x_int))) (XE.bor x_int)) (ss_cons (s_set 2 sc__law_draw.nd (x_mod (XE.bor (x_callTy back_F (call_int1.or call_int_str) s_int1 (W.free 4 rfl) bb_int (ab_cons (XE.bor (x_ix (XE.bor (x_var 0)) (XE.bor x_int))) ab_nil))) (XE.bor (x_var 1)))) (ss_cons (s_put (x_fdiv (XE.bor (x_ix (XE.bor (x_var 0)) (XE.bor x_int))) (XE.bor (x_var 1))) (x_var 0) x_int) (ss_one (s_ret (x_var 2))))) ss_nil) (ss_cons (s_put (x_mod (XE.bor (x_callTy back_F (call_int1.or call_int_str) s_int1 (W.free 4 rfl) bb_int (ab_cons (XE.bor (x_mul (XE.bor (x_ix (XE.bor (x_var 0)) (XE.bor x_int))) (XE.bor x_int))) ab_nil))) (XE.bor x_int)) (x_var 0) x_int) (ss_one (s_ret (x_mod (XE.bor (x_callTy back_F (call_int1.or call_int_str) s_int1 (W.free 4 rfl) bb_int (ab_cons (XE.bor (x_fdiv (XE.bor (x_mod (XE.bor (x_callTy back_F (call_int1.or call_int_str) s_int1 (W.free 4 rfl) bb_int (ab_cons (XE.bor (x_mul (XE.bor (x_ix (XE.bor (x_var 0)) (XE.bor x_int))) (XE.bor (x_ix (XE.bor (x_var 0)) (XE.bor x_int))))) ab_nil))) (XE.bor x_int))) (XE.bor x_int))) ab_nil))) (XE.bor (x_var 1)))))))) (fun ds S Qd Ed hl h => by rw [F__law_draw_eq] at h; exact h)
theorem ok__law_of : Ok P w K mg base 10 "_law_of" ["_law_source_here", "_law_items"] F__law_of :=
  mk_ok (m := m__law_of) (W.def_ 57 29 rfl rfl) sc__law_of (fun _ _ _ _ _ _ us hl => match us, hl with | [_, _], _ => rfl) (fun cdv A outer s H E b hcdv hr => (ss_one (s_ret (x_ix (XE.bor (x_var 1)) (XE.bor (x_fn (ok__law_draw W) hr (by decide) passB (a_cons (x_var 0) (a_cons (x_callB back_F call_len s_len (W.free 36 rfl) bb_len (ab_cons (XE.bor (x_var 1)) ab_nil)) a_nil)))))))) (fun ds S Qd Ed hl h => by rw [F__law_of_eq] at h; exact h)
theorem okn_Family_call : ∃ fd, FnOk P w K mg base (L2N.CX P w) 4 (He.ma K (He.ga K "Family") "__call__") fd ["self", "lot"] (SpT K (["self", "lot"] : List Str).length F_Family_call) ∧ L2.Binds K fd ["self", "lot"] [] :=
  mk_okn (m := m_Family_call) (W.c.def_ 30 rfl) sc_Family_call (fun _ _ _ _ _ _ us hl => match us, hl with | [_, _], _ => rfl) (fun cdv A outer s H E b hr => (ss_cons (s_drop (x_fn (ok_need_set W) hr (by decide) passB (a_cons (x_ix (XE.bor (x_fld (W.clsF 47 rfl) (W.noatF 48 rfl) (x_var 0))) (XE.bor x_int)) (a_cons (x_var 1) a_nil)))) (ss_one (s_ret (x_fn (ok_picks W) hr (by decide) passB (a_cons (x_ix (XE.bor (x_fld (W.clsF 47 rfl) (W.noatF 48 rfl) (x_var 0))) (XE.bor x_int)) (a_cons (x_var 1) a_nil))))))) (fun ds S Qd Ed hl h => by rw [F_Family_call_eq] at h; exact h)
theorem ok_Family_call : OkM P w K mg base 4 (He.ma K (He.ga K "Family") "__call__") (needN 2 F_Family_call) := okm_of (okn_Family_call W)
theorem WD__law_error : ∃ fd, WordDef K mg "_law_error" "_law_call" s__law_error ["_law_call", "_law_found", "e", "_law_some", "_law_labels", "_law_every", "_law_label", "_law_truth"] fd := W.word 58 31 rfl rfl (fun _ _ _ _ _ _ us hl => match us, hl with | [_], _ => rfl) sc__law_error rfl (.inl rfl) (by decide) (by decide)
theorem glE : ∀ n ∈ (("MeetError" : Str) :: errNs), mg n = some (.ref (He.ga K n)) := by
  intro n hn
  simp only [errNs, List.mem_cons, List.not_mem_nil, or_false] at hn
  rcases hn with rfl | rfl | rfl | rfl | rfl | rfl | rfl | rfl | rfl | rfl | rfl | rfl | rfl | rfl | rfl <;> first | exact W.glo 59 rfl | exact W.glo 18 rfl | exact W.glo 15 rfl | exact W.glo 21 rfl | exact W.glo 37 rfl | exact W.glo 60 rfl | exact W.glo 61 rfl | exact W.glo 62 rfl | exact W.glo 63 rfl | exact W.glo 51 rfl | exact W.glo 64 rfl | exact W.glo 44 rfl | exact W.glo 65 rfl | exact W.glo 66 rfl | exact W.glo 67 rfl
theorem WG__law_error {X : Cx} (eK : X.K = K) (eM : X.mg = mg) : ∀ cdv, GivesE X ["_law_call", "_law_found", "e", "_law_some", "_law_labels", "_law_every", "_law_label", "_law_truth"] "_law_error" (defScope s__law_error) (He.ga X.K "_law_error") cdv (defBody s__law_error) "_law_call" (errT X.K errCs) := by
  subst eK eM
  exact WGe (excTB_ok (WX W)) (WB W) (glE W) (W.free 5 rfl) (W.free 68 rfl) (W.free 13 rfl)
theorem okn_Family_ixor : ∃ fd, FnOk P w K mg base (L2N.CX P w) 3 (He.ma K (He.ga K "Family") "__ixor__") fd ["self", "lot"] (SpT K (["self", "lot"] : List Str).length F_Family_ixor) ∧ L2.Binds K fd ["self", "lot"] [] :=
  mk_okn (m := m_Family_ixor) (W.c.def_ 32 rfl) sc_Family_ixor (fun _ _ _ _ _ _ us hl => match us, hl with | [_, _], _ => rfl) (fun cdv A outer s H E b hr => (ss_cons (s_drop (x_fn (ok_need_set W) hr (by decide) passB (a_cons (x_ix (XE.bor (x_fld (W.clsF 47 rfl) (W.noatF 48 rfl) (x_var 0))) (XE.bor x_int)) (a_cons (x_var 1) a_nil)))) (ss_cons (s_fld (W.clsF 47 rfl) (W.noatF 48 rfl) (x_var 0) (x_tup (a_cons (x_ix (XE.bor (x_fld (W.clsF 47 rfl) (W.noatF 48 rfl) (x_var 0))) (XE.bor x_int)) (a_cons (x_fn (ok_exchanged W) hr (by decide) passB (a_cons (x_ix (XE.bor (x_fld (W.clsF 47 rfl) (W.noatF 48 rfl) (x_var 0))) (XE.bor x_int)) (a_cons (x_var 1) a_nil))) a_nil)))) (ss_one (s_ret (x_var 0)))))) (fun ds S Qd Ed hl h => by rw [F_Family_ixor_eq] at h; exact h)
theorem ok_Family_ixor : OkM P w K mg base 3 (He.ma K (He.ga K "Family") "__ixor__") (needN 2 F_Family_ixor) := okm_of (okn_Family_ixor W)
theorem ok__law_turned : Ok P w K mg base 7 "_law_turned" ["_law_value", "_law_other"] F__law_turned :=
  mk_ok (m := m__law_turned) (W.def_ 69 33 rfl rfl) sc__law_turned (fun _ _ _ _ _ _ us hl => match us, hl with | [_, _], _ => rfl) (fun cdv A outer s H E b hcdv hr => (ss_one (s_augI 0 (opmB_ok (exAll (WEx W) 2 rfl)) (ok_Family_ixor W) hr (by decide) passB sc__law_turned.nd (x_var 1)))) (fun ds S Qd Ed hl h => by rw [F__law_turned_eq] at h; exact h)
theorem okn_Bench_keep : ∃ fd, FnOk P w K mg base (L2N.CX P w) 3 (He.ma K (He.ga K "Bench") "keep") fd ["self", "now"] (SpT K (["self", "now"] : List Str).length F_Bench_keep) ∧ L2.Binds K fd ["self", "now"] [] :=
  mk_okn (m := m_Bench_keep) (W.c.def_ 34 rfl) sc_Bench_keep (fun _ _ _ _ _ _ us hl => match us, hl with | [_, _], _ => rfl) (fun cdv A outer s H E b hr => (ss_cons (s_if (t_ge (XE.bor (x_callB back_F call_len s_lenM (W.free 36 rfl) bb_len (ab_cons (XE.bor (x_fld (W.clsF 49 rfl) (W.noatF 50 rfl) (x_var 0))) ab_nil))) (XE.bor (x_gint' (W.int 70 rfl)))) (ss_one (s_raiseO rfl takeB (L2N.passes_call takeB fun _ _ _ _ h => h.elim) (exAll (WEx W) 0 rfl) (exAll (WEx W) 1 rfl) (ok_TooMany_init W) hr (by decide) (W.glo 67 rfl) (x_gint' (W.int 70 rfl)))) ss_nil) (ss_cons (s_set 2 sc_Bench_keep.nd (x_fld (W.clsF 49 rfl) (W.noatF 53 rfl) (x_var 0))) (ss_cons (s_appM (x_fld (W.clsF 49 rfl) (W.noatF 50 rfl) (x_var 0)) (x_var 2)) (ss_cons (s_fld (W.clsF 49 rfl) (W.noatF 53 rfl) (x_var 0) (x_var 1)) (ss_one (s_ret (x_ne hr (XE.bor (x_var 2)) (XE.bor (x_var 1)))))))))) (fun ds S Qd Ed hl h => by rw [F_Bench_keep_eq] at h; exact h)
theorem okn_Bench_iadd : ∃ fd, FnOk P w K mg base (L2N.CX P w) 7 (He.ma K (He.ga K "Bench") "__iadd__") fd ["self", "sets"] (SpT K (["self", "sets"] : List Str).length F_Bench_iadd) ∧ L2.Binds K fd ["self", "sets"] [] :=
  mk_okn (m := m_Bench_iadd) (W.c.def_ 35 rfl) sc_Bench_iadd (fun _ _ _ _ _ _ us hl => match us, hl with | [_, _], _ => rfl) (fun cdv A outer s H E b hr => (ss_cons (s_if (XW.t (w_or (t_not (t_val (XE.bor (x_callB back_F call_isi s_isi (W.free 5 rfl) bb_isinstance (ab_cons (XE.bor (x_var 1)) (ab_cons (XE.bor (x_ty (W.free 11 rfl) bb_tuple)) ab_nil)))))) (w_or (t_gt (XE.bor (x_callB back_F call_len s_len (W.free 36 rfl) bb_len (ab_cons (XE.bor (x_var 1)) ab_nil))) (XE.bor x_int)) (w_or1 (t_not (t_val (XE.bor (x_callB back_F (cr_all rfl) s_all (W.free 12 rfl) bb_all (ab_cons (XN.bor (x_lc [("one", 2)] rfl sc_Bench_iadd.nd (i_tup (x_var 1)) (by kernel_rfl) (tg_name 2) (by decide) (fun _ _ _ _ _ => (pg_name sc_Bench_iadd.nd (i := 2) rfl (by first | exact .inl rfl | exact .inr rfl))) (fun _ _ _ _ _ => ts_nil) (fun _ _ _ _ _ => (x_fn (ok_is_good_set W) hr (by decide) passLN (a_cons (x_fld (W.clsF 49 rfl) (W.noatF 71 rfl) (x_var 0)) (a_cons (x_var 2) a_nil)))))) ab_nil))))))))) (ss_one (s_raise rfl takeB (W.exc 21 22 rfl rfl))) ss_nil) (ss_cons (s_drop (x_meth (W.clsF 49 rfl) (W.methF 72 rfl) (okn_Bench_keep W) hr (by decide) passB (x_var 0) (a_cons (x_callTy back_F call_tuple_of s_tuple (W.free 11 rfl) bb_tuple (ab_cons (XN.bor (x_sset rfl (W.free 28 rfl) (W.free 30 rfl) (XE.bor (x_add (XE.bor (x_fld (W.clsF 49 rfl) (W.noatF 53 rfl) (x_var 0))) (XE.bor (x_var 1)))))) ab_nil)) a_nil))) (ss_one (s_ret (x_var 0)))))) (fun ds S Qd Ed hl h => by rw [F_Bench_iadd_eq] at h; exact h)
theorem ok_Bench_iadd : OkM P w K mg base 7 (He.ma K (He.ga K "Bench") "__iadd__") (needN 2 F_Bench_iadd) := okm_of (okn_Bench_iadd W)
theorem ok__law_grown : Ok P w K mg base 11 "_law_grown" ["_law_value", "_law_other"] F__law_grown :=
  mk_ok (m := m__law_grown) (W.def_ 73 36 rfl rfl) sc__law_grown (fun _ _ _ _ _ _ us hl => match us, hl with | [_, _], _ => rfl) (fun cdv A outer s H E b hcdv hr => (ss_one (s_augI 0 (opmB_ok (exAll (WEx W) 3 rfl)) (ok_Bench_iadd W) hr (by decide) passB sc__law_grown.nd (x_var 1)))) (fun ds S Qd Ed hl h => by rw [F__law_grown_eq] at h; exact h)
theorem ok_Family_init : OkM P w K mg base 4 (He.ma K (He.ga K "Family") "__init__") (starF 2 F_Family_init) :=
  okm_star (m := m_Family_init) (ps := ["self", "letters"]) (pv := "sets") (W.c.def_ 37 rfl) sc_Family_init (fun kV doc pm an cdv ct => StX.bind_star2 (B := fun us => bindArgs (PySem.W.fnOf "__init__" "Family.__init__" (defArgs s_Family_init) (defBody s_Family_init) (defScope s_Family_init) .none kV doc pm an cdv ct) ⟨us, []⟩) (fun _ _ => rfl) (fun _ _ _ _ => rfl)) (fun cdv A outer s H E b hr => (ss_cons (s_drop (x_fn (ok_need_letters W) hr (by decide) passB (a_cons (x_var 1) (a_cons x_int a_nil)))) (ss_cons (s_drop (x_fn (ok_need_family W) hr (by decide) passB (a_cons (x_var 1) (a_cons (x_var 2) a_nil)))) (ss_one (s_fld (W.clsF 47 rfl) (W.noatF 48 rfl) (x_var 0) (x_tup (a_cons (x_var 1) (a_cons (x_var 2) a_nil)))))))) (fun ds S Qd Ed hl h => by rw [F_Family_init_eq] at h; exact h)
theorem okn_Family_need_like : ∃ fd, FnOk P w K mg base (L2N.CX P w) 8 (He.ma K (He.ga K "Family") "need_like") fd ["self", "other"] (SpT K (["self", "other"] : List Str).length F_Family_need_like) ∧ L2.Binds K fd ["self", "other"] [] :=
  mk_okn (m := m_Family_need_like) (W.c.def_ 38 rfl) sc_Family_need_like (fun _ _ _ _ _ _ us hl => match us, hl with | [_, _], _ => rfl) (fun cdv A outer s H E b hr => (ss_one (s_if (XW.t (w_or (t_not (t_val (XE.bor (x_callB back_F call_isi (s_isiC (W.clsF 47 rfl) (exAll (WEx W) 4 rfl)) (W.free 5 rfl) bb_isinstance (ab_cons (XE.bor (x_var 1)) (ab_cons (XE.bor (x_glo (W.glo 74 rfl))) ab_nil)))))) (w_or1 (t_ne hr (XE.bor (x_ix (XE.bor (x_fld (W.clsF 47 rfl) (W.noatF 48 rfl) (x_var 1))) (XE.bor x_int))) (XE.bor (x_ix (XE.bor (x_fld (W.clsF 47 rfl) (W.noatF 48 rfl) (x_var 0))) (XE.bor x_int))))))) (ss_one (s_raise rfl takeB (W.exc 65 75 rfl rfl))) ss_nil))) (fun ds S Qd Ed hl h => by rw [F_Family_need_like_eq] at h; exact h)
theorem okn_Family_or : ∃ fd, FnOk P w K mg base (L2N.CX P w) 12 (He.ma K (He.ga K "Family") "__or__") fd ["self", "other"] (SpT K (["self", "other"] : List Str).length F_Family_or) ∧ L2.Binds K fd ["self", "other"] [] :=
  mk_okn (m := m_Family_or) (W.c.def_ 39 rfl) sc_Family_or (fun _ _ _ _ _ _ us hl => match us, hl with | [_, _], _ => rfl) (fun cdv A outer s H E b hr => (ss_cons (s_drop (x_meth (W.clsF 47 rfl) (W.methF 76 rfl) (okn_Family_need_like W) hr (by decide) passB (x_var 0) (a_cons (x_var 1) a_nil))) (ss_cons (s_set 2 sc_Family_or.nd (x_fn (ok_joins_of W) hr (by decide) passB (a_cons (x_ix (XE.bor (x_fld (W.clsF 47 rfl) (W.noatF 48 rfl) (x_var 0))) (XE.bor x_int)) (a_cons (x_ix (XE.bor (x_fld (W.clsF 47 rfl) (W.noatF 48 rfl) (x_var 1))) (XE.bor x_int)) a_nil)))) (ss_one (s_ret (x_makeS (W.mkrF 77 rfl) (ok_Family_init W) (W.glo 74 rfl) hr (by decide) passB (a_cons (x_ix (XE.bor (x_fld (W.clsF 47 rfl) (W.noatF 48 rfl) (x_var 0))) (XE.bor x_int)) (a_star (x_var 2) a_nil)))))))) (fun ds S Qd Ed hl h => by rw [F_Family_or_eq] at h; exact h)
theorem ok_Family_or : OkM P w K mg base 12 (He.ma K (He.ga K "Family") "__or__") (needN 2 F_Family_or) := okm_of (okn_Family_or W)
theorem okn_Family_and : ∃ fd, FnOk P w K mg base (L2N.CX P w) 12 (He.ma K (He.ga K "Family") "__and__") fd ["self", "other"] (SpT K (["self", "other"] : List Str).length F_Family_and) ∧ L2.Binds K fd ["self", "other"] [] :=
  mk_okn (m := m_Family_and) (W.c.def_ 40 rfl) sc_Family_and (fun _ _ _ _ _ _ us hl => match us, hl with | [_, _], _ => rfl) (fun cdv A outer s H E b hr => (ss_cons (s_drop (x_meth (W.clsF 47 rfl) (W.methF 76 rfl) (okn_Family_need_like W) hr (by decide) passB (x_var 0) (a_cons (x_var 1) a_nil))) (ss_cons (s_set 2 sc_Family_and.nd (x_fn (ok_meets_of W) hr (by decide) passB (a_cons (x_ix (XE.bor (x_fld (W.clsF 47 rfl) (W.noatF 48 rfl) (x_var 0))) (XE.bor x_int)) (a_cons (x_ix (XE.bor (x_fld (W.clsF 47 rfl) (W.noatF 48 rfl) (x_var 1))) (XE.bor x_int)) a_nil)))) (ss_one (s_ret (x_makeS (W.mkrF 77 rfl) (ok_Family_init W) (W.glo 74 rfl) hr (by decide) passB (a_cons (x_ix (XE.bor (x_fld (W.clsF 47 rfl) (W.noatF 48 rfl) (x_var 0))) (XE.bor x_int)) (a_star (x_var 2) a_nil)))))))) (fun ds S Qd Ed hl h => by rw [F_Family_and_eq] at h; exact h)
theorem ok_Family_and : OkM P w K mg base 12 (He.ma K (He.ga K "Family") "__and__") (needN 2 F_Family_and) := okm_of (okn_Family_and W)
theorem okn_Family_sub : ∃ fd, FnOk P w K mg base (L2N.CX P w) 12 (He.ma K (He.ga K "Family") "__sub__") fd ["self", "other"] (SpT K (["self", "other"] : List Str).length F_Family_sub) ∧ L2.Binds K fd ["self", "other"] [] :=
  mk_okn (m := m_Family_sub) (W.c.def_ 41 rfl) sc_Family_sub (fun _ _ _ _ _ _ us hl => match us, hl with | [_, _], _ => rfl) (fun cdv A outer s H E b hr => (ss_cons (s_drop (x_meth (W.clsF 47 rfl) (W.methF 76 rfl) (okn_Family_need_like W) hr (by decide) passB (x_var 0) (a_cons (x_var 1) a_nil))) (ss_cons (s_set 2 sc_Family_sub.nd (x_fn (ok_differences_of W) hr (by decide) passB (a_cons (x_ix (XE.bor (x_fld (W.clsF 47 rfl) (W.noatF 48 rfl) (x_var 0))) (XE.bor x_int)) (a_cons (x_ix (XE.bor (x_fld (W.clsF 47 rfl) (W.noatF 48 rfl) (x_var 1))) (XE.bor x_int)) a_nil)))) (ss_one (s_ret (x_makeS (W.mkrF 77 rfl) (ok_Family_init W) (W.glo 74 rfl) hr (by decide) passB (a_cons (x_ix (XE.bor (x_fld (W.clsF 47 rfl) (W.noatF 48 rfl) (x_var 0))) (XE.bor x_int)) (a_star (x_var 2) a_nil)))))))) (fun ds S Qd Ed hl h => by rw [F_Family_sub_eq] at h; exact h)
theorem ok_Family_sub : OkM P w K mg base 12 (He.ma K (He.ga K "Family") "__sub__") (needN 2 F_Family_sub) := okm_of (okn_Family_sub W)
theorem okn_Family_le : ∃ fd, FnOk P w K mg base (L2N.CX P w) 12 (He.ma K (He.ga K "Family") "__le__") fd ["self", "other"] (SpT K (["self", "other"] : List Str).length F_Family_le) ∧ L2.Binds K fd ["self", "other"] [] :=
  mk_okn (m := m_Family_le) (W.c.def_ 42 rfl) sc_Family_le (fun _ _ _ _ _ _ us hl => match us, hl with | [_, _], _ => rfl) (fun cdv A outer s H E b hr => (ss_cons (s_drop (x_meth (W.clsF 47 rfl) (W.methF 76 rfl) (okn_Family_need_like W) hr (by decide) passB (x_var 0) (a_cons (x_var 1) a_nil))) (ss_one (s_ret (x_callB back_F (cr_all rfl) s_all (W.free 12 rfl) bb_all (ab_cons (XN.bor (x_lc [("one", 2)] rfl sc_Family_le.nd (i_tup (x_ix (XE.bor (x_fld (W.clsF 47 rfl) (W.noatF 48 rfl) (x_var 0))) (XE.bor x_int))) (by kernel_rfl) (tg_name 2) (by decide) (fun _ _ _ _ _ => (pg_name sc_Family_le.nd (i := 2) rfl (by first | exact .inl rfl | exact .inr rfl))) (fun _ _ _ _ _ => ts_nil) (fun _ _ _ _ _ => (x_in hr (XE.bor (x_var 2)) (XE.bor (x_ix (XE.bor (x_fld (W.clsF 47 rfl) (W.noatF 48 rfl) (x_var 1))) (XE.bor x_int))))))) ab_nil)))))) (fun ds S Qd Ed hl h => by rw [F_Family_le_eq] at h; exact h)
theorem ok_Family_le : OkM P w K mg base 12 (He.ma K (He.ga K "Family") "__le__") (needN 2 F_Family_le) := okm_of (okn_Family_le W)
theorem okn_Family_xor : ∃ fd, FnOk P w K mg base (L2N.CX P w) 8 (He.ma K (He.ga K "Family") "__xor__") fd ["self", "lot"] (SpT K (["self", "lot"] : List Str).length F_Family_xor) ∧ L2.Binds K fd ["self", "lot"] [] :=
  mk_okn (m := m_Family_xor) (W.c.def_ 43 rfl) sc_Family_xor (fun _ _ _ _ _ _ us hl => match us, hl with | [_, _], _ => rfl) (fun cdv A outer s H E b hr => (ss_cons (s_drop (x_fn (ok_need_set W) hr (by decide) passB (a_cons (x_ix (XE.bor (x_fld (W.clsF 47 rfl) (W.noatF 48 rfl) (x_var 0))) (XE.bor x_int)) (a_cons (x_var 1) a_nil)))) (ss_cons (s_set 2 sc_Family_xor.nd (x_fn (ok_exchanged W) hr (by decide) passB (a_cons (x_ix (XE.bor (x_fld (W.clsF 47 rfl) (W.noatF 48 rfl) (x_var 0))) (XE.bor x_int)) (a_cons (x_var 1) a_nil)))) (ss_one (s_ret (x_makeS (W.mkrF 77 rfl) (ok_Family_init W) (W.glo 74 rfl) hr (by decide) passB (a_cons (x_ix (XE.bor (x_fld (W.clsF 47 rfl) (W.noatF 48 rfl) (x_var 0))) (XE.bor x_int)) (a_star (x_var 2) a_nil)))))))) (fun ds S Qd Ed hl h => by rw [F_Family_xor_eq] at h; exact h)
theorem ok_Family_xor : OkM P w K mg base 8 (He.ma K (He.ga K "Family") "__xor__") (needN 2 F_Family_xor) := okm_of (okn_Family_xor W)
theorem okn_Family_read : ∃ fd, FnOk P w K mg base (L2N.CX P w) 8 (recA "classmethod" "Family" "read" K) fd ["cls", "value"] (SpT K (["cls", "value"] : List Str).length F_Family_read) ∧ L2.Binds K fd ["cls", "value"] [] :=
  mk_okn (m := m_Family_read) (W.y 1 _ rfl rfl) sc_Family_read (fun _ _ _ _ _ _ us hl => match us, hl with | [_, _], _ => rfl) (fun cdv A outer s H E b hr => (ss_cons (s_asg (x_fn (ok_family_in W) hr (by decide) passB (a_cons (x_var 1) a_nil)) (pg_tup rfl (pgs_cons (pg_name sc_Family_read.nd (i := 2) rfl (by first | exact .inl rfl | exact .inr rfl)) (pgs_cons (pg_name sc_Family_read.nd (i := 3) rfl (by first | exact .inl rfl | exact .inr rfl)) pgs_nil))) (tg_two 2 3)) (ss_one (s_ret (x_makeL 0 (W.mkrF 77 rfl) (ok_Family_init W) hr (by decide) passB (a_cons (x_var 2) (a_star (x_var 3) a_nil))))))) (fun ds S Qd Ed hl h => by rw [F_Family_read_eq] at h; exact h)
theorem ok_Family_read : OkM P w K mg base 8 (recA "classmethod" "Family" "read" K) (needN 2 F_Family_read) := okm_of (okn_Family_read W)
theorem okn_Bench_init : ∃ fd, FnOk P w K mg base (L2N.CX P w) 3 (He.ma K (He.ga K "Bench") "__init__") fd ["self", "letters"] (SpT K (["self", "letters"] : List Str).length F_Bench_init) ∧ L2.Binds K fd ["self", "letters"] [] :=
  mk_okn (m := m_Bench_init) (W.c.def_ 44 rfl) sc_Bench_init (fun _ _ _ _ _ _ us hl => match us, hl with | [_, _], _ => rfl) (fun cdv A outer s H E b hr => (ss_cons (s_drop (x_fn (ok_need_letters W) hr (by decide) passB (a_cons (x_var 1) (a_cons x_int a_nil)))) (ss_cons (s_fld (W.clsF 49 rfl) (W.noatF 71 rfl) (x_var 0) (x_var 1)) (ss_cons (s_fld (W.clsF 49 rfl) (W.noatF 53 rfl) (x_var 0) (x_tup a_nil)) (ss_one (s_fld (W.clsF 49 rfl) (W.noatF 50 rfl) (x_var 0) (XN.sto (x_lst a_nil)))))))) (fun ds S Qd Ed hl h => by rw [F_Bench_init_eq] at h; exact h)
theorem ok_Bench_init : OkM P w K mg base 3 (He.ma K (He.ga K "Bench") "__init__") (needN 2 F_Bench_init) := okm_of (okn_Bench_init W)
theorem okn_Bench_put : ∃ fd, FnOk P w K mg base (L2N.CX P w) 7 (He.ma K (He.ga K "Bench") "put") fd ["self", "lot"] (SpT K (["self", "lot"] : List Str).length F_Bench_put) ∧ L2.Binds K fd ["self", "lot"] [] :=
  mk_okn (m := m_Bench_put) (W.c.def_ 45 rfl) sc_Bench_put (fun _ _ _ _ _ _ us hl => match us, hl with | [_, _], _ => rfl) (fun cdv A outer s H E b hr => (ss_cons (s_drop (x_fn (ok_need_set W) hr (by decide) passB (a_cons (x_fld (W.clsF 49 rfl) (W.noatF 71 rfl) (x_var 0)) (a_cons (x_var 1) a_nil)))) (ss_one (s_ret (x_meth (W.clsF 49 rfl) (W.methF 72 rfl) (okn_Bench_keep W) hr (by decide) passB (x_var 0) (a_cons (x_callTy back_F call_tuple_of s_tuple (W.free 11 rfl) bb_tuple (ab_cons (XN.bor (x_sset rfl (W.free 28 rfl) (W.free 30 rfl) (XE.bor (x_add (XE.bor (x_fld (W.clsF 49 rfl) (W.noatF 53 rfl) (x_var 0))) (XE.bor (x_tup (a_cons (x_var 1) a_nil))))))) ab_nil)) a_nil)))))) (fun ds S Qd Ed hl h => by rw [F_Bench_put_eq] at h; exact h)
theorem okn_Bench_strike : ∃ fd, FnOk P w K mg base (L2N.CX P w) 7 (He.ma K (He.ga K "Bench") "strike") fd ["self", "lot"] (SpT K (["self", "lot"] : List Str).length F_Bench_strike) ∧ L2.Binds K fd ["self", "lot"] [] :=
  mk_okn (m := m_Bench_strike) (W.c.def_ 46 rfl) sc_Bench_strike (fun _ _ _ _ _ _ us hl => match us, hl with | [_, _], _ => rfl) (fun cdv A outer s H E b hr => (ss_cons (s_drop (x_fn (ok_need_set W) hr (by decide) passB (a_cons (x_fld (W.clsF 49 rfl) (W.noatF 71 rfl) (x_var 0)) (a_cons (x_var 1) a_nil)))) (ss_one (s_ret (x_meth (W.clsF 49 rfl) (W.methF 72 rfl) (okn_Bench_keep W) hr (by decide) passB (x_var 0) (a_cons (x_callTy back_F call_tuple_of s_tuple (W.free 11 rfl) bb_tuple (ab_cons (XN.bor (x_lc [("one", 2)] rfl sc_Bench_strike.nd (i_tup (x_fld (W.clsF 49 rfl) (W.noatF 53 rfl) (x_var 0))) (by kernel_rfl) (tg_name 2) (by decide) (fun _ _ _ _ _ => (pg_name sc_Bench_strike.nd (i := 2) rfl (by first | exact .inl rfl | exact .inr rfl))) (fun _ _ _ _ _ => (ts_one (t_ne hr (XE.bor (x_var 2)) (XE.bor (x_var 1))))) (fun _ _ _ _ _ => (x_var 2)))) ab_nil)) a_nil)))))) (fun ds S Qd Ed hl h => by rw [F_Bench_strike_eq] at h; exact h)
theorem okn_Bench_squeeze : ∃ fd, FnOk P w K mg base (L2N.CX P w) 7 (He.ma K (He.ga K "Bench") "squeeze") fd ["self", "letter"] (SpT K (["self", "letter"] : List Str).length F_Bench_squeeze) ∧ L2.Binds K fd ["self", "letter"] [] :=
  mk_okn (m := m_Bench_squeeze) (W.c.def_ 47 rfl) sc_Bench_squeeze (fun _ _ _ _ _ _ us hl => match us, hl with | [_, _], _ => rfl) (fun cdv A outer s H E b hr => (ss_cons (s_drop (x_fn (ok_need_letter W) hr (by decide) passB (a_cons (x_fld (W.clsF 49 rfl) (W.noatF 71 rfl) (x_var 0)) (a_cons (x_var 1) a_nil)))) (ss_one (s_ret (x_meth (W.clsF 49 rfl) (W.methF 72 rfl) (okn_Bench_keep W) hr (by decide) passB (x_var 0) (a_cons (x_fn (ok_squeezed_by W) hr (by decide) passB (a_cons (x_fld (W.clsF 49 rfl) (W.noatF 53 rfl) (x_var 0)) (a_cons (x_var 1) a_nil))) a_nil)))))) (fun ds S Qd Ed hl h => by rw [F_Bench_squeeze_eq] at h; exact h)
theorem clo_b0 {X : Cx} (eP : X.prog = P) (ew : X.w = w) (eK : X.K = K) (eM : X.mg = mg) (eB : X.base = base) : ∀ (n : Addr) (A : Around) (outer : List Env) (s : Shared) (H : Hp) (E : XK) (f c' : Addr), Room 21 (A.deeper (LamX.lamEnv (mkCx X "_law_calls_of.<locals>." (cellsFrom (n + 1) (defScope s__law_calls_of).names []) (defScope s__law_calls_of) psC) (cloC 0).scope s.heap.objs.size f c')) →
      Passes (L2N.CX X.prog X.w) (lamN (mkCx X "_law_calls_of.<locals>." (cellsFrom (n + 1) (defScope s__law_calls_of).names []) (defScope s__law_calls_of) psC) A outer s H E (cloC 0).scope f c') E → PE (lamN (mkCx X "_law_calls_of.<locals>." (cellsFrom (n + 1) (defScope s__law_calls_of).names []) (defScope s__law_calls_of) psC) A outer s H E (cloC 0).scope f c') (cloC 0).body (lf X.K E (RF X.K) mC0) := by
  obtain ⟨x1, x2, x3, x4, x5, x6, x7, x8, x9, x10, x11, x12, x13, x14, x15, x16, x17⟩ := X
  change x1 = P at eP; change x2 = w at ew; change x3 = K at eK; change x4 = mg at eM; change x5 = base at eB
  subst eP ew eK eM eB
  exact fun n A outer s H E f c' hr hx => (x_make (W.mkrF 77 rfl) (ok_Family_init W) (W.glo 74 rfl) hr (by decide) hx (a_cons (x_var 2) (a_cons x_non a_nil)))
theorem clo_b1 {X : Cx} (eP : X.prog = P) (ew : X.w = w) (eK : X.K = K) (eM : X.mg = mg) (eB : X.base = base) : ∀ (n : Addr) (A : Around) (outer : List Env) (s : Shared) (H : Hp) (E : XK) (f c' : Addr), Room 21 (A.deeper (LamX.lamEnv (mkCx X "_law_calls_of.<locals>." (cellsFrom (n + 1) (defScope s__law_calls_of).names []) (defScope s__law_calls_of) psC) (cloC 1).scope s.heap.objs.size f c')) →
      Passes (L2N.CX X.prog X.w) (lamN (mkCx X "_law_calls_of.<locals>." (cellsFrom (n + 1) (defScope s__law_calls_of).names []) (defScope s__law_calls_of) psC) A outer s H E (cloC 1).scope f c') E → PE (lamN (mkCx X "_law_calls_of.<locals>." (cellsFrom (n + 1) (defScope s__law_calls_of).names []) (defScope s__law_calls_of) psC) A outer s H E (cloC 1).scope f c') (cloC 1).body (lf X.K E (RF X.K) mC1) := by
  obtain ⟨x1, x2, x3, x4, x5, x6, x7, x8, x9, x10, x11, x12, x13, x14, x15, x16, x17⟩ := X
  change x1 = P at eP; change x2 = w at ew; change x3 = K at eK; change x4 = mg at eM; change x5 = base at eB
  subst eP ew eK eM eB
  exact fun n A outer s H E f c' hr hx => (x_make (W.mkrF 77 rfl) (ok_Family_init W) (W.glo 74 rfl) hr (by decide) hx (a_cons x_int (a_cons (x_var 2) a_nil)))
theorem clo_b2 {X : Cx} (eP : X.prog = P) (ew : X.w = w) (eK : X.K = K) (eM : X.mg = mg) (eB : X.base = base) : ∀ (n : Addr) (A : Around) (outer : List Env) (s : Shared) (H : Hp) (E : XK) (f c' : Addr), Room 21 (A.deeper (LamX.lamEnv (mkCx X "_law_calls_of.<locals>." (cellsFrom (n + 1) (defScope s__law_calls_of).names []) (defScope s__law_calls_of) psC) (cloC 2).scope s.heap.objs.size f c')) →
      Passes (L2N.CX X.prog X.w) (lamN (mkCx X "_law_calls_of.<locals>." (cellsFrom (n + 1) (defScope s__law_calls_of).names []) (defScope s__law_calls_of) psC) A outer s H E (cloC 2).scope f c') E → PE (lamN (mkCx X "_law_calls_of.<locals>." (cellsFrom (n + 1) (defScope s__law_calls_of).names []) (defScope s__law_calls_of) psC) A outer s H E (cloC 2).scope f c') (cloC 2).body (lf X.K E (RF X.K) mC2) := by
  obtain ⟨x1, x2, x3, x4, x5, x6, x7, x8, x9, x10, x11, x12, x13, x14, x15, x16, x17⟩ := X
  change x1 = P at eP; change x2 = w at ew; change x3 = K at eK; change x4 = mg at eM; change x5 = base at eB
  subst eP ew eK eM eB
  exact fun n A outer s H E f c' hr hx => (x_cmeth (cmethB_ok (exAll (WEx W) 5 rfl)).1 (cmethB_ok (exAll (WEx W) 5 rfl)).2 (ok_Family_read W) hr (by decide) hx (x_glo (W.glo 74 rfl)) (a_cons (x_var 2) a_nil))
theorem clo_b3 {X : Cx} (eP : X.prog = P) (ew : X.w = w) (eK : X.K = K) (eM : X.mg = mg) (eB : X.base = base) : ∀ (n : Addr) (A : Around) (outer : List Env) (s : Shared) (H : Hp) (E : XK) (f c' : Addr), Room 21 (A.deeper (LamX.lamEnv (mkCx X "_law_calls_of.<locals>." (cellsFrom (n + 1) (defScope s__law_calls_of).names []) (defScope s__law_calls_of) psC) (cloC 3).scope s.heap.objs.size f c')) →
      Passes (L2N.CX X.prog X.w) (lamN (mkCx X "_law_calls_of.<locals>." (cellsFrom (n + 1) (defScope s__law_calls_of).names []) (defScope s__law_calls_of) psC) A outer s H E (cloC 3).scope f c') E → PE (lamN (mkCx X "_law_calls_of.<locals>." (cellsFrom (n + 1) (defScope s__law_calls_of).names []) (defScope s__law_calls_of) psC) A outer s H E (cloC 3).scope f c') (cloC 3).body (lf X.K E (RF X.K) mC3) := by
  obtain ⟨x1, x2, x3, x4, x5, x6, x7, x8, x9, x10, x11, x12, x13, x14, x15, x16, x17⟩ := X
  change x1 = P at eP; change x2 = w at ew; change x3 = K at eK; change x4 = mg at eM; change x5 = base at eB
  subst eP ew eK eM eB
  exact fun n A outer s H E f c' hr hx => (x_binR (op := .BitOr) (opmB_ok (exAll (WEx W) 6 rfl)) (exAll (WEx W) 7 rfl) (ok_Family_or W) hr (by decide) hx (x_var 0) (x_var 2))
theorem clo_b4 {X : Cx} (eP : X.prog = P) (ew : X.w = w) (eK : X.K = K) (eM : X.mg = mg) (eB : X.base = base) : ∀ (n : Addr) (A : Around) (outer : List Env) (s : Shared) (H : Hp) (E : XK) (f c' : Addr), Room 21 (A.deeper (LamX.lamEnv (mkCx X "_law_calls_of.<locals>." (cellsFrom (n + 1) (defScope s__law_calls_of).names []) (defScope s__law_calls_of) psC) (cloC 4).scope s.heap.objs.size f c')) →
      Passes (L2N.CX X.prog X.w) (lamN (mkCx X "_law_calls_of.<locals>." (cellsFrom (n + 1) (defScope s__law_calls_of).names []) (defScope s__law_calls_of) psC) A outer s H E (cloC 4).scope f c') E → PE (lamN (mkCx X "_law_calls_of.<locals>." (cellsFrom (n + 1) (defScope s__law_calls_of).names []) (defScope s__law_calls_of) psC) A outer s H E (cloC 4).scope f c') (cloC 4).body (lf X.K E (RF X.K) mC4) := by
  obtain ⟨x1, x2, x3, x4, x5, x6, x7, x8, x9, x10, x11, x12, x13, x14, x15, x16, x17⟩ := X
  change x1 = P at eP; change x2 = w at ew; change x3 = K at eK; change x4 = mg at eM; change x5 = base at eB
  subst eP ew eK eM eB
  exact fun n A outer s H E f c' hr hx => (x_binR (op := .BitAnd) (opmB_ok (exAll (WEx W) 8 rfl)) (exAll (WEx W) 9 rfl) (ok_Family_and W) hr (by decide) hx (x_var 0) (x_var 2))
theorem clo_b5 {X : Cx} (eP : X.prog = P) (ew : X.w = w) (eK : X.K = K) (eM : X.mg = mg) (eB : X.base = base) : ∀ (n : Addr) (A : Around) (outer : List Env) (s : Shared) (H : Hp) (E : XK) (f c' : Addr), Room 21 (A.deeper (LamX.lamEnv (mkCx X "_law_calls_of.<locals>." (cellsFrom (n + 1) (defScope s__law_calls_of).names []) (defScope s__law_calls_of) psC) (cloC 5).scope s.heap.objs.size f c')) →
      Passes (L2N.CX X.prog X.w) (lamN (mkCx X "_law_calls_of.<locals>." (cellsFrom (n + 1) (defScope s__law_calls_of).names []) (defScope s__law_calls_of) psC) A outer s H E (cloC 5).scope f c') E → PE (lamN (mkCx X "_law_calls_of.<locals>." (cellsFrom (n + 1) (defScope s__law_calls_of).names []) (defScope s__law_calls_of) psC) A outer s H E (cloC 5).scope f c') (cloC 5).body (lf X.K E (RF X.K) mC5) := by
  obtain ⟨x1, x2, x3, x4, x5, x6, x7, x8, x9, x10, x11, x12, x13, x14, x15, x16, x17⟩ := X
  change x1 = P at eP; change x2 = w at ew; change x3 = K at eK; change x4 = mg at eM; change x5 = base at eB
  subst eP ew eK eM eB
  exact fun n A outer s H E f c' hr hx => (x_binR (op := .Sub) (opmB_ok (exAll (WEx W) 10 rfl)) (exAll (WEx W) 11 rfl) (ok_Family_sub W) hr (by decide) hx (x_var 0) (x_var 2))
theorem clo_b6 {X : Cx} (eP : X.prog = P) (ew : X.w = w) (eK : X.K = K) (eM : X.mg = mg) (eB : X.base = base) : ∀ (n : Addr) (A : Around) (outer : List Env) (s : Shared) (H : Hp) (E : XK) (f c' : Addr), Room 21 (A.deeper (LamX.lamEnv (mkCx X "_law_calls_of.<locals>." (cellsFrom (n + 1) (defScope s__law_calls_of).names []) (defScope s__law_calls_of) psC) (cloC 6).scope s.heap.objs.size f c')) →
      Passes (L2N.CX X.prog X.w) (lamN (mkCx X "_law_calls_of.<locals>." (cellsFrom (n + 1) (defScope s__law_calls_of).names []) (defScope s__law_calls_of) psC) A outer s H E (cloC 6).scope f c') E → PE (lamN (mkCx X "_law_calls_of.<locals>." (cellsFrom (n + 1) (defScope s__law_calls_of).names []) (defScope s__law_calls_of) psC) A outer s H E (cloC 6).scope f c') (cloC 6).body (lf X.K E (RF X.K) mC6) := by
  obtain ⟨x1, x2, x3, x4, x5, x6, x7, x8, x9, x10, x11, x12, x13, x14, x15, x16, x17⟩ := X
  change x1 = P at eP; change x2 = w at ew; change x3 = K at eK; change x4 = mg at eM; change x5 = base at eB
  subst eP ew eK eM eB
  exact fun n A outer s H E f c' hr hx => (x_cmpI (op := .LtE) (fun _ _ => rfl) (opmB_ok (exAll (WEx W) 12 rfl)) (exAll (WEx W) 13 rfl) (ok_Family_le W) hr (by decide) hx (x_var 0) (x_var 2))
theorem clo_b7 {X : Cx} (eP : X.prog = P) (ew : X.w = w) (eK : X.K = K) (eM : X.mg = mg) (eB : X.base = base) : ∀ (n : Addr) (A : Around) (outer : List Env) (s : Shared) (H : Hp) (E : XK) (f c' : Addr), Room 21 (A.deeper (LamX.lamEnv (mkCx X "_law_calls_of.<locals>." (cellsFrom (n + 1) (defScope s__law_calls_of).names []) (defScope s__law_calls_of) psC) (cloC 7).scope s.heap.objs.size f c')) →
      Passes (L2N.CX X.prog X.w) (lamN (mkCx X "_law_calls_of.<locals>." (cellsFrom (n + 1) (defScope s__law_calls_of).names []) (defScope s__law_calls_of) psC) A outer s H E (cloC 7).scope f c') E → PE (lamN (mkCx X "_law_calls_of.<locals>." (cellsFrom (n + 1) (defScope s__law_calls_of).names []) (defScope s__law_calls_of) psC) A outer s H E (cloC 7).scope f c') (cloC 7).body (lf X.K E (RF X.K) mC7) := by
  obtain ⟨x1, x2, x3, x4, x5, x6, x7, x8, x9, x10, x11, x12, x13, x14, x15, x16, x17⟩ := X
  change x1 = P at eP; change x2 = w at ew; change x3 = K at eK; change x4 = mg at eM; change x5 = base at eB
  subst eP ew eK eM eB
  exact fun n A outer s H E f c' hr hx => (x_binR (op := .BitXor) (opmB_ok (exAll (WEx W) 14 rfl)) (exAll (WEx W) 15 rfl) (ok_Family_xor W) hr (by decide) hx (x_var 0) (x_var 2))
theorem clo_b8 {X : Cx} (eP : X.prog = P) (ew : X.w = w) (eK : X.K = K) (eM : X.mg = mg) (eB : X.base = base) : ∀ (n : Addr) (A : Around) (outer : List Env) (s : Shared) (H : Hp) (E : XK) (f c' : Addr), Room 21 (A.deeper (LamX.lamEnv (mkCx X "_law_calls_of.<locals>." (cellsFrom (n + 1) (defScope s__law_calls_of).names []) (defScope s__law_calls_of) psC) (cloC 8).scope s.heap.objs.size f c')) →
      Passes (L2N.CX X.prog X.w) (lamN (mkCx X "_law_calls_of.<locals>." (cellsFrom (n + 1) (defScope s__law_calls_of).names []) (defScope s__law_calls_of) psC) A outer s H E (cloC 8).scope f c') E → PE (lamN (mkCx X "_law_calls_of.<locals>." (cellsFrom (n + 1) (defScope s__law_calls_of).names []) (defScope s__law_calls_of) psC) A outer s H E (cloC 8).scope f c') (cloC 8).body (lf X.K E (RF X.K) mC8) := by
  obtain ⟨x1, x2, x3, x4, x5, x6, x7, x8, x9, x10, x11, x12, x13, x14, x15, x16, x17⟩ := X
  change x1 = P at eP; change x2 = w at ew; change x3 = K at eK; change x4 = mg at eM; change x5 = base at eB
  subst eP ew eK eM eB
  exact fun n A outer s H E f c' hr hx => (x_fn (ok__law_turned W) hr (by decide) hx (a_cons (x_var 0) (a_cons (x_var 2) a_nil)))
theorem clo_b9 {X : Cx} (eP : X.prog = P) (ew : X.w = w) (eK : X.K = K) (eM : X.mg = mg) (eB : X.base = base) : ∀ (n : Addr) (A : Around) (outer : List Env) (s : Shared) (H : Hp) (E : XK) (f c' : Addr), Room 21 (A.deeper (LamX.lamEnv (mkCx X "_law_calls_of.<locals>." (cellsFrom (n + 1) (defScope s__law_calls_of).names []) (defScope s__law_calls_of) psC) (cloC 9).scope s.heap.objs.size f c')) →
      Passes (L2N.CX X.prog X.w) (lamN (mkCx X "_law_calls_of.<locals>." (cellsFrom (n + 1) (defScope s__law_calls_of).names []) (defScope s__law_calls_of) psC) A outer s H E (cloC 9).scope f c') E → PE (lamN (mkCx X "_law_calls_of.<locals>." (cellsFrom (n + 1) (defScope s__law_calls_of).names []) (defScope s__law_calls_of) psC) A outer s H E (cloC 9).scope f c') (cloC 9).body (lf X.K E (RF X.K) mC9) := by
  obtain ⟨x1, x2, x3, x4, x5, x6, x7, x8, x9, x10, x11, x12, x13, x14, x15, x16, x17⟩ := X
  change x1 = P at eP; change x2 = w at ew; change x3 = K at eK; change x4 = mg at eM; change x5 = base at eB
  subst eP ew eK eM eB
  exact fun n A outer s H E f c' hr hx => (x_callI (x_var 0) (callB_ok (exAll (WEx W) 16 rfl)) (ok_Family_call W) hr (by decide) hx (a_cons (x_var 2) a_nil))
theorem clo_b10 {X : Cx} (eP : X.prog = P) (ew : X.w = w) (eK : X.K = K) (eM : X.mg = mg) (eB : X.base = base) : ∀ (n : Addr) (A : Around) (outer : List Env) (s : Shared) (H : Hp) (E : XK) (f c' : Addr), Room 21 (A.deeper (LamX.lamEnv (mkCx X "_law_calls_of.<locals>." (cellsFrom (n + 1) (defScope s__law_calls_of).names []) (defScope s__law_calls_of) psC) (cloC 10).scope s.heap.objs.size f c')) →
      Passes (L2N.CX X.prog X.w) (lamN (mkCx X "_law_calls_of.<locals>." (cellsFrom (n + 1) (defScope s__law_calls_of).names []) (defScope s__law_calls_of) psC) A outer s H E (cloC 10).scope f c') E → PE (lamN (mkCx X "_law_calls_of.<locals>." (cellsFrom (n + 1) (defScope s__law_calls_of).names []) (defScope s__law_calls_of) psC) A outer s H E (cloC 10).scope f c') (cloC 10).body (lf X.K E (RF X.K) mC10) := by
  obtain ⟨x1, x2, x3, x4, x5, x6, x7, x8, x9, x10, x11, x12, x13, x14, x15, x16, x17⟩ := X
  change x1 = P at eP; change x2 = w at ew; change x3 = K at eK; change x4 = mg at eM; change x5 = base at eB
  subst eP ew eK eM eB
  exact fun n A outer s H E f c' hr hx => (x_ixI (opmB_ok (exAll (WEx W) 17 rfl)) (exAll (WEx W) 18 rfl) (ok_Family_getitem W) hr (by decide) hx (x_var 0) (x_var 2))
theorem clo_b11 {X : Cx} (eP : X.prog = P) (ew : X.w = w) (eK : X.K = K) (eM : X.mg = mg) (eB : X.base = base) : ∀ (n : Addr) (A : Around) (outer : List Env) (s : Shared) (H : Hp) (E : XK) (f c' : Addr), Room 21 (A.deeper (LamX.lamEnv (mkCx X "_law_calls_of.<locals>." (cellsFrom (n + 1) (defScope s__law_calls_of).names []) (defScope s__law_calls_of) psC) (cloC 11).scope s.heap.objs.size f c')) →
      Passes (L2N.CX X.prog X.w) (lamN (mkCx X "_law_calls_of.<locals>." (cellsFrom (n + 1) (defScope s__law_calls_of).names []) (defScope s__law_calls_of) psC) A outer s H E (cloC 11).scope f c') E → PE (lamN (mkCx X "_law_calls_of.<locals>." (cellsFrom (n + 1) (defScope s__law_calls_of).names []) (defScope s__law_calls_of) psC) A outer s H E (cloC 11).scope f c') (cloC 11).body (lf X.K E (RF X.K) mC11) := by
  obtain ⟨x1, x2, x3, x4, x5, x6, x7, x8, x9, x10, x11, x12, x13, x14, x15, x16, x17⟩ := X
  change x1 = P at eP; change x2 = w at ew; change x3 = K at eK; change x4 = mg at eM; change x5 = base at eB
  subst eP ew eK eM eB
  exact fun n A outer s H E f c' hr hx => (x_make (W.mkrF 79 rfl) (ok_Bench_init W) (W.glo 80 rfl) hr (by decide) hx (a_cons (x_var 2) a_nil))
theorem clo_b12 {X : Cx} (eP : X.prog = P) (ew : X.w = w) (eK : X.K = K) (eM : X.mg = mg) (eB : X.base = base) : ∀ (n : Addr) (A : Around) (outer : List Env) (s : Shared) (H : Hp) (E : XK) (f c' : Addr), Room 21 (A.deeper (LamX.lamEnv (mkCx X "_law_calls_of.<locals>." (cellsFrom (n + 1) (defScope s__law_calls_of).names []) (defScope s__law_calls_of) psC) (cloC 12).scope s.heap.objs.size f c')) →
      Passes (L2N.CX X.prog X.w) (lamN (mkCx X "_law_calls_of.<locals>." (cellsFrom (n + 1) (defScope s__law_calls_of).names []) (defScope s__law_calls_of) psC) A outer s H E (cloC 12).scope f c') E → PE (lamN (mkCx X "_law_calls_of.<locals>." (cellsFrom (n + 1) (defScope s__law_calls_of).names []) (defScope s__law_calls_of) psC) A outer s H E (cloC 12).scope f c') (cloC 12).body (lf X.K E (RF X.K) mC12) := by
  obtain ⟨x1, x2, x3, x4, x5, x6, x7, x8, x9, x10, x11, x12, x13, x14, x15, x16, x17⟩ := X
  change x1 = P at eP; change x2 = w at ew; change x3 = K at eK; change x4 = mg at eM; change x5 = base at eB
  subst eP ew eK eM eB
  exact fun n A outer s H E f c' hr hx => (x_meth (W.clsF 49 rfl) (W.methF 81 rfl) (okn_Bench_put W) hr (by decide) hx (x_var 1) (a_cons (x_var 2) a_nil))
theorem clo_b13 {X : Cx} (eP : X.prog = P) (ew : X.w = w) (eK : X.K = K) (eM : X.mg = mg) (eB : X.base = base) : ∀ (n : Addr) (A : Around) (outer : List Env) (s : Shared) (H : Hp) (E : XK) (f c' : Addr), Room 21 (A.deeper (LamX.lamEnv (mkCx X "_law_calls_of.<locals>." (cellsFrom (n + 1) (defScope s__law_calls_of).names []) (defScope s__law_calls_of) psC) (cloC 13).scope s.heap.objs.size f c')) →
      Passes (L2N.CX X.prog X.w) (lamN (mkCx X "_law_calls_of.<locals>." (cellsFrom (n + 1) (defScope s__law_calls_of).names []) (defScope s__law_calls_of) psC) A outer s H E (cloC 13).scope f c') E → PE (lamN (mkCx X "_law_calls_of.<locals>." (cellsFrom (n + 1) (defScope s__law_calls_of).names []) (defScope s__law_calls_of) psC) A outer s H E (cloC 13).scope f c') (cloC 13).body (lf X.K E (RF X.K) mC13) := by
  obtain ⟨x1, x2, x3, x4, x5, x6, x7, x8, x9, x10, x11, x12, x13, x14, x15, x16, x17⟩ := X
  change x1 = P at eP; change x2 = w at ew; change x3 = K at eK; change x4 = mg at eM; change x5 = base at eB
  subst eP ew eK eM eB
  exact fun n A outer s H E f c' hr hx => (x_meth (W.clsF 49 rfl) (W.methF 82 rfl) (okn_Bench_strike W) hr (by decide) hx (x_var 1) (a_cons (x_var 2) a_nil))
theorem clo_b14 {X : Cx} (eP : X.prog = P) (ew : X.w = w) (eK : X.K = K) (eM : X.mg = mg) (eB : X.base = base) : ∀ (n : Addr) (A : Around) (outer : List Env) (s : Shared) (H : Hp) (E : XK) (f c' : Addr), Room 21 (A.deeper (LamX.lamEnv (mkCx X "_law_calls_of.<locals>." (cellsFrom (n + 1) (defScope s__law_calls_of).names []) (defScope s__law_calls_of) psC) (cloC 14).scope s.heap.objs.size f c')) →
      Passes (L2N.CX X.prog X.w) (lamN (mkCx X "_law_calls_of.<locals>." (cellsFrom (n + 1) (defScope s__law_calls_of).names []) (defScope s__law_calls_of) psC) A outer s H E (cloC 14).scope f c') E → PE (lamN (mkCx X "_law_calls_of.<locals>." (cellsFrom (n + 1) (defScope s__law_calls_of).names []) (defScope s__law_calls_of) psC) A outer s H E (cloC 14).scope f c') (cloC 14).body (lf X.K E (RF X.K) mC14) := by
  obtain ⟨x1, x2, x3, x4, x5, x6, x7, x8, x9, x10, x11, x12, x13, x14, x15, x16, x17⟩ := X
  change x1 = P at eP; change x2 = w at ew; change x3 = K at eK; change x4 = mg at eM; change x5 = base at eB
  subst eP ew eK eM eB
  exact fun n A outer s H E f c' hr hx => (x_meth (W.clsF 49 rfl) (W.methF 83 rfl) (okn_Bench_squeeze W) hr (by decide) hx (x_var 1) (a_cons (x_var 2) a_nil))
theorem clo_b15 {X : Cx} (eP : X.prog = P) (ew : X.w = w) (eK : X.K = K) (eM : X.mg = mg) (eB : X.base = base) : ∀ (n : Addr) (A : Around) (outer : List Env) (s : Shared) (H : Hp) (E : XK) (f c' : Addr), Room 21 (A.deeper (LamX.lamEnv (mkCx X "_law_calls_of.<locals>." (cellsFrom (n + 1) (defScope s__law_calls_of).names []) (defScope s__law_calls_of) psC) (cloC 15).scope s.heap.objs.size f c')) →
      Passes (L2N.CX X.prog X.w) (lamN (mkCx X "_law_calls_of.<locals>." (cellsFrom (n + 1) (defScope s__law_calls_of).names []) (defScope s__law_calls_of) psC) A outer s H E (cloC 15).scope f c') E → PE (lamN (mkCx X "_law_calls_of.<locals>." (cellsFrom (n + 1) (defScope s__law_calls_of).names []) (defScope s__law_calls_of) psC) A outer s H E (cloC 15).scope f c') (cloC 15).body (lf X.K E (RF X.K) mC15) := by
  obtain ⟨x1, x2, x3, x4, x5, x6, x7, x8, x9, x10, x11, x12, x13, x14, x15, x16, x17⟩ := X
  change x1 = P at eP; change x2 = w at ew; change x3 = K at eK; change x4 = mg at eM; change x5 = base at eB
  subst eP ew eK eM eB
  exact fun n A outer s H E f c' hr hx => (x_fn (ok__law_grown W) hr (by decide) hx (a_cons (x_var 1) (a_cons (x_var 2) a_nil)))
theorem clo_b16 {X : Cx} (eP : X.prog = P) (ew : X.w = w) (eK : X.K = K) (eM : X.mg = mg) (eB : X.base = base) : ∀ (n : Addr) (A : Around) (outer : List Env) (s : Shared) (H : Hp) (E : XK) (f c' : Addr), Room 21 (A.deeper (LamX.lamEnv (mkCx X "_law_calls_of.<locals>." (cellsFrom (n + 1) (defScope s__law_calls_of).names []) (defScope s__law_calls_of) psC) (cloC 16).scope s.heap.objs.size f c')) →
      Passes (L2N.CX X.prog X.w) (lamN (mkCx X "_law_calls_of.<locals>." (cellsFrom (n + 1) (defScope s__law_calls_of).names []) (defScope s__law_calls_of) psC) A outer s H E (cloC 16).scope f c') E → PE (lamN (mkCx X "_law_calls_of.<locals>." (cellsFrom (n + 1) (defScope s__law_calls_of).names []) (defScope s__law_calls_of) psC) A outer s H E (cloC 16).scope f c') (cloC 16).body (lf X.K E (RF X.K) mC16) := by
  obtain ⟨x1, x2, x3, x4, x5, x6, x7, x8, x9, x10, x11, x12, x13, x14, x15, x16, x17⟩ := X
  change x1 = P at eP; change x2 = w at ew; change x3 = K at eK; change x4 = mg at eM; change x5 = base at eB
  subst eP ew eK eM eB
  exact fun n A outer s H E f c' hr hx => (x_ixI (opmB_ok (exAll (WEx W) 19 rfl)) (exAll (WEx W) 20 rfl) (ok_Bench_getitem W) hr (by decide) hx (x_var 1) (x_var 2))
theorem okZ : ∀ z ∈ zsC, CloOk "_law_calls_of.<locals>." (defScope s__law_calls_of) psC z.1 := by
  intro z hz
  simp only [zsC, List.mem_cons, List.not_mem_nil, or_false] at hz
  rcases hz with rfl | rfl | rfl | rfl | rfl | rfl | rfl | rfl | rfl | rfl | rfl | rfl | rfl | rfl | rfl | rfl | rfl
  · exact okC 0 (by decide)
  · exact okC 1 (by decide)
  · exact okC 2 (by decide)
  · exact okC 3 (by decide)
  · exact okC 4 (by decide)
  · exact okC 5 (by decide)
  · exact okC 6 (by decide)
  · exact okC 7 (by decide)
  · exact okC 8 (by decide)
  · exact okC 9 (by decide)
  · exact okC 10 (by decide)
  · exact okC 11 (by decide)
  · exact okC 12 (by decide)
  · exact okC 13 (by decide)
  · exact okC 14 (by decide)
  · exact okC 15 (by decide)
  · exact okC 16 (by decide)
theorem clo_bodies {X : Cx} (eP : X.prog = P) (ew : X.w = w) (eK : X.K = K) (eM : X.mg = mg) (eB : X.base = base) : ∀ z ∈ zsC, ∀ (n : Addr) (A : Around) (outer : List Env) (s : Shared) (H : Hp) (E : XK) (f c' : Addr), Room 21 (A.deeper (LamX.lamEnv (mkCx X "_law_calls_of.<locals>." (cellsFrom (n + 1) (defScope s__law_calls_of).names []) (defScope s__law_calls_of) psC) z.1.scope s.heap.objs.size f c')) →
      Passes (L2N.CX X.prog X.w) (lamN (mkCx X "_law_calls_of.<locals>." (cellsFrom (n + 1) (defScope s__law_calls_of).names []) (defScope s__law_calls_of) psC) A outer s H E z.1.scope f c') E → PE (lamN (mkCx X "_law_calls_of.<locals>." (cellsFrom (n + 1) (defScope s__law_calls_of).names []) (defScope s__law_calls_of) psC) A outer s H E z.1.scope f c') z.1.body (lf X.K E (RF X.K) z.2) := by
  intro z hz
  simp only [zsC, List.mem_cons, List.not_mem_nil, or_false] at hz
  rcases hz with rfl | rfl | rfl | rfl | rfl | rfl | rfl | rfl | rfl | rfl | rfl | rfl | rfl | rfl | rfl | rfl | rfl
  · exact clo_b0 W eP ew eK eM eB
  · exact clo_b1 W eP ew eK eM eB
  · exact clo_b2 W eP ew eK eM eB
  · exact clo_b3 W eP ew eK eM eB
  · exact clo_b4 W eP ew eK eM eB
  · exact clo_b5 W eP ew eK eM eB
  · exact clo_b6 W eP ew eK eM eB
  · exact clo_b7 W eP ew eK eM eB
  · exact clo_b8 W eP ew eK eM eB
  · exact clo_b9 W eP ew eK eM eB
  · exact clo_b10 W eP ew eK eM eB
  · exact clo_b11 W eP ew eK eM eB
  · exact clo_b12 W eP ew eK eM eB
  · exact clo_b13 W eP ew eK eM eB
  · exact clo_b14 W eP ew eK eM eB
  · exact clo_b15 W eP ew eK eM eB
  · exact clo_b16 W eP ew eK eM eB
theorem ok__law_calls_of (TB : ∀ p ∈ tq, LamX.TabB base mg (He.cT K p.1).1 (He.cT K p.1).2) : Ok P w K mg base 2 "_law_calls_of" psC (F__law_calls_of (He.cT K ("_law_calls_of", none)).2) := okc__law_calls_of (W.def_ 78 48 rfl rfl) (TB _ (List.Mem.head _))
theorem okn_Bench_family : ∃ fd, FnOk P w K mg base (L2N.CX P w) 1 (recA "property" "Bench" "family" K) fd ["self"] (SpT K (["self"] : List Str).length F_Bench_family) ∧ L2.Binds K fd ["self"] [] :=
  mk_okn (m := m_Bench_family) (W.y 2 _ rfl rfl) sc_Bench_family (fun _ _ _ _ _ _ us hl => match us, hl with | [_], _ => rfl) (fun cdv A outer s H E b hr => (ss_one (s_ret (x_fld (W.clsF 49 rfl) (W.noatF 53 rfl) (x_var 0))))) (fun ds S Qd Ed hl h => by rw [F_Bench_family_eq] at h; exact h)
theorem okn_Bench_undo : ∃ fd, FnOk P w K mg base (L2N.CX P w) 1 (He.ma K (He.ga K "Bench") "undo") fd ["self"] (SpT K (["self"] : List Str).length F_Bench_undo) ∧ L2.Binds K fd ["self"] [] :=
  mk_okn (m := m_Bench_undo) (W.c.def_ 51 rfl) sc_Bench_undo (fun _ _ _ _ _ _ us hl => match us, hl with | [_], _ => rfl) (fun cdv A outer s H E b hr => (ss_cons (s_if (t_nilM hr (x_fld (W.clsF 49 rfl) (W.noatF 50 rfl) (x_var 0))) (ss_one (s_raise rfl takeB (W.exc 66 84 rfl rfl))) ss_nil) (ss_one (s_fld (W.clsF 49 rfl) (W.noatF 53 rfl) (x_var 0) (x_popM (x_fld (W.clsF 49 rfl) (W.noatF 50 rfl) (x_var 0))))))) (fun ds S Qd Ed hl h => by rw [F_Bench_undo_eq] at h; exact h)
theorem okH_Bench_undo : ∃ fd, L2H.FnH P w K mg base (L2N.CX P w) 1 (He.ma K (He.ga K "Bench") "undo") fd ["self"] (SpT K (["self"] : List Str).length FH_Bench_undo) ∧ L2.Binds K fd ["self"] [] :=
  mk_oknH (m := mH_Bench_undo) (W.c.def_ 51 rfl) sc_Bench_undo (fun _ _ _ _ _ _ us hl => match us, hl with | [_], _ => rfl) (fun cdv A outer s H E p b hot hr => (ss_cons (s_if (t_nilMH hr (x_fld (W.clsF 49 rfl) (W.noatF 50 rfl) (x_var 0))) (ss_one s_never) ss_nil) (ss_one (s_fld (W.clsF 49 rfl) (W.noatF 53 rfl) (x_var 0) (x_popM (x_fld (W.clsF 49 rfl) (W.noatF 50 rfl) (x_var 0))))))) (fun ds S Qd Ed hl h => by rw [FH_Bench_undo_eq] at h; exact h)
theorem ok__law_full_right (TB : ∀ p ∈ tq, LamX.TabB base mg (He.cT K p.1).1 (He.cT K p.1).2) : Ok P w K mg base 17 "_law_full_right" [] (F__law_full_right (He.cT K ("_law_full_right", none)).2) :=
  mk_ok (m := m__law_full_right (He.cT K ("_law_full_right", none)).2) (W.def_ 85 52 rfl rfl) sc__law_full_right (fun _ _ _ _ _ _ us hl => match us, hl with | [], _ => rfl) (fun cdv A outer s H E b hcdv hr => (ss_cons (s_set 0 sc__law_full_right.nd (x_make (W.mkrF 79 rfl) (ok_Bench_init W) (W.glo 80 rfl) hr (by decide) passB (a_cons x_int a_nil))) (ss_cons (s_for ownB rfl (i_rng1 (W.free 86 rfl) (ab_cons (XE.bor x_int) ab_nil)) (pg_name sc__law_full_right.nd (i := 1) rfl (by first | exact .inl rfl | exact .inr rfl)) (tg_name 1) (ss_one (s_drop (x_meth (W.clsF 49 rfl) (W.methF 81 rfl) (okn_Bench_put W) hr (by decide) passB (x_var 0) (a_cons x_str a_nil))))) (ss_cons (s_augI 0 (opmB_ok (exAll (WEx W) 3 rfl)) (ok_Bench_iadd W) hr (by decide) passB sc__law_full_right.nd (x_tup (a_cons x_str (a_cons x_str a_nil)))) (ss_cons (s_setN 2 sc__law_full_right.nd (x_lst (a_cons (x_lamerr (k := 14) (WD__law_error W) (WG__law_error W rfl rfl) (TB _ (List.Mem.tail _ (List.Mem.head _))) hcdv hr (by kernel_rfl) (fun _ _ _ _ _ _ _ hr hx => (x_meth (W.clsF 49 rfl) (W.methF 81 rfl) (okn_Bench_put W) hr (by decide) hx (x_var 0) (a_cons x_str a_nil)))) a_nil))) (ss_cons (s_app 2 (pv 2) (x_lamerr (k := 14) (WD__law_error W) (WG__law_error W rfl rfl) (TB _ (List.Mem.tail _ (List.Mem.head _))) hcdv hr (by kernel_rfl) (fun _ _ _ _ _ _ _ hr hx => (x_meth (W.clsF 49 rfl) (W.methF 81 rfl) (okn_Bench_put W) hr (by decide) hx (x_var 0) (a_cons x_str a_nil))))) (ss_cons (s_app 2 (pv 2) (x_lamerr (k := 14) (WD__law_error W) (WG__law_error W rfl rfl) (TB _ (List.Mem.tail _ (List.Mem.head _))) hcdv hr (by kernel_rfl) (fun _ _ _ _ _ _ _ hr hx => (x_meth (W.clsF 49 rfl) (W.methF 82 rfl) (okn_Bench_strike W) hr (by decide) hx (x_var 0) (a_cons x_str a_nil))))) (ss_cons (s_app 2 (pv 2) (x_lamerr (k := 14) (WD__law_error W) (WG__law_error W rfl rfl) (TB _ (List.Mem.tail _ (List.Mem.head _))) hcdv hr (by kernel_rfl) (fun _ _ _ _ _ _ _ hr hx => (x_meth (W.clsF 49 rfl) (W.methF 83 rfl) (okn_Bench_squeeze W) hr (by decide) hx (x_var 0) (a_cons x_str a_nil))))) (ss_cons (s_app 2 (pv 2) (x_lamerr (k := 14) (WD__law_error W) (WG__law_error W rfl rfl) (TB _ (List.Mem.tail _ (List.Mem.head _))) hcdv hr (by kernel_rfl) (fun _ _ _ _ _ _ _ hr hx => (x_meth (W.clsF 49 rfl) (W.methF 83 rfl) (okn_Bench_squeeze W) hr (by decide) hx (x_var 0) (a_cons x_str a_nil))))) (ss_cons (s_app 2 (pv 2) (x_lamerr (k := 14) (WD__law_error W) (WG__law_error W rfl rfl) (TB _ (List.Mem.tail _ (List.Mem.head _))) hcdv hr (by kernel_rfl) (fun _ _ _ _ _ _ _ hr hx => (x_fn (ok__law_grown W) hr (by decide) hx (a_cons (x_var 0) (a_cons (x_tup a_nil) a_nil)))))) (ss_cons (s_app 2 (pv 2) (x_lamerr (k := 14) (WD__law_error W) (WG__law_error W rfl rfl) (TB _ (List.Mem.tail _ (List.Mem.head _))) hcdv hr (by kernel_rfl) (fun _ _ _ _ _ _ _ hr hx => (x_fn (ok__law_grown W) hr (by decide) hx (a_cons (x_var 0) (a_cons (x_tup (a_cons x_str a_nil)) a_nil)))))) (ss_cons (s_set 3 sc__law_full_right.nd (XN.stay (x_lst (a_cons x_str (a_cons x_str (a_cons x_str (a_cons x_str (a_cons x_str (a_cons x_str (a_cons x_str a_nil)))))))))) (ss_cons (s_if (t_ne hr (x_varB 2) (XN.bor (x_lc [("_law_word", 5)] rfl sc__law_full_right.nd (i_lst (x_var 3)) (by kernel_rfl) (tg_name 5) (by decide) (fun _ _ _ _ _ => (pg_name sc__law_full_right.nd (i := 5) rfl (by first | exact .inl rfl | exact .inr rfl))) (fun _ _ _ _ _ => ts_nil) (fun _ _ _ _ _ => (x_add (XE.bor (x_var 5)) (XE.bor x_str)))))) (ss_one (s_ret x_bl)) ss_nil) (ss_cons (s_if (XW.t (w_or (t_ne hr (XE.bor (x_prop (W.clsF 49 rfl) (propB_ok (exAll (WEx W) 22 rfl)) (okn_Bench_family W) rfl hr (by decide) (x_var 0))) (XE.bor (x_tup (a_cons x_str (a_cons x_str a_nil))))) (w_or1 (t_ne hr (XE.bor (x_lenI (opmB_ok (exAll (WEx W) 23 rfl)) (ok_Bench_len W) hr (by decide) passB (W.free 36 rfl) (x_var 0))) (XE.bor x_int))))) (ss_one (s_ret x_bl)) ss_nil) (ss_cons (s_tryLim (i := 4) rfl rfl sc__law_full_right.nd rfl rfl ⟨rfl, by decide, .inl (W.glo 67 rfl)⟩ takeB (xfB_ok (K := K) (exAll (WEx W) 24 rfl)) (W.noatF 0 rfl) (of_decide_eq_true (exAll (WEx W) 25 rfl)) (fun W2 pn xe tk2 => x_methW (W.clsF 49 rfl) (W.methF 81 rfl) (okn_Bench_put W) hr (by decide) tk2 (fun E => (x_var 0)) (fun E => (a_cons x_str a_nil))) (fun a oe pn hot => (t_notN (XE.bor (x_methH0 (k := 0) (W.clsF 49 rfl) (W.methF 87 rfl) (okH_Bench_undo W) ((L2H.roomH_mark hr _).mono (by decide)) ⟨_, hot, List.mem_cons_self⟩ pass_no (x_var 0))) (XE.bor x_non))) (by decide) (by decide)) (ss_one (s_ret (x_and (x_eq hr (XE.bor (x_lenI (opmB_ok (exAll (WEx W) 23 rfl)) (ok_Bench_len W) hr (by decide) passB (W.free 36 rfl) (x_var 0))) (XE.bor x_int)) (x_one (x_eq hr (XE.bor (x_prop (W.clsF 49 rfl) (propB_ok (exAll (WEx W) 22 rfl)) (okn_Bench_family W) rfl hr (by decide) (x_var 0))) (XE.bor (x_tup (a_cons x_str a_nil))))))))))))))))))))))) (fun ds S Qd Ed hl h => by rw [F__law_full_right_eq] at h; exact h)
theorem okn_Family_source : ∃ fd, FnOk P w K mg base (L2N.CX P w) 1 (recA "property" "Family" "source" K) fd ["self"] (SpT K (["self"] : List Str).length F_Family_source) ∧ L2.Binds K fd ["self"] [] :=
  mk_okn (m := m_Family_source) (W.y 3 _ rfl rfl) sc_Family_source (fun _ _ _ _ _ _ us hl => match us, hl with | [_], _ => rfl) (fun cdv A outer s H E b hr => (ss_one (s_ret (x_ix (XE.bor (x_fld (W.clsF 47 rfl) (W.noatF 48 rfl) (x_var 0))) (XE.bor x_int))))) (fun ds S Qd Ed hl h => by rw [F_Family_source_eq] at h; exact h)
theorem ok_law (TB : ∀ p ∈ tq, LamX.TabB base mg (He.cT K p.1).1 (He.cT K p.1).2) : Ok P w K mg base 24 "law" ["_law_script"] (F_law (He.cT K ("_law_calls_of", none)).2 (He.cT K ("_law_full_right", none)).2 (He.cT K ("law", none)).2) :=
  mk_ok (m := m_law (He.cT K ("_law_calls_of", none)).2 (He.cT K ("_law_full_right", none)).2 (He.cT K ("law", none)).2) (W.def_ 88 53 rfl rfl) sc_law (fun _ _ _ _ _ _ us hl => match us, hl with | [_], _ => rfl) (fun cdv A outer s H E b hcdv hr => (ss_cons (s_for ownB rfl (i_rng1 (W.free 86 rfl) (ab_cons (XE.bor (x_add (XE.bor x_int) (XE.bor (x_callB back_F (call_min2 rfl) s_min2 (W.free 89 rfl) bb_min (ab_cons (XE.bor (x_callB back_F call_len s_len (W.free 36 rfl) bb_len (ab_cons (XE.bor (x_var 0)) ab_nil))) (ab_cons (XE.bor x_int) ab_nil)))))) ab_nil)) (pg_name sc_law.nd (i := 1) rfl (by first | exact .inl rfl | exact .inr rfl)) (tg_name 1) (ss_cons (s_set 2 sc_law.nd (x_fn (ok__law_source W) hr (by decide) passB (a_cons (x_var 0) (a_cons (x_var 1) a_nil)))) (ss_cons (s_set 3 sc_law.nd (XN.stay (x_lst (a_cons x_non (a_cons x_bl (a_cons x_str (a_cons x_neg0 (a_cons x_int (a_cons (XN.stay (x_lst (a_cons x_str a_nil))) (a_cons (x_tup (a_cons x_str a_nil)) (a_cons (x_tup (a_cons x_str (a_cons x_str a_nil))) (a_cons (x_tup (a_cons x_int a_nil)) (a_cons x_str (a_cons (x_tup (a_cons x_str (a_cons x_non a_nil))) (a_cons (x_tup (a_cons x_int a_nil)) a_nil))))))))))))))) (ss_cons (s_set 4 sc_law.nd (x_fn (ok__law_of W) hr (by decide) passB (a_cons (x_var 2) (a_cons (x_var 3) a_nil)))) (ss_cons (s_asg (x_tup (a_cons (x_make (W.mkrF 77 rfl) (ok_Family_init W) (W.glo 74 rfl) hr (by decide) passB (a_cons x_int (a_cons x_str (a_cons x_str a_nil)))) (a_cons (x_make (W.mkrF 79 rfl) (ok_Bench_init W) (W.glo 80 rfl) hr (by decide) passB (a_cons x_int a_nil)) a_nil))) (pg_tup rfl (pgs_cons (pg_name sc_law.nd (i := 5) rfl (by first | exact .inl rfl | exact .inr rfl)) (pgs_cons (pg_name sc_law.nd (i := 6) rfl (by first | exact .inl rfl | exact .inr rfl)) pgs_nil))) (tg_two 5 6) (hw := swap_cell rfl)) (ss_cons (s_drop (x_meth (W.clsF 49 rfl) (W.methF 81 rfl) (okn_Bench_put W) hr (by decide) passB (x_var 6) (a_cons x_str a_nil))) (ss_cons (s_for ownB rfl (i_lst (x_fn (ok__law_calls_of W TB) hr (by decide) passB (a_cons (x_var 5) (a_cons (x_var 6) (a_cons (x_var 4) a_nil))))) (pg_tup rfl (pgs_cons (pg_name sc_law.nd (i := 7) rfl (by first | exact .inl rfl | exact .inr rfl)) (pgs_cons (pg_name sc_law.nd (i := 8) rfl (by first | exact .inl rfl | exact .inr rfl)) pgs_nil))) (tg_two 7 8) (ss_cons (s_if (t_ne hr (XE.bor (x_cloerr (k := 21) (Zs := zsC) (WD__law_error W) (WG__law_error W rfl rfl) hr (x_var 8) (okZ W) injC (clo_bodies W rfl rfl rfl rfl rfl))) (XE.bor (x_add (XE.bor (x_var 7)) (XE.bor x_str)))) (ss_one (s_ret x_bl)) ss_nil) (ss_one (s_if (XW.t (w_or (t_ne hr (XE.bor (x_prop (W.clsF 47 rfl) (propB_ok (exAll (WEx W) 26 rfl)) (okn_Family_source W) rfl hr (by decide) (x_var 5))) (XE.bor (x_tup (a_cons x_str (a_cons x_str a_nil))))) (w_or (t_ne hr (XE.bor (x_prop (W.clsF 49 rfl) (propB_ok (exAll (WEx W) 22 rfl)) (okn_Bench_family W) rfl hr (by decide) (x_var 6))) (XE.bor (x_tup (a_cons x_str a_nil)))) (w_or1 (t_ne hr (XE.bor (x_lenI (opmB_ok (exAll (WEx W) 23 rfl)) (ok_Bench_len W) hr (by decide) passB (W.free 36 rfl) (x_var 6))) (XE.bor x_int)))))) (ss_one (s_ret x_bl)) ss_nil)))) (ss_cons (s_setN 9 sc_law.nd (x_lst (a_cons (x_lamerr (k := 21) (WD__law_error W) (WG__law_error W rfl rfl) (TB _ (List.Mem.tail _ (List.Mem.tail _ (List.Mem.head _)))) hcdv hr (by kernel_rfl) (fun _ _ _ _ _ _ _ hr hx => (x_binR (op := .BitXor) (opmB_ok (exAll (WEx W) 14 rfl)) (exAll (WEx W) 15 rfl) (ok_Family_xor W) hr (by decide) hx (x_var 5) x_str))) a_nil))) (ss_cons (s_app 9 (pv 9) (x_lamerr (k := 21) (WD__law_error W) (WG__law_error W rfl rfl) (TB _ (List.Mem.tail _ (List.Mem.tail _ (List.Mem.head _)))) hcdv hr (by kernel_rfl) (fun _ _ _ _ _ _ _ hr hx => (x_binR (op := .BitOr) (opmB_ok (exAll (WEx W) 6 rfl)) (exAll (WEx W) 7 rfl) (ok_Family_or W) hr (by decide) hx (x_var 5) (x_make (W.mkrF 77 rfl) (ok_Family_init W) (W.glo 74 rfl) hr (by decide) hx (a_cons x_int a_nil)))))) (ss_cons (s_app 9 (pv 9) (x_lamerr (k := 21) (WD__law_error W) (WG__law_error W rfl rfl) (TB _ (List.Mem.tail _ (List.Mem.tail _ (List.Mem.head _)))) hcdv hr (by kernel_rfl) (fun _ _ _ _ _ _ _ hr hx => (x_make (W.mkrF 77 rfl) (ok_Family_init W) (W.glo 74 rfl) hr (by decide) hx (a_cons x_int (a_cons x_str (a_cons x_str a_nil))))))) (ss_cons (s_app 9 (pv 9) (x_lamerr (k := 21) (WD__law_error W) (WG__law_error W rfl rfl) (TB _ (List.Mem.tail _ (List.Mem.tail _ (List.Mem.head _)))) hcdv hr (by kernel_rfl) (fun _ _ _ _ _ _ _ hr hx => (x_make (W.mkrF 77 rfl) (ok_Family_init W) (W.glo 74 rfl) hr (by decide) hx (a_cons x_int (a_cons x_str a_nil)))))) (ss_cons (s_app 9 (pv 9) (x_lamerr (k := 21) (WD__law_error W) (WG__law_error W rfl rfl) (TB _ (List.Mem.tail _ (List.Mem.tail _ (List.Mem.head _)))) hcdv hr (by kernel_rfl) (fun _ _ _ _ _ _ _ hr hx => (x_meth0 (W.clsF 49 rfl) (W.methF 87 rfl) (okn_Bench_undo W) hr (by decide) hx (x_var 6))))) (ss_cons (s_app 9 (pv 9) (x_lamerr (k := 21) (WD__law_error W) (WG__law_error W rfl rfl) (TB _ (List.Mem.tail _ (List.Mem.tail _ (List.Mem.head _)))) hcdv hr (by kernel_rfl) (fun _ _ _ _ _ _ _ hr hx => (x_meth0 (W.clsF 49 rfl) (W.methF 87 rfl) (okn_Bench_undo W) hr (by decide) hx (x_var 6))))) (ss_cons (s_app 9 (pv 9) (x_lamerr (k := 21) (WD__law_error W) (WG__law_error W rfl rfl) (TB _ (List.Mem.tail _ (List.Mem.tail _ (List.Mem.head _)))) hcdv hr (by kernel_rfl) (fun _ _ _ _ _ _ _ hr hx => (x_fn (ok__law_grown W) hr (by decide) hx (a_cons (x_var 6) (a_cons (x_repT (XE.bor (x_tup (a_cons x_str a_nil))) (XE.bor x_int)) a_nil)))))) (ss_cons (s_app 9 (pv 9) (x_lamerr (k := 21) (WD__law_error W) (WG__law_error W rfl rfl) (TB _ (List.Mem.tail _ (List.Mem.tail _ (List.Mem.head _)))) hcdv hr (by kernel_rfl) (fun _ _ _ _ _ _ _ hr hx => (x_fn (ok__law_grown W) hr (by decide) hx (a_cons (x_var 6) (a_cons (x_repT (XE.bor (x_tup (a_cons x_str (a_cons x_str a_nil)))) (XE.bor x_int)) a_nil)))))) (ss_cons (s_set 10 sc_law.nd (XN.stay (x_lst (a_cons x_str (a_cons x_str (a_cons x_str (a_cons x_str (a_cons x_str (a_cons x_str (a_cons x_str (a_cons x_str a_nil))))))))))) (ss_cons (s_if (t_ne hr (x_varB 9) (XN.bor (x_lc [("_law_word", 7)] rfl sc_law.nd (i_lst (x_var 10)) (by kernel_rfl) (tg_name 7) (by decide) (fun _ _ _ _ _ => (pg_name sc_law.nd (i := 7) rfl (by first | exact .inl rfl | exact .inr rfl))) (fun _ _ _ _ _ => ts_nil) (fun _ _ _ _ _ => (x_ife (t_ne hr (XE.bor (x_var 7)) (XE.bor x_str)) (x_add (XE.bor (x_var 7)) (XE.bor x_str)) x_str))))) (ss_one (s_ret x_bl)) ss_nil) (ss_cons (s_if (t_ne hr (XE.bor (x_prop (W.clsF 49 rfl) (propB_ok (exAll (WEx W) 22 rfl)) (okn_Bench_family W) rfl hr (by decide) (x_var 6))) (XE.bor (x_tup (a_cons x_str (a_cons x_str a_nil))))) (ss_one (s_ret x_bl)) ss_nil) (ss_one (s_if (XW.t (w_and (t_eq hr (XE.bor (x_var 1)) (XE.bor x_int)) (w_and1 (t_not (t_val (XE.bor (x_fn0 (ok__law_full_right W TB) hr (by decide) passB))))))) (ss_one (s_ret x_bl)) ss_nil)))))))))))))))))))) (ss_one (s_ret x_bl)))) (fun ds S Qd Ed hl h => by rw [F_law_eq] at h; exact h)
end
/-! ### the head -/
theorem run (w : World) : HandSHeadRun.RunEq Rw (PySem.W.view Rw.prog [56]) hk ob 9000 ((["_wall", "MeetError", "InvalidFamily", "InvalidLetters", "InvalidSet", "InvalidLetter", "InvalidWeights", "InvalidClaim", "InvalidKinds", "InvalidWord", "InvalidNumber", "InvalidFacts", "InvalidText", "Unlike", "NothingToUndo", "TooMany", "LETTERS", "is_number", "is_good_set", "is_good_family"] : List Str) ++ (["need_letters", "need_family", "need_set", "joined", "met", "less", "is_in", "every_set", "joins_of", "meets_of", "differences_of", "is_closed_down", "need_letter", "squeezed_by", "picks", "word_of", "text_of", "family_in", "exchanged", "Family"] : List Str) ++ (["CALLS", "Bench", "_law_source", "_law_draw", "_law_of", "_law_error", "_law_turned", "_law_grown", "_law_calls_of", "_law_full_right"] : List Str)) w :=
  run_join (r0 w) (r1 w) fun os s hs => ⟨(f0 w).at_ hs, (d0 w).at_ hs, lookE_and' (Prod.mk.inj ((z w).at_ hs)).1 (lookE_all (lookE_all (lookE_all ((e0 w).at_ hs) ((e1 w).at_ hs)) ((e2 w).at_ hs)) ((e3 w).at_ hs)), (Prod.mk.inj ((z w).at_ hs)).2⟩

theorem cw_holds (data : ∀ (K : PySem.W.Frag) (ns : List Int), ex K = true → ns.length ≤ 63 → (∀ z ∈ ns, Builtin.Int.intBits z ≤ 1048576) → (F_law (He.cT K ("_law_calls_of", none)).2 (He.cT K ("_law_full_right", none)).2 (He.cT K ("law", none)).2) [.frz (ns.map D.int)] (S0 K tq) (fun d _ => d = .bl true) fun _ _ => False) : PySem.Challenge.rw_evenlymet_k17_errors_of_families_and_ben.Holds := by
  w_on; o_law
  refine HandSHeadRun.head_any (r := Rw) (q := PySem.W.view Rw.prog [56]) (H := hk) (ob := ob) (M := 9000) (loose := ((["_wall", "MeetError", "InvalidFamily", "InvalidLetters", "InvalidSet", "InvalidLetter", "InvalidWeights", "InvalidClaim", "InvalidKinds", "InvalidWord", "InvalidNumber", "InvalidFacts", "InvalidText", "Unlike", "NothingToUndo", "TooMany", "LETTERS", "is_number", "is_good_set", "is_good_family"] : List Str) ++ (["need_letters", "need_family", "need_set", "joined", "met", "less", "is_in", "every_set", "joins_of", "meets_of", "differences_of", "is_closed_down", "need_letter", "squeezed_by", "picks", "word_of", "text_of", "family_in", "exchanged", "Family"] : List Str) ++ (["CALLS", "Bench", "_law_source", "_law_draw", "_law_of", "_law_error", "_law_turned", "_law_grown", "_law_calls_of", "_law_full_right"] : List Str))) (d := HandSHeadRun.topDef Rw.prog 56) (kwd := []) ob_eq
    (by kernel_rfl) (fun s => by kernel_rfl) run (by kernel_rfl) (by kernel_rfl) (by kernel_rfl) (by rfl) (by first | assumption | decide +kernel) (by decide +kernel) ⟨rfl, rfl, rfl, rfl, rfl, by decide +kernel⟩ ?hw ?hc
  case hw => w_witness2
  case hc =>
    refine law_endY (l := PySem.Challenge.rw_evenlymet_k17_errors_of_families_and_ben) (n := 63) (k := 24) (N := 7) (x := "_law_script") (lawN := "law") (fa := fa) (fn := fn) (ts := []) (tq := tq) (ex := ex) (fy := fy) (F := fun K => F_law (He.cT K ("_law_calls_of", none)).2 (He.cT K ("_law_full_right", none)).2 (He.cT K ("law", none)).2) rfl (by decide) (by kernel_rfl) ⟨rfl, by decide, by decide⟩ (by kernel_rfl) (fun w K mg h KX G c => ?_) (fun K h => ?_) data
    · have W : HdP (PySem.Challenge.rw_evenlymet_k17_errors_of_families_and_ben).prog "/claim/cut.py" fa fn ex fy K mg := ⟨⟨⟨⟨h, KX, G⟩, c.x.t.d, c.x.more⟩, fun i d e hc => c.def_ i e hc, fun i d e hc => c.defS i e hc⟩, by kernel_rfl, by kernel_rfl⟩
      obtain ⟨fd, F⟩ := W.c.def_ 53 (d := ⟨("law", none), "law", "law", defArgs s_law, defBody s_law, defScope s_law, [], []⟩) rfl
      have b := FunD.bindsA (ps := ["_law_script"]) F fun _ _ _ _ _ _ us hl => match us, hl with | [_], _ => rfl
      refine ⟨⟨fd, fun s v => b s [v] rfl, ?_⟩, W.glo 88 rfl, fun base h1 h2 h3 => ok_law W h3⟩
      obtain ⟨oc, od, dV, kV, doc, pm, an, cdv, ct, osl, rfl, lk, _⟩ := F.ex
      exact ⟨_, _, _, lk⟩
    · exact of_decide_eq_true (exAll (l := exl) (Bool.and_eq_true_iff.mp h).2 29 rfl)
end Em


theorem PySem.Challenge.cw_evenlymet_k17_errors_of_families_and_ben_holds : PySem.Challenge.rw_evenlymet_k17_errors_of_families_and_ben.Holds := by
  exact Em.cw_holds fun K ns h hl hb => Em.data_ok0 K ns (of_decide_eq_true (DL.exAll (l := Em.exl) (Bool.and_eq_true_iff.mp h).2 29 rfl)) hl hb

