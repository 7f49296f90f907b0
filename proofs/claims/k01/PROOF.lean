import PyProof.Rows.All
import Wide.All
import OpenK.AllK
import Wide.FinOn
import KE.KExcPX
import KE.KExcSuper
import KE.KExcMake
import KE.KSuper
import KE.KIsAll
import KE.KTryMore
import KE.KExcIs
import HandS.Codes
import HandS.Head0
import HandS.Head1
import HandS.Head2
import HandS.HeadHook1
import HandS.HeadHook2
import PySem.Challenge.RW_shapelore_k01_constants_and_errors
import HandS.ForMost
import HandS.Walk
import HandS.TupAny
import HandS.TupMul
import HandS.Deep
import HandS.Wide
import HandS.Star
import HandS.Style
import HandS.IsInst
import HandS.Zip
import KE.SortData
import HandS.Sort
import KE.GoesMore
import PyProof.EnumMake
import HandS.ExcInit
import HandS.ExcSuper
import HandS.ExcField
import HandS.ExcIs
import HandS.Flt
import HandS.Conv
import HandS.TupLen
import HandS.WordsDict
import HandS.DictTup
import KE.KDictKeyed
import KE.KDictDisplayH
import HandS.NoneIn
import HandS.Ends
set_option Elab.async false
set_option linter.all false
set_option autoImplicit false
set_option maxRecDepth 100000
set_option maxHeartbeats 4000000
namespace Exn
open PySem PySem.W PyProof.Rows
open Builtin
open ObjectAttr
/-- a look at such an __init__'s scope -/
def iniS (par : Str) (sc : Scope) : Bool :=
  decide (sc.kind = .function) && !sc.isCoroutine && !sc.isGenerator && sc.names.all (fun y => !decide (y.2 = .cell)) && decide (sc.names.lookup ("super" : Str) = some .globalImplicit) && decide (sc.names.lookup ("__class__" : Str) = some .free) &&
    decide (sc.names.lookup ("self" : Str) = some .local) && decide (sc.names.lookup par = some .local) && !decide (par = "self") && !(par == ("__debug__" : Str))
end Exn
namespace Ev
open PySem L2 PyProof.Rows Exn
open C8 (Def Fun fnArgs fnBody fnScope)
def bltNames : List Str := ["len", "sum", "max", "min", "all", "any", "tuple", "list", "sorted", "abs", "int", "divmod", "str", "bool", "dict", "isinstance", "repr", "range", "enumerate", "zip"]
def notLst (o : Obj) : Bool := match o.data with
  | .seq .. => (match o.cls with | .type n => !(n == "list") | _ => true)
  | _ => true
inductive Bk where
  | val | look | arith
def Bk.B : Bk → String
  | .val => "ValueError"
  | .look => "LookupError"
  | .arith => "ArithmeticError"
def Bk.nw : Bk → String
  | .val => "ValueError.__new__"
  | .look => "LookupError.__new__"
  | .arith => "ArithmeticError.__new__"
def Bk.i : Bk → String
  | .val => "ValueError.__init__"
  | .look => "LookupError.__init__"
  | .arith => "ArithmeticError.__init__"
def Bk.bm (b : Bk) : List Value := [.type b.B, .type "Exception", .type "BaseException", .type "object"]
def iniBody (par fld : Str) : List Stmt → Bool
  | [.Expr (.Call (.Attribute (.Call (.Name s0 _) [] [] _) m p2) [.Name x _] [] p4) _, .Assign [.Attribute (.Name s1 _) f _] (.Name y _) _] =>
    decide (s0 = "super") && (decide (m = "__init__") && (decide (x = par) && (decide (s1 = "self") && (decide (f = fld) && (decide (y = par) && (p2.endLine == p4.line))))))
  | _ => false
def iniArgs (par : Str) : Arguments → Bool
  | ⟨[], [⟨a, _, _⟩, ⟨b, _, _⟩], none, [], [], none, []⟩ => decide (a = "self") && decide (b = par)
  | _ => false
def parOk (par : Str) : Bool := decide (par = "given") || (decide (par = "index") || decide (par = "limit"))
def fileC (P : Program) (K : PySem.W.Frag) (cda : Addr) : Bool := match K.lookup cda with
  | some ⟨_, _, .fields vs, _⟩ => (match (vs[2]? : Option Value) with
    | some (Value.str f _) => ((P.main.file : Str) == f)
    | _ => false)
  | _ => false
def cellC (K : PySem.W.Frag) (C cc : Addr) : Bool := match K.lookup cc with
  | some ⟨_, _, .cell (some (.ref D)), _⟩ => decide (D = C)
  | _ => false
def bodyC (par fld : Str) : FuncBody → Bool
  | .stmts b => iniBody par fld b
  | _ => false
def closC (K : PySem.W.Frag) (C : Addr) : List (Str × Addr) → Bool
  | [(x, cc)] => decide (x = "__class__") && cellC K C cc
  | _ => false
def codeC (P : Program) (K : PySem.W.Frag) (q : Str) : Value → Bool
  | .ref cda => PySem.W.codeIn K (.ref cda) q && fileC P K cda
  | _ => false
def iniC (P : Program) (K : PySem.W.Frag) (C fI : Addr) (par fld : Str) : Bool := match K.lookup fI with
  | some ⟨_, _, .func fd, _⟩ => decide (fd.name = "__init__") && (decide (fd.globals = mainGlobals) && (decide (fd.builtins = builtinsNs) && (decide (fd.defaults = .none) && (iniArgs par fd.params && (bodyC par fld fd.body && (iniS par fd.scope && (closC K C fd.closure && codeC P K fd.qualname fd.code)))))))
  | _ => false
structure Xm where
  name : Str
  C : Nat
  par : Str
  fld : Str
  fI : Nat
  b : Bk
def mkC (P : Program) (K : PySem.W.Frag) (m : Xm) : Bool :=
  decide (PySem.W.nsIn K mainGlobals m.name = some (some (.ref m.C))) && (PySem.W.excInitIn K m.C m.b.bm m.b.nw && (PySem.W.excOver K m.C m.b.bm && (decide (PySem.W.takerIn K m.C m.fld = some none) && (PySem.W.hasDictIn K m.C &&
    (decide (PySem.W.findIn K (.ref m.C) "__setattr__" = some (some (.builtin "object.__setattr__"))) && (decide (PySem.W.subIn K (.ref m.C) (.type m.b.B) = some true) && (decide (PySem.W.ks_superIn K m.C m.C "__init__" = some (some (.builtin m.b.i))) &&
    (decide (PySem.W.mroIn K m.C (.ref m.C) = some true) && (PySem.W.keepIn K (.ref m.C) && (decide (PySem.W.findIn K (.ref m.C) "__init__" = some (some (.ref m.fI))) && (decide (PySem.W.typeIn K (.ref m.fI) = some (.type "function")) && (parOk m.par && iniC P K m.C m.fI m.par m.fld))))))))))))
structure Xz where
  name : Str
  C : Nat
  b : Bk
def mk0C (K : PySem.W.Frag) (m : Xz) : Bool :=
  decide (PySem.W.nsIn K mainGlobals m.name = some (some (.ref m.C))) && (PySem.W.excInitIn K m.C m.b.bm m.b.nw && (PySem.W.keepIn K (.ref m.C) && decide (PySem.W.findIn K (.ref m.C) "__init__" = some (some (.builtin m.b.i)))))
def excC (K : PySem.W.Frag) (D : Nat) : Bool :=
  decide (PySem.W.findIn K (.ref D) "__getattribute__" = some (some (.builtin "BaseException.__getattribute__"))) && (decide (PySem.W.findIn K (.ref D) "__getattr__" = some none) && (decide (PySem.W.subIn K (.ref D) (.type "BaseException") = some true) &&
    (PySem.W.hasDictIn K D && (decide (PySem.W.findIn K (.ref D) "__class__" = some (some (.builtin "object.__class__"))) && (decide (PySem.W.specialIn K (.builtin "object.__class__") "__get__" = some (some (.builtin "getset_descriptor.__get__"))) &&
    (decide (PySem.W.takesIn K (.builtin "object.__class__") = some true) && decide (PySem.W.mroIn K D (.type "object") = some true)))))))
/-- a name asked of isinstance: an own class, or a class of Python's own -/
structure Xi where
  x : Str
  own : Option Nat
  b : Bk
  yes : List Nat
  no : List Nat
def Xi.cv (m : Xi) : Value := match m.own with
  | some k => .ref k
  | none => .type m.b.B
def bkName (b : Bk) : Str := match b with
  | .val => "ValueError"
  | .look => "LookupError"
  | .arith => "ArithmeticError"
def nameC (K : PySem.W.Frag) (m : Xi) : Bool := match m.own with
  | some k => decide (PySem.W.nsIn K mainGlobals m.x = some (some (.ref k)))
  | none => decide (m.x = bkName m.b) && decide (PySem.W.nsIn K mainGlobals m.x = some none)
def saysC (K : PySem.W.Frag) (cv : Value) (b : Bool) (c : Nat) : Bool := match PySem.W.kitOne K (.ref c) cv with
  | some a => a == b
  | none => false
def isxC (K : PySem.W.Frag) (all : List Nat) (m : Xi) : Bool := nameC K m && (m.yes.all (fun c => all.contains c && saysC K m.cv true c) && m.no.all (fun c => all.contains c && saysC K m.cv false c))
def xatC (K : PySem.W.Frag) (all : List Nat) (p : Str × List Nat) : Bool := p.2.all fun c => all.contains c && decide (PySem.W.findIn K (.ref c) p.1 = some none)
structure Xl where
  ms : List Xm
  zs : List Xz
  qs : List Xi
  fs : List (Str × List Nat)
  all : List Nat
/-- not a list, not a table of code objects -/
def stillO (o : Obj) : Bool := notLst o && (match o with
  | ⟨.none, _, .fields _, _⟩ => false
  | _ => true)
def asX (g : Addr → Option Obj) (n : Nat) : List Addr := (He.asD g n ++ [cStatics]).filter fun a => match g a with
  | some o => stillO o
  | none => false
abbrev AlX : Type := Bool × List He.FnW
def obsX (ck : PySem.W.Frag → Bool) (fn : List He.DefD) (K : PySem.W.Frag) : AlX := (ck K && fn.all fun d => d.ok K, fn.map fun d => He.fnW K d.at_)
def valX (fn : List He.DefD) : AlX := (true, fn.map He.DefD.val)
def SaysX (ck : PySem.W.Frag → Bool) (fn : List He.DefD) (K : PySem.W.Frag) : Prop := obsX ck fn K = valX fn
def obsXG (n : Nat) (ck : PySem.W.Frag → Bool) (fn : List He.DefD) (g : Addr → Option Obj) : AlX := obsX ck fn (He.frG g (asX g n))
theorem still_all {g : Addr → Option Obj} {n : Nat} : ((He.frG g (asX g n)).all fun p => stillO p.2) = true := by
  rw [List.all_eq_true]
  rintro ⟨a, o⟩ hm
  unfold He.frG at hm
  obtain ⟨b, hb, e⟩ := List.mem_filterMap.mp hm
  unfold asX at hb
  have h2 := (List.mem_filter.mp hb).2
  cases q : g b with
  | none => rw [q] at e; cases e
  | some u =>
    rw [q] at e h2
    cases e
    exact h2
def hookX (n : Nat) (ck : PySem.W.Frag → Bool) (fn : List He.DefD) : PySem.W.Hook where
  α := AlX
  obs := fun s => obsXG n ck fn s.heap.get?
  val := fun _ => valX fn
  says := fun _ h => ∃ K : PySem.W.Frag, K.In h ∧ (K.all fun p => stillO p.2) = true ∧ SaysX ck fn K
  of := fun _ _ e => ⟨_, He.frG_in, still_all, e⟩
  keeps := fun _ _ _ ⟨K, hK, c⟩ k => ⟨K, PySem.W.Frag.In.keeps hK k, c⟩
theorem obsXG_eq {n : Nat} {ck : PySem.W.Frag → Bool} {fn : List He.DefD} {g : Addr → Option Obj} {s : Shared} (h : ∀ a, g a = s.heap.get? a) : obsXG n ck fn g = (hookX n ck fn).obs s := by
  have e : g = s.heap.get? := funext h
  rw [e] <;> rfl
/-- a def of the top -/
def topD (x : Str) (st : Stmt) : He.DefD := ⟨(x, none), x, x, fnArgs st, fnBody st, fnScope st, [], []⟩
/-- what every law asks: its defs' names, constants, Python's own names -/
def ckL (names : List Str) (nis : List (Str × Int)) (nss : List (Str × Str)) (K : PySem.W.Frag) : Bool :=
  (names.all fun x => (He.Fa.glo x).ok K) && ((nis.all fun p => (He.Fa.int p.1 p.2).ok K) && ((nss.all fun p => (He.Fa.str p.1 p.2).ok K) && bltNames.all fun x => (He.Fa.free x).ok K))
/-- own exceptions, asked too -/
def ckX (P : Program) (xl : Xl) (K : PySem.W.Frag) : Bool :=
  decide (PySem.W.nsIn K mainGlobals "super" = some none) && (decide (PySem.W.nsIn K cStatics "thirdparty.any" = some none) && (xl.ms.all (mkC P K) && (xl.zs.all (mk0C K) && (xl.all.all (excC K) && (xl.qs.all (isxC K xl.all) && xl.fs.all (xatC K xl.all))))))
end Ev

set_option Elab.async false
set_option linter.all false
set_option maxRecDepth 100000
set_option maxHeartbeats 0
namespace K01
open PySem L2 Ev
open C8 (fnBody fnScope scC)
def top (i : Nat) : Stmt := PySem.Challenge.pw_shapelore_k01_constants_and_errors.main.body.getD i (.Pass ⟨0, 0, 0, 0⟩)
def xl : Xl := { ms := [⟨"InvalidRow", 130, "given", "given", 127, .val⟩, ⟨"InvalidRows", 109, "given", "given", 106, .val⟩, ⟨"InvalidShape", 88, "given", "given", 85, .val⟩, ⟨"InvalidLetter", 67, "given", "given", 64, .val⟩, ⟨"InvalidWord", 46, "given", "given", 43, .val⟩, ⟨"InvalidPlace", 214, "given", "given", 211, .val⟩, ⟨"InvalidArray", 193, "given", "given", 190, .val⟩, ⟨"InvalidPair", 172, "given", "given", 169, .val⟩, ⟨"InvalidHoles", 151, "given", "given", 148, .val⟩, ⟨"InvalidBasis", 298, "given", "given", 295, .val⟩, ⟨"InvalidGrowth", 277, "given", "given", 274, .val⟩, ⟨"InvalidAmounts", 256, "given", "given", 253, .val⟩, ⟨"InvalidNumber", 235, "given", "given", 232, .val⟩, ⟨"InvalidText", 403, "given", "given", 400, .val⟩, ⟨"InvalidHidden", 382, "given", "given", 379, .val⟩, ⟨"InvalidHive", 340, "given", "given", 337, .val⟩, ⟨"InvalidTerms", 319, "given", "given", 316, .val⟩, ⟨"InvalidLine", 487, "given", "given", 484, .val⟩, ⟨"InvalidIndex", 466, "given", "given", 463, .val⟩, ⟨"InvalidClaim", 445, "given", "given", 442, .val⟩, ⟨"InvalidName", 424, "given", "given", 421, .val⟩, ⟨"InvalidPattern", 361, "given", "given", 358, .val⟩, ⟨"NotAMixture", 550, "given", "given", 547, .val⟩, ⟨"NotASkew", 529, "given", "given", 526, .val⟩, ⟨"NotATable", 508, "given", "given", 505, .val⟩, ⟨"InUse", 647, "index", "index", 644, .look⟩, ⟨"UnknownName", 626, "given", "given", 623, .look⟩, ⟨"InvalidLog", 592, "index", "index", 589, .val⟩, ⟨"InvalidDeeds", 571, "index", "index", 568, .val⟩, ⟨"Broken", 786, "index", "index", 783, .arith⟩, ⟨"TooMany", 753, "limit", "limit", 750, .arith⟩], zs := [⟨"NotReduced", 732, .arith⟩, ⟨"NoMove", 720, .arith⟩, ⟨"UnlikeShapes", 708, .arith⟩, ⟨"UnlikeSizes", 696, .arith⟩, ⟨"NotInside", 684, .arith⟩, ⟨"NotStandard", 672, .arith⟩, ⟨"NothingToUndo", 765, .arith⟩], qs := [⟨"NoAnswer", some 659, .val, [672, 684, 696, 708, 720, 732, 753, 765, 786], [46, 67, 88, 109, 130, 151, 172, 193, 214, 235, 256, 277, 298, 319, 340, 361, 382, 403, 424, 445, 466, 487, 508, 529, 550, 571, 592, 626, 647]⟩, ⟨"WrongName", some 604, .val, [626, 647], [46, 67, 88, 109, 130, 151, 172, 193, 214, 235, 256, 277, 298, 319, 340, 361, 382, 403, 424, 445, 466, 487, 508, 529, 550, 571, 592, 672, 684, 696, 708, 720, 732, 753, 765, 786]⟩, ⟨"WrongValue", some 24, .val, [46, 67, 88, 109, 130, 151, 172, 193, 214, 235, 256, 277, 298, 319, 340, 361, 382, 403, 424, 445, 466, 487, 508, 529, 550, 571, 592], [626, 647, 672, 684, 696, 708, 720, 732, 753, 765, 786]⟩, ⟨"ArithmeticError", none, .arith, [672, 684, 696, 708, 720, 732, 753, 765, 786], [46, 67, 88, 109, 130, 151, 172, 193, 214, 235, 256, 277, 298, 319, 340, 361, 382, 403, 424, 445, 466, 487, 508, 529, 550, 571, 592, 626, 647]⟩, ⟨"LookupError", none, .look, [626, 647], [46, 67, 88, 109, 130, 151, 172, 193, 214, 235, 256, 277, 298, 319, 340, 361, 382, 403, 424, 445, 466, 487, 508, 529, 550, 571, 592, 672, 684, 696, 708, 720, 732, 753, 765, 786]⟩, ⟨"ValueError", none, .val, [46, 67, 88, 109, 130, 151, 172, 193, 214, 235, 256, 277, 298, 319, 340, 361, 382, 403, 424, 445, 466, 487, 508, 529, 550, 571, 592], [626, 647, 672, 684, 696, 708, 720, 732, 753, 765, 786]⟩, ⟨"InvalidShape", some 88, .val, [88], [46, 67, 109, 130, 151, 172, 193, 214, 235, 256, 277, 298, 319, 340, 361, 382, 403, 424, 445, 466, 487, 508, 529, 550, 571, 592, 626, 647, 672, 684, 696, 708, 720, 732, 753, 765, 786]⟩, ⟨"InvalidLetter", some 67, .val, [67], [46, 88, 109, 130, 151, 172, 193, 214, 235, 256, 277, 298, 319, 340, 361, 382, 403, 424, 445, 466, 487, 508, 529, 550, 571, 592, 626, 647, 672, 684, 696, 708, 720, 732, 753, 765, 786]⟩, ⟨"InvalidWord", some 46, .val, [46], [67, 88, 109, 130, 151, 172, 193, 214, 235, 256, 277, 298, 319, 340, 361, 382, 403, 424, 445, 466, 487, 508, 529, 550, 571, 592, 626, 647, 672, 684, 696, 708, 720, 732, 753, 765, 786]⟩, ⟨"InvalidHoles", some 151, .val, [151], [46, 67, 88, 109, 130, 172, 193, 214, 235, 256, 277, 298, 319, 340, 361, 382, 403, 424, 445, 466, 487, 508, 529, 550, 571, 592, 626, 647, 672, 684, 696, 708, 720, 732, 753, 765, 786]⟩, ⟨"InvalidRow", some 130, .val, [130], [46, 67, 88, 109, 151, 172, 193, 214, 235, 256, 277, 298, 319, 340, 361, 382, 403, 424, 445, 466, 487, 508, 529, 550, 571, 592, 626, 647, 672, 684, 696, 708, 720, 732, 753, 765, 786]⟩, ⟨"InvalidRows", some 109, .val, [109], [46, 67, 88, 130, 151, 172, 193, 214, 235, 256, 277, 298, 319, 340, 361, 382, 403, 424, 445, 466, 487, 508, 529, 550, 571, 592, 626, 647, 672, 684, 696, 708, 720, 732, 753, 765, 786]⟩, ⟨"InvalidPlace", some 214, .val, [214], [46, 67, 88, 109, 130, 151, 172, 193, 235, 256, 277, 298, 319, 340, 361, 382, 403, 424, 445, 466, 487, 508, 529, 550, 571, 592, 626, 647, 672, 684, 696, 708, 720, 732, 753, 765, 786]⟩, ⟨"InvalidArray", some 193, .val, [193], [46, 67, 88, 109, 130, 151, 172, 214, 235, 256, 277, 298, 319, 340, 361, 382, 403, 424, 445, 466, 487, 508, 529, 550, 571, 592, 626, 647, 672, 684, 696, 708, 720, 732, 753, 765, 786]⟩, ⟨"InvalidPair", some 172, .val, [172], [46, 67, 88, 109, 130, 151, 193, 214, 235, 256, 277, 298, 319, 340, 361, 382, 403, 424, 445, 466, 487, 508, 529, 550, 571, 592, 626, 647, 672, 684, 696, 708, 720, 732, 753, 765, 786]⟩, ⟨"InvalidGrowth", some 277, .val, [277], [46, 67, 88, 109, 130, 151, 172, 193, 214, 235, 256, 298, 319, 340, 361, 382, 403, 424, 445, 466, 487, 508, 529, 550, 571, 592, 626, 647, 672, 684, 696, 708, 720, 732, 753, 765, 786]⟩, ⟨"InvalidAmounts", some 256, .val, [256], [46, 67, 88, 109, 130, 151, 172, 193, 214, 235, 277, 298, 319, 340, 361, 382, 403, 424, 445, 466, 487, 508, 529, 550, 571, 592, 626, 647, 672, 684, 696, 708, 720, 732, 753, 765, 786]⟩, ⟨"InvalidNumber", some 235, .val, [235], [46, 67, 88, 109, 130, 151, 172, 193, 214, 256, 277, 298, 319, 340, 361, 382, 403, 424, 445, 466, 487, 508, 529, 550, 571, 592, 626, 647, 672, 684, 696, 708, 720, 732, 753, 765, 786]⟩, ⟨"InvalidHive", some 340, .val, [340], [46, 67, 88, 109, 130, 151, 172, 193, 214, 235, 256, 277, 298, 319, 361, 382, 403, 424, 445, 466, 487, 508, 529, 550, 571, 592, 626, 647, 672, 684, 696, 708, 720, 732, 753, 765, 786]⟩, ⟨"InvalidTerms", some 319, .val, [319], [46, 67, 88, 109, 130, 151, 172, 193, 214, 235, 256, 277, 298, 340, 361, 382, 403, 424, 445, 466, 487, 508, 529, 550, 571, 592, 626, 647, 672, 684, 696, 708, 720, 732, 753, 765, 786]⟩, ⟨"InvalidBasis", some 298, .val, [298], [46, 67, 88, 109, 130, 151, 172, 193, 214, 235, 256, 277, 319, 340, 361, 382, 403, 424, 445, 466, 487, 508, 529, 550, 571, 592, 626, 647, 672, 684, 696, 708, 720, 732, 753, 765, 786]⟩, ⟨"InvalidName", some 424, .val, [424], [46, 67, 88, 109, 130, 151, 172, 193, 214, 235, 256, 277, 298, 319, 340, 361, 382, 403, 445, 466, 487, 508, 529, 550, 571, 592, 626, 647, 672, 684, 696, 708, 720, 732, 753, 765, 786]⟩, ⟨"InvalidText", some 403, .val, [403], [46, 67, 88, 109, 130, 151, 172, 193, 214, 235, 256, 277, 298, 319, 340, 361, 382, 424, 445, 466, 487, 508, 529, 550, 571, 592, 626, 647, 672, 684, 696, 708, 720, 732, 753, 765, 786]⟩, ⟨"InvalidHidden", some 382, .val, [382], [46, 67, 88, 109, 130, 151, 172, 193, 214, 235, 256, 277, 298, 319, 340, 361, 403, 424, 445, 466, 487, 508, 529, 550, 571, 592, 626, 647, 672, 684, 696, 708, 720, 732, 753, 765, 786]⟩, ⟨"InvalidLine", some 487, .val, [487], [46, 67, 88, 109, 130, 151, 172, 193, 214, 235, 256, 277, 298, 319, 340, 361, 382, 403, 424, 445, 466, 508, 529, 550, 571, 592, 626, 647, 672, 684, 696, 708, 720, 732, 753, 765, 786]⟩, ⟨"InvalidIndex", some 466, .val, [466], [46, 67, 88, 109, 130, 151, 172, 193, 214, 235, 256, 277, 298, 319, 340, 361, 382, 403, 424, 445, 487, 508, 529, 550, 571, 592, 626, 647, 672, 684, 696, 708, 720, 732, 753, 765, 786]⟩, ⟨"InvalidClaim", some 445, .val, [445], [46, 67, 88, 109, 130, 151, 172, 193, 214, 235, 256, 277, 298, 319, 340, 361, 382, 403, 424, 466, 487, 508, 529, 550, 571, 592, 626, 647, 672, 684, 696, 708, 720, 732, 753, 765, 786]⟩, ⟨"InvalidPattern", some 361, .val, [361], [46, 67, 88, 109, 130, 151, 172, 193, 214, 235, 256, 277, 298, 319, 340, 382, 403, 424, 445, 466, 487, 508, 529, 550, 571, 592, 626, 647, 672, 684, 696, 708, 720, 732, 753, 765, 786]⟩, ⟨"NotAMixture", some 550, .val, [550], [46, 67, 88, 109, 130, 151, 172, 193, 214, 235, 256, 277, 298, 319, 340, 361, 382, 403, 424, 445, 466, 487, 508, 529, 571, 592, 626, 647, 672, 684, 696, 708, 720, 732, 753, 765, 786]⟩, ⟨"NotASkew", some 529, .val, [529], [46, 67, 88, 109, 130, 151, 172, 193, 214, 235, 256, 277, 298, 319, 340, 361, 382, 403, 424, 445, 466, 487, 508, 550, 571, 592, 626, 647, 672, 684, 696, 708, 720, 732, 753, 765, 786]⟩, ⟨"NotATable", some 508, .val, [508], [46, 67, 88, 109, 130, 151, 172, 193, 214, 235, 256, 277, 298, 319, 340, 361, 382, 403, 424, 445, 466, 487, 529, 550, 571, 592, 626, 647, 672, 684, 696, 708, 720, 732, 753, 765, 786]⟩, ⟨"UnknownName", some 626, .val, [626], [46, 67, 88, 109, 130, 151, 172, 193, 214, 235, 256, 277, 298, 319, 340, 361, 382, 403, 424, 445, 466, 487, 508, 529, 550, 571, 592, 647, 672, 684, 696, 708, 720, 732, 753, 765, 786]⟩, ⟨"InvalidLog", some 592, .val, [592], [46, 67, 88, 109, 130, 151, 172, 193, 214, 235, 256, 277, 298, 319, 340, 361, 382, 403, 424, 445, 466, 487, 508, 529, 550, 571, 626, 647, 672, 684, 696, 708, 720, 732, 753, 765, 786]⟩, ⟨"InvalidDeeds", some 571, .val, [571], [46, 67, 88, 109, 130, 151, 172, 193, 214, 235, 256, 277, 298, 319, 340, 361, 382, 403, 424, 445, 466, 487, 508, 529, 550, 592, 626, 647, 672, 684, 696, 708, 720, 732, 753, 765, 786]⟩, ⟨"NotInside", some 684, .val, [684], [46, 67, 88, 109, 130, 151, 172, 193, 214, 235, 256, 277, 298, 319, 340, 361, 382, 403, 424, 445, 466, 487, 508, 529, 550, 571, 592, 626, 647, 672, 696, 708, 720, 732, 753, 765, 786]⟩, ⟨"NotStandard", some 672, .val, [672], [46, 67, 88, 109, 130, 151, 172, 193, 214, 235, 256, 277, 298, 319, 340, 361, 382, 403, 424, 445, 466, 487, 508, 529, 550, 571, 592, 626, 647, 684, 696, 708, 720, 732, 753, 765, 786]⟩, ⟨"InUse", some 647, .val, [647], [46, 67, 88, 109, 130, 151, 172, 193, 214, 235, 256, 277, 298, 319, 340, 361, 382, 403, 424, 445, 466, 487, 508, 529, 550, 571, 592, 626, 672, 684, 696, 708, 720, 732, 753, 765, 786]⟩, ⟨"NoMove", some 720, .val, [720], [46, 67, 88, 109, 130, 151, 172, 193, 214, 235, 256, 277, 298, 319, 340, 361, 382, 403, 424, 445, 466, 487, 508, 529, 550, 571, 592, 626, 647, 672, 684, 696, 708, 732, 753, 765, 786]⟩, ⟨"UnlikeShapes", some 708, .val, [708], [46, 67, 88, 109, 130, 151, 172, 193, 214, 235, 256, 277, 298, 319, 340, 361, 382, 403, 424, 445, 466, 487, 508, 529, 550, 571, 592, 626, 647, 672, 684, 696, 720, 732, 753, 765, 786]⟩, ⟨"UnlikeSizes", some 696, .val, [696], [46, 67, 88, 109, 130, 151, 172, 193, 214, 235, 256, 277, 298, 319, 340, 361, 382, 403, 424, 445, 466, 487, 508, 529, 550, 571, 592, 626, 647, 672, 684, 708, 720, 732, 753, 765, 786]⟩, ⟨"NothingToUndo", some 765, .val, [765], [46, 67, 88, 109, 130, 151, 172, 193, 214, 235, 256, 277, 298, 319, 340, 361, 382, 403, 424, 445, 466, 487, 508, 529, 550, 571, 592, 626, 647, 672, 684, 696, 708, 720, 732, 753, 786]⟩, ⟨"TooMany", some 753, .val, [753], [46, 67, 88, 109, 130, 151, 172, 193, 214, 235, 256, 277, 298, 319, 340, 361, 382, 403, 424, 445, 466, 487, 508, 529, 550, 571, 592, 626, 647, 672, 684, 696, 708, 720, 732, 765, 786]⟩, ⟨"NotReduced", some 732, .val, [732], [46, 67, 88, 109, 130, 151, 172, 193, 214, 235, 256, 277, 298, 319, 340, 361, 382, 403, 424, 445, 466, 487, 508, 529, 550, 571, 592, 626, 647, 672, 684, 696, 708, 720, 753, 765, 786]⟩, ⟨"Broken", some 786, .val, [786], [46, 67, 88, 109, 130, 151, 172, 193, 214, 235, 256, 277, 298, 319, 340, 361, 382, 403, 424, 445, 466, 487, 508, 529, 550, 571, 592, 626, 647, 672, 684, 696, 708, 720, 732, 753, 765]⟩], fs := [("index", [571, 592, 647, 786]), ("given", [46, 67, 88, 109, 130, 151, 172, 193, 214, 235, 256, 277, 298, 319, 340, 361, 382, 403, 424, 445, 466, 487, 508, 529, 550, 626]), ("limit", [753])], all := [46, 67, 88, 109, 130, 151, 172, 193, 214, 235, 256, 277, 298, 319, 340, 361, 382, 403, 424, 445, 466, 487, 508, 529, 550, 571, 592, 626, 647, 672, 684, 696, 708, 720, 732, 753, 765, 786] }
def names0 : List Str := ["_law_wrong_values", "_law_kinds", "_law_own", "law"]
def names : List Str := names0
def fnsD0 : List He.DefD := [topD "_law_wrong_values" (top 51), topD "_law_kinds" (top 52), topD "_law_own" (top 53), topD "law" (top 54)]
def fnsD : List He.DefD := fnsD0
def ints_ : List (Str × Int) := [("MOST_LETTER", 12), ("MOST_LONG", 12), ("MOST_HOLES", 66), ("MOST_BOXES", 40), ("MOST_DEGREE", 8), ("MOST_ROWS", 4), ("MOST_MOVED", 9), ("MOST_LISTED", 2000)]
def strs_ : List (Str × Str) := []
abbrev Pq : Program := PySem.Challenge.pw_shapelore_k01_constants_and_errors
def ck (K : PySem.W.Frag) : Bool := ckL names ints_ strs_ K && ckX Pq xl K
/-! ### the top, run -/
def loose0 : List Str := ["WrongValue", "InvalidWord", "InvalidLetter", "InvalidShape", "InvalidRows", "InvalidRow", "InvalidHoles", "InvalidPair", "InvalidArray", "InvalidPlace", "InvalidNumber", "InvalidAmounts", "InvalidGrowth", "InvalidBasis", "InvalidTerms", "InvalidHive"]
def loose1 : List Str := ["InvalidPattern", "InvalidHidden", "InvalidText", "InvalidName", "InvalidClaim", "InvalidIndex", "InvalidLine", "NotATable", "NotASkew", "NotAMixture", "InvalidDeeds", "InvalidLog", "WrongName", "UnknownName", "InUse", "NoAnswer"]
def loose2 : List Str := ["NotStandard", "NotInside", "UnlikeSizes", "UnlikeShapes", "NoMove", "NotReduced", "TooMany", "NothingToUndo", "Broken", "MOST_LETTER", "MOST_LONG", "MOST_HOLES", "MOST_BOXES", "MOST_DEGREE", "MOST_ROWS", "MOST_MOVED"]
def loose3 : List Str := ["MOST_LISTED", "_law_wrong_values", "_law_kinds", "_law_own"]
def loose : List Str := loose0 ++ loose1 ++ loose2 ++ loose3
abbrev Rr : PySem.W.OpenRow := PySem.W.OpenLaw.row PySem.Challenge.rw_shapelore_k01_constants_and_errors
abbrev hk : PySem.W.Hook := hookX 5 ck fnsD
def ob (s : PySem.W.SharedT) : AlX := obsXG 5 ck fnsD (HandSHeadRun.getT s)
theorem ob_eq (s : PySem.W.SharedT) : ob s = hk.obs s.abs := obsXG_eq (HandSHeadRun.getT_eq s)
theorem run (w : World) : HandSHeadRun.RunEq Rr (PySem.W.view Rr.prog [54]) hk ob 20000 loose w := by
  intro os
  kernel_rfl
end K01

set_option Elab.async false
set_option linter.all false
set_option maxRecDepth 100000
/-! Ev: a small language of our own for the pure part of Python, its evaluator over data. -/
namespace Ev
open PySem

abbrev D := PyData

/-- outcomes: a value; a choice below n; an error of kind k with what it keeps; nothing said -/
inductive Out (α : Type) where
  | ret (a : α)
  | pick (n : Nat) (f : Nat → Out α)
  | any (f : Int → Out α)
  | exc (k : Nat) (d : D)
  | bad
namespace Out
variable {α β : Type}
def bind : Out α → (α → Out β) → Out β
  | .ret a, f => f a
  | .pick n g, f => .pick n fun i => (g i).bind f
  | .any g, f => .any fun i => (g i).bind f
  | .exc k d, _ => .exc k d
  | .bad, _ => .bad
def All (P : α → Prop) : Out α → Prop
  | .ret a => P a
  | .pick n f => ∀ i, i < n → (f i).All P
  | .any f => ∀ i, (f i).All P
  | .exc .. => False
  | .bad => False
@[simp] theorem bind_ret (a : α) (f : α → Out β) : (Out.ret a).bind f = f a := rfl
@[simp] theorem bind_bad (f : α → Out β) : (Out.bad : Out α).bind f = .bad := rfl
@[simp] theorem bind_exc (k : Nat) (d : D) (f : α → Out β) : (Out.exc k d : Out α).bind f = .exc k d := rfl
@[simp] theorem All_ret {P : α → Prop} {a : α} : (Out.ret a).All P ↔ P a := Iff.rfl
@[simp] theorem All_bad {P : α → Prop} : (Out.bad : Out α).All P ↔ False := Iff.rfl
theorem All_bind {P : β → Prop} {f : α → Out β} : ∀ {t : Out α}, (t.bind f).All P ↔ t.All fun a => (f a).All P
  | .ret a => Iff.rfl
  | .pick n g => by
    show (∀ i, i < n → ((g i).bind f).All P) ↔ ∀ i, i < n → (g i).All _
    exact ⟨fun h i hi => All_bind.mp (h i hi), fun h i hi => All_bind.mpr (h i hi)⟩
  | .any g => by
    show (∀ i, ((g i).bind f).All P) ↔ ∀ i, (g i).All _
    exact ⟨fun h i => All_bind.mp (h i), fun h i => All_bind.mpr (h i)⟩
  | .exc .. => Iff.rfl
  | .bad => Iff.rfl
theorem All.mono {P Q : α → Prop} (h : ∀ a, P a → Q a) : ∀ {t : Out α}, t.All P → t.All Q
  | .ret a, q => h a q
  | .pick n g, q => fun i hi => All.mono h (q i hi)
  | .any g, q => fun i => All.mono h (q i)
  | .exc .., q => q
  | .bad, q => q
theorem bind_assoc {γ : Type} {f : α → Out β} {g : β → Out γ} : ∀ {t : Out α}, (t.bind f).bind g = t.bind fun a => (f a).bind g
  | .ret a => rfl
  | .pick n h => by
    show Out.pick n (fun i => ((h i).bind f).bind g) = Out.pick n (fun i => (h i).bind fun a => (f a).bind g)
    congr 1
    funext i
    exact bind_assoc
  | .any h => by
    show Out.any (fun i => ((h i).bind f).bind g) = Out.any (fun i => (h i).bind fun a => (f a).bind g)
    congr 1
    funext i
    exact bind_assoc
  | .exc .. => rfl
  | .bad => rfl
def ofO : Option α → Out α
  | some a => .ret a
  | none => .bad
def guard (b : Bool) (t : Out α) : Out α := match b with
  | true => t
  | false => .bad
@[simp] theorem guard_true (t : Out α) : guard true t = t := rfl
@[simp] theorem ofO_some (a : α) : ofO (some a) = .ret a := rfl
theorem All_guard {P : α → Prop} {b : Bool} {t : Out α} : (guard b t).All P ↔ b = true ∧ t.All P := by
  cases b
  · exact ⟨fun h => h.elim, fun h => by cases h.1⟩
  · exact ⟨fun h => ⟨rfl, h⟩, fun h => h.2⟩
theorem All_ofO {P : α → Prop} {o : Option α} : (ofO o).All P ↔ ∃ a, o = some a ∧ P a := by
  cases o with
  | none => exact ⟨fun h => h.elim, fun ⟨a, h, _⟩ => by cases h⟩
  | some a => exact ⟨fun h => ⟨a, rfl, h⟩, fun ⟨b, h, q⟩ => by cases h; exact q⟩
end Out

/-- the law's script: a list that stays as it is -/
abbrev scr (ns : List Int) : D := .dict [(.none, .list (ns.map PyData.int))]
/-- what a slot holds: a value; a list that this slot alone owns; a dict of its own -/
inductive Sl where
  | val (d : D)
  | own (xs : List D)
  | dic (t : Bool) (kvs : List (D × D))
  | own2 (xss : List (List D))
abbrev Ro := List (Option Sl)


inductive Bop where
  | add | sub | mul | fdiv | mod | pow
  deriving DecidableEq
inductive Cop where
  | eq | ne | lt | le | gt | ge | inn | nin
  deriving DecidableEq
inductive Ty where
  | int | bool | tup | str | lst | dict
  deriving DecidableEq
inductive Blt where
  | len | sum | max | min | all | any | tuple | list | sorted | abs | int | divmod
  deriving DecidableEq

/-- targets: a name's slot; a tuple of targets, as a list -/
inductive Tg where
  | nm (i : Nat)
  | nil
  | cons (g gs : Tg)

/-- expressions; lists of them (nil, cons, star); what is walked (rng, enum, zip, items, keys) -/
inductive E where
  | con (d : D)
  | glb (x : Str)
  | var (i : Nat)
  | pk (i : Nat)
  | bin (o : Bop) (a b : E)
  | neg (a : E) | not (a : E) | and (a b : E) | or (a b : E)
  | cmp (o : Cop) (a b : E)
  | chain (o p : Cop) (a b c : E)
  | isn (g : Bool) (a : E)
  | ist (g : Bool) (a : E) (b : Bool)
  | ite (c a b : E)
  | nil | cons (a b : E) | star (a b : E)
  | tup (a : E) | lst (a : E)
  | idx (a b : E) | slc (a lo hi : E) | rev (a : E)
  | call (f : Nat) (a : E)
  | callk (f m k : Nat) (perm : List Nat) (a b : E)
  | blt (b : Blt) (a : E)
  | isi (t : Ty) (a : E)
  | repEq (g : Bool) (a b : E)
  | lc (own : List Nat) (g : Tg) (it c elt : E)
  | lc2 (own own2 : List Nat) (g : Tg) (it : E) (g2 : Tg) (it2 elt : E)
  | rng1 (a : E) | rng2 (a b : E) | rng3 (a b c : E) | enum (a : E) | zip (a b : E)
  | din (g : Bool) (k : E) (i : Nat) | dget (i : Nat) (k : E) | dgetd (i : Nat) (k z : E) | dlen (i : Nat)
  | dsort (i : Nat)
  | tix (i j : Nat)
  | drw (fr ft : Nat) (a : E)
  | row (i : Nat) (e : E) | rows (i : Nat) | lrng (a b : E)
  | mkx (x : Str) (C : Nat) (par fld : Str) (kw : Bool) (a : E) | mk0 (x : Str) (C : Nat) | isx (x : Str) (yes no : List Nat) (a : E) | xat (f : Str) (cs : List Nat) (a : E)

/-- statements, blocks as lists (nil, seq) -/
inductive S where
  | nil
  | seq (s r : S)
  | frz (i : Nat)
  | frz2 (i : Nat)
  | wip (vs : List Nat)
  | asg (g : Tg) (e : E)
  | unl (g : Tg) (e : E)
  | own (i : Nat) (e : E)
  | par (i j : Nat) (oi oj : Bool) (a b : E)
  | app (i : Nat) (e : E)
  | pop (g : Tg) (i : Nat)
  | setix (i : Nat) (ix e : E)
  | tset (i j : Nat) (e : E) | tdvm (i j : Nat) (g : Tg) (e : E)
  | dnew (i : Nat) (t : Bool) | dnew1 (i : Nat) (t : Bool) (k v : E)
  | dof (i : Nat) (t : Bool) (e : E)
  | fork (g : Tg) (i : Nat) (b : S) | fori (g : Tg) (i : Nat) (b : S)
  | dset (i : Nat) (k v : E)
  | dmov (i j : Nat)
  | lcl2 (i : Nat) (own : List Nat) (g : Tg) (it e : E)
  | app2 (i : Nat) (jx e : E) | new2 (i : Nat) | swp2 (k i : Nat) (jx ix e : E)
  | par0 (i j : Nat) (a : E) | pdl (i j : Nat) (k v b : E) | popx (i : Nat)
  | ife (c : E) (a b : S)
  | for_ (g : Tg) (it : E) (b : S)
  | whl (c : E) (b : S)
  | ret (e : E)
  | expr (e : E)
  | brk | cnt | pass
  | raise
inductive Fl where
  | nx (ρ : Ro) | rt (d : D) | bk (ρ : Ro) | ct (ρ : Ro)

def lim : Nat := 1000000

def intsOf : List D → Option (List Int)
  | [] => some []
  | .int i :: r => (intsOf r).map (i :: ·)
  | _ => none
def blsOf : List D → Option (List Bool)
  | [] => some []
  | .bool b :: r => (blsOf r).map (b :: ·)
  | _ => none

def smallI (i : Int) : Bool := decide (i.natAbs < 18446744073709551616)
def mulOk (i j : Int) : Bool := smallI i || (smallI j || decide (i.natAbs.log2 + j.natAbs.log2 < 1000000))
def divOk (j : Int) : Bool := decide (0 < j) && decide (j.natAbs.log2 < 9000)
def repD (xs : List D) (k : Int) : List D := (List.replicate k.toNat xs).flatten
def binD : Bop → D → D → Out D
  | .add, .int i, .int j => .ret (.int (i + j))
  | .add, .tuple xs, .tuple ys => .guard (decide (xs.length + ys.length ≤ lim)) (.ret (.tuple (xs ++ ys)))
  | .add, .list xs, .list ys => .guard (decide (xs.length + ys.length ≤ lim)) (.ret (.list (xs ++ ys)))
  | .sub, .int i, .int j => .ret (.int (i - j))
  | .mul, .int i, .int j => .guard (mulOk i j) (.ret (.int (i * j)))
  | .mul, .list xs, .int k => .guard (decide (xs.length ≤ 1000) && (decide (-1000 ≤ k) && decide (k ≤ 1000))) (.ret (.list (repD xs k)))
  | .mul, .tuple xs, .int k => .guard (decide (0 < xs.length) && (decide (xs.length ≤ 1000) && (decide (1 ≤ k) && decide (k ≤ 1000)))) (.ret (.tuple (repD xs k)))
  | .fdiv, .int i, .int j => .guard (divOk j) (.ret (.int (i / j)))
  | .mod, .int i, .int j => .guard (decide (0 < j)) (.ret (.int (i % j)))
  | .pow, .int i, .int j => .guard (decide (0 ≤ j) && (decide (j ≤ 1000000) && decide (i.natAbs < 2 ^ 64))) (.ret (.int (i ^ j.toNat)))
  | _, _, _ => .bad
def anyEq (x : D) (xs : List D) : Bool := xs.any fun z => PyData.eqv z x
def cmpD : Cop → D → D → Out D
  | .lt, .int i, .int j => .ret (.bool (decide (i < j)))
  | .le, .int i, .int j => .ret (.bool (decide (i ≤ j)))
  | .gt, .int i, .int j => .ret (.bool (decide (j < i)))
  | .ge, .int i, .int j => .ret (.bool (decide (j ≤ i)))
  | .eq, x, y => .guard (SeqAt.shaped x && SeqAt.shaped y) (.ret (.bool (PyData.eqv x y)))
  | .ne, x, y => .guard (SeqAt.shaped x && SeqAt.shaped y) (.ret (.bool (!PyData.eqv x y)))
  | .inn, x, .list ys => .guard (SeqAt.shaped x && SeqAt.shaped (.list ys)) (.ret (.bool (anyEq x ys)))
  | .nin, x, .list ys => .guard (SeqAt.shaped x && SeqAt.shaped (.list ys)) (.ret (.bool (!anyEq x ys)))
  | .inn, x, .tuple ys => .guard (SeqAt.shaped x && SeqAt.shaped (.list ys)) (.ret (.bool (anyEq x ys)))
  | .nin, x, .tuple ys => .guard (SeqAt.shaped x && SeqAt.shaped (.list ys)) (.ret (.bool (!anyEq x ys)))
  | _, _, _ => .bad
def ixD : D → D → Out D
  | .list xs, .int i => .ofO (L2.atI xs i)
  | .tuple xs, .int i => .ofO (L2.atI xs i)
  | .dict [(.none, .list xs)], .int i => .ofO (L2.atI xs i)
  | _, _ => .bad
def cutD {α : Type} (xs : List α) (lo hi : Option Int) : List α := (xs.drop (HT.sIx xs.length 0 lo)).take (HT.sIx xs.length xs.length hi - HT.sIx xs.length 0 lo)
def slD : D → Option Int → Option Int → Out D
  | .list xs, lo, hi => .ret (.list (cutD xs lo hi))
  | .tuple xs, lo, hi => .ret (.tuple (cutD xs lo hi))
  | .dict [(.none, .list xs)], lo, hi => .ret (.list (cutD xs lo hi))
  | _, _, _ => .bad
def revD : D → Out D
  | .tuple xs => .ret (.tuple xs.reverse)
  | .list xs => .ret (.list xs.reverse)
  | _ => .bad
def itemsD : D → Out (List D)
  | .list xs => .ret xs
  | .tuple xs => .ret xs
  | .dict [(.none, .list xs)] => .ret xs
  | _ => .bad
def asBool : D → Out Bool
  | .bool b => .ret b
  | _ => .bad
def isTy : Ty → D → Bool
  | .int, .int _ => true
  | .int, .bool _ => true
  | .bool, .bool _ => true
  | .tup, .tuple _ => true
  | .str, .str _ => true
  | .lst, .list _ => true
  | _, _ => false
def notDict : D → Bool
  | .dict _ => false
  | _ => true
def maxI : List Int → Int → Int
  | [], m => m
  | x :: r, m => maxI r (if m < x then x else m)
def minI : List Int → Int → Int
  | [], m => m
  | x :: r, m => minI r (if x < m then x else m)
def dataLe : D → D → Bool := PySem.W.dataLe false id
def alikeAll : List D → Bool
  | [] => true
  | d :: r => (d :: r).all fun e => (d :: r).all fun f => PySem.W.alike e f
def sortOk (xs : List D) : Bool := decide (xs.length ≤ lim) && (PyData.canLayAll0 xs && ((xs.all fun d => xs.all fun e => PySem.W.alike d e) && (xs.all (fun d => decide (d.depth ≤ 64)) &&
  (decide (xs.length ≤ 1) || (xs.all (fun d => match d with | .tuple (_ :: _) => true | _ => false) || xs.all fun d => match d with | .none => false | .tuple _ => false | _ => true)))))
def insB {α : Type} (le : α → α → Bool) (x : α) : List α → List α
  | [] => [x]
  | y :: r => if le x y = true then x :: y :: r else y :: insB le x r
def isort {α : Type} (le : α → α → Bool) : List α → List α
  | [] => []
  | x :: r => insB le x (isort le r)
def sortD (xs : List D) : Out D := .guard (sortOk xs) (.ret (.list (isort dataLe xs)))
def bltD : Blt → List D → Out D
  | .len, [.list xs] => .ret (.int xs.length)
  | .len, [.tuple xs] => .ret (.int xs.length)
  | .len, [.dict [(.none, .list xs)]] => .ret (.int xs.length)
  | .sum, [.list xs] => (Out.ofO (intsOf xs)).bind fun ns => .ret (.int ns.sum)
  | .sum, [.tuple xs] => (Out.ofO (intsOf xs)).bind fun ns => .ret (.int ns.sum)
  | .max, [.int i, .int j] => .ret (.int (if j > i then j else i))
  | .min, [.int i, .int j] => .ret (.int (if j < i then j else i))
  | .min, [.int i, .int j, .int k] => .ret (.int (if k < (if j < i then j else i) then k else (if j < i then j else i)))
  | .max, [.list (.int i :: xs)] => (Out.ofO (intsOf xs)).bind fun ns => .ret (.int (maxI ns i))
  | .min, [.list (.int i :: xs)] => (Out.ofO (intsOf xs)).bind fun ns => .ret (.int (minI ns i))
  | .all, [.list xs] => (Out.ofO (blsOf xs)).bind fun bs => .ret (.bool (bs.all id))
  | .any, [.list xs] => (Out.ofO (blsOf xs)).bind fun bs => .ret (.bool (bs.any id))
  | .tuple, [.list xs] => .ret (.tuple xs)
  | .tuple, [.tuple xs] => .ret (.tuple xs)
  | .list, [.list xs] => .ret (.list xs)
  | .list, [.tuple xs] => .ret (.list xs)
  | .sorted, [.list xs] => sortD xs
  | .abs, [.int i] => .ret (.int (if i < 0 then -i else i))
  | .int, [.int i] => .ret (.int i)
  | .divmod, [.int i, .int j] => .guard (decide (0 < j) && decide (j < 1073741824)) (.ret (.tuple [.int (i / j), .int (i % j)]))
  | _, _ => .bad

def rngL (lo : Int) : Nat → List D
  | 0 => []
  | n + 1 => .int lo :: rngL (lo + 1) n
def small62 (i : Int) : Bool := decide (-(2 ^ 62) ≤ i) && decide (i < 2 ^ 62)
def rngC (lo c : Int) : Nat → List D
  | 0 => []
  | n + 1 => .int lo :: rngC (lo + c) c n
def enumL (k : Int) : List D → List D
  | [] => []
  | x :: r => .tuple [.int k, x] :: enumL (k + 1) r
def zipL : List D → List D → List D
  | x :: r, y :: q => .tuple [x, y] :: zipL r q
  | _, _ => []

def zipD : D → D → Out D
  | .list xs, .list ys => .ret (.list (zipL xs ys))
  | .tuple xs, .tuple ys => .ret (.list (zipL xs ys))
  | .list xs, .tuple ys => .ret (.list (zipL xs ys))
  | _, _ => .bad
/-- a target takes a value -/
def asgG : Tg → D → Ro → Option Ro
  | .nm i, d, ρ => some (ρ.set i (some (.val d)))
  | .nil, .tuple [], ρ => some ρ
  | .cons g gs, .tuple (x :: xs), ρ => (asgG g x ρ).bind fun ρ1 => asgG gs (.tuple xs) ρ1
  | _, _, _ => none
def wipeR (ρ : Ro) : List Nat → Ro
  | [] => ρ
  | v :: vs => (wipeR ρ vs).set v none

/-- a comprehension's walk -/
def lcGo (turn : D → Out (Option D)) : List D → List D → Out D
  | [], acc => .ret (.list acc.reverse)
  | x :: r, acc => (turn x).bind fun
    | some y => lcGo turn r (y :: acc)
    | none => lcGo turn r acc
/-- with two clauses -/
def lcOut (turn : D → List D → Out (List D)) : List D → List D → Out D
  | [], acc => .ret (.list acc.reverse)
  | x :: r, acc => (turn x acc).bind fun acc' => lcOut turn r acc'
def lcIn (turn : D → Out D) : List D → List D → Out (List D)
  | [], acc => .ret acc
  | x :: r, acc => (turn x).bind fun y => lcIn turn r (y :: acc)

def slot (ρ : Ro) (i : Nat) : Out Sl := .ofO ((ρ[i]?).bind id)
def valOf (ρ : Ro) (i : Nat) : Out D := (slot ρ i).bind fun
  | .val d => .ret d
  | _ => .bad
def peekOf (ρ : Ro) (i : Nat) : Out D := (slot ρ i).bind fun
  | .val d => .ret d
  | .own xs => .ret (.list xs)
  | _ => .bad
/-- the drawing list's second number is small -/
def tubB (y : Int) : Bool := decide (0 ≤ y) && decide (y < 4294967296)
def tixV (j : Nat) (z : Int) : Int := if j = 1 then z % 4294967296 else z
def tsOk (j : Nat) (v : Int) : Bool := decide (j ≠ 1) || tubB v
def own2Of (ρ : Ro) (i : Nat) : Out (List (List D)) := (slot ρ i).bind fun
  | .own2 xss => .ret xss
  | _ => .bad
def dicOf (ρ : Ro) (i : Nat) : Out (Bool × List (D × D)) := (slot ρ i).bind fun
  | .dic t kvs => .ret (t, kvs)
  | _ => .bad
def tubOf (ρ : Ro) (i : Nat) : Out Unit := (slot ρ i).bind fun
  | .val (.dict []) => .ret ()
  | _ => .bad
def consD (x : D) : D → Out D
  | .tuple xs => .ret (.tuple (x :: xs))
  | _ => .bad
def appD (xs : List D) : D → Out D
  | .tuple ys => .ret (.tuple (xs ++ ys))
  | _ => .bad
def unTup : D → Out (List D)
  | .tuple xs => .ret xs
  | _ => .bad
def permD (xs : List D) : List Nat → Option (List D)
  | [] => some []
  | k :: r => (xs[k]?).bind fun x => (permD xs r).map (x :: ·)
def asInt : D → Out Int
  | .int i => .ret i
  | _ => .bad
def isNilE : E → Bool
  | .nil => true
  | _ => false
def partE : Bool → Out D → Out (Option Int)
  | true, _ => .ret none
  | false, t => t.bind fun d => (asInt d).bind fun i => .ret (some i)
mutual
/-- the same data, sign by sign -/
def sameD : D → D → Bool
  | .none, .none => true
  | .bool a, .bool b => a == b
  | .int a, .int b => decide (a = b)
  | .str a, .str b => decide (a = b)
  | .list xs, .list ys => sameL xs ys
  | .tuple xs, .tuple ys => sameL xs ys
  | _, _ => false
def sameL : List D → List D → Bool
  | [], [] => true
  | x :: xs, y :: ys => sameD x y && sameL xs ys
  | _, _ => false
end
mutual
/-- a bound of the written form's length, where it can be written -/
def wtD : D → Option Nat
  | .none => some 4
  | .bool _ => some 5
  | .int i => if i.natAbs.log2 < 1920 then some 2000 else none
  | .str x => if x.cps.all (· < 0x110000) then some (10 * x.length + 2) else none
  | .list xs => (wtL xs).map (· + 2)
  | .tuple xs => (wtL xs).map (· + 3)
  | .dict _ => none
def wtL : List D → Option Nat
  | [] => some 0
  | x :: xs => (wtD x).bind fun a => (wtL xs).map fun b => a + b + 2
end
def isSeqD : D → Bool
  | .list _ => true
  | .tuple _ => true
  | _ => false
def repOk (x : D) : Bool := isSeqD x && (decide (x.depth ≤ 64) && (match wtD x with | some n => decide (n ≤ 16000000) | none => false))

/-- the same, looked at fast where both are ints, or tuples of ints -/
def intEq : Int → Int → Bool
  | .ofNat m, .ofNat n => Nat.beq m n
  | .negSucc m, .negSucc n => Nat.beq m n
  | _, _ => false
def flatEq : List D → List D → Bool
  | [], ys => (match ys with
    | [] => true
    | _ => false)
  | x :: xs, ys => (match ys with
    | [] => false
    | y :: ys => (match (match x with
      | .int a => (match y with
        | .int b => intEq a b
        | _ => false)
      | x => sameD x y) with
      | true => flatEq xs ys
      | false => false))
def keyEq (x y : D) : Bool := match x with
  | .tuple xs => (match y with
    | .tuple ys => flatEq xs ys
    | _ => false)
  | .int a => (match y with
    | .int b => intEq a b
    | _ => false)
  | x => sameD x y
theorem intEq_eq : ∀ a b : Int, intEq a b = decide (a = b)
  | .ofNat m, .ofNat n => by
    simp only [intEq]
    by_cases h : m = n
    · subst h; simp
    · have : (Int.ofNat m = Int.ofNat n) = False := eq_false fun e => h (Int.ofNat.inj e)
      simp only [this, decide_false]
      exact Bool.eq_false_iff.mpr fun e => h (Nat.eq_of_beq_eq_true e)
  | .negSucc m, .negSucc n => by
    simp only [intEq]
    by_cases h : m = n
    · subst h; simp
    · have : (Int.negSucc m = Int.negSucc n) = False := eq_false fun e => h (Int.negSucc.inj e)
      simp only [this, decide_false]
      exact Bool.eq_false_iff.mpr fun e => h (Nat.eq_of_beq_eq_true e)
  | .ofNat m, .negSucc n => by simp [intEq]
  | .negSucc m, .ofNat n => by simp [intEq]
theorem flatEq_eq : ∀ xs ys : List D, flatEq xs ys = sameL xs ys
  | [], [] => rfl
  | [], _ :: _ => rfl
  | _ :: _, [] => by simp [flatEq, sameL]
  | x :: xs, y :: ys => by
    have ih := flatEq_eq xs ys
    simp only [flatEq, sameL, ih]
    cases x <;> cases y <;> simp only [sameD, intEq_eq] <;> (try rfl) <;> (split <;> simp_all)
theorem keyEq_eq (x y : D) : keyEq x y = sameD x y := by
  cases x <;> cases y <;> simp only [keyEq, sameD, intEq_eq, flatEq_eq]
/-- keys of dicts: ints, texts; tuples of these -/
def flatOk : D → Bool
  | .int _ => true
  | .str _ => true
  | _ => false
def keyOk : Bool → D → Bool
  | false, d => flatOk d
  | true, .tuple xs => xs.all flatOk
  | true, _ => false
def dLook (k : D) : List (D × D) → Option D
  | [] => none
  | (a, b) :: r => (match keyEq a k with
    | true => some b
    | false => dLook k r)
def dPut (k v : D) (kvs : List (D × D)) : List (D × D) := match dLook k kvs with
  | some _ => kvs.map fun p => if keyEq p.1 k = true then (p.1, v) else p
  | none => kvs ++ [(k, v)]

/-- what a field of an own exception may hold -/
def atomD : D → Bool
  | .none => true
  | .int _ => true
  | .str _ => true
  | .list [] => true
  | _ => false
/-- an own exception: its class, its field -/
abbrev xcD (C : Nat) (f : Str) (d : D) : D := .dict [(.int C, .tuple [.str f, d])]
abbrev xc0 (C : Nat) : D := .dict [(.int C, .none)]
def isxV (yes no : List Nat) (c : Int) : Out D := match yes.any fun n => decide ((n : Int) = c) with
  | true => .ret (.bool true)
  | false => .guard (no.any fun n => decide ((n : Int) = c)) (.ret (.bool false))
def isxD (yes no : List Nat) : D → Out D
  | .dict [(.int c, .none)] => isxV yes no c
  | .dict [(.int c, .tuple [.str _, _])] => isxV yes no c
  | _ => .bad
def xatD (f : Str) (cs : List Nat) : D → Out D
  | .dict [(.int c, .tuple [.str g, d])] => .guard (cs.any (fun n => decide ((n : Int) = c)) && decide (g = f)) (.ret d)
  | _ => .bad
/-- the tables: defs by number, the module's constants -/
structure Env where
  call : Nat → List D → Out D
  calln : Nat → List D → Out D
  glob : Str → Option D

def ev (Γ : Env) : Bool → E → Ro → Out D
  | _, .con d, _ => .ret d
  | _, .glb x, _ => .ofO (Γ.glob x)
  | _, .var i, ρ => valOf ρ i
  | r, .pk i, ρ => .guard r (peekOf ρ i)
  | _, .bin o a b, ρ => (ev Γ true a ρ).bind fun x => (ev Γ true b ρ).bind fun y => binD o x y
  | _, .neg a, ρ => (ev Γ true a ρ).bind fun x => (asInt x).bind fun i => .ret (.int (-i))
  | _, .not a, ρ => (ev Γ true a ρ).bind fun x => (asBool x).bind fun b => .ret (.bool (!b))
  | _, .and a b, ρ => (ev Γ true a ρ).bind fun x => (asBool x).bind fun
    | true => (ev Γ true b ρ).bind fun y => (asBool y).bind fun c => .ret (.bool c)
    | false => .ret (.bool false)
  | _, .or a b, ρ => (ev Γ true a ρ).bind fun x => (asBool x).bind fun
    | true => .ret (.bool true)
    | false => (ev Γ true b ρ).bind fun y => (asBool y).bind fun c => .ret (.bool c)
  | _, .cmp o a b, ρ => (ev Γ true a ρ).bind fun x => (ev Γ true b ρ).bind fun y => cmpD o x y
  | _, .chain o p a b c, ρ => (ev Γ true a ρ).bind fun x => (ev Γ true b ρ).bind fun y => (cmpD o x y).bind fun z => (asBool z).bind fun
    | true => (ev Γ true c ρ).bind fun w => cmpD p y w
    | false => .ret (.bool false)
  | _, .isn g a, ρ => (ev Γ true a ρ).bind fun x => .ret (.bool (match x with | .none => !g | _ => g))
  | _, .ist g a b, ρ => (ev Γ true a ρ).bind fun x => (asBool x).bind fun c => .ret (.bool (if c = b then !g else g))
  | r, .ite c a b, ρ => (ev Γ true c ρ).bind fun x => (asBool x).bind fun
    | true => ev Γ r a ρ
    | false => ev Γ r b ρ
  | _, .nil, _ => .ret (.tuple [])
  | r, .cons a b, ρ => (ev Γ r a ρ).bind fun x => (ev Γ r b ρ).bind fun y => consD x y
  | r, .star a b, ρ => (ev Γ true a ρ).bind fun x => (itemsD x).bind fun xs => (ev Γ r b ρ).bind fun y => appD xs y
  | _, .tup a, ρ => (ev Γ false a ρ).bind fun x => (unTup x).bind fun xs => .guard (decide (xs.length ≤ lim)) (.ret (.tuple xs))
  | _, .lst a, ρ => (ev Γ false a ρ).bind fun x => (unTup x).bind fun xs => .guard (decide (xs.length ≤ lim)) (.ret (.list xs))
  | _, .idx a b, ρ => (ev Γ true a ρ).bind fun x => (ev Γ true b ρ).bind fun y => ixD x y
  | _, .slc a lo hi, ρ => (ev Γ true a ρ).bind fun x => (partE (isNilE lo) (ev Γ true lo ρ)).bind fun l => (partE (isNilE hi) (ev Γ true hi ρ)).bind fun h => slD x l h
  | _, .rev a, ρ => (ev Γ true a ρ).bind revD
  | _, .call f a, ρ => (ev Γ false a ρ).bind fun x => (unTup x).bind fun xs => Γ.call f xs
  | _, .callk f m k p a b, ρ => (ev Γ false a ρ).bind fun x => (unTup x).bind fun xs => (ev Γ false b ρ).bind fun y => (unTup y).bind fun ys => .guard (decide (xs.length = m) && decide (ys.length = k)) ((Out.ofO (permD (xs ++ ys) p)).bind fun zs => Γ.call f zs)
  | _, .blt b a, ρ => (ev Γ true a ρ).bind fun x => (unTup x).bind fun xs => bltD b xs
  | _, .isi t a, ρ => (ev Γ true a ρ).bind fun x => .guard (notDict x) (.ret (.bool (isTy t x)))
  | _, .repEq g a b, ρ => (ev Γ true a ρ).bind fun x => .guard (repOk x) <| (ev Γ true b ρ).bind fun y =>
      .guard (sameD x y) (.ret (.bool (!g)))
  | _, .lc own g it c elt, ρ => (ev Γ true it ρ).bind fun x => (itemsD x).bind fun xs => .guard (decide (xs.length ≤ lim)) <|
      lcGo (fun d => (Out.ofO (asgG g d (wipeR ρ own))).bind fun ρ2 => (ev Γ true c ρ2).bind fun t => (asBool t).bind fun
        | true => (ev Γ false elt ρ2).bind fun y => .ret (some y)
        | false => .ret none) xs []
  | _, .lc2 own own2 g it g2 it2 elt, ρ => (ev Γ true it ρ).bind fun x => (itemsD x).bind fun xs =>
      lcOut (fun d acc => (Out.ofO (asgG g d (wipeR ρ own))).bind fun ρ2 => (ev Γ false it2 ρ2).bind fun x2 => (itemsD x2).bind fun xs2 =>
        .guard (decide (acc.length + xs2.length ≤ lim)) <| lcIn (fun d2 => (Out.ofO (asgG g2 d2 (wipeR ρ2 own2))).bind fun ρ3 => ev Γ false elt ρ3) xs2 acc) xs []
  | _, .rng1 a, ρ => (ev Γ true a ρ).bind fun x => (asInt x).bind fun i => .guard (small62 i) (.ret (.list (rngL 0 i.toNat)))
  | _, .rng2 a b, ρ => (ev Γ true a ρ).bind fun x => (ev Γ true b ρ).bind fun y => (asInt x).bind fun i => (asInt y).bind fun j =>
      .guard (small62 i && small62 j) (.ret (.list (rngL i (j - i).toNat)))
  | _, .rng3 a b c, ρ => (ev Γ true a ρ).bind fun x => (ev Γ true b ρ).bind fun y => (ev Γ true c ρ).bind fun z => (asInt x).bind fun i => (asInt y).bind fun j => (asInt z).bind fun k =>
      .guard (decide (k = -1) && (decide (-1000 ≤ j) && (decide (i ≤ 1000) && decide (-1000 ≤ i)))) (.ret (.list (rngC i (-1) (i - j).toNat)))
  | r, .enum a, ρ => (ev Γ r a ρ).bind fun x => (itemsD x).bind fun xs => .ret (.list (enumL 0 xs))
  | r, .zip a b, ρ => (ev Γ r a ρ).bind fun x => (ev Γ r b ρ).bind fun y => zipD x y
  | _, .din g k i, ρ => (ev Γ true k ρ).bind fun x => (dicOf ρ i).bind fun kvs => .guard (keyOk kvs.1 x) (.ret (.bool (if (dLook x kvs.2).isSome then !g else g)))
  | _, .dget i k, ρ => (dicOf ρ i).bind fun kvs => (ev Γ true k ρ).bind fun x => .guard (keyOk kvs.1 x) (.ofO (dLook x kvs.2))
  | _, .dgetd i k z, ρ => (dicOf ρ i).bind fun kvs => (ev Γ true k ρ).bind fun x => (ev Γ false z ρ).bind fun w => .guard (keyOk kvs.1 x) (.ret ((dLook x kvs.2).getD w))
  | _, .dlen i, ρ => (dicOf ρ i).bind fun kvs => .ret (.int kvs.2.length)
  | _, .dsort i, ρ => (dicOf ρ i).bind fun kvs => sortD (kvs.2.map (·.1))
  | _, .drw fr ft a, ρ => (ev Γ false a ρ).bind fun x => (unTup x).bind fun xs => (Γ.calln ft xs).bind fun
    | .list [.int _, .int y, .int _] => .guard (tubB y) ((Γ.call fr [.dict []]).bind fun r => (asBool r).bind fun b => .ret (.bool b))
    | _ => .bad
  | r, .row i e, ρ => .guard r ((own2Of ρ i).bind fun xss => (ev Γ true e ρ).bind fun k => (asInt k).bind fun z => (Out.ofO (L2.ixN xss.length z)).bind fun j => (Out.ofO xss[j]?).bind fun xs => .ret (.list xs))
  | _, .rows i, ρ => (own2Of ρ i).bind fun xss => .ret (.int xss.length)
  | _, .lrng a b, ρ => (ev Γ true a ρ).bind fun x => (ev Γ true b ρ).bind fun y => (asInt x).bind fun i => (asInt y).bind fun j =>
      .guard (small62 i && (small62 j && decide ((j - i).toNat ≤ lim))) (.ret (.list (rngL i (j - i).toNat)))
  | _, .mkx _ C _ fld _ a, ρ => (ev Γ false a ρ).bind fun d => .guard (atomD d) (.ret (xcD C fld d))
  | _, .mk0 _ C, _ => .ret (xc0 C)
  | _, .isx _ yes no a, ρ => (ev Γ true a ρ).bind (isxD yes no)
  | _, .xat f cs a, ρ => (ev Γ true a ρ).bind (xatD f cs)
  | _, .tix i j, ρ => (tubOf ρ i).bind fun _ => .guard (decide (j < 3)) (.any fun z => .ret (.int (tixV j z)))

/-- a for's walk -/
def forGo (g : Tg) (body : Ro → Out Fl) : List D → Ro → Out Fl
  | [], ρ => .ret (.nx ρ)
  | x :: r, ρ => (Out.ofO (asgG g x ρ)).bind fun ρ1 => (body ρ1).bind fun
    | .nx ρ2 => forGo g body r ρ2
    | .ct ρ2 => forGo g body r ρ2
    | .bk ρ2 => .ret (.nx ρ2)
    | .rt d => .ret (.rt d)
def whlGo (test : Ro → Out D) (body : Ro → Out Fl) : Nat → Ro → Out Fl
  | 0, _ => .bad
  | w + 1, ρ => (test ρ).bind fun x => (asBool x).bind fun
    | false => .ret (.nx ρ)
    | true => (body ρ).bind fun
      | .nx ρ2 => whlGo test body w ρ2
      | .ct ρ2 => whlGo test body w ρ2
      | .bk ρ2 => .ret (.nx ρ2)
      | .rt d => .ret (.rt d)
def ownOf (ρ : Ro) (i : Nat) : Out (List D) := (slot ρ i).bind fun
  | .own xs => .ret xs
  | _ => .bad
def asList : D → Out (List D)
  | .list xs => .ret xs
  | _ => .bad
def slOf (own : Bool) (d : D) : Out Sl := match own with
  | false => .ret (.val d)
  | true => (asList d).bind fun xs => .ret (.own xs)
def dPairs (t : Bool) : List D → List (D × D) → Out (List (D × D))
  | [], acc => .ret acc
  | .tuple [k, v] :: r, acc => .guard (keyOk t k) (dPairs t r (dPut k v acc))
  | _, _ => .bad

def lcl2Go (turn : D → Out (List D)) : List D → List (List D) → Out (List (List D))
  | [], acc => .ret acc
  | x :: r, acc => (turn x).bind fun y => lcl2Go turn r (acc ++ [y])
def swpIn (i : Nat) (d : D) (ρ : Ro) (fj fi : Ro → Out D) : Out Fl := (own2Of ρ i).bind fun xss => (fj ρ).bind fun k => (asInt k).bind fun z => (Out.ofO (L2.ixN xss.length z)).bind fun j => (Out.ofO xss[j]?).bind fun xs =>
  (fi ρ).bind fun m => (asInt m).bind fun y => (Out.ofO (L2.ixN xs.length y)).bind fun p => .ret (.nx (ρ.set i (some (.own2 (xss.set j (xs.set p d))))))
def ex (Γ : Env) (W : Nat) : S → Ro → Out Fl
  | .nil, ρ => .ret (.nx ρ)
  | .seq s r, ρ => (ex Γ W s ρ).bind fun
    | .nx ρ1 => ex Γ W r ρ1
    | f => .ret f
  | .frz i, ρ => (ownOf ρ i).bind fun xs => .ret (.nx (ρ.set i (some (.val (.list xs)))))
  | .frz2 i, ρ => (own2Of ρ i).bind fun xss => .ret (.nx (ρ.set i (some (.val (.list (xss.map PyData.list))))))
  | .wip vs, ρ => .ret (.nx (wipeR ρ vs))
  | .lcl2 i own g it e, ρ => ((ev Γ true it ρ).bind fun x => (itemsD x).bind fun xs => .guard (decide (xs.length ≤ lim)) (lcl2Go (fun d => (Out.ofO (asgG g d (wipeR ρ own))).bind fun ρ2 => (ev Γ false e ρ2).bind asList) xs [])).bind fun xss => .ret (.nx (ρ.set i (some (.own2 xss))))
  | .app2 i jx e, ρ => (own2Of ρ i).bind fun xss => (ev Γ true jx ρ).bind fun k => (asInt k).bind fun z => (Out.ofO (L2.ixN xss.length z)).bind fun j => (Out.ofO xss[j]?).bind fun xs => (ev Γ false e ρ).bind fun d =>
      .guard (decide (xs.length < lim)) (.ret (.nx (ρ.set i (some (.own2 (xss.set j (xs ++ [d])))))))
  | .new2 i, ρ => (own2Of ρ i).bind fun xss => .guard (decide (xss.length < lim)) (.ret (.nx (ρ.set i (some (.own2 (xss ++ [[]]))))))
  | .swp2 k i jx ix e, ρ => (ev Γ false e ρ).bind fun
    | .tuple [d1, d2] => swpIn i d2 (ρ.set k (some (.val d1))) (ev Γ true jx) (ev Γ true ix)
    | _ => .bad
  | .par0 i j a, ρ => (ev Γ false a ρ).bind fun x => .ret (.nx ((ρ.set i (some (.val x))).set j (some (.own2 []))))
  | .pdl i j k v b, ρ => (ev Γ false k ρ).bind fun x => (ev Γ false v ρ).bind fun w => .guard (keyOk true x) ((ev Γ false b ρ).bind fun y => .ret (.nx ((ρ.set i (some (.dic true [(x, w)]))).set j (some (.val y)))))
  | .popx i, ρ => (ownOf ρ i).bind fun xs => .guard (decide (0 < xs.length)) (.ret (.nx (ρ.set i (some (.own xs.dropLast)))))
  | .asg g e, ρ => (ev Γ false e ρ).bind fun d => (Out.ofO (asgG g d ρ)).bind fun ρ1 => .ret (.nx ρ1)
  | .unl g e, ρ => (ev Γ false e ρ).bind fun d => (asList d).bind fun xs => (Out.ofO (asgG g (.tuple xs) ρ)).bind fun ρ1 => .ret (.nx ρ1)
  | .own i e, ρ => (ev Γ false e ρ).bind fun d => (asList d).bind fun xs => .ret (.nx (ρ.set i (some (.own xs))))
  | .par i j oi oj a b, ρ => (ev Γ false a ρ).bind fun x => (slOf oi x).bind fun sx => (ev Γ false b ρ).bind fun y => (slOf oj y).bind fun sy => .ret (.nx ((ρ.set i (some sx)).set j (some sy)))
  | .app i e, ρ => (ownOf ρ i).bind fun xs => (ev Γ false e ρ).bind fun d => .guard (decide (xs.length < lim)) (.ret (.nx (ρ.set i (some (.own (xs ++ [d]))))))
  | .pop g i, ρ => (ownOf ρ i).bind fun xs => (Out.ofO xs.getLast?).bind fun d => (Out.ofO (asgG g d (ρ.set i (some (.own xs.dropLast))))).bind fun ρ1 => .ret (.nx ρ1)
  | .setix i ix e, ρ => (ev Γ false e ρ).bind fun d => (ownOf ρ i).bind fun xs => (ev Γ true ix ρ).bind fun k => (asInt k).bind fun z => (Out.ofO (L2.ixN xs.length z)).bind fun j => .ret (.nx (ρ.set i (some (.own (xs.set j d)))))
  | .tset i j e, ρ => (ev Γ false e ρ).bind fun d => (asInt d).bind fun v => (tubOf ρ i).bind fun _ => .guard (decide (j < 3) && tsOk j v) (.ret (.nx ρ))
  | .tdvm i j g e, ρ => (ev Γ false e ρ).bind fun
    | .tuple [.int v, d] => (tubOf ρ i).bind fun _ => .guard (decide (j < 3) && tsOk j v) ((Out.ofO (asgG g d ρ)).bind fun ρ1 => .ret (.nx ρ1))
    | _ => .bad
  | .dnew i t, ρ => .ret (.nx (ρ.set i (some (.dic t []))))
  | .dnew1 i t k v, ρ => (ev Γ false k ρ).bind fun x => (ev Γ false v ρ).bind fun y => .guard (keyOk t x) (.ret (.nx (ρ.set i (some (.dic t [(x, y)])))))
  | .dof i t e, ρ => (ev Γ false e ρ).bind fun d => (asList d).bind fun xs => .guard (decide (xs.length ≤ lim)) ((dPairs t xs []).bind fun kvs => .ret (.nx (ρ.set i (some (.dic t kvs)))))
  | .dset i k v, ρ => (ev Γ false v ρ).bind fun y => (dicOf ρ i).bind fun kvs => (ev Γ true k ρ).bind fun x => .guard (keyOk kvs.1 x && decide (kvs.2.length < lim)) (.ret (.nx (ρ.set i (some (.dic kvs.1 (dPut x y kvs.2))))))
  | .dmov i j, ρ => (dicOf ρ j).bind fun kvs => .ret (.nx ((ρ.set j none).set i (some (.dic kvs.1 kvs.2))))
  | .fork g i b, ρ => (dicOf ρ i).bind fun kvs => forGo g (ex Γ W b) (kvs.2.map (·.1)) (ρ.set i none)
  | .fori g i b, ρ => (dicOf ρ i).bind fun kvs => .guard kvs.1 (forGo g (ex Γ W b) (kvs.2.map fun p => .tuple [p.1, p.2]) (ρ.set i none))
  | .ife c a b, ρ => (ev Γ true c ρ).bind fun x => (asBool x).bind fun
    | true => ex Γ W a ρ
    | false => ex Γ W b ρ
  | .for_ g it b, ρ => (ev Γ false it ρ).bind fun x => (itemsD x).bind fun xs => forGo g (ex Γ W b) xs ρ
  | .whl c b, ρ => whlGo (ev Γ true c) (ex Γ W b) W ρ
  | .ret e, ρ => (ev Γ false e ρ).bind fun d => .ret (.rt d)
  | .expr e, ρ => (ev Γ false e ρ).bind fun _ => .ret (.nx ρ)
  | .brk, ρ => .ret (.bk ρ)
  | .cnt, ρ => .ret (.ct ρ)
  | .pass, ρ => .ret (.nx ρ)
  | .raise, _ => .bad

/-- own exceptions: classes called (name, class, parameter, field; or without any), names asked of isinstance, fields read -/
structure Xc where
  mks : List (Str × Nat × Str × Str) := []
  mk0s : List (Str × Nat) := []
  isxs : List (Str × List Nat × List Nat) := []
  xats : List (Str × List Nat) := []
/-- a def: its name, its parameters, all its names by slot, its body -/
structure Fd where
  name : Str
  ps : List Str
  N : List Str
  body : S
def startR (N : List Str) (ds : List D) : Ro := ds.map (fun d => some (.val d)) ++ List.replicate (N.length - ds.length) none
def retOf : Fl → Out D
  | .rt d => .ret d
  | .nx _ => .ret .none
  | _ => .bad
/-- a list, newly made -/
def retF : Fl → Out D
  | .rt (.list xs) => .ret (.list xs)
  | _ => .bad
def retB : Bool → Fl → Out D
  | false => retOf
  | true => retF
/-- the defs, by number; dip: the one that draws; news: those whose answer may be asked for as a new list -/
structure Tab where
  fns : List Fd
  dip : Nat
  news : List Nat
  glob : Str → Option D
  W : Nat
  xc : Xc
def dipD : List D → Out D
  | [.dict [], .int n] => .guard (decide (0 < n) && decide (n < 1073741824)) (.pick n.toNat fun i => .ret (.int i))
  | _ => .bad
def callB (τ : Tab) : Nat → Bool → Nat → List D → Out D
  | 0, _, _, _ => .bad
  | n + 1, fr, f, ds => if f = τ.dip then (match fr with | false => dipD ds | true => .bad) else match τ.fns[f]? with
    | none => .bad
    | some F => .guard (!fr || decide (f ∈ τ.news)) (.guard (decide (ds.length = F.ps.length)) ((ex ⟨callB τ n false, callB τ n true, τ.glob⟩ τ.W F.body (startR F.N ds)).bind (retB fr)))
abbrev callT (τ : Tab) (n f : Nat) (ds : List D) : Out D := callB τ n false f ds
end Ev

set_option Elab.async false
set_option linter.all false
set_option maxRecDepth 100000
set_option maxHeartbeats 4000000
namespace Exn
open PySem PySem.W PyProof.Rows
open Builtin
open ObjectAttr
/-! ### own exceptions, made: the heap's view -/
section
variable {prog : Program} {w : World} {A : Around} {R : Result → Shared → Prop} {E : Value → Shared → Prop}
variable {hp : Heap} {t : Nat} {os : OsState} {g : Array GenState} {d : Drawn}
/-- self.name = v where the exception has no dict yet -/
theorem store1 {K : W.Frag} {B : String} {bmB : List Value} {name : Str} {tk : Tok} {v : Value} {x C t0 : Addr} (SF : StoreFacts B bmB "object.__setattr__" "object") (X : K.In hp) (hx : hp.get? x = some (PX.excO C t0)) (hov : excOver K C bmB = true) (ht : takerIn K C name = some none) (hh : hasDictIn K C = true)
    (hq : ∀ h' tk' dx, (∀ b o, b ≠ x → hp.get? b = some o → h'.get? b = some o) → hp.objs.size ≤ dx → dx ≠ x → h'.get? x = some { PX.excO C t0 with dict := some dx } → h'.Ns1 dx (fun y => if y = name then some v else none) → R (.ok (.ret .none)) ⟨h', g, d, tk', os⟩) :
    codeAny (model prog w) A (.call (.builtin "object.__setattr__") ⟨[Value.ref x, Value.str name tk, v], []⟩) R ⟨hp, g, d, t, os⟩ := by
  refine osa_openX (od := none) SF X ⟨hx, rfl, rfl, trivial⟩ hov ht fun b => ?_
  obtain ⟨cd, hc, hd'⟩ := any_some hh
  have hne : x ≠ hp.objs.size := Nat.ne_of_lt (Heap.lt_size hx)
  have hcls : W.Looks (model prog w) hp (classData C) cd := W.looks_clsIn X hc
  obtain ⟨c1, c2, c3, c4, c5, hd, c7, c8, c9, c10, c11⟩ := cd
  dsimp only at hd'
  subst hd'
  unfold storeInOwnDict ownDictForStores
  repeat (first | (with_reducible refine hcls.at ?_) | (with_reducible refine PX.store_in_new ?_ ?_) | (with_reducible refine wpAny_loadPart_at hx ?_) | wp_step)
  · exact ⟨_, #[], _, (Heap.get?_update_ne _ _ _ _ hne.symm).trans (Heap.get?_push_at rfl rfl), rfl, fun e he => absurd he (by simp), fun _ => rfl⟩
  · intro h' tk' n1 n2
    have up : (hp.push { cls := .type "dict", data := .dict #[] }).get? x = some (PX.excO C t0) := Heap.get?_push_of_some _ hx
    refine hq h' tk' hp.objs.size (fun b o hb ho => ?_) (Nat.le_refl _) hne.symm ?_ n1
    · exact (n2.2 b (Nat.ne_of_lt (Heap.lt_size ho))).trans ((Heap.get?_update_ne _ _ _ _ hb).trans (Heap.get?_push_of_some _ ho))
    · exact (n2.2 x hne).trans (Heap.get?_update_self _ up rfl)
/-- the bound __init__ of the base, called -/
theorem call_mw {B i newId : String} {bmB : List Value} {nm q : Str} {C N u e t0 : Addr} {bs bm : List Value} {hdct : Bool} {sn : List Str} {sub : List Value} {ab : Bool} {col : Option Bool} {dd : Option Addr} {k0 k1 k2 k3 k5 : Option Value} {rest : List Value} {Q : Value → Shared → Prop}
    (FB : ExcBaseFacts B newId i bmB) (hC : hp.get? C = some (excClassObj nm q C N bs bm hdct sn sub ab col dd k0 k1 k2 k3 k5 newId)) (he : hp.get? e = some (PX.excO C t0)) (hu : hp.get? u = some (kxs_mw i e)) (hz : rest.length ≤ sizeLine)
    (hq : ∀ h' t1, (∀ b o, b ≠ e → hp.get? b = some o → h'.get? b = some o) → h'.get? e = some (PX.excO C t1) → Q .none ⟨h', g, d, t, os⟩) :
    wpAny (model prog w) A (call (.ref u) rest) Q E ⟨hp, g, d, t, os⟩ := by
  refine wpAny_call (codeAny_of_tree (?_ : wpAny _ _ _ _ _ _))
  show wpAny _ A.in1 (callAny (.ref u) ⟨rest, []⟩) _ _ _
  simp only [callAny]
  refine wpAny_bind (wpAny_load hu ?_)
  have c1 : (Value.type "method-wrapper" == Value.type "method" || Value.type "method-wrapper" == Value.type "builtin_function_or_method" || Value.type "method-wrapper" == Value.type "method-wrapper") = true := by decide
  simp only [kxs_mw, c1, if_true]
  refine KFB.if_so (by decide) ?_
  refine wpAny_bind (check_bound_init FB.toExcCallFacts hC he rfl ?_)
  refine wpAny_bind (wpAny_pure (wpAny_pure (?_ : _ ∧ _)))
  refine ⟨plainId_quiet FB.init.plain _, codeAny_builtin FB.initEntry ?_⟩
  exact exc_init_tree (cls := .ref C) (t0 := t0) (dv := none) (c2 := .none) (c3 := .none) (b4 := .bool false) he hz fun h' k1 k2 _ => hq h' _ k1 k2

/-- super().__init__(par); self.fld = par -/
def iniB (par fld : Str) (b : List Stmt) : Prop := ∃ p0 p1 p2 p3 p4 p5 p6 p7 p8 p9 : Pos,
  (p2.endLine == p4.line) = true ∧ b = [.Expr (.Call (.Attribute (.Call (.Name "super" p0) [] [] p1) "__init__" p2) [.Name par p3] [] p4) p5, .Assign [.Attribute (.Name "self" p6) fld p7] (.Name par p8) p9]

theorem ev_super {par : Str} {p0 p1 p2 p3 p4 : Pos} {env : Env} (hl : (p2.endLine == p4.line) = true) : eval (.Call (.Attribute (.Call (.Name "super" p0) [] [] p1) "__init__" p2) [.Name par p3] [] p4) env = (do
    let ov ← attributeBase (.Call (.Name "super" p0) [] [] p1) "__init__" env (eval (.Call (.Name "super" p0) [] [] p1) env)
    standAt p2.atName
    let (f, first) ← holding [ov] (getMethod ov "__init__" (do return (← importBound (.Call (.Name "super" p0) [] [] p1) env).getD true))
    callWith p4 f first (backTo p4 (starEach [.Name par p3] env)) []) := by
  have hp : methodCallPos true (.Call (.Name "super" p0) [] [] p1) env p2 p4 = pure p4 := by unfold methodCallPos; simp [hl]
  rw [arm_eval_Call]
  congr 1
  funext ov
  congr 1
  funext u
  show methodCall _ _ _ _ _ _ _ _ _ = _
  unfold methodCall
  show (holding [ov] (calleeOf true _ _ _ _) >>= _) = _
  congr 1
  funext z
  obtain ⟨f, first⟩ := z
  show (methodCallPos true _ _ _ _ >>= _) = _
  rw [hp]
  rfl
/-- what is known of a class whose __init__ is such a def -/
structure IniFacts (prog : Program) (K : W.Frag) (C fI : Addr) (B newId i : String) (bmB : List Value) (par fld : Str) (fd : FuncData) : Prop where
  FB : ExcBaseFacts B newId i bmB
  KF : KxsFacts B i
  SF : StoreFacts B bmB "object.__setattr__" "object"
  q : excInitIn K C bmB newId = true
  ov : excOver K C bmB = true
  tk : takerIn K C fld = some none
  hd : hasDictIn K C = true
  sa : findIn K (.ref C) "__setattr__" = some (some (.builtin "object.__setattr__"))
  sub : subIn K (.ref C) (.type B) = some true
  sup : ks_superIn K C C "__init__" = some (some (.builtin i))
  opq : nsIn K cStatics "thirdparty.any" = some none
  mself : mroIn K C (.ref C) = some true
  top : (prog.main.scope.names.lookup ("super" : Str)).isSome = false
  fn : ∃ (oc : Value) (od : Option Addr) (qual : Str) (prm : Arguments) (body : List Stmt) (sc : Scope) (dV kV doc pm : Value) (an : Option Addr) (cda : Addr) (ct : Value) (cc : Addr) (osl : Array (Option Value)),
    fd = ksFn "__init__" qual prm body sc dV kV doc pm an (.ref cda) ct cc ∧ K.lookup fI = some ⟨oc, od, .func fd, osl⟩ ∧ codeIn K (.ref cda) qual = true ∧
    (∃ (ccl : Value) (cdd : Option Addr) (vs : Array Value) (ccs : Array (Option Value)) (file : Str) (tf : Tok), K.lookup cda = some ⟨ccl, cdd, .fields vs, ccs⟩ ∧ vs[2]? = some (.str file tf) ∧ ((prog.main.file : Str) == file) = true) ∧
    (∃ (cl : Value) (cld : Option Addr) (csl : Array (Option Value)), K.lookup cc = some ⟨cl, cld, .cell (some (.ref C)), csl⟩) ∧
    iniB par fld body ∧ iniS par sc = true ∧ (∃ ar : Arg, (prm.posonlyargs ++ prm.args).head? = some ar ∧ ar.arg = "self")

theorem init_run {K : W.Frag} {C fI x t0 : Addr} {B newId i : String} {bmB : List Value} {par fld : Str} {fd : FuncData} {mg mb : Str → Option Value} {v : Value} {args : Args}
    (I : IniFacts prog K C fI B newId i bmB par fld fd) (hroom : A.depth < recursionLimit) (X : K.In hp) (NL : hp.NoLimit) (G : hp.Ns mainGlobals mg) (hmg : mg "super" = none) (Bt : hp.Ns builtinsNs mb) (hmb : mb "super" = some (.type "super"))
    (hxK : K.lookup x = none) (hx : hp.get? x = some (PX.excO C t0)) (hb : BindsTo ⟨hp, g, d, t, os⟩ fd args [("self", .ref x), (par, v)])
    (hq : ∀ h' tk' dx t1, (∀ b o, b ≠ x → hp.get? b = some o → h'.get? b = some o) → hp.objs.size ≤ dx → dx ≠ x → h'.get? x = some { PX.excO C t1 with dict := some dx } → h'.Ns1 dx (fun y => if y = fld then some v else none) → R (.ok (.ret .none)) ⟨h', g, d, tk', os⟩) :
    codeAny (model prog w) A (.call (.ref fI) args) R ⟨hp, g, d, t, os⟩ := by
  obtain ⟨oc, od, qual, prm, body, sc, dV, kV, doc, pm, an, cda, ct, cc, osl, rfl, lk, hcd, ⟨ccl, cdd, vs, ccs, file, tf, lcd, hvs, hfile⟩, ⟨cl, cld, csl, lcc⟩, ⟨p0, p1, p2, p3, p4, p5, p6, p7, p8, p9, hline, rfl⟩, hS, ⟨ar, har, hself⟩⟩ := I.fn
  unfold iniS at hS
  simp only [Bool.and_eq_true, Bool.not_eq_true', decide_eq_true_eq, decide_eq_false_iff_not, List.all_eq_true] at hS
  obtain ⟨⟨⟨⟨⟨⟨⟨⟨⟨h1, h2⟩, h3⟩, h4⟩, h5⟩, h6⟩, h7⟩, h8⟩, h9⟩, h10⟩ := hS
  refine ks_codeAny_call_defAt (fd := ksFn "__init__" qual prm _ sc dV kV doc pm an (.ref cda) ct cc) (binds := [("self", .ref x), (par, v)]) hroom (X _ _ lk) rfl NL (codeRec_of X hcd) rfl hb h4 (fun y hy => ?_) (fun h₀ hns hk => ?_) h2 h3 h1
  · rcases List.mem_cons.mp hy with rfl | hy'
    · exact h7
    · cases List.mem_singleton.mp hy'
      exact h8
  have X0 : K.In h₀ := X.keeps hk
  have hx0 := hk _ _ hx
  obtain ⟨nmC, NC, qnC, bsC, bmC, hdct, snC, subC, abC, colC, ddC, k0, k1, k2, k3, k5, hC, hT⟩ := excInit_of X0 I.q
  obtain ⟨cdC, hcC, _⟩ := any_some I.hd
  have hCC : ∃ oC, h₀.get? C = some oC ∧ oC.data = .cls cdC := by
    have hcC' := hcC
    unfold clsIn at hcC'
    split at hcC'
    · rename_i c dd cd' sl ho
      cases hcC'
      exact ⟨_, X0 _ _ ho, rfl⟩
    · cases hcC'
  obtain ⟨oC, hC1, hC2⟩ := hCC
  have hxC : x ≠ C := fun z => by
    rw [z, hC1] at hx0
    cases hx0
    cases hC2
  have hcode : callEnv (ksFn "__init__" qual prm [.Expr (.Call (.Attribute (.Call (.Name "super" p0) [] [] p1) "__init__" p2) [.Name par p3] [] p4) p5, .Assign [.Attribute (.Name "self" p6) fld p7] (.Name par p8) p9] sc dV kV doc pm an (.ref cda) ct cc) hp.objs.size fI = ksEnv qual sc hp.objs.size fI (.ref cda) cc := rfl
  rw [hcode]
  have hin : interactive (ksEnv qual sc hp.objs.size fI (.ref cda) cc) = false := by
    show (sc.kind == .module && _) = false
    rw [h1]
    rfl
  refine ks_wpAt_execs_cons (ks_wpAt_Expr_any (ks_wpAt_MethodCall ?_ (ev_super hline)) hin rfl)
  refine ks_wpAt_super_base (env := ksEnv qual sc hp.objs.size fI (.ref cda) cc) h5 h6 rfl rfl (X0 _ _ lk) rfl har rfl (X0 _ _ lcd) rfl hvs hfile I.top ?_
  refine ks_loadName_global h1 h5 (Calls.loadGlobal_builtin (G.keeps hk) hmg (Bt.keeps hk) hmb ⟨rfl, ?_⟩)
  refine wpAny_loadName_free h1 h6 rfl ⟨_, X0 _ _ lcc, rfl⟩ ?_
  rw [hself]
  have hs1 : ([(("self" : Str), Value.ref x), (par, v)].reverse).lookup ("self" : Str) = some (.ref x) := by
    have e : (("self" : Str) == par) = false := by simpa using Ne.symm h9
    show List.lookup ("self" : Str) [(par, v), (("self" : Str), Value.ref x)] = _
    simp [List.lookup, e]
  have hs2 : ([(("self" : Str), Value.ref x), (par, v)].reverse).lookup par = some v := by
    show List.lookup par [(par, v), (("self" : Str), Value.ref x)] = _
    simp [List.lookup]
  refine wpAny_loadName_local h1 h7 hns hs1 ?_
  refine ks_wpAny_isType_cls hC1 hC2 ⟨rfl, ?_⟩
  refine ks_wpAny_call_super hC1 hC2 hx0 rfl (fun c e => by cases e) (looks_mroIn X0 I.mself) (fun ha ea ka => ?_)
  have Xa : K.In ha := X0.keeps ka
  have mro : W.Looks (model prog w) ha (mroOf (.ref C)) cdC.mro := (looks_clsIn Xa hcC).andThen .now
  have hm : alongIn K "__init__" ((cdC.mro.dropWhile (· != .ref C)).drop 1) = some (some (.builtin i)) := by
    have z := I.sup
    unfold ks_superIn at z
    rw [hcC] at z
    exact z
  have II : InstAt ha x (PX.excO C t0) C none := ⟨ka _ _ hx0, rfl, rfl, trivial⟩
  have hIn : W.Looks (model prog w) ha (isInstance (.ref x) (.type B)) true := II.type.andThen (looks_subIn Xa I.sub)
  refine kxs_getMethod I.KF ea (looks_opaque Xa I.opq) mro rfl Xa hm hIn hxC rfl ?_
  have kb : ∀ b o, ha.get? b = some o → (ha.push (kxs_mw i x)).get? b = some o := fun b o e => Heap.get?_push_of_some _ e
  refine kxs_callWith (i := i) (x := x) rfl (Calls.evalArgs_plain (PyProof.Rows.args_cons (ESX.ldL (env := ksEnv qual sc hp.objs.size fI (.ref cda) cc) (v := v) ((hns.keeps ka).keeps kb) hs2 (args_nil ?_) h1 h8 h10) rfl))
  refine ⟨Heap.get?_push_at rfl rfl, ?_⟩
  refine call_mw I.FB (kb _ _ (ka _ _ hC)) (kb _ _ (ka _ _ hx0)) (Heap.get?_push_at rfl rfl) (by rw [sizeLine_eq]; exact Nat.le_of_ble_eq_true rfl) (fun hc t1 kc hxc => ?_)
  obtain ⟨oL, es, ep, hL, rL⟩ := hns
  have hxl : x < hp.objs.size := Heap.lt_size hx
  have hLx : hp.objs.size ≠ x := (Nat.ne_of_lt hxl).symm
  have kall : ∀ b o, b ≠ x → h₀.get? b = some o → hc.get? b = some o := fun b o hb e => kc b o hb (kb _ _ (ka _ _ e))
  have hLc := kall _ _ hLx hL
  have nsC : hc.Ns hp.objs.size (fun y => ([(("self" : Str), Value.ref x), (par, v)].reverse).lookup y) := ⟨oL, es, ep, hLc, rL⟩
  have Xc : K.In hc := fun a o e => kall a o (fun z => by rw [z, hxK] at e; cases e) (X0 a o e)
  refine ks_wpAt_execs_cons (wpAt_of_wpAny (plainObj_wpAny_Assign_Attribute (ESX.ldL (env := ksEnv qual sc hp.objs.size fI (.ref cda) cc) (v := v) nsC hs2 (ESX.ldL (env := ksEnv qual sc hp.objs.size fI (.ref cda) cc) (v := .ref x) nsC hs1 (W.set_plain Xc (od := none) ⟨hxc, rfl, rfl, trivial⟩ I.sa (store1 I.SF Xc hxc I.ov I.tk I.hd fun h' tk' dx k1 k2 k3 k4 k5 => ?_)) h1 h7) h1 h8 h10) rfl))
  show _root_.PySem.wpAt _ _ _ (execs [] _) _ _ _
  rw [execs_nil]
  refine wpAt_of_wpAny (wpAny_pure ?_)
  exact hq h' _ dx t1 (fun b o hb e => k1 b o hb (kall b o hb (hk _ _ e))) (Nat.le_trans (Nat.le_of_lt (Heap.lt_size hLc)) k2) k3 k4 k5
end
end Exn

set_option Elab.async false
set_option linter.all false
set_option maxRecDepth 100000
set_option maxHeartbeats 4000000
namespace Exn
open PySem PySem.W
open PX (excO)
/-! ### a class called with its one argument by name -/
section
variable {M : Model} {A : Around} {E : Value → Shared → Prop} {hp : Heap} {gs : Array GenState} {dr : Drawn} {tk : Nat} {os : OsState}
variable {nm qn : Str} {C nsA : Addr} {bs mr bmB : List Value} {hdct : Bool} {sn : List Str} {sub : List Value} {ab : Bool} {col : Option Bool} {dd : Option Addr} {s0 s1 s2 s3 s5 : Option Value} {B newId initId : String} {kn : Str} {kv : Value}
theorem look_new (FB : ExcBaseFacts B newId initId bmB) (same : ∀ Y : String, mr.contains (.type Y) = bmB.contains (.type Y)) {Q : Unit → Shared → Prop}
    (hC : hp.get? C = some (excClassObj nm qn C nsA bs mr hdct sn sub ab col dd s0 s1 s2 s3 s5 newId)) (hq : Q () ⟨hp, gs, dr, tk, os⟩) : wpAny M A (checkBuiltinCall newId ⟨[.ref C], [(kn, kv)]⟩) Q E ⟨hp, gs, dr, tk, os⟩ := by
  have isB : (Value.ref C :: mr).contains (.type B) = true := by rw [List.contains_cons, same, FB.hasB, Bool.or_true]
  have st := FB.noStar
  simp only [checkBuiltinCall, FB.newRow, FB.newSplit, FB.newKind]
  repeat (first | (refine wpAny_isSubtype_exc hC ?_; rw [isB]) | refine wpAny_madeBy_exc hC ?_ | refine wpAny_staticBase_exc hC ?_ | refine wpAny_loadPart_at hC ?_ | simp only [bne_self_eq_false, Bool.false_eq_true, if_false] | wp_step)
  exact hq
theorem look_call {Q : Unit → Shared → Prop} (hC : hp.get? C = some (excClassObj nm qn C nsA bs mr hdct sn sub ab col dd s0 s1 s2 s3 s5 newId))
    (hq : Q () ⟨hp, gs, dr, tk, os⟩) : wpAny M A (checkBuiltinCall "type.__call__" ⟨[.ref C], [(kn, kv)]⟩) Q E ⟨hp, gs, dr, tk, os⟩ := by
  have sb := tc_sub
  have ty : (⟨hp, gs, dr, tk, os⟩ : Shared).TypeIs (.ref C) "type" := ⟨_, hC, rfl⟩
  simp only [checkBuiltinCall, tc_split, tc_kind]
  repeat (any_goals (first | with_reducible refine wpAny_loadPart_at hC ?_ | assumption | with_reducible refine wpAny_map ?_ | with_reducible refine wpAny_onRaise ?_ | wp_step))
end
section
variable {prog : Program} {w : World} {A : Around} {E : Value → Shared → Prop} {R : Result → Shared → Prop} {hp : Heap} {gs : Array GenState} {dr : Drawn} {tk : Nat} {os : OsState}
variable {nm qn : Str} {C nsA : Addr} {bs mr bmB : List Value} {hdct : Bool} {sn : List Str} {sub : List Value} {ab : Bool} {col : Option Bool} {dd : Option Addr} {s0 s1 s2 s3 s5 : Option Value} {B newId initId : String} {kn : Str} {kv : Value}
abbrev noArgs : Obj := { cls := .type "tuple", data := .seq #[] }
theorem new_kw (FB : ExcBaseFacts B newId initId bmB) (same : ∀ Y : String, mr.contains (.type Y) = bmB.contains (.type Y))
    (hC : hp.get? C = some (excClassObj nm qn C nsA bs mr hdct sn sub ab col dd s0 s1 s2 s3 s5 newId)) (hq : R (.ok (.ret (.ref (hp.objs.size + 1)))) ⟨(hp.push noArgs).push (excO C hp.objs.size), gs, dr, tk, os⟩) :
    codeAny (model prog w) A (.builtin newId ⟨[.ref C], [(kn, kv)]⟩) R ⟨hp, gs, dr, tk, os⟩ := by
  have isB : (Value.ref C :: mr).contains (.type B) = true := by rw [List.contains_cons, same, FB.hasB, Bool.or_true]
  have noN : (Value.ref C :: mr).contains (.type "NameError") = false := by rw [List.contains_cons, same, FB.noName]; rfl
  have noA : (Value.ref C :: mr).contains (.type "AttributeError") = false := by rw [List.contains_cons, same, FB.noAttr]; rfl
  have en := FB.ends
  refine codeAny_builtinAt FB.entry ?_
  (unfold Builtin.«BaseException.__new__»)
  refine wpAt_bind ?_
  (show wpAt _ _ _ (stack >>= _) _ _ _)
  refine wpAt_bind (wpAt_stack fun here under => wpAt_of_wpAny ?_)
  wp_walk
  refine wpAt_of_wpAny ?_
  rw [FB.owner]
  repeat (first | (with_reducible refine wpAny_isSubtype_exc hC ?_; first | rw [isB] | rw [noN] | rw [noA]) | with_reducible refine wpAny_loadPart_at hC ?_ | with_reducible refine wpAny_madeHere_exc FB.canon hC ?_ | wp_step)
  show R _ _
  rw [Heap.size_push]
  exact hq
theorem type_call_kw (FB : ExcBaseFacts B newId initId bmB) (same : ∀ Y : String, mr.contains (.type Y) = bmB.contains (.type Y)) {fI : Addr} {Q : Fin → Shared → Prop}
    (hC : hp.get? C = some (excClassObj nm qn C nsA bs mr hdct sn sub ab col dd s0 s1 s2 s3 s5 newId)) (li : W.Looks (model prog w) hp (typeLookup (.ref C) "__init__") (some (.ref fI)))
    (lb : ∀ z, W.Looks (model prog w) hp (bindSpecial (.ref fI) z) (.ref fI, [z]))
    (hq : codeAny (model prog w) A (.call (.ref fI) ⟨[.ref (hp.objs.size + 1)], [(kn, kv)]⟩) (fun r s' => match r with | .ok (.ret u) => u = .none ∧ Q (.done (.ret (.ref (hp.objs.size + 1)))) s' | .ok _ => False | .error e => E e s')
      ⟨(hp.push noArgs).push (excO C hp.objs.size), gs, dr, tk, os⟩) : wpAny (model prog w) A (Builtin.«type.__call__» ⟨[.ref C], [(kn, kv)]⟩) Q E ⟨hp, gs, dr, tk, os⟩ := by
  repeat (first | with_reducible refine wpAny_madeBy_exc hC ?_ | with_reducible refine wpAny_loadPart_at hC ?_ | wp_step)
  refine codeAny_call_builtin_code (Code.quiet_builtin _ FB.quiet) (look_new FB same hC (new_kw FB same hC ?_))
  show wpAny _ _ _ _ _ _
  have up : ∀ b o, hp.get? b = some o → ((hp.push noArgs).push (excO C hp.objs.size)).get? b = some o := fun b o z => Heap.get?_push_of_some _ (Heap.get?_push_of_some _ z)
  have hCu := up _ _ hC
  have at1 : ((hp.push noArgs).push (excO C hp.objs.size)).get? (hp.objs.size + 1) = some (excO C hp.objs.size) := by heap_get
  have inC : (Value.ref C :: mr).contains (.ref C) = true := by simp
  have liu := li.keeps up
  have lbu := (lb (.ref (hp.objs.size + 1))).keeps up
  unfold isInstance
  repeat (first | (with_reducible refine wpAny_isSubtype_exc hCu ?_; rw [inC]) | with_reducible refine wpAny_loadPart_at at1 ?_ | wp_step)
  show wpAny _ _ (typeLookup (Value.ref C) _) _ _ _
  refine liu.at (wpAny_holding (wpAny_bind (lbu.at (wpAny_bind (wpAny_call (codeAny_mono hq fun r s' z => ?_))))))
  cases r with
  | error e => exact z
  | ok fl =>
    cases fl with
    | ret u =>
      obtain ⟨rfl, z'⟩ := z
      first
        | exact wpAny_pure (wpAny_pure z')
        | (wp_walk; exact z')
        | (wp_walk; done)
    | next => exact z.elim
    | brk => exact z.elim
    | cont => exact z.elim
theorem call_kw (FB : ExcBaseFacts B newId initId bmB) (same : ∀ Y : String, mr.contains (.type Y) = bmB.contains (.type Y)) {fI : Addr}
    (hC : hp.get? C = some (excClassObj nm qn C nsA bs mr hdct sn sub ab col dd s0 s1 s2 s3 s5 newId)) (li : W.Looks (model prog w) hp (typeLookup (.ref C) "__init__") (some (.ref fI)))
    (lb : ∀ z, W.Looks (model prog w) hp (bindSpecial (.ref fI) z) (.ref fI, [z]))
    (hq : codeAny (model prog w) (A.under (.builtin "type.__call__" ⟨[.ref C], [(kn, kv)]⟩)) (.call (.ref fI) ⟨[.ref (hp.objs.size + 1)], [(kn, kv)]⟩) (W.InitBack (hp.objs.size + 1) R) ⟨(hp.push noArgs).push (excO C hp.objs.size), gs, dr, tk, os⟩) :
    codeAny (model prog w) A (.call (.ref C) ⟨[], [(kn, kv)]⟩) R ⟨hp, gs, dr, tk, os⟩ := by
  have a1 := tc_lookup
  have a2 := tc_bind (.ref C)
  have ty : (⟨hp, gs, dr, tk, os⟩ : Shared).TypeIs (.ref C) "type" := ⟨_, hC, rfl⟩
  refine codeAny_of_tree ?_
  show wpAny _ _ (callAny (Value.ref C) _) _ _ _
  repeat (any_goals (first | with_reducible refine wpAny_loadPart_at hC ?_ | assumption | wp_step))
  refine ⟨rfl, codeAny_call_builtin_at (Code.quiet_builtin _ (by decide +kernel)) entry_typeCall (look_call hC (type_call_kw FB same hC li lb ?_))⟩
  exact codeAny_mono hq fun r s' z => by rcases r with e | (u | _ | _ | _) <;> exact z
end
end Exn

set_option Elab.async false
set_option linter.all false
set_option maxRecDepth 100000
set_option maxHeartbeats 4000000
namespace Exn
open PySem L2 PyProof.Rows
/-! ### own exceptions made, as rules -/
/-- what is known of a class that is called -/
structure MkFacts (prog : Program) (K : PySem.W.Frag) (C fI : Addr) (B newId i : String) (bmB : List Value) (par fld : Str) (fd : FuncData) : Prop where
  ini : IniFacts prog K C fI B newId i bmB par fld fd
  kC : PySem.W.keepIn K (Value.ref C) = true
  iC : PySem.W.findIn K (.ref C) "__init__" = some (some (.ref fI))
  tI : PySem.W.typeIn K (.ref fI) = some (.type "function")
  bp : ∀ (s : Shared) (e : Addr) (u : Value), BindsTo s fd ⟨[.ref e, u], []⟩ [("self", .ref e), (par, u)]
  bk : ∀ (s : Shared) (e : Addr) (u : Value), BindsTo s fd ⟨[.ref e], [(par, u)]⟩ [("self", .ref e), (par, u)]
/-- the ground on which a class is called -/
structure Ground (K : PySem.W.Frag) (mg : Str → Option Value) (h : Heap) : Prop where
  kin : K.In h
  nl : h.NoLimit
  gl : h.Ns mainGlobals mg
  sup : mg "super" = none
  bl : ∃ mb : Str → Option Value, h.Ns builtinsNs mb ∧ mb "super" = some (.type "super")
  up : ∀ a, h.objs.size ≤ a → K.lookup a = none
theorem Ground.keeps {K : PySem.W.Frag} {mg : Str → Option Value} {h h' : Heap} (g : Ground K mg h) (k : ∀ b o, h.get? b = some o → h'.get? b = some o) (hs : ∀ a, h'.objs.size ≤ a → h.objs.size ≤ a) : Ground K mg h' :=
  ⟨g.kin.keeps k, g.nl.keeps k, g.gl.keeps k, g.sup, let ⟨mb, b1, b2⟩ := g.bl; ⟨mb, b1.keeps k, b2⟩, fun a ha => g.up a (hs a ha)⟩
section
variable {prog : Program} {w : World} {A : Around} {R : Result → Shared → Prop} {hp : Heap} {gs : Array GenState} {dr : Drawn} {tk : Nat} {os : OsState} {K : PySem.W.Frag} {mg : Str → Option Value} {C fI : Addr} {B newId i : String} {bmB : List Value} {par fld : Str} {fd : FuncData} {u : Value}
/-- the end of a class's call -/
def Made (R : Result → Shared → Prop) (hp : Heap) (gs : Array GenState) (dr : Drawn) (os : OsState) (C : Addr) (fld : Str) (u : Value) : Prop :=
  ∀ (h' : Heap) (tk' : Nat) (a dx t1 : Addr), (∀ b o, hp.get? b = some o → h'.get? b = some o) → hp.objs.size ≤ a → hp.objs.size ≤ dx → dx ≠ a →
    h'.get? a = some { PX.excO C t1 with dict := some dx } → h'.Ns1 dx (fun y => if y = fld then some u else none) → R (.ok (.ret (.ref a))) ⟨h', gs, dr, tk', os⟩
theorem make_pos (F : MkFacts prog K C fI B newId i bmB par fld fd) (Gr : Ground K mg hp) (room : A.depth + 1 < recursionLimit) (q : Made R hp gs dr os C fld u) :
    codeAny (model prog w) A (.call (.ref C) ⟨[u], []⟩) R ⟨hp, gs, dr, tk, os⟩ := by
  obtain ⟨nm, N, qn, bs, bm, hdct, sn, sub, ab, col, dd, k0, k1, k2, k3, k5, hC, hT⟩ := PySem.W.excInit_of Gr.kin F.ini.q
  obtain ⟨mb, b1, b2⟩ := Gr.bl
  have up : ∀ b o, hp.get? b = some o → ((hp.push (PySem.W.kdv_tup [u])).push (PX.excO C hp.objs.size)).get? b = some o := fun b o e => Heap.get?_push_of_some _ (Heap.get?_push_of_some _ e)
  have at1 : ((hp.push (PySem.W.kdv_tup [u])).push (PX.excO C hp.objs.size)).get? (hp.objs.size + 1) = some (PX.excO C hp.objs.size) := by heap_get
  have sz : ((hp.push (PySem.W.kdv_tup [u])).push (PX.excO C hp.objs.size)).objs.size = hp.objs.size + 2 := by rw [Heap.size_push, Heap.size_push]
  have nK : K.lookup (hp.objs.size + 1) = none := Gr.up _ (Nat.le_succ _)
  refine PX.call_own F.ini.FB hT hC (PySem.W.looks_findIn Gr.kin F.iC) (fun self => PySem.W.bind_fn Gr.kin self F.tI) (by show 1 ≤ sizeLine; rw [sizeLine_eq]; omega) ?_
  refine init_run F.ini (by rw [make_depth]; exact room) (Gr.kin.keeps up) (Gr.nl.keeps up) (Gr.gl.keeps up) Gr.sup (b1.keeps up) b2 nK at1 (F.bp _ _ _) fun h' tk' dx t1 c1 c2 c3 c4 c5 => ⟨rfl, ?_⟩
  exact q h' tk' _ dx t1 (fun b o e => c1 b o (Nat.ne_of_lt (Nat.lt_succ_of_lt (Heap.lt_size e))) (up b o e)) (Nat.le_succ _) (by omega) c3 c4 c5
theorem make_kw (F : MkFacts prog K C fI B newId i bmB par fld fd) (Gr : Ground K mg hp) (room : A.depth + 1 < recursionLimit) (q : Made R hp gs dr os C fld u) :
    codeAny (model prog w) A (.call (.ref C) ⟨[], [(par, u)]⟩) R ⟨hp, gs, dr, tk, os⟩ := by
  obtain ⟨nm, N, qn, bs, bm, hdct, sn, sub, ab, col, dd, k0, k1, k2, k3, k5, hC, hT⟩ := PySem.W.excInit_of Gr.kin F.ini.q
  obtain ⟨mb, b1, b2⟩ := Gr.bl
  have up : ∀ b o, hp.get? b = some o → ((hp.push noArgs).push (PX.excO C hp.objs.size)).get? b = some o := fun b o e => Heap.get?_push_of_some _ (Heap.get?_push_of_some _ e)
  have at1 : ((hp.push noArgs).push (PX.excO C hp.objs.size)).get? (hp.objs.size + 1) = some (PX.excO C hp.objs.size) := by heap_get
  have sz : ((hp.push noArgs).push (PX.excO C hp.objs.size)).objs.size = hp.objs.size + 2 := by rw [Heap.size_push, Heap.size_push]
  have nK : K.lookup (hp.objs.size + 1) = none := Gr.up _ (Nat.le_succ _)
  refine call_kw F.ini.FB hT hC (PySem.W.looks_findIn Gr.kin F.iC) (fun self => PySem.W.bind_fn Gr.kin self F.tI) ?_
  refine init_run F.ini (by rw [make_depth]; exact room) (Gr.kin.keeps up) (Gr.nl.keeps up) (Gr.gl.keeps up) Gr.sup (b1.keeps up) b2 nK at1 (F.bk _ _ _) fun h' tk' dx t1 c1 c2 c3 c4 c5 => ⟨rfl, ?_⟩
  exact q h' tk' _ dx t1 (fun b o e => c1 b o (Nat.ne_of_lt (Nat.lt_succ_of_lt (Heap.lt_size e))) (up b o e)) (Nat.le_succ _) (by omega) c3 c4 c5
end
end Exn

set_option Elab.async false
set_option linter.all false
set_option maxRecDepth 100000
set_option maxHeartbeats 4000000
namespace Exn
open PySem L2
section
variable {X : Cx} {pins : List (Addr × Obj)} {σ : St} {H : Hp} {s : Shared} {hp h' : Heap} {gs : Array GenState} {dr : Drawn} {tk tk' : Nat} {os : OsState} {a dx C t1 : Addr} {f : Str} {y : V} {u : Value}
theorem ground_of (I : Inv X pins σ H s) (hs : X.mg "super" = none) : Ground X.K X.mg s.heap := by
  obtain ⟨mb, b1, b2⟩ := I.mod.blt
  refine ⟨I.kIn, I.mod.nolimit.keeps I.bk, I.mod.glob.keeps I.bk, hs, ⟨mb, b1.keeps I.bk, (b2 "super" (by decide)).trans PyProof.Rows.Boot.«super»⟩, fun a ha => ?_⟩
  cases e : X.K.lookup a with
  | none => rfl
  | some o => exact absurd (Heap.lt_size (I.kIn _ _ e)) (Nat.not_lt.mpr ha)
/-- a new exception and its dict stand -/
theorem laid2 (I : Inv X pins σ H ⟨hp, gs, dr, tk, os⟩) (k : ∀ b o, hp.get? b = some o → h'.get? b = some o) (ha : hp.objs.size ≤ a) (hd : hp.objs.size ≤ dx) (ne : dx ≠ a)
    (oa : h'.get? a = some { PX.excO C t1 with dict := some dx }) (nd : h'.Ns1 dx (fun z => if z = f then some u else none)) (ry : RelV y u) :
    Inv X pins σ (upd (upd H dx (exd dx [(f, y)])) a (exo a C (some dx))) ⟨h', gs, dr, tk', os⟩ := by
  have na : H a = none := I.hok.fresh ha
  have nx : H dx = none := I.hok.fresh hd
  have old : ∀ {b : Addr} {o : Obj}, hp.get? b = some o → b ≠ a ∧ b ≠ dx := fun {b o} q => ⟨Nat.ne_of_lt (Nat.lt_of_lt_of_le (Heap.lt_size q) ha), Nat.ne_of_lt (Nat.lt_of_lt_of_le (Heap.lt_size q) hd)⟩
  have kept : ∀ {b : Addr} {o : HO}, H b = some o → upd (upd H dx (exd dx [(f, y)])) a (exo a C (some dx)) b = some o := fun {b o} q => by rw [upd_ne (ne_of_none q na), upd_ne (ne_of_none q nx)]; exact q
  have U : Un X.fs [] H (upd (upd H dx (exd dx [(f, y)])) a (exo a C (some dx))) hp h' := {
    keep := fun b o q _ _ _ => k b o q
    slot := fun b o q _ _ _ => ⟨o.slots, k b o q⟩
    free := fun b o q n _ => by rw [upd_ne (old q).1, upd_ne (old q).2]; exact n
    there := fun b o q _ => ⟨o, k b o q⟩
    tups := fun b xs q => kept q
    frzs := fun b o v q => kept q
    tbls := fun b ps q => ⟨#[], by rw [kept q]; simp⟩ }
  refine I.un (t' := tk') U fun b o q => ?_
  by_cases hb : b = a
  · subst hb
    rw [upd_same] at q
    cases q
    exact exo_ok oa
  · rw [upd_ne hb] at q
    by_cases hx : b = dx
    · subst hx
      rw [upd_same] at q
      cases q
      exact exd_ok nd (relO_put (fs := []) ry fun z => True.intro)
    · rw [upd_ne hx] at q
      exact (I.hok b o q).stay (fun c v _ z => k c v z) (fun c z => kept z) (fun c xs z => kept z)
end
/-- C(e): an own exception with its field -/
def tMk (C : Addr) (fld : Str) (te : TE) : TE := fun σ H Q => te σ H fun y H1 => ∀ a dx, H1 a = none → H1 dx = none → dx ≠ a → Q (.ref a) (upd (upd H1 dx (exd dx [(fld, y)])) a (exo a C (some dx)))
section
variable {X : Cx} {C fI : Addr} {B newId i : String} {bmB : List Value} {par fld : Str} {fd : FuncData} {x : Str} {e : Expr} {te : TE} {p pos kp : Pos}
theorem fin_mk {pins : List (Addr × Obj)} {σ : St} {H1 : Hp} {s1 : Shared} {Q : VK} {u : Value} {y : V} (I1 : Inv X pins σ H1 s1) (ry : RelV y u) (q : ∀ a dx, H1 a = none → H1 dx = none → dx ≠ a → Q (.ref a) (upd (upd H1 dx (exd dx [(fld, y)])) a (exo a C (some dx)))) :
    Made (fun r s' => match r with | .ok (.ret v) => EP X pins σ Q v s' | .ok _ => False | .error z => X.xe z s') s1.heap s1.gens s1.drawn s1.os C fld u := by
  obtain ⟨hp, g, d, t, os⟩ := s1
  intro h' tk' a dx t1 k ha hd ne oa nd
  exact ⟨.ref a, _, laid2 (tk' := tk') I1 k ha hd ne oa nd ry, rfl, q a dx (I1.hok.fresh ha) (I1.hok.fresh hd) ne⟩
theorem pe_mkp (F : MkFacts X.prog X.K C fI B newId i bmB par fld fd) (hs : X.mg "super" = none) (room : X.A.depth + 1 < recursionLimit) (hg : Gl X x) (hm : X.mg x = some (.ref C)) (he : PE X e te) (hns : starEach [e] X.env = (false, eval e X.env) :: starEach [] X.env)
    (hdb : (x == ("__debug__" : Str)) = false) : PE X (.Call (.Name x p) [e] [] pos) (tMk C fld te) := by
  refine ⟨fun pins s σ H Q I h => ?_⟩
  refine wpAny_Call_Name_kw (ld_glob I hg hm ?_ hdb)
  refine PySem.W.callWith_K (h₀ := X.base) I.ok.mod.kin F.kC ?_ hns (by rfl)
  rw [hns]
  (show wpAny _ _ (spliced ((false, eval e X.env) :: backTo pos (starEach [] X.env))) _ _ s)
  refine Calls.spliced_cons (thn (he.run pins s σ H _ I h) fun u s1 ⟨y, H1, I1, r1, q1⟩ => ?_)
  refine Calls.spliced_nil (⟨I1.kIn, ?_⟩ : _ ∧ _)
  show wpAny _ _ (call (Value.ref C) [u]) _ _ _
  have G := ground_of I1 hs
  have M := fin_mk I1 r1 q1
  obtain ⟨hp, g, d, t, os⟩ := s1
  refine wpAny_call (make_pos F G room ?_)
  exact fun h' tk' a dx t1 k ha hd ne oa nd => M h' tk' a dx t1 k ha hd ne oa nd
theorem pe_mkk (F : MkFacts X.prog X.K C fI B newId i bmB par fld fd) (hs : X.mg "super" = none) (room : X.A.depth + 1 < recursionLimit) (hg : Gl X x) (hm : X.mg x = some (.ref C)) (he : PE X e te)
    (hdb : (x == ("__debug__" : Str)) = false) : PE X (.Call (.Name x p) [] [⟨some par, e, kp⟩] pos) (tMk C fld te) := by
  refine ⟨fun pins s σ H Q I h => ?_⟩
  refine wpAny_Call_Name_kw (ld_glob I hg hm ?_ hdb)
  refine PySem.W.callWith_KW0 (h₀ := X.base) I.ok.mod.kin F.kC (by rfl) ?_ (by rfl)
  show wpAny _ _ (evalAll ((do let v ← eval e X.env; standAt pos; pure v) :: [])) _ _ s
  refine wpAny_evalAll_cons (wpAny_bind (thn (he.run pins s σ H _ I h) fun u s1 ⟨y, H1, I1, r1, q1⟩ => wpAny_bind (wpAny_standAt (wpAny_pure (wpAny_evalAll_nil ⟨I1.kIn, ?_⟩)))))
  show wpAny _ _ (call (.ref C) [] [(par, u)]) _ _ _
  have G := ground_of I1 hs
  have M := fin_mk I1 r1 q1
  obtain ⟨hp, g, d, t, os⟩ := s1
  refine wpAny_call (make_kw F G room ?_)
  exact fun h' tk' a dx t1 k ha hd ne oa nd => M h' tk' a dx t1 k ha hd ne oa nd
/-- a class without __init__ of its own -/
structure Mk0Facts (K : PySem.W.Frag) (C : Addr) (B newId i : String) (bmB : List Value) : Prop where
  FB : ExcBaseFacts B newId i bmB
  q : PySem.W.excInitIn K C bmB newId = true
  kC : PySem.W.keepIn K (Value.ref C) = true
  iC : PySem.W.findIn K (.ref C) "__init__" = some (some (.builtin i))
theorem make_0 {prog : Program} {w : World} {A : Around} {R : Result → Shared → Prop} {hp : Heap} {gs : Array GenState} {dr : Drawn} {tk : Nat} {os : OsState} {K : PySem.W.Frag} (F : Mk0Facts K C B newId i bmB) (kin : K.In hp)
    (q : ∀ (h' : Heap) (a t1 : Addr), (∀ b o, hp.get? b = some o → h'.get? b = some o) → hp.objs.size ≤ a → h'.get? a = some (PX.excO C t1) → R (.ok (.ret (.ref a))) ⟨h', gs, dr, tk, os⟩) :
    codeAny (model prog w) A (.call (.ref C) ⟨[], []⟩) R ⟨hp, gs, dr, tk, os⟩ := by
  obtain ⟨nm, N, qn, bs, bm, hdct, sn, sub, ab, col, dd, k0, k1, k2, k3, k5, hC, hT⟩ := PySem.W.excInit_of kin F.q
  have a1 := tc_lookup
  have a2 := tc_bind (.ref C)
  have ty : (⟨hp, gs, dr, tk, os⟩ : Shared).TypeIs (.ref C) "type" := ⟨_, hC, rfl⟩
  refine codeAny_of_tree ?_
  show wpAny _ _ (callAny (Value.ref C) _) _ _ _
  repeat (any_goals (first | with_reducible refine wpAny_loadPart_at hC ?_ | assumption | wp_step))
  refine ⟨rfl, codeAny_call_builtin_at (Code.quiet_builtin _ (by decide +kernel)) entry_typeCall (wpAny_check_type_call_sub hC (PySem.W.type_callB F.FB hT hC (PySem.W.looks_findIn kin F.iC) (by show 0 ≤ sizeLine; exact Nat.zero_le _) fun h' k e _ => ?_))⟩
  exact q h' _ _ k (Nat.le_succ _) e
def tMk0 (C : Addr) : TE := fun σ H Q => ∀ a, H a = none → Q (.ref a) (upd H a (exo a C none))
theorem pe_mk0 (F : Mk0Facts X.K C B newId i bmB) (hg : Gl X x) (hm : X.mg x = some (.ref C)) (hdb : (x == ("__debug__" : Str)) = false) : PE X (.Call (.Name x p) [] [] pos) (tMk0 C) := by
  refine ⟨fun pins s σ H Q I h => ?_⟩
  refine wpAny_Call_Name_kw (ld_glob I hg hm ?_ hdb)
  refine PySem.W.callWith_K0 I.kIn F.kC ?_
  have kin := I.kIn
  obtain ⟨hp, g, d, t, os⟩ := s
  refine wpAny_call (make_0 F kin fun h' a t1 k ha e => ?_)
  exact ⟨.ref a, _, I.laid (t' := t) k ha (exo_ok e), rfl, h a (I.hok.fresh ha)⟩
end
end Exn

set_option Elab.async false
set_option linter.all false
set_option maxRecDepth 100000
set_option maxHeartbeats 4000000
namespace Exn
open PySem L2
/-! ### own exceptions asked: isinstance, a field -/
/-- an exception in hand: with its dict, or without -/
def ExAt (H : Hp) (a C : Addr) : Prop := H a = some (exo a C none) ∨ ∃ (dx : Addr) (fs : List (Str × V)), H a = some (exo a C (some dx)) ∧ H dx = some (exd dx fs)
/-- isinstance(e, c) -/
def rIsx (K : PySem.W.Frag) : List V → Hp → VK → Prop := fun xs H Q => ∃ (a C : Addr) (c : V) (cv : Value) (b : Bool), xs = [.ref a, c] ∧ ExAt H a C ∧ ExcC K C ∧ (∀ u, RelV c u → u = cv) ∧ PySem.W.kitOne K (.ref C) cv = some b ∧ Q (.bl b) H
theorem inst_of {P : Program} {w : World} {H : Hp} {h : Heap} {a C : Addr} (hok : HOk P w H h) (e : ExAt H a C) : ∃ (oe : Obj) (od : Option Obj), PySem.W.InstAt h a oe C od := by
  rcases e with e | ⟨dx, fs, e, ed⟩
  · obtain ⟨t1, q⟩ := exo_at hok e
    exact ⟨_, none, q, rfl, rfl, trivial⟩
  · obtain ⟨t1, q⟩ := exo_at hok e
    obtain ⟨mA, ⟨o, es, ep, ho, _⟩, _⟩ := exd_at hok ed
    exact ⟨_, some o, q, rfl, rfl, ho⟩
theorem call_isx {X : Cx} : CallR X (.builtin "isinstance") (rIsx X.K) := by
  intro pins s σ H xs us Q I r h
  obtain ⟨a, C, c, cv, b, rfl, he, T, hcv, hk, q⟩ := h
  cases r with
  | cons rx rr =>
    cases rr with
    | cons rt rr =>
      cases rr
      cases rx
      have ec := hcv _ rt
      subst ec
      obtain ⟨oe, od, J⟩ := inst_of I.hok he
      have hcl : (PySem.W.clsIn X.K C).isSome = true := by
        obtain ⟨cd, hc, _⟩ := PySem.W.any_some T.hd
        rw [hc]
        rfl
      exact PySem.W.kia_one (PySem.W.kitx_exc hcl T.hg T.hk T.hs T.ha T.hn T.ht T.hm) I.kIn J hk (fun z => nomatch z) fun tk => ⟨.bl b, H, I.kept (t' := tk) fun _ _ z => z, rfl, q⟩
/-- e.f -/
def tXat (K : PySem.W.Frag) (f : Str) (te : TE) : TE := fun σ H Q => te σ H fun x H1 => ∃ (a C dx : Addr) (fs : List (Str × V)) (v : V), x = .ref a ∧ H1 a = some (exo a C (some dx)) ∧ H1 dx = some (exd dx fs) ∧ XfC K C ∧ PySem.W.findIn K (.ref C) f = some none ∧ fs.lookup f = some v ∧ Q v H1
theorem pe_xat {X : Cx} {e : Expr} {te : TE} {pos : Pos} {f : Str} (he : PE X e te) (hb : attributeBase e f X.env (eval e X.env) = eval e X.env) : PE X (.Attribute e f pos) (tXat X.K f te) := by
  refine ⟨fun pins s σ H Q I h => ?_⟩
  refine attr_of hb (thn (he.run pins s σ H _ I h) fun u s1 ⟨x, H1, I1, rx, a, C, dx, fs, v, ex, ea, ed, T, hno, l, q⟩ => ?_)
  subst ex
  obtain rfl : u = Value.ref a := rx
  obtain ⟨t1, ha⟩ := exo_at I1.hok ea
  obtain ⟨mA, hns, rel⟩ := exd_at I1.hok ed
  obtain ⟨od, hod, hl⟩ := lookIn_ns hns
  obtain ⟨u, hu, ru⟩ := RelO.some_of (v := v) (o := mA f) (by rw [← l]; exact rel f)
  exact HandSPX.exc_get (od := some od) I1.kIn ⟨ha, rfl, rfl, hod⟩ T.ga T.gg T.exC (PySem.W.findObj_own T.hdC hno rfl (by rw [hl, hu])) (handed_of ru) ⟨v, H1, I1.tok _, ru, q⟩
end Exn

set_option Elab.async false
set_option linter.all false
set_option autoImplicit false
set_option maxRecDepth 100000
set_option maxHeartbeats 2000000
namespace Ev
open PySem L2
abbrev Sg := L2.St

abbrev Sub (G H : Hp) : Prop := ∀ b o, G b = some o → H b = some o
theorem Sub.refl (G : Hp) : Sub G G := fun _ _ h => h
theorem Sub.trans {G H I : Hp} (a : Sub G H) (b : Sub H I) : Sub G I := fun c o h => b c o (a c o h)

/-- a field's content -/
inductive Atm (G : Hp) : V → D → Prop
  | non : Atm G .non .none
  | int (i : Int) : Atm G (.int i) (.int i)
  | str (x : Str) : Atm G (.str x) (.str x)
  | nil {a : Addr} : G a = some (.lst []) → Atm G (.ref a) (.list [])
theorem Atm.mono {G G' : Hp} (s : Sub G G') : ∀ {v : V} {d : D}, Atm G v d → Atm G' v d
  | _, _, .non => .non
  | _, _, .int i => .int i
  | _, _, .str x => .str x
  | _, _, .nil e => .nil (s _ _ e)
/- a value reads as data, by what is frozen; T: the drawing list, an opaque thing -/
mutual
inductive Is (T : Option Addr) (G : Hp) : V → D → Prop
  | non : Is T G .non .none
  | bl (b : Bool) : Is T G (.bl b) (.bool b)
  | int (i : Int) : Is T G (.int i) (.int i)
  | str (x : Str) : Is T G (.str x) (.str x)
  | lst {a : Addr} {vs : List V} {ds : List D} : G a = some (.lst vs) → IsAll T G vs ds → Is T G (.ref a) (.list ds)
  | tup {a : Addr} {vs : List V} {ds : List D} : G a = some (.tup vs) → IsAll T G vs ds → Is T G (.ref a) (.tuple ds)
  | tub {a : Addr} : T = some a → Is T G (.ref a) (.dict [])
  | scr {a : Addr} {o : Obj} {ns : List Int} : G a = some (.frz o (.lst (ns.map V.int))) → Is T G (.ref a) (Ev.scr ns)
  | xc0 {a C : Addr} : G a = some (exo a C none) → Is T G (.ref a) (Ev.xc0 C)
  | xc1 {a C dx : Addr} {f : Str} {v : V} {d : D} : G a = some (exo a C (some dx)) → G dx = some (exd dx [(f, v)]) → Atm G v d → Is T G (.ref a) (Ev.xcD C f d)
inductive IsAll (T : Option Addr) (G : Hp) : List V → List D → Prop
  | nil : IsAll T G [] []
  | cons {v : V} {vs : List V} {d : D} {ds : List D} : Is T G v d → IsAll T G vs ds → IsAll T G (v :: vs) (d :: ds)
end
section
variable {T : Option Addr} {G G' H H' : Hp}
mutual
theorem Is.mono (s : Sub G G') : ∀ (d : D) (v : V), Is T G v d → Is T G' v d
  | .none, _, h => by cases h; exact .non
  | .bool _, _, h => by cases h; exact .bl _
  | .int _, _, h => by cases h; exact .int _
  | .str _, _, h => by cases h; exact .str _
  | .list ds, _, h => by
    cases h with
    | lst e r => exact .lst (s _ _ e) (IsAll.mono s ds _ r)
  | .tuple ds, _, h => by
    cases h with
    | tup e r => exact .tup (s _ _ e) (IsAll.mono s ds _ r)
  | .dict _, _, h => by
    cases h with
    | tub e => exact .tub e
    | scr e => exact .scr (s _ _ e)
    | xc0 e => exact .xc0 (s _ _ e)
    | xc1 e e' q => exact .xc1 (s _ _ e) (s _ _ e') (q.mono s)
theorem IsAll.mono (s : Sub G G') : ∀ (ds : List D) (vs : List V), IsAll T G vs ds → IsAll T G' vs ds
  | [], _, h => by cases h; exact .nil
  | d :: ds, _, h => by
    cases h with
    | cons a b => exact .cons (Is.mono s d _ a) (IsAll.mono s ds _ b)
end
mutual
theorem Is.dp {K : PySem.W.Frag} (s : Sub G H) : ∀ (d : D) (v : V), d.canLay0 = true → Is T G v d → Dp K H v d
  | .none, _, _, h => by cases h; exact .non
  | .bool _, _, _, h => by cases h; exact .bl _
  | .int _, _, _, h => by cases h; exact .int _
  | .str _, _, _, h => by cases h; exact .str _
  | .list ds, _, c, h => by
    cases h with
    | lst e r => exact .lst (.of (s _ _ e)) (IsAll.dp s ds _ (by simpa [PyData.canLay0] using c) r)
  | .tuple ds, _, c, h => by
    cases h with
    | tup e r => exact .tup (.of (s _ _ e)) (IsAll.dp s ds _ (by simpa [PyData.canLay0] using c) r)
  | .dict _, _, c, _ => by simp [PyData.canLay0] at c
theorem IsAll.dp {K : PySem.W.Frag} (s : Sub G H) : ∀ (ds : List D) (vs : List V), PyData.canLayAll0 ds = true → IsAll T G vs ds → DpAll K H vs ds
  | [], _, _, h => by cases h; exact .nil
  | d :: ds, _, c, h => by
    have c' : d.canLay0 = true ∧ PyData.canLayAll0 ds = true := by simpa [PyData.canLayAll0] using c
    cases h with
    | cons a b => exact .cons (Is.dp s d _ c'.1 a) (IsAll.dp s ds _ c'.2 b)
end
theorem IsAll.ofInts : ∀ ns : List Int, IsAll T G (ns.map V.int) (ns.map PyData.int)
  | [] => .nil
  | n :: ns => .cons (.int n) (IsAll.ofInts ns)
theorem IsAll.length : ∀ {ds : List D} {vs : List V}, IsAll T G vs ds → vs.length = ds.length
  | [], _, h => by cases h; rfl
  | d :: ds, _, h => by
    cases h with
    | cons a b => simp [IsAll.length b]
theorem IsAll.append : ∀ {ds es : List D} {vs us : List V}, IsAll T G vs ds → IsAll T G us es → IsAll T G (vs ++ us) (ds ++ es)
  | [], _, _, _, h, k => by cases h; exact k
  | d :: ds, _, _, _, h, k => by
    cases h with
    | cons a b => exact .cons a (IsAll.append b k)
theorem IsAll.get : ∀ {ds : List D} {vs : List V} {i : Nat} {d : D}, IsAll T G vs ds → ds[i]? = some d → ∃ v, vs[i]? = some v ∧ Is T G v d
  | [], _, i, d, h, e => by simp at e
  | d :: ds, _, 0, _, h, e => by
    cases h with
    | cons a b => simp at e; subst e; exact ⟨_, by simp, a⟩
  | d :: ds, _, i + 1, _, h, e => by
    cases h with
    | cons a b =>
      obtain ⟨v, h1, h2⟩ := IsAll.get (i := i) b (by simpa using e)
      exact ⟨v, by simpa using h1, h2⟩
theorem IsAll.get' {ds : List D} {vs : List V} {i : Nat} {v : V} (h : IsAll T G vs ds) (e : vs[i]? = some v) : ∃ d, ds[i]? = some d ∧ Is T G v d := by
  obtain ⟨hi, rfl⟩ := List.getElem?_eq_some_iff.mp e
  have hl := h.length
  obtain ⟨v, h1, h2⟩ := h.get (i := i) (d := ds[i]'(by omega)) (by simp)
  rw [h1] at e; cases e
  exact ⟨_, by simp, h2⟩
theorem IsAll.of_get : ∀ {ds : List D} {vs : List V}, vs.length = ds.length → (∀ (i : Nat) v d, vs[i]? = some v → ds[i]? = some d → Is T G v d) → IsAll T G vs ds
  | [], [], _, _ => .nil
  | [], _ :: _, h, _ => by simp at h
  | _ :: _, [], h, _ => by simp at h
  | d :: ds, v :: vs, h, k => .cons (k 0 v d (by simp) (by simp)) (IsAll.of_get (by simpa using h) fun i v d h1 h2 => k (i + 1) v d (by simpa using h1) (by simpa using h2))
theorem IsAll.take : ∀ {ds : List D} {vs : List V} (n : Nat), IsAll T G vs ds → IsAll T G (vs.take n) (ds.take n)
  | [], _, n, h => by cases h; simp; exact .nil
  | d :: ds, _, 0, h => by simp; exact .nil
  | d :: ds, _, n + 1, h => by
    cases h with
    | cons a b => simpa using IsAll.cons a (IsAll.take n b)
theorem IsAll.drop : ∀ {ds : List D} {vs : List V} (n : Nat), IsAll T G vs ds → IsAll T G (vs.drop n) (ds.drop n)
  | [], _, n, h => by cases h; simp; exact .nil
  | d :: ds, _, 0, h => by simpa using h
  | d :: ds, _, n + 1, h => by
    cases h with
    | cons a b => simpa using IsAll.drop n b
theorem IsAll.reverse {ds : List D} {vs : List V} (h : IsAll T G vs ds) : IsAll T G vs.reverse ds.reverse := by
  refine IsAll.of_get (by simp [h.length]) fun i v d h1 h2 => ?_
  have hl := h.length
  have hi : i < vs.length := by have := (List.getElem?_eq_some_iff.mp h1).1; simpa using this
  rw [List.getElem?_reverse hi] at h1
  rw [List.getElem?_reverse (by omega)] at h2
  rw [← hl] at h2
  obtain ⟨v', e1, e2⟩ := h.get h2
  rw [h1] at e1; cases e1
  exact e2
theorem IsAll.set {ds : List D} {vs : List V} {v : V} {d : D} (j : Nat) (h : IsAll T G vs ds) (r : Is T G v d) : IsAll T G (vs.set j v) (ds.set j d) := by
  refine IsAll.of_get (by simp [h.length]) fun i v' d' h1 h2 => ?_
  by_cases hij : j = i
  · subst hij
    rw [List.getElem?_set] at h1 h2
    simp only [if_true] at h1 h2
    split at h1
    · cases h1
      split at h2
      · cases h2; exact r
      · cases h2
    · cases h1
  · rw [List.getElem?_set_ne hij] at h1 h2
    obtain ⟨v2, e1, e2⟩ := h.get h2
    rw [h1] at e1; cases e1
    exact e2
theorem IsAll.split : ∀ {ds es : List D} {vs : List V}, IsAll T G vs (ds ++ es) → ∃ u w, vs = u ++ w ∧ IsAll T G u ds ∧ IsAll T G w es
  | [], es, vs, h => ⟨[], vs, rfl, .nil, h⟩
  | d :: ds, es, _, h => by
    cases h with
    | cons a b =>
      obtain ⟨u, w, rfl, h1, h2⟩ := IsAll.split b
      exact ⟨_ :: u, w, rfl, .cons a h1, h2⟩
theorem IsAll.ints : ∀ {ds : List D} {vs : List V} {ns : List Int}, IsAll T G vs ds → intsOf ds = some ns → vs = ns.map V.int ∧ ds = ns.map PyData.int
  | [], _, _, h, e => by cases h; cases e; exact ⟨rfl, rfl⟩
  | d :: ds, _, ns, h, e => by
    cases h with
    | cons a b =>
      cases d with
      | int i =>
        simp only [intsOf, Option.map_eq_some_iff] at e
        obtain ⟨ms, e1, rfl⟩ := e
        obtain ⟨r1, r2⟩ := b.ints e1
        cases a
        exact ⟨by rw [r1]; rfl, by rw [r2]; rfl⟩
      | _ => simp [intsOf] at e
theorem IsAll.bls : ∀ {ds : List D} {vs : List V} {ns : List Bool}, IsAll T G vs ds → blsOf ds = some ns → vs = ns.map V.bl
  | [], _, _, h, e => by cases h; cases e; rfl
  | d :: ds, _, ns, h, e => by
    cases h with
    | cons a b =>
      cases d with
      | bool i =>
        simp only [blsOf, Option.map_eq_some_iff] at e
        obtain ⟨ms, e1, rfl⟩ := e
        have r1 := b.bls e1
        cases a
        rw [r1]; rfl
      | _ => simp [blsOf] at e
theorem IsAll.rep {ds : List D} {vs : List V} (h : IsAll T G vs ds) : ∀ n : Nat, IsAll T G (List.replicate n vs).flatten (List.replicate n ds).flatten
  | 0 => .nil
  | n + 1 => by
    rw [List.replicate_succ, List.replicate_succ]
    exact h.append (IsAll.rep h n)
end

/-- the drawing list -/
def TubOk (T : Option Addr) (H : Hp) : Prop := ∀ a, T = some a → ∃ x y z : Int, H a = some (.lst [.int x, .int y, .int z]) ∧ tubB y = true

/-- a step: what is frozen stays, all that stood stays (but the drawing list), what is newly frozen is new -/
structure Stp (T : Option Addr) (G H G' H' : Hp) : Prop where
  gs : Sub G G'
  gh : Sub G' H'
  keep : ∀ b o, T ≠ some b → H b = some o → H' b = some o
  new : ∀ b o, G' b = some o → G b = some o ∨ H b = none ∨ ∃ xs, H b = some (.tup xs)
  tub : TubOk T H'
section
variable {T : Option Addr} {G H G' H' G'' H'' : Hp}
theorem Stp.refl (s : Sub G H) (t : TubOk T H) : Stp T G H G H := ⟨.refl _, s, fun _ _ _ h => h, fun _ _ h => .inl h, t⟩
theorem Stp.back (a : Stp T G H G' H') (t : TubOk T H) {b : Addr} (h : H' b = none) : H b = none := by
  cases e : H b with
  | none => rfl
  | some o =>
    by_cases hT : T = some b
    · obtain ⟨x, y, z, q, _⟩ := a.tub b hT
      rw [h] at q; cases q
    · rw [a.keep b o hT e] at h; cases h
theorem Stp.trans (a : Stp T G H G' H') (b : Stp T G' H' G'' H'') (t : TubOk T H) : Stp T G H G'' H'' :=
  ⟨a.gs.trans b.gs, b.gh, fun c o hT h => b.keep c o hT (a.keep c o hT h), fun c o h => by
    rcases b.new c o h with q | q | ⟨xs, q⟩
    · exact a.new c o q
    · exact .inr (.inl (a.back t q))
    · cases e : H c with
      | none => exact .inr (.inl rfl)
      | some u =>
        refine .inr (.inr ⟨xs, ?_⟩)
        have hT : T ≠ some c := fun z => by
          obtain ⟨_, _, _, w, _⟩ := a.tub c z
          rw [q] at w; cases w
        have := a.keep c u hT e
        rw [q] at this
        exact this.symm, b.tub⟩
/-- a new object, frozen at once -/
theorem Stp.laid (s : Sub G H) (t : TubOk T H) {p : Addr} {o : HO} (hp : H p = none) : Stp T G H (upd G p o) (upd H p o) := by
  have gp : G p = none := by
    cases e : G p with
    | none => rfl
    | some u => rw [s p u e] at hp; cases hp
  refine ⟨fun b u e => ?_, fun b u e => ?_, fun b u _ e => ?_, fun b u e => ?_, fun a e => ?_⟩
  · by_cases hb : b = p
    · subst hb; rw [gp] at e; cases e
    · rw [upd_ne hb]; exact e
  · by_cases hb : b = p
    · subst hb; rw [upd_same] at e ⊢; exact e
    · rw [upd_ne hb] at e ⊢; exact s b u e
  · by_cases hb : b = p
    · subst hb; rw [hp] at e; cases e
    · rw [upd_ne hb]; exact e
  · by_cases hb : b = p
    · subst hb; exact .inr (.inl hp)
    · rw [upd_ne hb] at e; exact .inl e
  · obtain ⟨x, y, z, q, r⟩ := t a e
    refine ⟨x, y, z, ?_, r⟩
    rw [upd_ne (ne_of_none q hp)]; exact q
/-- a new object, not frozen -/
theorem Stp.fresh (s : Sub G H) (t : TubOk T H) {p : Addr} {o : HO} (hp : H p = none) : Stp T G H G (upd H p o) := by
  refine ⟨.refl _, fun b u e => ?_, fun b u _ e => ?_, fun b u e => .inl e, fun a e => ?_⟩
  · have q := s b u e
    rw [upd_ne (ne_of_none q hp)]; exact q
  · rw [upd_ne (ne_of_none e hp)]; exact e
  · obtain ⟨x, y, z, q, r⟩ := t a e
    refine ⟨x, y, z, ?_, r⟩
    rw [upd_ne (ne_of_none q hp)]; exact q
end

def flatKey : D → Option L2.Key
  | .int i => some (.inl i)
  | .str x => some (.inr x)
  | _ => none
def flatKeys : List D → Option (List L2.Key)
  | [] => some []
  | d :: r => (flatKey d).bind fun k => (flatKeys r).map (k :: ·)
def tupKey : D → Option (List L2.Key)
  | .tuple xs => flatKeys xs
  | _ => none
inductive KvF (T : Option Addr) (G : Hp) {κ : Type} (f : D → Option κ) : List (D × D) → List (κ × V) → Prop
  | nil : KvF T G f [] []
  | cons {k x : D} {r : List (D × D)} {q : κ} {v : V} {s : List (κ × V)} : f k = some q → Is T G v x → KvF T G f r s → KvF T G f ((k, x) :: r) ((q, v) :: s)
theorem KvF.mono {T : Option Addr} {G G' : Hp} {κ : Type} {f : D → Option κ} (s : Sub G G') : ∀ {l : List (D × D)} {m : List (κ × V)}, KvF T G f l m → KvF T G' f l m
  | _, _, .nil => .nil
  | _, _, .cons h1 h2 h3 => .cons h1 (h2.mono s _ _) (KvF.mono s h3)
def DicOk (T : Option Addr) (G H : Hp) (a : Addr) (t : Bool) (kvs : List (D × D)) : Prop :=
  (t = false ∧ ∃ ks, H a = some (.dK ks) ∧ KvF T G flatKey kvs ks) ∨ (t = true ∧ ∃ ks, H a = some (.dT ks) ∧ KvF T G tupKey kvs ks)

def Sl.mut : Sl → Bool
  | .val _ => false
  | _ => true
/-- lists of one's own, all unlike -/
inductive InnAll (T : Option Addr) (H0 G H : Hp) : List Addr → List (List D) → Prop
  | nil : InnAll T H0 G H [] []
  | cons {b : Addr} {as : List Addr} {vs : List V} {xs : List D} {xss : List (List D)} : G b = none → H0 b = none → T ≠ some b → H b = some (.lst vs) → IsAll T G vs xs → InnAll T H0 G H as xss → InnAll T H0 G H (b :: as) (xs :: xss)
/-- a slot's content in the value v -/
def SlOk (T : Option Addr) (H0 G H : Hp) : Sl → V → Prop
  | .val d, v => Is T G v d
  | .own xs, v => ∃ a vs, v = V.ref a ∧ G a = none ∧ H0 a = none ∧ T ≠ some a ∧ H a = some (.lst vs) ∧ IsAll T G vs xs
  | .dic t kvs, v => ∃ a, v = V.ref a ∧ G a = none ∧ H0 a = none ∧ T ≠ some a ∧ DicOk T G H a t kvs
  | .own2 xss, v => ∃ a as, v = V.ref a ∧ G a = none ∧ H0 a = none ∧ T ≠ some a ∧ H a = some (.lst (as.map V.ref)) ∧ (a :: as).Nodup ∧ InnAll T H0 G H as xss
/-- the addresses that are a slot's own -/
def AtS (H : Hp) : Sl → V → Addr → Prop
  | .val _, _, _ => False
  | .own _, v, b => v = V.ref b
  | .dic _ _, v, b => v = V.ref b
  | .own2 _, v, b => v = V.ref b ∨ ∃ (a : Addr) (as : List Addr), v = V.ref a ∧ H a = some (.lst (as.map V.ref)) ∧ b ∈ as
theorem AtS.self {H : Hp} {s : Sl} {a : Addr} (h : s.mut = true) : AtS H s (.ref a) a := by
  cases s with
  | val d => cases h
  | own xs => exact rfl
  | dic t kvs => exact rfl
  | own2 xss => exact .inl rfl
theorem map_ref_inj : ∀ {as bs : List Addr}, as.map V.ref = bs.map V.ref → as = bs
  | [], [], _ => rfl
  | [], _ :: _, h => by cases h
  | _ :: _, [], h => by cases h
  | a :: as, b :: bs, h => by
    rw [List.map_cons, List.map_cons] at h
    injection h with h1 h2
    injection h1 with h1
    rw [h1, map_ref_inj h2]
theorem InnAll.move {T : Option Addr} {H0 H0' G G' H H' : Hp} (hs : Sub G G') : ∀ {as : List Addr} {xss : List (List D)}, InnAll T H0 G H as xss → (∀ b ∈ as, G' b = none ∧ H0' b = none ∧ H' b = H b) → InnAll T H0' G' H' as xss
  | _, _, .nil, _ => .nil
  | _, _, .cons h1 h2 h3 h4 h5 h6, k => by
    obtain ⟨k1, k2, k3⟩ := k _ List.mem_cons_self
    exact .cons k1 k2 h3 (k3.trans h4) (h5.mono hs _ _) (InnAll.move hs h6 fun b hb => k b (List.mem_cons_of_mem _ hb))
theorem InnAll.at {T : Option Addr} {H0 G H : Hp} : ∀ {as : List Addr} {xss : List (List D)} {b : Addr}, InnAll T H0 G H as xss → b ∈ as → G b = none ∧ H0 b = none ∧ T ≠ some b ∧ ∃ vs, H b = some (.lst vs)
  | _, _, b, .nil, h => by cases h
  | _, _, b, .cons h1 h2 h3 h4 h5 h6, h => by
    rcases List.mem_cons.mp h with rfl | h
    · exact ⟨h1, h2, h3, _, h4⟩
    · exact h6.at h
theorem InnAll.length {T : Option Addr} {H0 G H : Hp} : ∀ {as : List Addr} {xss : List (List D)}, InnAll T H0 G H as xss → as.length = xss.length
  | _, _, .nil => rfl
  | _, _, .cons _ _ _ _ _ h => by simp [h.length]
theorem InnAll.get {T : Option Addr} {H0 G H : Hp} : ∀ {as : List Addr} {xss : List (List D)} {k : Nat} {xs : List D}, InnAll T H0 G H as xss → xss[k]? = some xs → ∃ b vs, as[k]? = some b ∧ G b = none ∧ H0 b = none ∧ T ≠ some b ∧ H b = some (.lst vs) ∧ IsAll T G vs xs
  | _, _, k, xs, .nil, h => by simp at h
  | _, _, 0, xs, .cons h1 h2 h3 h4 h5 h6, h => by
    simp at h
    subst h
    exact ⟨_, _, by simp, h1, h2, h3, h4, h5⟩
  | _, _, k + 1, xs, .cons h1 h2 h3 h4 h5 h6, h => by
    obtain ⟨b, vs, e, q⟩ := h6.get (k := k) (by simpa using h)
    exact ⟨b, vs, by simpa using e, q⟩
theorem InnAll.append {T : Option Addr} {H0 G H : Hp} : ∀ {as bs : List Addr} {xss yss : List (List D)}, InnAll T H0 G H as xss → InnAll T H0 G H bs yss → InnAll T H0 G H (as ++ bs) (xss ++ yss)
  | _, _, _, _, .nil, k => k
  | _, _, _, _, .cons h1 h2 h3 h4 h5 h6, k => .cons h1 h2 h3 h4 h5 (h6.append k)
/-- one inner list is changed -/
theorem InnAll.set {T : Option Addr} {H0 G H : Hp} {b : Addr} {vs : List V} {xs : List D} (hv : IsAll T G vs xs) : ∀ {as : List Addr} {xss : List (List D)} {k : Nat}, InnAll T H0 G H as xss → as.Nodup → as[k]? = some b → InnAll T H0 G (upd H b (.lst vs)) as (xss.set k xs)
  | _, _, k, .nil, _, h => by simp at h
  | _, _, 0, .cons h1 h2 h3 h4 h5 h6, nd, h => by
    simp at h
    subst h
    rw [List.set_cons_zero]
    refine .cons h1 h2 h3 upd_same hv (h6.move (.refl G) fun c hc => ?_)
    obtain ⟨c1, c2, _⟩ := h6.at hc
    exact ⟨c1, c2, upd_ne fun z => by subst z; exact (List.nodup_cons.mp nd).1 hc⟩
  | _, _, k + 1, .cons (b := c) h1 h2 h3 h4 h5 h6, nd, h => by
    rw [List.set_cons_succ]
    have hb := List.mem_of_getElem? (show _ = some b by simpa using h)
    refine .cons h1 h2 h3 ?_ h5 (InnAll.set hv h6 (List.nodup_cons.mp nd).2 (by simpa using h))
    rw [upd_ne fun z => by subst z; exact (List.nodup_cons.mp nd).1 hb]
    exact h4
theorem DicOk.there {T : Option Addr} {G H : Hp} {a : Addr} {b : Bool} {kvs : List (D × D)} (h : DicOk T G H a b kvs) : ∃ o, H a = some o := by
  rcases h with ⟨_, ks, e, _⟩ | ⟨_, ks, e, _⟩
  · exact ⟨_, e⟩
  · exact ⟨_, e⟩
/-- what is a slot's own -/
theorem SlOk.mine {T : Option Addr} {H0 G H : Hp} {s : Sl} {v : V} {b : Addr} (h : SlOk T H0 G H s v) (a : AtS H s v b) : G b = none ∧ H0 b = none ∧ T ≠ some b ∧ ∃ o, H b = some o ∧ (∀ xs, o ≠ .tup xs) ∧ ∀ od u, o ≠ .frz od u := by
  cases s with
  | val d => exact a.elim
  | own xs =>
    obtain ⟨c, vs, rfl, g, h0, hT, hH, hi⟩ := h
    cases a
    exact ⟨g, h0, hT, _, hH, (fun xs e => by cases e), (fun od u e => by cases e)⟩
  | dic t kvs =>
    obtain ⟨c, rfl, g, h0, hT, hd⟩ := h
    cases a
    refine ⟨g, h0, hT, ?_⟩
    rcases hd with ⟨_, ks, e, _⟩ | ⟨_, ks, e, _⟩
    · exact ⟨_, e, (fun xs e => by cases e), (fun od u e => by cases e)⟩
    · exact ⟨_, e, (fun xs e => by cases e), (fun od u e => by cases e)⟩
  | own2 xss =>
    obtain ⟨c, as, rfl, g, h0, hT, hH, nd, hi⟩ := h
    rcases a with a | ⟨a, bs, e, e2, hb⟩
    · cases a
      exact ⟨g, h0, hT, _, hH, (fun xs e => by cases e), (fun od u e => by cases e)⟩
    · cases e
      rw [hH] at e2
      cases map_ref_inj (HO.lst.inj (Option.some.inj e2))
      obtain ⟨c1, c2, c3, vs, c4⟩ := hi.at hb
      exact ⟨c1, c2, c3, _, c4, (fun xs e => by cases e), (fun od u e => by cases e)⟩
theorem SlOk.move {T : Option Addr} {H0 H0' G G' H H' : Hp} {s : Sl} {v : V} (h : SlOk T H0 G H s v) (hs : Sub G G') (k : ∀ b, AtS H s v b → G' b = none ∧ H0' b = none ∧ H' b = H b) : SlOk T H0' G' H' s v := by
  cases s with
  | val d => exact Is.mono hs _ _ h
  | own xs =>
    obtain ⟨c, vs, rfl, g, h0, hT, hH, hi⟩ := h
    obtain ⟨k1, k2, k3⟩ := k c rfl
    exact ⟨c, vs, rfl, k1, k2, hT, k3.trans hH, hi.mono hs _ _⟩
  | dic t kvs =>
    obtain ⟨c, rfl, g, h0, hT, hd⟩ := h
    obtain ⟨k1, k2, k3⟩ := k c rfl
    refine ⟨c, rfl, k1, k2, hT, ?_⟩
    rcases hd with ⟨et, ks, e1, e2⟩ | ⟨et, ks, e1, e2⟩
    · exact .inl ⟨et, ks, k3.trans e1, e2.mono hs⟩
    · exact .inr ⟨et, ks, k3.trans e1, e2.mono hs⟩
  | own2 xss =>
    obtain ⟨c, as, rfl, g, h0, hT, hH, nd, hi⟩ := h
    obtain ⟨k1, k2, k3⟩ := k c (.inl rfl)
    exact ⟨c, as, rfl, k1, k2, hT, k3.trans hH, nd, hi.move hs fun b hb => k b (.inr ⟨c, as, rfl, hH, hb⟩)⟩
theorem AtS.back {T : Option Addr} {H0 G H H' : Hp} {s : Sl} {v : V} {c : Addr} (h : SlOk T H0 G H s v) (k : ∀ b, AtS H s v b → H' b = H b) (a : AtS H' s v c) : AtS H s v c := by
  cases s with
  | val d => exact a
  | own xs => exact a
  | dic t kvs => exact a
  | own2 xss =>
    obtain ⟨d, as, rfl, g, h0, hT, hH, nd, hi⟩ := h
    rcases a with a | ⟨a, bs, e, e2, hb⟩
    · exact .inl a
    · cases e
      rw [k d (.inl rfl)] at e2
      exact .inr ⟨d, bs, rfl, e2, hb⟩

structure Rep (T : Option Addr) (G0 H0 : Hp) (ρ : Ro) (σ : Sg) (G H : Hp) : Prop where
  st : Stp T G0 H0 G H
  t0 : TubOk T H0
  tg : ∀ a, T = some a → G a = none
  len : ρ.length = σ.length
  sl : ∀ (i : Nat) (s : Sl), ρ[i]? = some (some s) → ∃ v, σ[i]? = some (some v) ∧ SlOk T H0 G H s v
  apx : ∀ (i j : Nat) (si sj : Sl) (vi vj : V) (b : Addr), ρ[i]? = some (some si) → ρ[j]? = some (some sj) → σ[i]? = some (some vi) → σ[j]? = some (some vj) → AtS H si vi b → AtS H sj vj b → i = j
section
variable {T : Option Addr} {G0 H0 G H G' H' : Hp} {ρ : Ro} {σ : Sg}
theorem Rep.ap (r : Rep T G0 H0 ρ σ G H) (i j : Nat) (a : Addr) (si sj : Sl) (h1 : ρ[i]? = some (some si)) (h2 : ρ[j]? = some (some sj)) (m1 : si.mut = true) (m2 : sj.mut = true) (e1 : σ[i]? = some (some (V.ref a))) (e2 : σ[j]? = some (some (V.ref a))) : i = j :=
  r.apx i j si sj _ _ a h1 h2 e1 e2 (.self m1) (.self m2)
theorem Rep.sub (r : Rep T G0 H0 ρ σ G H) : Sub G H := r.st.gh
theorem Rep.tub (r : Rep T G0 H0 ρ σ G H) : TubOk T H := r.st.tub
theorem stp_at {s : Sl} {v : V} (h : SlOk T H0 G H s v) (k : Stp T G H G' H') (b : Addr) (a : AtS H s v b) : G' b = none ∧ H0 b = none ∧ H' b = H b := by
  obtain ⟨g, h0, hT, o, hH, ht, _⟩ := h.mine a
  refine ⟨?_, h0, (k.keep b _ hT hH).trans hH.symm⟩
  cases q : G' b with
  | none => rfl
  | some o' =>
    rcases k.new b o' q with z | z | ⟨ys, z⟩
    · rw [g] at z; cases z
    · rw [hH] at z; cases z
    · rw [hH] at z; exact absurd (Option.some.inj z) (ht ys)
theorem SlOk.step {s : Sl} {v : V} (h : SlOk T H0 G H s v) (k : Stp T G H G' H') : SlOk T H0 G' H' s v := h.move k.gs (stp_at h k)
theorem Rep.step (r : Rep T G0 H0 ρ σ G H) (k : Stp T G H G' H') : Rep T G0 H0 ρ σ G' H' := by
  refine ⟨r.st.trans k r.t0, r.t0, fun a e => ?_, r.len, fun i s e => ?_, fun i j si sj vi vj b h1 h2 e1 e2 a1 a2 => ?_⟩
  · cases q : G' a with
    | none => rfl
    | some o =>
      rcases k.new a o q with z | z | ⟨ys, z⟩
      · rw [r.tg a e] at z; cases z
      · obtain ⟨_, _, _, y, _⟩ := r.tub a e
        rw [z] at y; cases y
      · obtain ⟨_, _, _, y, _⟩ := r.tub a e
        rw [z] at y; cases y
  · obtain ⟨v, h1, h2⟩ := r.sl i s e
    exact ⟨v, h1, h2.step k⟩
  · obtain ⟨wi, f1, q1⟩ := r.sl i si h1
    obtain ⟨wj, f2, q2⟩ := r.sl j sj h2
    rw [e1] at f1; cases f1
    rw [e2] at f2; cases f2
    exact r.apx i j si sj vi vj b h1 h2 e1 e2 (a1.back q1 fun b a => (stp_at q1 k b a).2.2) (a2.back q2 fun b a => (stp_at q2 k b a).2.2)
/-- forgetting -/
theorem Rep.forget (r : Rep T G0 H0 ρ σ G H) {ρ' : Ro} {σ' : St} (hl : ρ'.length = σ'.length) (h : ∀ (i : Nat) (s : Sl), ρ'[i]? = some (some s) → ρ[i]? = some (some s) ∧ σ'[i]? = σ[i]?) : Rep T G0 H0 ρ' σ' G H :=
  ⟨r.st, r.t0, r.tg, hl, fun i s e => by
    obtain ⟨h1, h2⟩ := h i s e
    rw [h2]
    exact r.sl i s h1, fun i j si sj vi vj b h1 h2 e1 e2 a1 a2 => by
    obtain ⟨c1, c2⟩ := h i si h1
    obtain ⟨b1, b2⟩ := h j sj h2
    rw [c2] at e1
    rw [b2] at e2
    exact r.apx i j si sj vi vj b c1 b1 e1 e2 a1 a2⟩
/-- a value is stored -/
theorem Rep.setVal (r : Rep T G0 H0 ρ σ G H) {i : Nat} {d : D} {v : V} (h : Is T G v d) : Rep T G0 H0 (ρ.set i (some (.val d))) (σ.set i (some v)) G H := by
  refine ⟨r.st, r.t0, r.tg, by simp [r.len], fun j s e => ?_, fun j k sj sk vj vk b h1 h2 e1 e2 a1 a2 => ?_⟩
  · by_cases hj : i = j
    · subst hj
      have hi : i < ρ.length := by
        have := (List.getElem?_eq_some_iff.mp e).1
        simpa using this
      rw [List.getElem?_set_self hi] at e
      cases e
      rw [List.getElem?_set_self (by rw [← r.len]; exact hi)]
      exact ⟨v, rfl, h⟩
    · rw [List.getElem?_set_ne hj] at e ⊢
      exact r.sl j s e
  · have nj : ∀ {j : Nat} {sj : Sl} {vj : V}, (ρ.set i (some (.val d)))[j]? = some (some sj) → AtS H sj vj b → i ≠ j := fun {j sj vj} h m z => by
      subst z
      have hi : i < ρ.length := by
        have := (List.getElem?_eq_some_iff.mp h).1
        simpa using this
      rw [List.getElem?_set_self hi] at h
      cases h; exact m
    have n1 := nj h1 a1
    have n2 := nj h2 a2
    rw [List.getElem?_set_ne n1] at h1 e1
    rw [List.getElem?_set_ne n2] at h2 e2
    exact r.apx j k sj sk vj vk b h1 h2 e1 e2 a1 a2
/-- a mutable thing, which no slot has, is stored -/
theorem Rep.setMut (r : Rep T G0 H0 ρ σ G H) {i : Nat} {s : Sl} {a : Addr} (h : SlOk T H0 G H s (.ref a)) (new : ∀ (j : Nat) (sj : Sl) (vj : V) (b : Addr), ρ[j]? = some (some sj) → σ[j]? = some (some vj) → AtS H s (.ref a) b → AtS H sj vj b → j = i) :
    Rep T G0 H0 (ρ.set i (some s)) (σ.set i (some (.ref a))) G H := by
  have hij : ∀ {j : Nat} {sj : Sl}, (ρ.set i (some s))[j]? = some (some sj) → (j = i ∧ sj = s) ∨ (j ≠ i ∧ ρ[j]? = some (some sj)) := fun {j sj} e => by
    by_cases hj : i = j
    · subst hj
      have hi : i < ρ.length := by
        have := (List.getElem?_eq_some_iff.mp e).1
        simpa using this
      rw [List.getElem?_set_self hi] at e
      cases e
      exact .inl ⟨rfl, rfl⟩
    · rw [List.getElem?_set_ne hj] at e
      exact .inr ⟨Ne.symm hj, e⟩
  refine ⟨r.st, r.t0, r.tg, by simp [r.len], fun j sj e => ?_, fun j k sj sk vj vk b h1 h2 e1 e2 a1 a2 => ?_⟩
  · have hl : j < ρ.length := by
      have := (List.getElem?_eq_some_iff.mp e).1
      simpa using this
    rcases hij e with ⟨rfl, rfl⟩ | ⟨n, e'⟩
    · rw [List.getElem?_set_self (by rw [← r.len]; exact hl)]
      exact ⟨_, rfl, h⟩
    · rw [List.getElem?_set_ne (Ne.symm n)]
      exact r.sl j sj e'
  · have lt : ∀ {j : Nat} {sj : Sl}, (ρ.set i (some s))[j]? = some (some sj) → j < σ.length := fun {j sj} e => by
      have := (List.getElem?_eq_some_iff.mp e).1
      rw [← r.len]
      simpa using this
    rcases hij h1 with ⟨rfl, rfl⟩ | ⟨n1, e1'⟩
    · rcases hij h2 with ⟨rfl, _⟩ | ⟨n2, e2'⟩
      · rfl
      · rw [List.getElem?_set_self (lt h1)] at e1
        cases e1
        rw [List.getElem?_set_ne (Ne.symm n2)] at e2
        exact (new k sk vk b e2' e2 a1 a2).symm
    · rw [List.getElem?_set_ne (Ne.symm n1)] at e1
      rcases hij h2 with ⟨rfl, rfl⟩ | ⟨n2, e2'⟩
      · rw [List.getElem?_set_self (lt h2)] at e2
        cases e2
        exact new j sj vj b e1' e1 a2 a1
      · rw [List.getElem?_set_ne (Ne.symm n2)] at e2
        exact r.apx j k sj sk vj vk b e1' e2' e1 e2 a1 a2
/-- a slot's own thing at b is changed -/
theorem Rep.poke (r : Rep T G0 H0 ρ σ G H) {i : Nat} {s s' : Sl} {v : V} {b : Addr} {o : HO} (hi : ρ[i]? = some (some s)) (hσ : σ[i]? = some (some v)) (hb : AtS H s v b) (hn : SlOk T H0 G (upd H b o) s' v)
    (new : ∀ c, AtS (upd H b o) s' v c → AtS H s v c ∨ ∀ (j : Nat) (sj : Sl) (vj : V), ρ[j]? = some (some sj) → σ[j]? = some (some vj) → ¬ AtS H sj vj c) :
    Rep T G0 H0 (ρ.set i (some s')) σ G (upd H b o) := by
  obtain ⟨w, e, q⟩ := r.sl i s hi
  rw [hσ] at e; cases e
  obtain ⟨g, h0, hT, _⟩ := q.mine hb
  have hi' : i < ρ.length := (List.getElem?_eq_some_iff.mp hi).1
  have gne : ∀ c o, G c = some o → c ≠ b := fun c o eb z => by rw [z, g] at eb; cases eb
  have oth : ∀ {j : Nat} {sj : Sl} {vj : V}, i ≠ j → ρ[j]? = some (some sj) → σ[j]? = some (some vj) → ∀ c, AtS H sj vj c → G c = none ∧ H0 c = none ∧ upd H b o c = H c := fun {j sj vj} hj hs hv c hc => by
    obtain ⟨w, e1, e2⟩ := r.sl j sj hs
    rw [hv] at e1; cases e1
    obtain ⟨c1, c2, _⟩ := e2.mine hc
    exact ⟨c1, c2, upd_ne fun z => by subst z; exact hj (r.apx i j s sj _ _ _ hi hs hσ hv hb hc)⟩
  have old : ∀ {j : Nat} {sj : Sl} {vj : V}, i ≠ j → ρ[j]? = some (some sj) → σ[j]? = some (some vj) → ∀ c, AtS (upd H b o) sj vj c → AtS H sj vj c := fun {j sj vj} hj hs hv c hc => by
    obtain ⟨w, e1, e2⟩ := r.sl j sj hs
    rw [hv] at e1; cases e1
    exact hc.back e2 fun c hc => (oth hj hs hv c hc).2.2
  refine ⟨⟨r.st.gs, fun c u e => ?_, fun c u hT' e => ?_, r.st.new, fun c e => ?_⟩, r.t0, r.tg, by simp [r.len], fun j sj e => ?_, fun j k sj sk vj vk c h1 h2 e1 e2 a1 a2 => ?_⟩
  · rw [upd_ne (gne c u e)]; exact r.sub c u e
  · have : c ≠ b := fun z => by subst z; rw [h0] at e; cases e
    rw [upd_ne this]; exact r.st.keep c u hT' e
  · obtain ⟨x, y, z, q', w⟩ := r.tub c e
    refine ⟨x, y, z, ?_, w⟩
    have : c ≠ b := fun z => by subst z; exact hT e
    rw [upd_ne this]; exact q'
  · by_cases hj : i = j
    · subst hj
      rw [List.getElem?_set_self hi'] at e
      cases e
      exact ⟨_, hσ, hn⟩
    · rw [List.getElem?_set_ne hj] at e
      obtain ⟨w, e1, e2⟩ := r.sl j sj e
      exact ⟨w, e1, e2.move (.refl G) (oth hj e e1)⟩
  · by_cases hj : i = j
    · subst hj
      by_cases hk : i = k
      · exact hk
      · rw [List.getElem?_set_self hi'] at h1
        cases h1
        rw [hσ] at e1; cases e1
        rw [List.getElem?_set_ne hk] at h2
        have a2 := old hk h2 e2 c a2
        rcases new c a1 with q | q
        · exact r.apx i k s sk _ _ c hi h2 hσ e2 q a2
        · exact absurd a2 (q k sk vk h2 e2)
    · rw [List.getElem?_set_ne hj] at h1
      have a1 := old hj h1 e1 c a1
      by_cases hk : i = k
      · subst hk
        rw [List.getElem?_set_self hi'] at h2
        cases h2
        rw [hσ] at e2; cases e2
        rcases new c a2 with q | q
        · exact r.apx j i sj s _ _ c h1 hi e1 hσ a1 q
        · exact absurd a1 (q j sj vj h1 e1)
      · rw [List.getElem?_set_ne hk] at h2
        exact r.apx j k sj sk vj vk c h1 h2 e1 e2 a1 (old hk h2 e2 c a2)
/-- a list or a dict -/
def Sl.flat : Sl → Bool
  | .own _ => true
  | .dic _ _ => true
  | _ => false
theorem Sl.flat_mut {s : Sl} (h : s.flat = true) : s.mut = true := by cases s <;> first | rfl | cases h
theorem AtS.one {s : Sl} {a b : Addr} (h : s.flat = true) (k : AtS H s (.ref a) b) : b = a := by
  cases s with
  | val d => cases h
  | own2 xss => cases h
  | own xs => exact (V.ref.inj (show V.ref a = V.ref b from k)).symm
  | dic t kvs => exact (V.ref.inj (show V.ref a = V.ref b from k)).symm
/-- an owned thing at a is changed -/
theorem Rep.change (r : Rep T G0 H0 ρ σ G H) {i : Nat} {s s' : Sl} {a : Addr} {o : HO} (hi : ρ[i]? = some (some s)) (hm : s.flat = true) (hσ : σ[i]? = some (some (V.ref a))) (hn : SlOk T H0 G (upd H a o) s' (.ref a)) (hm' : s'.flat = true) :
    Rep T G0 H0 (ρ.set i (some s')) σ G (upd H a o) :=
  r.poke hi hσ (.self (Sl.flat_mut hm)) hn fun c hc => .inl (by rw [hc.one hm']; exact .self (Sl.flat_mut hm))
/-- what is a slot's own is frozen -/
theorem Rep.freezeL (r : Rep T G0 H0 ρ σ G H) {i : Nat} {s : Sl} {v : V} {d : D} (bs : List Addr) (hi : ρ[i]? = some (some s)) (hσ : σ[i]? = some (some v)) (hb : ∀ b ∈ bs, AtS H s v b)
    (hd : Is T (fun c => if c ∈ bs then H c else G c) v d) : ∃ G', Sub G G' ∧ Rep T G0 H0 (ρ.set i (some (.val d))) σ G' H := by
  obtain ⟨w, e, q⟩ := r.sl i s hi
  rw [hσ] at e; cases e
  have hi' : i < ρ.length := (List.getElem?_eq_some_iff.mp hi).1
  have mine : ∀ b ∈ bs, G b = none ∧ H0 b = none ∧ T ≠ some b := fun b h => ⟨(q.mine (hb b h)).1, (q.mine (hb b h)).2.1, (q.mine (hb b h)).2.2.1⟩
  have gs : Sub G (fun c => if c ∈ bs then H c else G c) := fun c u e => by
    show (if c ∈ bs then H c else G c) = _
    rw [if_neg fun z => by rw [(mine c z).1] at e; cases e]
    exact e
  have oth : ∀ {j : Nat} {sj : Sl} {vj : V}, i ≠ j → ρ[j]? = some (some sj) → σ[j]? = some (some vj) → ∀ c, AtS H sj vj c → (if c ∈ bs then H c else G c) = none ∧ H0 c = none ∧ H c = H c := fun {j sj vj} hj hs hv c hc => by
    obtain ⟨w, e1, e2⟩ := r.sl j sj hs
    rw [hv] at e1; cases e1
    obtain ⟨c1, c2, _⟩ := e2.mine hc
    refine ⟨?_, c2, rfl⟩
    rw [if_neg fun z => hj (r.apx i j s sj _ _ _ hi hs hσ hv (hb c z) hc)]
    exact c1
  refine ⟨_, gs, ⟨r.st.gs.trans gs, fun b u e => ?_, r.st.keep, fun b u e => ?_, r.tub⟩, r.t0, fun b e => ?_, by simp [r.len], fun j sj e' => ?_, fun j k sj sk vj vk c h1 h2 e1 e2 a1 a2 => ?_⟩
  · have e : (if b ∈ bs then H b else G b) = some u := e
    by_cases h : b ∈ bs
    · rw [if_pos h] at e; exact e
    · rw [if_neg h] at e; exact r.sub b u e
  · have e : (if b ∈ bs then H b else G b) = some u := e
    by_cases h : b ∈ bs
    · exact .inr (.inl (mine b h).2.1)
    · rw [if_neg h] at e; exact r.st.new b u e
  · show (if b ∈ bs then H b else G b) = none
    rw [if_neg fun z => (mine b z).2.2 e]
    exact r.tg b e
  · by_cases hj : i = j
    · subst hj
      rw [List.getElem?_set_self hi'] at e'
      cases e'
      exact ⟨_, hσ, hd⟩
    · rw [List.getElem?_set_ne hj] at e'
      obtain ⟨w, e1, e2⟩ := r.sl j sj e'
      exact ⟨w, e1, e2.move gs (oth hj e' e1)⟩
  · have nj : ∀ {j : Nat} {sj : Sl} {vj : V}, (ρ.set i (some (.val d)))[j]? = some (some sj) → AtS H sj vj c → i ≠ j := fun {j sj vj} h m z => by
      subst z
      rw [List.getElem?_set_self hi'] at h
      cases h; exact m
    have n1 := nj h1 a1
    have n2 := nj h2 a2
    rw [List.getElem?_set_ne n1] at h1
    rw [List.getElem?_set_ne n2] at h2
    exact r.apx j k sj sk vj vk c h1 h2 e1 e2 a1 a2
/-- an owned list is frozen -/
theorem Rep.freeze (r : Rep T G0 H0 ρ σ G H) {i : Nat} {xs : List D} (hi : ρ[i]? = some (some (.own xs))) : ∃ G', Sub G G' ∧ Rep T G0 H0 (ρ.set i (some (.val (.list xs)))) σ G' H := by
  obtain ⟨v, ev, a, vs, rfl, g, h0, hT, hH, hx⟩ := r.sl i _ hi
  refine r.freezeL [a] hi ev (fun b h => by cases List.mem_singleton.mp h; exact rfl) (.lst (vs := vs) ?_ (hx.mono (fun c u e => ?_) _ _))
  · show (if a ∈ [a] then H a else G a) = _
    rw [if_pos List.mem_cons_self]
    exact hH
  · show (if c ∈ [a] then H c else G c) = _
    rw [if_neg fun z => by cases List.mem_singleton.mp z; rw [g] at e; cases e]
    exact e
/-- .. lists in a list -/
def dd2 (xss : List (List D)) : D := .list (xss.map PyData.list)
theorem InnAll.is {G1 : Hp} (hs : Sub G G1) : ∀ {as : List Addr} {xss : List (List D)}, InnAll T H0 G H as xss → (∀ b ∈ as, G1 b = H b) → IsAll T G1 (as.map V.ref) (xss.map PyData.list)
  | _, _, .nil, _ => .nil
  | _, _, .cons h1 h2 h3 h4 h5 h6, k => .cons (.lst ((k _ List.mem_cons_self).trans h4) (h5.mono hs _ _)) (InnAll.is hs h6 fun b hb => k b (List.mem_cons_of_mem _ hb))
theorem Rep.freeze2 (r : Rep T G0 H0 ρ σ G H) {i : Nat} {xss : List (List D)} (hi : ρ[i]? = some (some (.own2 xss))) : ∃ G', Sub G G' ∧ Rep T G0 H0 (ρ.set i (some (.val (dd2 xss)))) σ G' H := by
  obtain ⟨v, ev, a, as, rfl, g, h0, hT, hH, nd, hx⟩ := r.sl i _ hi
  have at2 : ∀ b ∈ a :: as, AtS H (.own2 xss) (.ref a) b := fun b h => by
    rcases List.mem_cons.mp h with rfl | h
    · exact .inl rfl
    · exact .inr ⟨a, as, rfl, hH, h⟩
  have hs : Sub G (fun c => if c ∈ a :: as then H c else G c) := fun c u e => by
    show (if c ∈ a :: as then H c else G c) = _
    rw [if_neg fun z => ?_]
    · exact e
    · rcases List.mem_cons.mp z with rfl | z
      · rw [g] at e; cases e
      · rw [(hx.at z).1] at e; cases e
  refine r.freezeL (a :: as) hi ev at2 (.lst (vs := as.map V.ref) ?_ (hx.is hs fun b hb => ?_))
  · show (if a ∈ a :: as then H a else G a) = _
    rw [if_pos List.mem_cons_self]
    exact hH
  · show (if b ∈ a :: as then H b else G b) = _
    rw [if_pos (List.mem_cons_of_mem _ hb)]
end
end Ev

set_option Elab.async false
set_option linter.all false
set_option autoImplicit false
set_option maxRecDepth 100000
set_option maxHeartbeats 2000000
namespace Ev
open PySem L2

/-- a value in hand: data; or (r) a list of one's own, looked at -/
def IsR (r : Bool) (T : Option Addr) (G H : Hp) (v : V) (d : D) : Prop :=
  Is T G v d ∨ (r = true ∧ ∃ a vs xs, d = .list xs ∧ v = V.ref a ∧ T ≠ some a ∧ H a = some (.lst vs) ∧ IsAll T G vs xs)
inductive AllR (r : Bool) (T : Option Addr) (G H : Hp) : List V → List D → Prop
  | nil : AllR r T G H [] []
  | cons {v : V} {vs : List V} {d : D} {ds : List D} : IsR r T G H v d → AllR r T G H vs ds → AllR r T G H (v :: vs) (d :: ds)
section
variable {r : Bool} {T : Option Addr} {G H G' H' : Hp}
theorem IsR.step {v : V} {d : D} (h : IsR r T G H v d) (k : Stp T G H G' H') : IsR r T G' H' v d := by
  rcases h with h | ⟨hr, a, vs, xs, e1, e2, hT, e3, h⟩
  · exact .inl (Is.mono k.gs _ _ h)
  · exact .inr ⟨hr, a, vs, xs, e1, e2, hT, k.keep a _ hT e3, h.mono k.gs _ _⟩
theorem AllR.step : ∀ {vs : List V} {ds : List D}, AllR r T G H vs ds → Stp T G H G' H' → AllR r T G' H' vs ds
  | _, _, .nil, _ => .nil
  | _, _, .cons a b, k => .cons (a.step k) (AllR.step b k)
theorem IsR.keep {v : V} {d : D} (h : IsR false T G H v d) : Is T G v d := by
  rcases h with h | ⟨h, _⟩
  · exact h
  · cases h
theorem AllR.keep : ∀ {vs : List V} {ds : List D}, AllR false T G H vs ds → IsAll T G vs ds
  | _, _, .nil => .nil
  | _, _, .cons a b => .cons a.keep (AllR.keep b)
theorem IsR.list {v : V} {xs : List D} (s : Sub G H) (h : IsR r T G H v (.list xs)) : ∃ a vs, v = V.ref a ∧ H a = some (.lst vs) ∧ IsAll T G vs xs := by
  rcases h with h | ⟨_, a, vs, ys, e1, e2, hT, e3, h⟩
  · cases h with
    | lst e h => exact ⟨_, _, rfl, s _ _ e, h⟩
  · cases e1; exact ⟨a, vs, e2, e3, h⟩
theorem IsR.tup {v : V} {xs : List D} (h : IsR r T G H v (.tuple xs)) : ∃ a vs, v = V.ref a ∧ G a = some (.tup vs) ∧ IsAll T G vs xs := by
  rcases h with h | ⟨_, a, vs, ys, e1, e2, hT, e3, h⟩
  · cases h with
    | tup e h => exact ⟨_, _, rfl, e, h⟩
  · cases e1
theorem IsR.scr {v : V} {xs : List D} (h : IsR r T G H v (.dict [(.none, .list xs)])) : ∃ a vs o, v = V.ref a ∧ G a = some (.frz o (.lst vs)) ∧ IsAll T G vs xs := by
  rcases h with h | ⟨_, a, vs, ys, e1, e2, hT, e3, h⟩
  · cases h with
    | scr e => exact ⟨_, _, _, rfl, e, IsAll.ofInts _⟩
  · cases e1
theorem Is.int_eq {T : Option Addr} {G : Hp} {v : V} {i : Int} (h : Is T G v (.int i)) : v = .int i := by cases h; rfl
theorem IsR.int {v : V} {i : Int} (h : IsR r T G H v (.int i)) : v = .int i := by
  rcases h with h | ⟨_, a, vs, ys, e1, _⟩
  · cases h; rfl
  · cases e1
theorem IsR.bool {v : V} {b : Bool} (h : IsR r T G H v (.bool b)) : v = .bl b := by
  rcases h with h | ⟨_, a, vs, ys, e1, _⟩
  · cases h; rfl
  · cases e1
theorem IsR.none {v : V} (h : IsR r T G H v .none) : v = .non := by
  rcases h with h | ⟨_, a, vs, ys, e1, _⟩
  · cases h; rfl
  · cases e1
theorem IsR.dp {K : PySem.W.Frag} {v : V} {d : D} (s : Sub G H) (c : d.canLay0 = true) (h : IsR r T G H v d) : Dp K H v d := by
  rcases h with h | ⟨_, a, vs, xs, rfl, rfl, hT, e3, h⟩
  · exact Is.dp s d v c h
  · exact .lst (.of e3) (h.dp s _ _ (by simpa [PyData.canLay0] using c))
end

def PostE (r : Bool) (T : Option Addr) (G H : Hp) (Q : VK) (d : D) : Prop := ∀ v G' H', Stp T G H G' H' → IsR r T G' H' v d → Q v H'
def PostL (r : Bool) (T : Option Addr) (G H : Hp) (Q : List V → Hp → Prop) (d : D) : Prop := ∀ vs ds G' H', d = .tuple ds → Stp T G H G' H' → AllR r T G' H' vs ds → Q vs H'
def PostT (T : Option Addr) (G H : Hp) (Q : Bool → Hp → Prop) (d : D) : Prop := ∀ b G' H', d = .bool b → Stp T G H G' H' → Q b H'
/-- a list, newly made, nobody's yet -/
def PostF (T : Option Addr) (G H : Hp) (Q : VK) (d : D) : Prop := ∀ p vs xs G' H', d = .list xs → Stp T G H G' H' → H p = none → G' p = none → H' p = some (.lst vs) → IsAll T G' vs xs → Q (V.ref p) H'
section
variable {r : Bool} {T : Option Addr} {G H G' H' : Hp}
theorem PostE.trans {Q : VK} {d : D} (h : PostE r T G H Q d) (k : Stp T G H G' H') (t : TubOk T H) : PostE r T G' H' Q d := fun v G2 H2 k2 i => h v G2 H2 (k.trans k2 t) i
theorem PostF.trans {Q : VK} {d : D} (h : PostF T G H Q d) (k : Stp T G H G' H') (t : TubOk T H) : PostF T G' H' Q d := fun p vs xs G2 H2 e k2 n g h' i => h p vs xs G2 H2 e (k.trans k2 t) (k.back t n) g h' i
theorem PostL.trans {Q : List V → Hp → Prop} {d : D} (h : PostL r T G H Q d) (k : Stp T G H G' H') (t : TubOk T H) : PostL r T G' H' Q d := fun vs ds G2 H2 e k2 i => h vs ds G2 H2 e (k.trans k2 t) i
theorem PostT.trans {Q : Bool → Hp → Prop} {d : D} (h : PostT T G H Q d) (k : Stp T G H G' H') (t : TubOk T H) : PostT T G' H' Q d := fun b G2 H2 e k2 => h b G2 H2 e (k.trans k2 t)
/-- frozen, a newly made list is data -/
theorem PostE.ofF {Q : VK} {d : D} (s : Sub G H) (t : TubOk T H) (h : PostE r T G H Q d) : PostF T G H Q d := fun p vs xs G' H' e k n g h' i => by
  subst e
  have gs : Sub G' (upd G' p (.lst vs)) := fun b u e => by
    have : b ≠ p := fun z => by rw [z, g] at e; cases e
    rw [upd_ne this]; exact e
  refine h (V.ref p) (upd G' p (.lst vs)) H' ⟨k.gs.trans gs, fun b u e => ?_, k.keep, fun b u e => ?_, k.tub⟩ (.inl (.lst upd_same (i.mono gs _ _)))
  · by_cases hb : b = p
    · subst hb; rw [upd_same] at e; cases e; exact h'
    · rw [upd_ne hb] at e; exact k.gh b u e
  · by_cases hb : b = p
    · subst hb; exact .inr (.inl n)
    · rw [upd_ne hb] at e; exact k.new b u e
end

/-- an expression does what f says -/
def SndE (X : Cx) (T : Option Addr) (r : Bool) (ast : Expr) (f : Ro → Out D) : Prop :=
  ∃ t : TE, PE X ast t ∧ ∀ (G0 H0 : Hp) (ρ : Ro) (σ : Sg) (G H : Hp) (Q : VK), Rep T G0 H0 ρ σ G H → (f ρ).All (PostE r T G H Q) → t σ H Q
def SndF (X : Cx) (T : Option Addr) (ast : Expr) (f : Ro → Out D) : Prop :=
  ∃ t : TE, PE X ast t ∧ ∀ (G0 H0 : Hp) (ρ : Ro) (σ : Sg) (G H : Hp) (Q : VK), Rep T G0 H0 ρ σ G H → (f ρ).All (PostF T G H Q) → t σ H Q
def SndL (X : Cx) (T : Option Addr) (r : Bool) (asts : List Expr) (f : Ro → Out D) : Prop :=
  ∃ t : TA, PA X asts t ∧ ∀ (G0 H0 : Hp) (ρ : Ro) (σ : Sg) (G H : Hp) (Q : List V → Hp → Prop), Rep T G0 H0 ρ σ G H → (f ρ).All (PostL r T G H Q) → t σ H Q
def SndT (X : Cx) (T : Option Addr) (ast : Expr) (f : Ro → Out D) : Prop :=
  ∃ t : TT, PT X ast t ∧ ∀ (G0 H0 : Hp) (ρ : Ro) (σ : Sg) (G H : Hp) (Q : Bool → Hp → Prop), Rep T G0 H0 ρ σ G H → (f ρ).All (PostT T G H Q) → t σ H Q
section
variable {X : Cx} {T : Option Addr} {r : Bool} {ast a b c : Expr} {pos : Pos} {f fa fb fc : Ro → Out D}
theorem SndE.read (h : SndE X T false ast f) : SndE X T r ast f := by
  obtain ⟨t, p, q⟩ := h
  refine ⟨t, p, fun G0 H0 ρ σ G H Q R h => q G0 H0 ρ σ G H Q R (h.mono fun d hd v G' H' k i => hd v G' H' k (.inl i.keep))⟩
theorem SndF.e (h : SndF X T ast f) : SndE X T r ast f := by
  obtain ⟨t, p, q⟩ := h
  exact ⟨t, p, fun G0 H0 ρ σ G H Q R h => q G0 H0 ρ σ G H Q R (h.mono fun d hd => hd.ofF R.sub R.tub)⟩
theorem SndE.congr {g : Ro → Out D} (h : SndE X T r ast f) (e : ∀ ρ, f ρ = g ρ) : SndE X T r ast g := by
  obtain ⟨t, p, q⟩ := h
  exact ⟨t, p, fun G0 H0 ρ σ G H Q R h => q G0 H0 ρ σ G H Q R (by rw [e]; exact h)⟩

/-! ### constants and names -/
theorem snd_c {d : D} {v : V} (h : PE X ast (tC v)) (i : ∀ G, Is T G v d) : SndE X T r ast (fun _ => .ret d) :=
  ⟨_, h, fun G0 H0 ρ σ G H Q R h => h v G H (.refl R.sub R.tub) (.inl (i G))⟩
theorem snd_var {i : Nat} {x : Str} (hN : X.N[i]? = some x) (hv : Vis X.env.scope x) (h1 : (x == ("__debug__" : Str)) = false) (h2 : (x == ("__classdict__" : Str)) = false) : SndE X T r (.Name x pos) (fun ρ => valOf ρ i) := by
  refine ⟨_, pe_var hN hv h1 h2, fun G0 H0 ρ σ G H Q R h => ?_⟩
  unfold valOf slot at h
  rw [Out.All_bind, Out.All_ofO] at h
  obtain ⟨s, e, h⟩ := h
  have e' : ρ[i]? = some (some s) := by
    cases q : ρ[i]? with
    | none => rw [q] at e; cases e
    | some o => rw [q] at e; simp at e; rw [e]
  obtain ⟨v, e1, e2⟩ := R.sl i s e'
  cases s with
  | val d => exact ⟨v, e1, h v G H (.refl R.sub R.tub) (.inl e2)⟩
  | own xs => exact h.elim
  | dic tt kvs => exact h.elim
  | own2 xss => exact h.elim
theorem snd_pk {i : Nat} {x : Str} (hN : X.N[i]? = some x) (hv : Vis X.env.scope x) (h1 : (x == ("__debug__" : Str)) = false) (h2 : (x == ("__classdict__" : Str)) = false) : SndE X T r (.Name x pos) (fun ρ => .guard r (peekOf ρ i)) := by
  refine ⟨_, pe_var hN hv h1 h2, fun G0 H0 ρ σ G H Q R h => ?_⟩
  rw [Out.All_guard] at h
  obtain ⟨hr, h⟩ := h
  unfold peekOf slot at h
  rw [Out.All_bind, Out.All_ofO] at h
  obtain ⟨s, e, h⟩ := h
  have e' : ρ[i]? = some (some s) := by
    cases q : ρ[i]? with
    | none => rw [q] at e; cases e
    | some o => rw [q] at e; simp at e; rw [e]
  obtain ⟨v, e1, e2⟩ := R.sl i s e'
  cases s with
  | val d => exact ⟨v, e1, h v G H (.refl R.sub R.tub) (.inl e2)⟩
  | own xs =>
    obtain ⟨a, vs, rfl, g, h0, hT, hH, hx⟩ := e2
    exact ⟨_, e1, h _ G H (.refl R.sub R.tub) (.inr ⟨hr, a, vs, xs, rfl, rfl, hT, hH, hx⟩)⟩
  | dic tt kvs => exact h.elim
  | own2 xss => exact h.elim

/-! ### operations upon values in hand -/
/-- what an operation of two values by its rule asks follows from g -/
def Op2 (T : Option Addr) (g : D → D → Out D) (q : R2) : Prop := ∀ (G H : Hp) (x y : D) (v u : V) (Q : VK), Sub G H → TubOk T H → IsR true T G H v x → IsR true T G H u y → (g x y).All (PostE false T G H Q) → q v u H Q
theorem snd2 {g : D → D → Out D} {q : R2} (ha : SndE X T true a fa) (hb : SndE X T true b fb) (mk : ∀ ta tb, PE X a ta → PE X b tb → PE X ast (tOp q ta tb)) (op : Op2 T g q) :
    SndE X T r ast (fun ρ => (fa ρ).bind fun x => (fb ρ).bind fun y => g x y) := by
  refine SndE.read ?_
  obtain ⟨ta, pa, qa⟩ := ha
  obtain ⟨tb, pb, qb⟩ := hb
  refine ⟨_, mk ta tb pa pb, fun G0 H0 ρ σ G H Q R h => ?_⟩
  rw [Out.All_bind] at h
  refine qa G0 H0 ρ σ G H _ R (h.mono fun x hx v G1 H1 k1 i1 => ?_)
  rw [Out.All_bind] at hx
  refine qb G0 H0 ρ σ G1 H1 _ (R.step k1) (hx.mono fun y hy u G2 H2 k2 i2 => ?_)
  have k := k1.trans k2 R.tub
  exact op G2 H2 x y v u Q k2.gh k2.tub (i1.step k2) i2 (hy.mono fun d hd => hd.trans k R.tub)
/-- .. fresh lists -/
def Op2F (T : Option Addr) (g : D → D → Out D) (q : R2) : Prop := ∀ (G H : Hp) (x y : D) (v u : V) (Q : VK), Sub G H → TubOk T H → IsR true T G H v x → IsR true T G H u y → (g x y).All (PostF T G H Q) → q v u H Q
theorem snd2F {g : D → D → Out D} {q : R2} (ha : SndE X T true a fa) (hb : SndE X T true b fb) (mk : ∀ ta tb, PE X a ta → PE X b tb → PE X ast (tOp q ta tb)) (op : Op2F T g q) :
    SndF X T ast (fun ρ => (fa ρ).bind fun x => (fb ρ).bind fun y => g x y) := by
  obtain ⟨ta, pa, qa⟩ := ha
  obtain ⟨tb, pb, qb⟩ := hb
  refine ⟨_, mk ta tb pa pb, fun G0 H0 ρ σ G H Q R h => ?_⟩
  rw [Out.All_bind] at h
  refine qa G0 H0 ρ σ G H _ R (h.mono fun x hx v G1 H1 k1 i1 => ?_)
  rw [Out.All_bind] at hx
  refine qb G0 H0 ρ σ G1 H1 _ (R.step k1) (hx.mono fun y hy u G2 H2 k2 i2 => ?_)
  have k := k1.trans k2 R.tub
  exact op G2 H2 x y v u Q k2.gh k2.tub (i1.step k2) i2 (hy.mono fun d hd => hd.trans k R.tub)
end
end Ev

set_option Elab.async false
set_option linter.all false
set_option autoImplicit false
set_option maxRecDepth 100000
set_option maxHeartbeats 2000000
namespace Ev
open PySem L2

theorem lim_le : lim ≤ sizeLine := by rw [sizeLine_eq]; decide
section
variable {T : Option Addr} {G H : Hp}
theorem PostE.now {r : Bool} {Q : VK} {d : D} {v : V} (s : Sub G H) (t : TubOk T H) (h : PostE r T G H Q d) (i : Is T G v d) : Q v H := h v G H (.refl s t) (.inl i)
theorem PostE.laid {r : Bool} {Q : VK} {d : D} {p : Addr} {o : HO} (s : Sub G H) (t : TubOk T H) (h : PostE r T G H Q d) (hp : H p = none) (i : ∀ G', Sub G G' → G' p = some o → Is T G' (V.ref p) d) : Q (V.ref p) (upd H p o) :=
  let k := Stp.laid (T := T) s t (o := o) hp
  h _ _ _ k (.inl (i _ k.gs upd_same))
theorem PostF.laid {Q : VK} {xs : List D} {p : Addr} {vs : List V} (s : Sub G H) (t : TubOk T H) (h : PostF T G H Q (.list xs)) (hp : H p = none) (i : IsAll T G vs xs) : Q (V.ref p) (upd H p (.lst vs)) := by
  have gp : G p = none := by
    cases e : G p with
    | none => rfl
    | some u => rw [s p u e] at hp; cases hp
  exact h p vs xs G _ rfl (Stp.fresh s t hp) hp gp upd_same i
end

/-! ### + - * // % ** -/
section
variable {T : Option Addr} {X : Cx} {K : PySem.W.Frag}
def rAddD (K : PySem.W.Frag) : R2 := fun x y H Q => (rI0 (fun i j => .int (i + j)) x y H Q ∨ rCatA K x y H Q) ∨ rCat x y H Q
theorem or_add : OpR X (binaryOp .Add) (rAddD X.K) := (op_add.or op_catA).or op_cat
theorem o2_add : Op2 T (binD .add) (rAddD K) := by
  intro G H x y v u Q s t ix iy h
  cases x <;> cases y <;> simp only [binD] at h <;> try exact h.elim
  case int.int i j => exact .inl (.inl ⟨i, j, ix.int, iy.int, PostE.now s t h (.int _)⟩)
  case list.list xs ys =>
    rw [Out.All_guard] at h
    obtain ⟨hl, h⟩ := h
    have hl := of_decide_eq_true hl
    obtain ⟨a, vs, rfl, ga, ia⟩ := ix.list s
    obtain ⟨b, us, rfl, gb, ib⟩ := iy.list s
    refine .inr ⟨a, b, vs, us, rfl, rfl, ga, gb, ?_, fun p hp => ?_⟩
    · rw [ia.length, ib.length]; exact Nat.le_trans hl lim_le
    · exact PostE.laid s t h hp fun G' s' e => .lst e ((ia.append ib).mono s' _ _)
  case tuple.tuple xs ys =>
    rw [Out.All_guard] at h
    obtain ⟨hl, h⟩ := h
    have hl := of_decide_eq_true hl
    obtain ⟨a, vs, rfl, ga, ia⟩ := ix.tup
    obtain ⟨b, us, rfl, gb, ib⟩ := iy.tup
    refine .inl (.inr ⟨a, b, vs, us, rfl, rfl, .of (s _ _ ga), .of (s _ _ gb), ?_, fun e => ?_, fun _ e => ?_, fun _ _ p hp => ?_⟩)
    · rw [ia.length, ib.length]; exact Nat.le_trans hl lim_le
    · subst e
      cases xs with
      | nil => exact PostE.now s t h (.tup gb ib)
      | cons => cases ia
    · subst e
      cases ys with
      | nil => rw [List.append_nil] at h; exact PostE.now s t h (.tup ga ia)
      | cons => cases ib
    · exact PostE.laid s t h hp fun G' s' e => .tup e ((ia.append ib).mono s' _ _)
/-- list + list, new -/
theorem o2_addF : Op2F T (fun x y => match x, y with | .list _, .list _ => binD .add x y | _, _ => .bad) (rAddD K) := by
  intro G H x y v u Q s t ix iy h
  cases x <;> cases y <;> simp only [binD] at h <;> try exact h.elim
  rename_i xs ys
  rw [Out.All_guard] at h
  obtain ⟨hl, h⟩ := h
  have hl := of_decide_eq_true hl
  obtain ⟨a, vs, rfl, ga, ia⟩ := ix.list s
  obtain ⟨b, us, rfl, gb, ib⟩ := iy.list s
  refine .inr ⟨a, b, vs, us, rfl, rfl, ga, gb, ?_, fun p hp => ?_⟩
  · rw [ia.length, ib.length]; exact Nat.le_trans hl lim_le
  · exact PostF.laid s t h hp (ia.append ib)
theorem o2_sub : Op2 T (binD .sub) (rI0 fun i j => .int (i - j)) := by
  intro G H x y v u Q s t ix iy h
  cases x <;> cases y <;> simp only [binD] at h <;> try exact h.elim
  rename_i i j
  exact ⟨i, j, ix.int, iy.int, PostE.now s t h (.int _)⟩
theorem o2_fdiv : Op2 T (binD .fdiv) (rI CDivW fun i j => .int (i / j)) := by
  intro G H x y v u Q s t ix iy h
  cases x <;> cases y <;> simp only [binD] at h <;> try exact h.elim
  rename_i i j
  rw [Out.All_guard] at h
  obtain ⟨hl, h⟩ := h
  unfold divOk at hl
  simp only [Bool.and_eq_true, decide_eq_true_eq] at hl
  exact ⟨i, j, ix.int, iy.int, hl, PostE.now s t h (.int _)⟩
theorem o2_mod : Op2 T (binD .mod) (rI (fun _ j => 0 < j) fun i j => .int (i % j)) := by
  intro G H x y v u Q s t ix iy h
  cases x <;> cases y <;> simp only [binD] at h <;> try exact h.elim
  rename_i i j
  rw [Out.All_guard] at h
  obtain ⟨hl, h⟩ := h
  exact ⟨i, j, ix.int, iy.int, of_decide_eq_true hl, PostE.now s t h (.int _)⟩
theorem o2_pow : Op2 T (binD .pow) (rI CPow fun i j => .int (i ^ j.toNat)) := by
  intro G H x y v u Q s t ix iy h
  cases x <;> cases y <;> simp only [binD] at h <;> try exact h.elim
  rename_i i j
  rw [Out.All_guard] at h
  obtain ⟨hl, h⟩ := h
  simp only [Bool.and_eq_true, decide_eq_true_eq] at hl
  exact ⟨i, j, ix.int, iy.int, hl, PostE.now s t h (.int _)⟩

/-! ### comparisons -/
theorem shp {x : D} (h : SeqAt.shaped x = true) : x.canLay0 = true := SeqAt.canLay_of_shaped h
theorem o2_eq : Op2 T (cmpD .eq) (rEqD K) := by
  intro G H x y v u Q s t ix iy h
  simp only [cmpD] at h
  rw [Out.All_guard] at h
  obtain ⟨hl, h⟩ := h
  rw [Bool.and_eq_true] at hl
  exact ⟨x, y, ix.dp s (shp hl.1), iy.dp s (shp hl.2), hl.1, hl.2, PostE.now s t h (.bl _)⟩
theorem o2_ne : Op2 T (cmpD .ne) (rNeD K) := by
  intro G H x y v u Q s t ix iy h
  simp only [cmpD] at h
  rw [Out.All_guard] at h
  obtain ⟨hl, h⟩ := h
  rw [Bool.and_eq_true] at hl
  exact ⟨x, y, ix.dp s (shp hl.1), iy.dp s (shp hl.2), hl.1, hl.2, PostE.now s t h (.bl _)⟩
/-- x in a list, in a tuple -/
def rInS (K : PySem.W.Frag) : R2 := fun x y H Q => rInD K x y H Q ∨ ∃ d ds, Dp K H x d ∧ Dp K H y (.tuple ds) ∧ SeqAt.shaped d = true ∧ PyData.canLayAll0 ds = true ∧ Q (.bl (ds.any fun z => PyData.eqv z d)) H
def rNinS (K : PySem.W.Frag) : R2 := fun x y H Q => rNotInD K x y H Q ∨ ∃ d ds, Dp K H x d ∧ Dp K H y (.tuple ds) ∧ SeqAt.shaped d = true ∧ PyData.canLayAll0 ds = true ∧ Q (.bl (!ds.any fun z => PyData.eqv z d)) H
theorem op_inS {X : Cx} (hu : X.A.units + 65 < cLine) : OpR X (compareOp .In) (rInS X.K) := by
  intro pins s σ H x y v u Q I rx ry h
  rcases h with h | ⟨d, ds, hd, hy, sd, cl, q⟩
  · exact op_inD hu pins s σ H x y v u Q I rx ry h
  · obtain ⟨a1, rd1⟩ := Dp.reads I d x v hd rx
    obtain ⟨a2, rd2⟩ := Dp.reads I (.tuple ds) y u hy ry
    exact SeqAt.in_tuple_reads rd2 rd1 cl (SeqAt.canLay_of_shaped sd) (PyProof.Rows.room_in_shaped sd hu) ⟨.bl _, H, I, rfl, q⟩
theorem op_ninS {X : Cx} (hu : X.A.units + 65 < cLine) : OpR X (compareOp .NotIn) (rNinS X.K) := by
  intro pins s σ H x y v u Q I rx ry h
  rcases h with h | ⟨d, ds, hd, hy, sd, cl, q⟩
  · exact op_notInD hu pins s σ H x y v u Q I rx ry h
  · obtain ⟨a1, rd1⟩ := Dp.reads I d x v hd rx
    obtain ⟨a2, rd2⟩ := Dp.reads I (.tuple ds) y u hy ry
    exact SeqAt.notIn_tuple_reads rd2 rd1 cl (SeqAt.canLay_of_shaped sd) (PyProof.Rows.room_in_shaped sd hu) ⟨.bl _, H, I, rfl, q⟩
theorem o2_in : Op2 T (cmpD .inn) (rInS K) := by
  intro G H x y v u Q s t ix iy h
  cases y <;> simp only [cmpD] at h <;> try exact h.elim
  all_goals
    rename_i ys
    rw [Out.All_guard, Bool.and_eq_true] at h
    obtain ⟨⟨h1, h2⟩, h⟩ := h
    have c2 := shp h2
  · exact .inl ⟨x, ys, ix.dp s (shp h1), iy.dp s c2, h1, h2, PostE.now s t h (.bl _)⟩
  · exact .inr ⟨x, ys, ix.dp s (shp h1), iy.dp s (by simpa [PyData.canLay0] using c2), h1, by simpa [PyData.canLay0] using c2, PostE.now s t h (.bl _)⟩
theorem o2_nin : Op2 T (cmpD .nin) (rNinS K) := by
  intro G H x y v u Q s t ix iy h
  cases y <;> simp only [cmpD] at h <;> try exact h.elim
  all_goals
    rename_i ys
    rw [Out.All_guard, Bool.and_eq_true] at h
    obtain ⟨⟨h1, h2⟩, h⟩ := h
    have c2 := shp h2
  · exact .inl ⟨x, ys, ix.dp s (shp h1), iy.dp s c2, h1, h2, PostE.now s t h (.bl _)⟩
  · exact .inr ⟨x, ys, ix.dp s (shp h1), iy.dp s (by simpa [PyData.canLay0] using c2), h1, by simpa [PyData.canLay0] using c2, PostE.now s t h (.bl _)⟩
theorem o2_lt : Op2 T (cmpD .lt) (rI0 fun i j => .bl (decide (i < j))) := by
  intro G H x y v u Q s t ix iy h
  cases x <;> cases y <;> simp only [cmpD] at h <;> try exact h.elim
  rename_i i j
  exact ⟨i, j, ix.int, iy.int, PostE.now s t h (.bl _)⟩
theorem o2_le : Op2 T (cmpD .le) (rI0 fun i j => .bl (decide (i ≤ j))) := by
  intro G H x y v u Q s t ix iy h
  cases x <;> cases y <;> simp only [cmpD] at h <;> try exact h.elim
  rename_i i j
  exact ⟨i, j, ix.int, iy.int, PostE.now s t h (.bl _)⟩
theorem o2_gt : Op2 T (cmpD .gt) (rI0 fun i j => .bl (decide (j < i))) := by
  intro G H x y v u Q s t ix iy h
  cases x <;> cases y <;> simp only [cmpD] at h <;> try exact h.elim
  rename_i i j
  exact ⟨i, j, ix.int, iy.int, PostE.now s t h (.bl _)⟩
theorem o2_ge : Op2 T (cmpD .ge) (rI0 fun i j => .bl (decide (j ≤ i))) := by
  intro G H x y v u Q s t ix iy h
  cases x <;> cases y <;> simp only [cmpD] at h <;> try exact h.elim
  rename_i i j
  exact ⟨i, j, ix.int, iy.int, PostE.now s t h (.bl _)⟩

/-! ### items -/
theorem atI_is {xs : List D} {vs : List V} {G : Hp} {i : Int} {d : D} (h : IsAll T G vs xs) (e : atI xs i = some d) : ∃ v, atI vs i = some v ∧ Is T G v d := by
  unfold atI at e ⊢
  rw [h.length]
  cases q : ixN xs.length i with
  | none => rw [q] at e; cases e
  | some j =>
    rw [q] at e
    obtain ⟨v, e1, e2⟩ := h.get (i := j) (by simpa using e)
    exact ⟨v, by simpa using e1, e2⟩
def rIxD (K : PySem.W.Frag) : R2 := fun x y H Q => rIxL K x y H Q ∨ rIxT K x y H Q
theorem or_ix : IxR X (rIxD X.K) := ix_list.or ix_tup
theorem o2_ix : Op2 T ixD (rIxD K) := by
  intro G H x y v u Q s t ix iy h
  cases x <;> cases y <;> simp only [ixD] at h <;> try exact h.elim
  case list.int xs i =>
    rw [Out.All_ofO] at h
    obtain ⟨d, e, h⟩ := h
    obtain ⟨a, vs, rfl, ga, ia⟩ := ix.list s
    obtain ⟨w, e1, e2⟩ := atI_is ia e
    exact .inl ⟨a, vs, i, w, rfl, iy.int, .of ga, e1, PostE.now s t h e2⟩
  case tuple.int xs i =>
    rw [Out.All_ofO] at h
    obtain ⟨d, e, h⟩ := h
    obtain ⟨a, vs, rfl, ga, ia⟩ := ix.tup
    obtain ⟨w, e1, e2⟩ := atI_is ia e
    exact .inr ⟨a, vs, i, w, rfl, iy.int, .of (s _ _ ga), e1, PostE.now s t h e2⟩
  case dict.int kvs i =>
    rcases kvs with _ | ⟨⟨a, b⟩, _ | ⟨c, r⟩⟩ <;> (try exact h.elim) <;> cases a <;> (try exact h.elim) <;> cases b <;> (try exact h.elim)
    rw [Out.All_ofO] at h
    obtain ⟨d, e, h⟩ := h
    obtain ⟨a, vs, o, rfl, ga, ia⟩ := ix.scr
    obtain ⟨w, e1, e2⟩ := atI_is ia e
    exact .inl ⟨a, vs, i, w, rfl, iy.int, .inl (.inr ⟨o, s _ _ ga⟩), e1, PostE.now s t h e2⟩
theorem cut_is {xs : List D} {vs : List V} {G : Hp} {lo hi : Option Int} (h : IsAll T G vs xs) : IsAll T G (cutV vs lo hi) (cutD xs lo hi) := by
  unfold cutV cutD
  rw [h.length]
  exact (h.drop _).take _
def rSlD (K : PySem.W.Frag) : V → Option Int → Option Int → Hp → VK → Prop := fun x lo hi H Q => rSlL K x lo hi H Q ∨ rSlA K x lo hi H Q
theorem or_sl : SlR X (rSlD X.K) := sl_list.or sl_tupA
end

/-! ### 'is', the lone operations -/
section
variable {X : Cx} {T : Option Addr} {r : Bool} {ast a b c : Expr} {pos : Pos} {f fa fb fc : Ro → Out D}
theorem snd_neg (ha : SndE X T true a fa) : SndE X T r (.UnaryOp .USub a pos) (fun ρ => (fa ρ).bind fun x => (asInt x).bind fun i => .ret (.int (-i))) := by
  refine SndE.read ?_
  obtain ⟨ta, pa, qa⟩ := ha
  refine ⟨_, pe_un un_neg pa, fun G0 H0 ρ σ G H Q R h => ?_⟩
  rw [Out.All_bind] at h
  refine qa G0 H0 ρ σ G H _ R (h.mono fun x hx v G1 H1 k1 i1 => ?_)
  cases x <;> simp only [asInt] at hx <;> try exact hx.elim
  rename_i i
  exact ⟨i, i1.int, PostE.now k1.gh k1.tub (PostE.trans hx k1 R.tub) (.int _)⟩
theorem snd_not (ha : SndE X T true a fa) : SndE X T r (.UnaryOp .Not a pos) (fun ρ => (fa ρ).bind fun x => (asBool x).bind fun i => .ret (.bool (!i))) := by
  refine SndE.read ?_
  obtain ⟨ta, pa, qa⟩ := ha
  refine ⟨_, pe_not pa, fun G0 H0 ρ σ G H Q R h => ?_⟩
  rw [Out.All_bind] at h
  refine qa G0 H0 ρ σ G H _ R (h.mono fun x hx v G1 H1 k1 i1 => ?_)
  cases x <;> simp only [asBool] at hx <;> try exact hx.elim
  rename_i i
  exact ⟨i, i1.bool, PostE.now k1.gh k1.tub (PostE.trans hx k1 R.tub) (.bl _)⟩
theorem snd_isn {g : Bool} {j : Nat} {p2 : Pos} (ha : SndE X T true a fa) : SndE X T r (.Compare a [if g then .IsNot else .Is] [.Constant .none j p2] pos) (fun ρ => (fa ρ).bind fun x => .ret (.bool (match x with | .none => !g | _ => g))) := by
  refine SndE.read ?_
  obtain ⟨ta, pa, qa⟩ := ha
  have key : ∀ (v : V) (x : D) (G H : Hp), IsR true T G H v x → decide (v = .non) = (match x with | .none => true | _ => false) := fun v x G H i => by
    cases x with
    | none => rw [i.none]; rfl
    | _ =>
      refine decide_eq_false fun e => ?_
      subst e
      rcases i with i | ⟨_, a, vs, xs, _, e, _⟩
      · cases i
      · cases e
  cases g with
  | false =>
    refine ⟨_, pe_cmp (op := .Is) (pc_isN pa), fun G0 H0 ρ σ G H Q R h => ?_⟩
    rw [Out.All_bind] at h
    refine qa G0 H0 ρ σ G H _ R (h.mono fun x hx v G1 H1 k1 i1 => ?_)
    show Q (V.bl (decide (v = .non))) H1
    rw [key v x G1 H1 i1]
    refine PostE.now k1.gh k1.tub (PostE.trans hx k1 R.tub) ?_
    cases x <;> exact .bl _
  | true =>
    refine ⟨_, pe_cmp (op := .IsNot) (pc_notN pa), fun G0 H0 ρ σ G H Q R h => ?_⟩
    rw [Out.All_bind] at h
    refine qa G0 H0 ρ σ G H _ R (h.mono fun x hx v G1 H1 k1 i1 => ?_)
    show Q (V.bl (!decide (v = .non))) H1
    rw [key v x G1 H1 i1]
    refine PostE.now k1.gh k1.tub (PostE.trans hx k1 R.tub) ?_
    cases x <;> exact .bl _
theorem snd_ist {g b : Bool} {j : Nat} {p2 : Pos} (ha : SndE X T true a fa) : SndE X T r (.Compare a [if g then .IsNot else .Is] [.Constant (.bool b) j p2] pos) (fun ρ => (fa ρ).bind fun x => (asBool x).bind fun c => .ret (.bool (if c = b then !g else g))) := by
  refine SndE.read ?_
  obtain ⟨ta, pa, qa⟩ := ha
  cases g with
  | false =>
    refine ⟨_, pe_cmpR (op := .Is) op_isBl pa pe_bl (nomark _), fun G0 H0 ρ σ G H Q R h => ?_⟩
    rw [Out.All_bind] at h
    refine qa G0 H0 ρ σ G H _ R (h.mono fun x hx v G1 H1 k1 i1 => ?_)
    cases x <;> simp only [asBool] at hx <;> try exact hx.elim
    rename_i c
    refine ⟨c, b, i1.bool, rfl, PostE.now k1.gh k1.tub (PostE.trans hx k1 R.tub) ?_⟩
    by_cases e : c = b <;> simp only [e, if_true, if_false, decide_true, decide_false, Bool.not_false] <;> exact .bl _
  | true =>
    refine ⟨_, pe_cmpR (op := .IsNot) op_notBl pa pe_bl (nomark _), fun G0 H0 ρ σ G H Q R h => ?_⟩
    rw [Out.All_bind] at h
    refine qa G0 H0 ρ σ G H _ R (h.mono fun x hx v G1 H1 k1 i1 => ?_)
    cases x <;> simp only [asBool] at hx <;> try exact hx.elim
    rename_i c
    refine ⟨c, b, i1.bool, rfl, PostE.now k1.gh k1.tub (PostE.trans hx k1 R.tub) ?_⟩
    by_cases e : c = b <;> simp only [e, if_true, if_false, decide_true, decide_false, Bool.not_true, Bool.not_false] <;> exact .bl _
theorem snd_and {rest : List Expr} (ha : SndE X T true a fa) (hb : SndE X T true (.BoolOp .And (b :: rest) pos) fb) : SndE X T r (.BoolOp .And (a :: b :: rest) pos) (fun ρ => (fa ρ).bind fun x => (asBool x).bind fun
    | true => (fb ρ).bind fun y => (asBool y).bind fun c => .ret (.bool c)
    | false => .ret (.bool false)) := by
  refine SndE.read ?_
  obtain ⟨ta, pa, qa⟩ := ha
  obtain ⟨tb, pb, qb⟩ := hb
  refine ⟨_, pe_and pa pb, fun G0 H0 ρ σ G H Q R h => ?_⟩
  rw [Out.All_bind] at h
  refine qa G0 H0 ρ σ G H _ R (h.mono fun x hx v G1 H1 k1 i1 => ?_)
  cases x <;> simp only [asBool] at hx <;> try exact hx.elim
  rename_i c
  refine ⟨c, i1.bool, ?_⟩
  cases c with
  | false =>
    rw [if_neg Bool.false_ne_true]
    exact PostE.now k1.gh k1.tub (PostE.trans hx k1 R.tub) (.bl _)
  | true =>
    rw [if_pos rfl]
    simp only [Out.bind_ret] at hx
    rw [Out.All_bind] at hx
    refine qb G0 H0 ρ σ G1 H1 _ (R.step k1) (hx.mono fun y hy u G2 H2 k2 i2 => ?_)
    cases y <;> simp only [asBool] at hy <;> try exact hy.elim
    rename_i c2
    rw [i2.bool]
    exact PostE.now k2.gh k2.tub (PostE.trans hy (k1.trans k2 R.tub) R.tub) (.bl _)
theorem snd_or {rest : List Expr} (ha : SndE X T true a fa) (hb : SndE X T true (.BoolOp .Or (b :: rest) pos) fb) : SndE X T r (.BoolOp .Or (a :: b :: rest) pos) (fun ρ => (fa ρ).bind fun x => (asBool x).bind fun
    | true => .ret (.bool true)
    | false => (fb ρ).bind fun y => (asBool y).bind fun c => .ret (.bool c)) := by
  refine SndE.read ?_
  obtain ⟨ta, pa, qa⟩ := ha
  obtain ⟨tb, pb, qb⟩ := hb
  refine ⟨_, pe_or pa pb, fun G0 H0 ρ σ G H Q R h => ?_⟩
  rw [Out.All_bind] at h
  refine qa G0 H0 ρ σ G H _ R (h.mono fun x hx v G1 H1 k1 i1 => ?_)
  cases x <;> simp only [asBool] at hx <;> try exact hx.elim
  rename_i c
  refine ⟨c, i1.bool, ?_⟩
  cases c with
  | true =>
    rw [if_pos rfl]
    exact PostE.now k1.gh k1.tub (PostE.trans hx k1 R.tub) (.bl _)
  | false =>
    rw [if_neg Bool.false_ne_true]
    simp only [Out.bind_ret] at hx
    rw [Out.All_bind] at hx
    refine qb G0 H0 ρ σ G1 H1 _ (R.step k1) (hx.mono fun y hy u G2 H2 k2 i2 => ?_)
    cases y <;> simp only [asBool] at hy <;> try exact hy.elim
    rename_i c2
    rw [i2.bool]
    exact PostE.now k2.gh k2.tub (PostE.trans hy (k1.trans k2 R.tub) R.tub) (.bl _)
/-- one member of a BoolOp -/
theorem snd_one {op : BoolOp} (ha : SndE X T r a fa) : SndE X T r (.BoolOp op [a] pos) fa := by
  obtain ⟨ta, pa, qa⟩ := ha
  exact ⟨ta, pe_one pa, qa⟩
end
end Ev

set_option Elab.async false
set_option linter.all false
set_option autoImplicit false
set_option maxRecDepth 100000
set_option maxHeartbeats 2000000
namespace Ev
open PySem L2

section
variable {X : Cx} {T : Option Addr} {r : Bool} {ast a b c e : Expr} {es : List Expr} {pos : Pos} {f fa fb fc fl : Ro → Out D}
/-- every comparison's answer is a bool -/
theorem cmpD_bool {o : Cop} {x y z : D} {P : D → Prop} (h : (cmpD o x y).All P) : (cmpD o x y).All fun z => P z ∧ ∃ k, z = .bool k := by
  cases o <;> cases x <;> cases y <;> simp only [cmpD] at h ⊢ <;> first
    | exact h.elim
    | exact ⟨h, _, rfl⟩
    | (rw [Out.All_guard] at h ⊢; exact ⟨h.1, h.2, _, rfl⟩)
theorem snb_chain {o p : Cop} {op op' : CmpOp} {q q' : R2} (ho : OpR X (compareOp op) q) (ho' : OpR X (compareOp op') q') (e1 : Op2 T (cmpD o) q) (e2 : Op2 T (cmpD p) q') (ha : SndE X T true a fa) (hb : SndE X T true b fb) (hc : SndE X T true c fc)
    (hm : lastMarks [op, op'] [b, c] = false) : ∃ t : TE, PE X (.Compare a [op, op'] [b, c] pos) t ∧ PT X (.Compare a [op, op'] [b, c] pos) (tTest t) ∧ ∀ (G0 H0 : Hp) (ρ : Ro) (σ : Sg) (G H : Hp) (Q : VK), Rep T G0 H0 ρ σ G H → ((fa ρ).bind fun x => (fb ρ).bind fun y => (cmpD o x y).bind fun z => (asBool z).bind fun
    | true => (fc ρ).bind fun w => cmpD p y w
    | false => .ret (.bool false)).All (PostE false T G H Q) → t σ H Q := by
  obtain ⟨ta, pa, qa⟩ := ha
  obtain ⟨tb, pb, qb⟩ := hb
  obtain ⟨tc, pc, qc⟩ := hc
  refine ⟨_, pe_chain ho ho' pa pb pc hm, pt_chain ho ho' pa pb pc hm, fun G0 H0 ρ σ G H Q R h => ?_⟩
  rw [Out.All_bind] at h
  refine qa G0 H0 ρ σ G H _ R (h.mono fun x hx v G1 H1 k1 i1 => ?_)
  rw [Out.All_bind] at hx
  refine qb G0 H0 ρ σ G1 H1 _ (R.step k1) (hx.mono fun y hy u G2 H2 k2 i2 => ?_)
  rw [Out.All_bind] at hy
  have k := k1.trans k2 R.tub
  refine e1 G2 H2 x y v u _ k2.gh k2.tub (i1.step k2) i2 ((cmpD_bool (z := x) hy).mono fun z ⟨hz, kk, ez⟩ w G3 H3 k3 i3 => ?_)
  subst ez
  simp only [asBool, Out.bind_ret] at hz
  refine ⟨kk, i3.bool, ?_⟩
  have k' := k.trans k3 R.tub
  cases kk with
  | false =>
    rw [if_neg Bool.false_ne_true]
    exact PostE.now k3.gh k3.tub (PostE.trans hz k' R.tub) (.bl _)
  | true =>
    rw [if_pos rfl]
    simp only at hz
    rw [Out.All_bind] at hz
    refine qc G0 H0 ρ σ G3 H3 _ (R.step k') (hz.mono fun z hz2 w2 G4 H4 k4 i4 => ?_)
    exact e2 G4 H4 y z u w2 Q k4.gh k4.tub ((i2.step k3).step k4) i4 (hz2.mono fun d hd => hd.trans (k'.trans k4 R.tub) R.tub)

/-! ### tests -/
theorem SndT.of_e {t : TE} (p : PE X ast t) (q : ∀ (G0 H0 : Hp) (ρ : Ro) (σ : Sg) (G H : Hp) (Q : VK), Rep T G0 H0 ρ σ G H → (f ρ).All (PostE true T G H Q) → t σ H Q)
    (hb : ∀ ρ, (f ρ).All (fun _ => True) → True) : True := trivial
theorem snd_test (h : SndE X T true ast f) (he : ∀ whole, isTrue ast X.env whole = (do let v ← whole; standAt ast.pos; holding [v] (truthy v))) : SndT X T ast (fun ρ => (f ρ).bind fun d => (asBool d).bind fun b => .ret (.bool b)) := by
  obtain ⟨t, p, q⟩ := h
  refine ⟨_, pt_val p he, fun G0 H0 ρ σ G H Q R h => ?_⟩
  rw [Out.All_bind] at h
  refine q G0 H0 ρ σ G H _ R (h.mono fun d hd v G' H' k i => ?_)
  cases d <;> simp only [asBool] at hd <;> try exact hd.elim
  rename_i b
  exact ⟨b, i.bool, hd b G' H' rfl k⟩
abbrev tst (f : Ro → Out D) : Ro → Out D := fun ρ => (f ρ).bind fun d => (asBool d).bind fun b => .ret (.bool b)
theorem All_tst {ρ : Ro} {P : D → Prop} : (tst f ρ).All P ↔ (f ρ).All fun d => ∃ b, d = .bool b ∧ P (.bool b) := by
  unfold tst
  rw [Out.All_bind]
  constructor
  · exact fun h => h.mono fun d hd => by
      cases d <;> simp only [asBool] at hd <;> try exact hd.elim
      exact ⟨_, rfl, hd⟩
  · exact fun h => h.mono fun d ⟨b, e, hd⟩ => by
      subst e
      exact hd
theorem tt_not (ha : SndT X T a (tst fa)) : SndT X T (.UnaryOp .Not a pos) (tst fun ρ => (fa ρ).bind fun x => (asBool x).bind fun i => .ret (.bool (!i))) := by
  obtain ⟨t, p, q⟩ := ha
  refine ⟨_, pt_not p, fun G0 H0 ρ σ G H Q R h => ?_⟩
  rw [All_tst, Out.All_bind] at h
  refine q G0 H0 ρ σ G H _ R (All_tst.mpr (h.mono fun d hd => ?_))
  cases d <;> simp only [asBool] at hd <;> try exact hd.elim
  rename_i b
  obtain ⟨b', e, hd⟩ := hd
  cases e
  exact ⟨b, rfl, fun c G' H' e k => by cases e; exact hd _ G' H' rfl k⟩
theorem tt_and {rest : List Expr} (ha : SndT X T a (tst fa)) (hb : ∃ t : TT, PW X (.BoolOp .And (b :: rest) pos) t ∧ ∀ (G0 H0 : Hp) (ρ : Ro) (σ : Sg) (G H : Hp) (Q : Bool → Hp → Prop), Rep T G0 H0 ρ σ G H → (tst fb ρ).All (PostT T G H Q) → t σ H Q) :
    ∃ t : TT, PW X (.BoolOp .And (a :: b :: rest) pos) t ∧ ∀ (G0 H0 : Hp) (ρ : Ro) (σ : Sg) (G H : Hp) (Q : Bool → Hp → Prop), Rep T G0 H0 ρ σ G H → (tst (fun ρ => (fa ρ).bind fun x => (asBool x).bind fun
      | true => (fb ρ).bind fun y => (asBool y).bind fun c => .ret (.bool c)
      | false => .ret (.bool false)) ρ).All (PostT T G H Q) → t σ H Q := by
  obtain ⟨ta, pa, qa⟩ := ha
  obtain ⟨tb, pb, qb⟩ := hb
  refine ⟨_, pw_and pa pb, fun G0 H0 ρ σ G H Q R h => ?_⟩
  rw [All_tst, Out.All_bind] at h
  refine qa G0 H0 ρ σ G H _ R (All_tst.mpr (h.mono fun d hd => ?_))
  cases d <;> simp only [asBool] at hd <;> try exact hd.elim
  rename_i c
  refine ⟨c, rfl, fun c' G1 H1 e k1 => ?_⟩
  cases e
  cases c with
  | false =>
    rw [if_neg Bool.false_ne_true]
    obtain ⟨_, e, hd⟩ := hd
    cases e
    exact hd _ G1 H1 rfl k1
  | true =>
    rw [if_pos rfl]
    simp only [Out.bind_ret] at hd
    refine qb G0 H0 ρ σ G1 H1 _ (R.step k1) (All_tst.mpr ?_)
    rw [Out.All_bind] at hd
    refine hd.mono fun y hy => ?_
    cases y <;> simp only [asBool] at hy <;> try exact hy.elim
    rename_i c2
    obtain ⟨_, e, hy⟩ := hy
    cases e
    exact ⟨c2, rfl, PostT.trans hy k1 R.tub⟩
theorem tt_or {rest : List Expr} (ha : SndT X T a (tst fa)) (hb : ∃ t : TT, PW X (.BoolOp .Or (b :: rest) pos) t ∧ ∀ (G0 H0 : Hp) (ρ : Ro) (σ : Sg) (G H : Hp) (Q : Bool → Hp → Prop), Rep T G0 H0 ρ σ G H → (tst fb ρ).All (PostT T G H Q) → t σ H Q) :
    ∃ t : TT, PW X (.BoolOp .Or (a :: b :: rest) pos) t ∧ ∀ (G0 H0 : Hp) (ρ : Ro) (σ : Sg) (G H : Hp) (Q : Bool → Hp → Prop), Rep T G0 H0 ρ σ G H → (tst (fun ρ => (fa ρ).bind fun x => (asBool x).bind fun
      | true => .ret (.bool true)
      | false => (fb ρ).bind fun y => (asBool y).bind fun c => .ret (.bool c)) ρ).All (PostT T G H Q) → t σ H Q := by
  obtain ⟨ta, pa, qa⟩ := ha
  obtain ⟨tb, pb, qb⟩ := hb
  refine ⟨_, pw_or pa pb, fun G0 H0 ρ σ G H Q R h => ?_⟩
  rw [All_tst, Out.All_bind] at h
  refine qa G0 H0 ρ σ G H _ R (All_tst.mpr (h.mono fun d hd => ?_))
  cases d <;> simp only [asBool] at hd <;> try exact hd.elim
  rename_i c
  refine ⟨c, rfl, fun c' G1 H1 e k1 => ?_⟩
  cases e
  cases c with
  | true =>
    rw [if_pos rfl]
    obtain ⟨_, e, hd⟩ := hd
    cases e
    exact hd _ G1 H1 rfl k1
  | false =>
    rw [if_neg Bool.false_ne_true]
    simp only [Out.bind_ret] at hd
    refine qb G0 H0 ρ σ G1 H1 _ (R.step k1) (All_tst.mpr ?_)
    rw [Out.All_bind] at hd
    refine hd.mono fun y hy => ?_
    cases y <;> simp only [asBool] at hy <;> try exact hy.elim
    rename_i c2
    obtain ⟨_, e, hy⟩ := hy
    cases e
    exact ⟨c2, rfl, PostT.trans hy k1 R.tub⟩
theorem tt_one_and (ha : SndT X T a (tst fa)) : ∃ t : TT, PW X (.BoolOp .And [a] pos) t ∧ ∀ (G0 H0 : Hp) (ρ : Ro) (σ : Sg) (G H : Hp) (Q : Bool → Hp → Prop), Rep T G0 H0 ρ σ G H → (tst fa ρ).All (PostT T G H Q) → t σ H Q := by
  obtain ⟨ta, pa, qa⟩ := ha
  exact ⟨ta, pw_and1 pa, qa⟩
theorem tt_one_or (ha : SndT X T a (tst fa)) : ∃ t : TT, PW X (.BoolOp .Or [a] pos) t ∧ ∀ (G0 H0 : Hp) (ρ : Ro) (σ : Sg) (G H : Hp) (Q : Bool → Hp → Prop), Rep T G0 H0 ρ σ G H → (tst fa ρ).All (PostT T G H Q) → t σ H Q := by
  obtain ⟨ta, pa, qa⟩ := ha
  exact ⟨ta, pw_or1 pa, qa⟩
/-- a comparison as a test -/
theorem tt_cmp2 {g : D → D → Out D} {q : R2} {op : CmpOp} (ho : OpR X (compareOp op) q) (ha : SndE X T true a fa) (hb : SndE X T true b fb) (e2 : Op2 T g q) (hm : behindInMarks op b = false) :
    SndT X T (.Compare a [op] [b] pos) (tst fun ρ => (fa ρ).bind fun x => (fb ρ).bind fun y => g x y) := by
  obtain ⟨ta, pa, qa⟩ := ha
  obtain ⟨tb, pb, qb⟩ := hb
  refine ⟨_, pt_cmpR ho pa pb hm, fun G0 H0 ρ σ G H Q R h => ?_⟩
  rw [All_tst, Out.All_bind] at h
  refine qa G0 H0 ρ σ G H _ R (h.mono fun x hx v G1 H1 k1 i1 => ?_)
  rw [Out.All_bind] at hx
  refine qb G0 H0 ρ σ G1 H1 _ (R.step k1) (hx.mono fun y hy u G2 H2 k2 i2 => ?_)
  have k := k1.trans k2 R.tub
  refine e2 G2 H2 x y v u _ k2.gh k2.tub (i1.step k2) i2 (hy.mono fun d ⟨bb, e, hd⟩ w G3 H3 k3 i3 => ?_)
  subst e
  exact ⟨bb, i3.bool, hd bb G3 H3 rfl (k.trans k3 R.tub)⟩
/-- a one-comparison expression as a test, from its value -/
theorem tt_cmp1 {op : CmpOp} (h : SndE X T true (.Compare a [op] [b] pos) f) (mk : ∀ t, PE X (.Compare a [op] [b] pos) t → PT X (.Compare a [op] [b] pos) (tTest t)) : SndT X T (.Compare a [op] [b] pos) (tst f) := by
  obtain ⟨t, p, q⟩ := h
  refine ⟨_, mk t p, fun G0 H0 ρ σ G H Q R h => ?_⟩
  rw [All_tst] at h
  refine q G0 H0 ρ σ G H _ R (h.mono fun d ⟨bb, e, hd⟩ v G1 H1 k1 i1 => ?_)
  subst e
  exact ⟨bb, i1.bool, hd bb G1 H1 rfl k1⟩
theorem tt_ite (hc : SndT X T c (tst fc)) (ha : SndE X T r a fa) (hb : SndE X T r b fb) : SndE X T r (.IfExp c a b pos) (fun ρ => (fc ρ).bind fun x => (asBool x).bind fun
    | true => fa ρ
    | false => fb ρ) := by
  obtain ⟨tc, pc, qc⟩ := hc
  obtain ⟨ta, pa, qa⟩ := ha
  obtain ⟨tb, pb, qb⟩ := hb
  refine ⟨_, pe_ifExp pc pa pb, fun G0 H0 ρ σ G H Q R h => ?_⟩
  rw [Out.All_bind] at h
  refine qc G0 H0 ρ σ G H _ R (All_tst.mpr (h.mono fun x hx => ?_))
  cases x <;> simp only [asBool] at hx <;> try exact hx.elim
  rename_i k
  refine ⟨k, rfl, fun k' G1 H1 e k1 => ?_⟩
  cases e
  cases k with
  | true =>
    rw [if_pos rfl]
    exact qa G0 H0 ρ σ G1 H1 _ (R.step k1) (Out.All.mono (fun d hd => PostE.trans hd k1 R.tub) hx)
  | false =>
    rw [if_neg Bool.false_ne_true]
    exact qb G0 H0 ρ σ G1 H1 _ (R.step k1) (Out.All.mono (fun d hd => PostE.trans hd k1 R.tub) hx)

/-! ### lists of expressions, displays -/
theorem sl_nil : SndL X T r [] (fun _ => .ret (.tuple [])) :=
  ⟨_, pa_nil, fun G0 H0 ρ σ G H Q R h => h [] [] G H rfl (.refl R.sub R.tub) .nil⟩
theorem sl_cons (he : SndE X T r e fa) (hes : SndL X T r es fl) (hs : starEach (e :: es) X.env = (false, eval e X.env) :: starEach es X.env) : SndL X T r (e :: es) (fun ρ => (fa ρ).bind fun x => (fl ρ).bind fun y => consD x y) := by
  obtain ⟨ta, pa, qa⟩ := he
  obtain ⟨tl, pl, ql⟩ := hes
  refine ⟨_, pa_cons pa pl hs, fun G0 H0 ρ σ G H Q R h => ?_⟩
  rw [Out.All_bind] at h
  refine qa G0 H0 ρ σ G H _ R (h.mono fun x hx v G1 H1 k1 i1 => ?_)
  rw [Out.All_bind] at hx
  refine ql G0 H0 ρ σ G1 H1 _ (R.step k1) (hx.mono fun y hy vs ds G2 H2 e k2 i2 => ?_)
  subst e
  simp only [consD] at hy
  exact hy (v :: vs) (x :: ds) G2 H2 rfl (k1.trans k2 R.tub) (.cons (i1.step k2) i2)
theorem AllR.app : ∀ {vs us : List V} {ds es : List D} {G H : Hp}, AllR r T G H vs ds → AllR r T G H us es → AllR r T G H (vs ++ us) (ds ++ es)
  | _, _, _, _, _, _, .nil, h => h
  | _, _, _, _, _, _, .cons a b, h => .cons a (AllR.app b h)
theorem AllR.of : ∀ {vs : List V} {ds : List D} {G H : Hp}, IsAll T G vs ds → AllR r T G H vs ds
  | _, [], _, _, h => by cases h; exact .nil
  | _, d :: ds, _, _, h => by
    cases h with
    | cons a b => exact .cons (.inl a) (AllR.of b)
theorem sl_star {p : Pos} (he : SndE X T true e fa) (hes : SndL X T r es fl) : SndL X T r (.Starred e p :: es) (fun ρ => (fa ρ).bind fun x => (itemsD x).bind fun xs => (fl ρ).bind fun y => appD xs y) := by
  obtain ⟨ta, pa, qa⟩ := he
  obtain ⟨tl, pl, ql⟩ := hes
  refine ⟨_, StX.pa_star pa pl (by rfl), fun G0 H0 ρ σ G H Q R h => ?_⟩
  rw [Out.All_bind] at h
  refine qa G0 H0 ρ σ G H _ R (h.mono fun x hx v G1 H1 k1 i1 => ?_)
  have go : ∀ (xs : List D) (vs : List V), IsAll T G1 vs xs → ((fl ρ).bind fun y => appD xs y).All (PostL r T G H Q) → tl σ H1 fun ys H2 => Q (vs ++ ys) H2 := fun xs vs iv hx => by
    rw [Out.All_bind] at hx
    refine ql G0 H0 ρ σ G1 H1 _ (R.step k1) (hx.mono fun y hy us ds G2 H2 e k2 i2 => ?_)
    subst e
    simp only [appD] at hy
    exact hy (vs ++ us) (xs ++ ds) G2 H2 rfl (k1.trans k2 R.tub) (AllR.app (AllR.of (iv.mono k2.gs _ _)) i2)
  cases x <;> simp only [itemsD] at hx <;> try exact hx.elim
  case list xs =>
    obtain ⟨p', vs, rfl, gp, iv⟩ := i1.list k1.gh
    exact ⟨p', vs, rfl, .inr (.of gp), go xs vs iv hx⟩
  case tuple xs =>
    obtain ⟨p', vs, rfl, gp, iv⟩ := i1.tup
    exact ⟨p', vs, rfl, .inl (.of (k1.gh _ _ gp)), go xs vs iv hx⟩
  case dict kvs =>
    rcases kvs with _ | ⟨⟨a, b⟩, _ | ⟨c, q⟩⟩ <;> (try exact hx.elim) <;> cases a <;> (try exact hx.elim) <;> cases b <;> (try exact hx.elim)
    obtain ⟨p', vs, o, rfl, gp, iv⟩ := i1.scr
    exact ⟨p', vs, rfl, .inr (.inl (.inr ⟨o, k1.gh _ _ gp⟩)), go _ vs iv hx⟩
theorem snd_tup {k : Nat} (h : SndL X T false es fl) : SndE X T r (.Tuple es k pos) (fun ρ => (fl ρ).bind fun x => (unTup x).bind fun xs => .guard (decide (xs.length ≤ lim)) (.ret (.tuple xs))) := by
  refine SndE.read ?_
  obtain ⟨tl, pl, ql⟩ := h
  refine ⟨_, pe_tup pl, fun G0 H0 ρ σ G H Q R h => ?_⟩
  rw [Out.All_bind] at h
  refine ql G0 H0 ρ σ G H _ R (h.mono fun x hx vs ds G1 H1 e k1 i1 => ?_)
  subst e
  simp only [unTup, Out.bind_ret] at hx
  rw [Out.All_guard] at hx
  have hl := of_decide_eq_true hx.1
  have iv := i1.keep
  exact ⟨by rw [iv.length]; exact Nat.le_trans hl lim_le, fun p hp => PostE.laid k1.gh k1.tub (PostE.trans hx.2 k1 R.tub) hp fun G' s e => .tup e (iv.mono s _ _)⟩
theorem snd_lst (h : SndL X T false es fl) : SndF X T (.List es pos) (fun ρ => (fl ρ).bind fun x => (unTup x).bind fun xs => .guard (decide (xs.length ≤ lim)) (.ret (.list xs))) := by
  obtain ⟨tl, pl, ql⟩ := h
  refine ⟨_, pe_lst pl, fun G0 H0 ρ σ G H Q R h => ?_⟩
  rw [Out.All_bind] at h
  refine ql G0 H0 ρ σ G H _ R (h.mono fun x hx vs ds G1 H1 e k1 i1 => ?_)
  subst e
  simp only [unTup, Out.bind_ret] at hx
  rw [Out.All_guard] at hx
  have hl := of_decide_eq_true hx.1
  have iv := i1.keep
  exact ⟨by rw [iv.length]; exact Nat.le_trans hl lim_le, fun p hp => PostF.laid k1.gh k1.tub (PostF.trans hx.2 k1 R.tub) hp iv⟩

/-! ### slices -/
theorem snd_part {x : Option Expr} {b : Bool} (h : match x with | none => b = true | some e => b = false ∧ SndE X T true e f) :
    ∃ t : TO, PO X x t ∧ ∀ (G0 H0 : Hp) (ρ : Ro) (σ : Sg) (G H : Hp) (Q : Option Int → Hp → Prop), Rep T G0 H0 ρ σ G H → (partE b (f ρ)).All (fun o => ∀ G' H', Stp T G H G' H' → Q o H') → t σ H Q := by
  cases x with
  | none =>
    subst h
    exact ⟨_, po_none, fun G0 H0 ρ σ G H Q R h => h G H (.refl R.sub R.tub)⟩
  | some e =>
    obtain ⟨rfl, t, p, q⟩ := h
    refine ⟨_, po_some p, fun G0 H0 ρ σ G H Q R h => ?_⟩
    unfold partE at h
    rw [Out.All_bind] at h
    refine q G0 H0 ρ σ G H _ R (h.mono fun d hd v G' H' k i => ?_)
    cases d <;> simp only [asInt] at hd <;> try exact hd.elim
    exact ⟨_, i.int, hd G' H' k⟩
theorem snd_slc {fl fh : Ro → Out D} {bl bh : Bool} {lo hi : Option Expr} {p2 : Pos} (ha : SndE X T true a fa) (hl : match lo with | none => bl = true | some e => bl = false ∧ SndE X T true e fl)
    (hh : match hi with | none => bh = true | some e => bh = false ∧ SndE X T true e fh) :
    SndE X T r (.Subscript a (.Slice lo hi none p2) pos) (fun ρ => (fa ρ).bind fun x => (partE bl (fl ρ)).bind fun l => (partE bh (fh ρ)).bind fun h => slD x l h) := by
  refine SndE.read ?_
  obtain ⟨ta, pa, qa⟩ := ha
  obtain ⟨tl, pl, ql⟩ := snd_part (X := X) (T := T) hl
  obtain ⟨th, ph, qh⟩ := snd_part (X := X) (T := T) hh
  refine ⟨_, pe_slice or_sl pa pl ph, fun G0 H0 ρ σ G H Q R h => ?_⟩
  rw [Out.All_bind] at h
  refine qa G0 H0 ρ σ G H _ R (h.mono fun x hx v G1 H1 k1 i1 => ?_)
  rw [Out.All_bind] at hx
  refine ql G0 H0 ρ σ G1 H1 _ (R.step k1) (hx.mono fun l hl G2 H2 k2 => ?_)
  rw [Out.All_bind] at hl
  have k12 := k1.trans k2 R.tub
  refine qh G0 H0 ρ σ G2 H2 _ (R.step k12) (hl.mono fun h' hh G3 H3 k3 => ?_)
  have k := k12.trans k3 R.tub
  have i3 := (i1.step k2).step k3
  cases x <;> simp only [slD] at hh <;> try exact hh.elim
  case list xs =>
    obtain ⟨p, vs, rfl, gp, iv⟩ := i3.list k3.gh
    exact .inl ⟨p, vs, rfl, .of gp, fun p' hp => PostE.laid k3.gh k3.tub (PostE.trans hh k R.tub) hp fun G' s e => .lst e ((cut_is iv).mono s _ _)⟩
  case tuple xs =>
    obtain ⟨p, vs, rfl, gp, iv⟩ := i3.tup
    refine .inr ⟨p, vs, rfl, .of (k3.gh _ _ gp), fun e => ?_, fun _ p' hp => PostE.laid k3.gh k3.tub (PostE.trans hh k R.tub) hp fun G' s e => .tup e ((cut_is iv).mono s _ _)⟩
    have e2 : cutD xs l h' = xs := by
      unfold cutD
      rw [iv.length] at e
      rw [e.1, e.2]
      simp
    rw [e2] at hh
    exact PostE.now k3.gh k3.tub (PostE.trans hh k R.tub) (.tup gp iv)
  case dict kvs =>
    rcases kvs with _ | ⟨⟨a, b⟩, _ | ⟨c, r⟩⟩ <;> (try exact hh.elim) <;> cases a <;> (try exact hh.elim) <;> cases b <;> (try exact hh.elim)
    obtain ⟨p, vs, o, rfl, gp, iv⟩ := i3.scr
    exact .inl ⟨p, vs, rfl, .inl (.inr ⟨o, k3.gh _ _ gp⟩), fun p' hp => PostE.laid k3.gh k3.tub (PostE.trans hh k R.tub) hp fun G' s e => .lst e ((cut_is iv).mono s _ _)⟩

/-! ### calls of built-ins -/
def OpC (T : Option Addr) (g : List D → Out D) (q : List V → Hp → VK → Prop) : Prop := ∀ (G H : Hp) (ds : List D) (vs : List V) (Q : VK), Sub G H → TubOk T H → AllR true T G H vs ds → (g ds).All (PostE false T G H Q) → q vs H Q
theorem snd_blt {g : List D → Out D} {q : List V → Hp → VK → Prop} (hl : SndL X T true es fl) (mk : ∀ t, PA X es t → PE X ast (tCB q t)) (op : OpC T g q) : SndE X T r ast (fun ρ => (fl ρ).bind fun x => (unTup x).bind g) := by
  refine SndE.read ?_
  obtain ⟨tl, pl, ql⟩ := hl
  refine ⟨_, mk tl pl, fun G0 H0 ρ σ G H Q R h => ?_⟩
  rw [Out.All_bind] at h
  refine ql G0 H0 ρ σ G H _ R (h.mono fun x hx vs ds G1 H1 e k1 i1 => ?_)
  subst e
  simp only [unTup, Out.bind_ret] at hx
  exact op G1 H1 ds vs Q k1.gh k1.tub i1 (hx.mono fun d hd => hd.trans k1 R.tub)
def OpCF (T : Option Addr) (g : List D → Out D) (q : List V → Hp → VK → Prop) : Prop := ∀ (G H : Hp) (ds : List D) (vs : List V) (Q : VK), Sub G H → TubOk T H → AllR true T G H vs ds → (g ds).All (PostF T G H Q) → q vs H Q
theorem snd_bltF {g : List D → Out D} {q : List V → Hp → VK → Prop} (hl : SndL X T true es fl) (mk : ∀ t, PA X es t → PE X ast (tCB q t)) (op : OpCF T g q) : SndF X T ast (fun ρ => (fl ρ).bind fun x => (unTup x).bind g) := by
  obtain ⟨tl, pl, ql⟩ := hl
  refine ⟨_, mk tl pl, fun G0 H0 ρ σ G H Q R h => ?_⟩
  rw [Out.All_bind] at h
  refine ql G0 H0 ρ σ G H _ R (h.mono fun x hx vs ds G1 H1 e k1 i1 => ?_)
  subst e
  simp only [unTup, Out.bind_ret] at hx
  exact op G1 H1 ds vs Q k1.gh k1.tub i1 (hx.mono fun d hd => hd.trans k1 R.tub)
end
section
variable {T : Option Addr} {K : PySem.W.Frag} {G H : Hp}
theorem AllR.one {r : Bool} {vs : List V} {d : D} (h : AllR r T G H vs [d]) : ∃ v, vs = [v] ∧ IsR r T G H v d := by
  cases h with
  | cons a b => cases b; exact ⟨_, rfl, a⟩
theorem AllR.two {r : Bool} {vs : List V} {d e : D} (h : AllR r T G H vs [d, e]) : ∃ v u, vs = [v, u] ∧ IsR r T G H v d ∧ IsR r T G H u e := by
  cases h with
  | cons a b =>
    obtain ⟨u, rfl, c⟩ := b.one
    exact ⟨_, u, rfl, a, c⟩
abbrev rLenD (K : PySem.W.Frag) : List V → Hp → VK → Prop := fun xs H Q => ∃ p ys, xs = [.ref p] ∧ (SqL K H p ys ∨ SqT K H p ys) ∧ Q (.int ys.length) H
theorem oc_len : OpC T (bltD .len) (rLenD K) := by
  intro G H ds vs Q s t i h
  match ds, h with
  | [.list xs], h =>
    obtain ⟨v, rfl, iv⟩ := i.one
    obtain ⟨a, us, rfl, ga, ia⟩ := iv.list s
    exact ⟨a, us, rfl, .inl (.of ga), by rw [ia.length]; exact PostE.now s t h (.int _)⟩
  | [.tuple xs], h =>
    obtain ⟨v, rfl, iv⟩ := i.one
    obtain ⟨a, us, rfl, ga, ia⟩ := iv.tup
    exact ⟨a, us, rfl, .inr (.of (s _ _ ga)), by rw [ia.length]; exact PostE.now s t h (.int _)⟩
  | [.dict [(.none, .list xs)]], h =>
    obtain ⟨v, rfl, iv⟩ := i.one
    obtain ⟨a, us, o, rfl, ga, ia⟩ := iv.scr
    exact ⟨a, us, rfl, .inl (.inl (.inr ⟨o, s _ _ ga⟩)), by rw [ia.length]; exact PostE.now s t h (.int _)⟩
theorem oc_abs : OpC T (bltD .abs) (fun xs H Q => ∃ i, xs = [.int i] ∧ Q (.int (if i < 0 then -i else i)) H) := by
  intro G H ds vs Q s t i h
  match ds, h with
  | [.int z], h =>
    obtain ⟨v, rfl, iv⟩ := i.one
    exact ⟨z, by rw [iv.int], PostE.now s t h (.int _)⟩
theorem oc_int : OpC T (bltD .int) (fun xs H Q => (∃ i, xs = [.int i] ∧ Q (.int i) H) ∨ ∃ k, xs = [.bl k] ∧ Q (.int (if k then 1 else 0)) H) := by
  intro G H ds vs Q s t i h
  match ds, h with
  | [.int z], h =>
    obtain ⟨v, rfl, iv⟩ := i.one
    exact .inl ⟨z, by rw [iv.int], PostE.now s t h (.int _)⟩
theorem oc_all : OpC T (bltD .all) (rAll K) := by
  intro G H ds vs Q s t i h
  match ds, h with
  | [.list xs], h =>
    obtain ⟨v, rfl, iv⟩ := i.one
    obtain ⟨a, us, rfl, ga, ia⟩ := iv.list s
    simp only [bltD] at h
    rw [Out.All_bind, Out.All_ofO] at h
    obtain ⟨bs, e, h⟩ := h
    exact ⟨a, bs, rfl, .of (by rw [ga, ia.bls e]), PostE.now s t h (.bl _)⟩
theorem oc_any : OpC T (bltD .any) (rAny K) := by
  intro G H ds vs Q s t i h
  match ds, h with
  | [.list xs], h =>
    obtain ⟨v, rfl, iv⟩ := i.one
    obtain ⟨a, us, rfl, ga, ia⟩ := iv.list s
    simp only [bltD] at h
    rw [Out.All_bind, Out.All_ofO] at h
    obtain ⟨bs, e, h⟩ := h
    exact ⟨a, bs, rfl, .of (by rw [ga, ia.bls e]), PostE.now s t h (.bl _)⟩
theorem maxI_spec : ∀ (ns : List Int) (m : Int), (maxI ns m = m ∨ maxI ns m ∈ ns) ∧ m ≤ maxI ns m ∧ ∀ y ∈ ns, y ≤ maxI ns m
  | [], m => ⟨.inl rfl, Int.le_refl _, fun y h => by cases h⟩
  | x :: r, m => by
    obtain ⟨h1, h2, h3⟩ := maxI_spec r (if m < x then x else m)
    have e : maxI (x :: r) m = maxI r (if m < x then x else m) := rfl
    rw [e]
    refine ⟨?_, ?_, fun y hy => ?_⟩
    · rcases h1 with h1 | h1
      · by_cases hx : m < x
        · rw [if_pos hx] at h1 ⊢; exact .inr (by rw [h1]; exact List.mem_cons_self)
        · rw [if_neg hx] at h1 ⊢; exact .inl h1
      · exact .inr (List.mem_cons_of_mem _ h1)
    · by_cases hx : m < x
      · rw [if_pos hx] at h2 ⊢; omega
      · rw [if_neg hx] at h2 ⊢; exact h2
    · rcases List.mem_cons.mp hy with rfl | hy
      · by_cases hx : m < y
        · rw [if_pos hx] at h2 ⊢; exact h2
        · rw [if_neg hx] at h2 ⊢; omega
      · exact h3 y hy
theorem minI_spec : ∀ (ns : List Int) (m : Int), (minI ns m = m ∨ minI ns m ∈ ns) ∧ minI ns m ≤ m ∧ ∀ y ∈ ns, minI ns m ≤ y
  | [], m => ⟨.inl rfl, Int.le_refl _, fun y h => by cases h⟩
  | x :: r, m => by
    obtain ⟨h1, h2, h3⟩ := minI_spec r (if x < m then x else m)
    have e : minI (x :: r) m = minI r (if x < m then x else m) := rfl
    rw [e]
    refine ⟨?_, ?_, fun y hy => ?_⟩
    · rcases h1 with h1 | h1
      · by_cases hx : x < m
        · rw [if_pos hx] at h1 ⊢; exact .inr (by rw [h1]; exact List.mem_cons_self)
        · rw [if_neg hx] at h1 ⊢; exact .inl h1
      · exact .inr (List.mem_cons_of_mem _ h1)
    · by_cases hx : x < m
      · rw [if_pos hx] at h2 ⊢; omega
      · rw [if_neg hx] at h2 ⊢; exact h2
    · rcases List.mem_cons.mp hy with rfl | hy
      · by_cases hx : y < m
        · rw [if_pos hx] at h2 ⊢; exact h2
        · rw [if_neg hx] at h2 ⊢; omega
      · exact h3 y hy
abbrev rMax2 (K : PySem.W.Frag) : List V → Hp → VK → Prop := fun xs H Q => (∃ i j, xs = [.int i, .int j] ∧ Q (.int (if j > i then j else i)) H) ∨ rMax K xs H Q
def rMin3 : List V → Hp → VK → Prop := fun xs H Q => ∃ i j k : Int, xs = [.int i, .int j, .int k] ∧ Q (.int (if k < (if j < i then j else i) then k else (if j < i then j else i))) H
abbrev rMin2 (K : PySem.W.Frag) : List V → Hp → VK → Prop := fun xs H Q => (∃ i j, xs = [.int i, .int j] ∧ Q (.int (if j < i then j else i)) H) ∨ (rMin K xs H Q ∨ rMin3 xs H Q)
theorem oc_max : OpC T (bltD .max) (rMax2 K) := by
  intro G H ds vs Q s t i h
  match ds, h with
  | [.int x, .int y], h =>
    obtain ⟨v, u, rfl, iv, jv⟩ := i.two
    exact .inl ⟨x, y, by rw [iv.int, jv.int], PostE.now s t h (.int _)⟩
  | [.list (.int x :: xs)], h =>
    obtain ⟨v, rfl, iv⟩ := i.one
    obtain ⟨a, us, rfl, ga, ia⟩ := iv.list s
    simp only [bltD] at h
    rw [Out.All_bind, Out.All_ofO] at h
    obtain ⟨bs, e, h⟩ := h
    have e' : intsOf (.int x :: xs) = some (x :: bs) := by simp only [intsOf, e]; rfl
    refine .inr ⟨a, x :: bs, rfl, .of (by rw [ga, (ia.ints e').1]), by simp, fun m hm hy => ?_⟩
    obtain ⟨h1, h2, h3⟩ := maxI_spec bs x
    have : m = maxI bs x := by
      refine Int.le_antisymm ?_ (hy _ ?_)
      · rcases List.mem_cons.mp hm with rfl | hm
        · exact h2
        · exact h3 m hm
      · rcases h1 with h1 | h1
        · rw [h1]; exact List.mem_cons_self
        · exact List.mem_cons_of_mem _ h1
    rw [this]
    exact PostE.now s t h (.int _)
theorem oc_min : OpC T (bltD .min) (rMin2 K) := by
  intro G H ds vs Q s t i h
  match ds, h with
  | [.int x, .int y], h =>
    obtain ⟨v, u, rfl, iv, jv⟩ := i.two
    exact .inl ⟨x, y, by rw [iv.int, jv.int], PostE.now s t h (.int _)⟩
  | [.int x, .int y, .int z], h =>
    cases i with
    | cons i1 i =>
      obtain ⟨v, u, rfl, iv, jv⟩ := i.two
      exact .inr (.inr ⟨x, y, z, by rw [i1.int, iv.int, jv.int], PostE.now s t h (.int _)⟩)
  | [.list (.int x :: xs)], h =>
    obtain ⟨v, rfl, iv⟩ := i.one
    obtain ⟨a, us, rfl, ga, ia⟩ := iv.list s
    simp only [bltD] at h
    rw [Out.All_bind, Out.All_ofO] at h
    obtain ⟨bs, e, h⟩ := h
    have e' : intsOf (.int x :: xs) = some (x :: bs) := by simp only [intsOf, e]; rfl
    refine .inr (.inl ⟨a, x :: bs, rfl, .of (by rw [ga, (ia.ints e').1]), by simp, fun m hm hy => ?_⟩)
    obtain ⟨h1, h2, h3⟩ := minI_spec bs x
    have : m = minI bs x := by
      refine Int.le_antisymm (hy _ ?_) ?_
      · rcases h1 with h1 | h1
        · rw [h1]; exact List.mem_cons_self
        · exact List.mem_cons_of_mem _ h1
      · rcases List.mem_cons.mp hm with rfl | hm
        · exact h2
        · exact h3 m hm
    rw [this]
    exact PostE.now s t h (.int _)
abbrev rTupD (K : PySem.W.Frag) : List V → Hp → VK → Prop := fun xs H Q => ∃ p ys, xs = [.ref p] ∧ ((SqL K H p ys ∧ ∀ l, H l = none → Q (.ref l) (upd H l (.tup ys))) ∨ (SqT K H p ys ∧ Q (.ref p) H))
theorem oc_tuple : OpC T (bltD .tuple) (rTupD K) := by
  intro G H ds vs Q s t i h
  match ds, h with
  | [.list xs], h =>
    obtain ⟨v, rfl, iv⟩ := i.one
    obtain ⟨a, us, rfl, ga, ia⟩ := iv.list s
    exact ⟨a, us, rfl, .inl ⟨.of ga, fun l hl => PostE.laid s t h hl fun G' s' e => .tup e (ia.mono s' _ _)⟩⟩
  | [.tuple xs], h =>
    obtain ⟨v, rfl, iv⟩ := i.one
    obtain ⟨a, us, rfl, ga, ia⟩ := iv.tup
    exact ⟨a, us, rfl, .inr ⟨.of (s _ _ ga), PostE.now s t h (.tup ga ia)⟩⟩
abbrev rLstD (K : PySem.W.Frag) : List V → Hp → VK → Prop := fun xs H Q => ∃ p ys, xs = [.ref p] ∧ (SqL K H p ys ∨ SqT K H p ys) ∧ ∀ l, H l = none → Q (.ref l) (upd H l (.lst ys))
theorem oc_list : OpCF T (bltD .list) (rLstD K) := by
  intro G H ds vs Q s t i h
  match ds, h with
  | [.list xs], h =>
    obtain ⟨v, rfl, iv⟩ := i.one
    obtain ⟨a, us, rfl, ga, ia⟩ := iv.list s
    exact ⟨a, us, rfl, .inl (.of ga), fun l hl => PostF.laid s t h hl ia⟩
  | [.tuple xs], h =>
    obtain ⟨v, rfl, iv⟩ := i.one
    obtain ⟨a, us, rfl, ga, ia⟩ := iv.tup
    exact ⟨a, us, rfl, .inr (.of (s _ _ ga)), fun l hl => PostF.laid s t h hl ia⟩
theorem oc_divmod : OpC T (bltD .divmod) (fun xs H Q => ∃ i j, xs = [.int i, .int j] ∧ CDiv i j ∧ ∀ p, H p = none → Q (.ref p) (upd H p (.tup [.int (i / j), .int (i % j)]))) := by
  intro G H ds vs Q s t i h
  match ds, h with
  | [.int x, .int y], h =>
    obtain ⟨v, u, rfl, iv, jv⟩ := i.two
    simp only [bltD] at h
    rw [Out.All_guard, Bool.and_eq_true, decide_eq_true_eq, decide_eq_true_eq] at h
    exact ⟨x, y, by rw [iv.int, jv.int], h.1, fun p hp => PostE.laid s t h.2 hp fun G' s' e => .tup e (.cons (.int _) (.cons (.int _) .nil))⟩
end
end Ev

set_option Elab.async false
set_option linter.all false
set_option autoImplicit false
set_option maxRecDepth 100000
set_option maxHeartbeats 2000000
namespace Ev
open PySem L2

theorem All_asInt {α : Type} {d : D} {k : Int → Out α} {P : α → Prop} (h : ((asInt d).bind k).All P) : ∃ i, d = .int i ∧ (k i).All P := by
  cases d <;> simp only [asInt] at h <;> first | exact h.elim | exact ⟨_, rfl, h⟩
theorem All_asBool {α : Type} {d : D} {k : Bool → Out α} {P : α → Prop} (h : ((asBool d).bind k).All P) : ∃ i, d = .bool i ∧ (k i).All P := by
  cases d <;> simp only [asBool] at h <;> first | exact h.elim | exact ⟨_, rfl, h⟩
theorem asBool_All {d : D} {P : Bool → Prop} (h : (asBool d).All P) : ∃ i, d = .bool i ∧ P i := by
  cases d <;> simp only [asBool] at h <;> first | exact h.elim | exact ⟨_, rfl, h⟩
theorem All_items {α : Type} {d : D} {k : List D → Out α} {P : α → Prop} (h : ((itemsD d).bind k).All P) : ∃ xs, itemsD d = .ret xs ∧ (k xs).All P := by
  unfold itemsD at h ⊢
  split at h <;> first | exact h.elim | exact ⟨_, rfl, h⟩

/-! ### one reading for all contexts -/
def tE (T : Option Addr) (r : Bool) (f : Ro → Out D) : TE := fun σ H Q => ∃ (G0 H0 : Hp) (ρ : Ro) (G : Hp), Rep T G0 H0 ρ σ G H ∧ (f ρ).All (PostE r T G H Q)
def tT (T : Option Addr) (f : Ro → Out D) : TT := fun σ H Q => ∃ (G0 H0 : Hp) (ρ : Ro) (G : Hp), Rep T G0 H0 ρ σ G H ∧ (tst f ρ).All (PostT T G H Q)
section
variable {X : Cx} {T : Option Addr} {r : Bool} {ast : Expr} {f : Ro → Out D}
theorem SndE.pe (h : SndE X T r ast f) : PE X ast (tE T r f) := by
  obtain ⟨t, p, q⟩ := h
  exact ⟨fun pins s σ H Q I ⟨G0, H0, ρ, G, R, h⟩ => p.run pins s σ H Q I (q G0 H0 ρ σ G H Q R h)⟩
theorem SndE.of_pe (h : PE X ast (tE T r f)) : SndE X T r ast f := ⟨_, h, fun G0 H0 ρ σ G H Q R h => ⟨G0, H0, ρ, G, R, h⟩⟩
theorem SndT.pt (h : SndT X T ast (tst f)) : PT X ast (tT T f) := by
  obtain ⟨t, p, q⟩ := h
  exact ⟨fun pins s σ H Q I ⟨G0, H0, ρ, G, R, h⟩ => p.run pins s σ H Q I (q G0 H0 ρ σ G H Q R h)⟩
end

/-! ### targets -/
def Tg.slots : Tg → List Nat
  | .nm i => [i]
  | .nil => []
  | .cons g gs => g.slots ++ gs.slots
/-- what a target asks: behind the stores Q holds of all slots that fit -/
def gG (T : Option Addr) (g : Tg) : TG := fun v σ H Q => ∃ (G0 H0 : Hp) (ρ : Ro) (G : Hp) (d : D) (ρ2 : Ro), Rep T G0 H0 ρ σ G H ∧ Is T G v d ∧ asgG g d ρ = some ρ2 ∧
  ∀ σ2 : Sg, Rep T G0 H0 ρ2 σ2 G H → σ2.length = σ.length → (∀ i, i ∉ g.slots → σ2[i]? = σ[i]?) → Q σ2 H
def SndG (X : Cx) (T : Option Addr) (ast : Expr) (g : Tg) : Prop := PG X ast (gG T g)
def gGs (T : Option Addr) (g : Tg) : TGs := fun vs σ H Q => ∃ (G0 H0 : Hp) (ρ : Ro) (G : Hp) (ds : List D) (ρ2 : Ro), Rep T G0 H0 ρ σ G H ∧ IsAll T G vs ds ∧ asgG g (.tuple ds) ρ = some ρ2 ∧
  ∀ σ2 : Sg, Rep T G0 H0 ρ2 σ2 G H → σ2.length = σ.length → (∀ i, i ∉ g.slots → σ2[i]? = σ[i]?) → Q σ2 H
/-- a list of targets, n of them -/
def lenG : Tg → Nat
  | .cons _ gs => lenG gs + 1
  | _ => 0
def listG : Tg → Bool
  | .nil => true
  | .cons _ gs => listG gs
  | _ => false
theorem asgG_len : ∀ {g : Tg} {ds : List D} {ρ ρ2 : Ro}, listG g = true → asgG g (.tuple ds) ρ = some ρ2 → ds.length = lenG g
  | .nil, [], _, _, _, _ => rfl
  | .nil, _ :: _, _, _, _, h => by simp [asgG] at h
  | .nm _, _, _, _, h, _ => by cases h
  | .cons g gs, [], _, _, _, h => by simp [asgG] at h
  | .cons g gs, d :: ds, ρ, ρ2, hl, h => by
    simp only [asgG, Option.bind_eq_some_iff] at h
    obtain ⟨ρ1, _, h⟩ := h
    have := asgG_len (g := gs) hl h
    simp [lenG, this]
section
variable {X : Cx} {T : Option Addr} {e : Expr} {es : List Expr} {pos : Pos}
theorem PG.weak {g g' : TG} (h : PG X e g) (w : ∀ v σ H Q, g' v σ H Q → g v σ H Q) : PG X e g' := ⟨fun pins s σ H v u Q I r q => h.run pins s σ H v u Q I r (w v σ H Q q)⟩
theorem PGs.weak {g g' : TGs} (h : PGs X es g) (w : ∀ v σ H Q, g' v σ H Q → g v σ H Q) : PGs X es g' := ⟨fun pins s σ H v u Q I r q => h.run pins s σ H v u Q I r (w v σ H Q q)⟩
theorem sg_nm {i : Nat} {x : Str} (hN : X.N.Nodup) (hi : X.N[i]? = some x) (hx : L2.Loc X.env.scope x) (hf : X.fn x = true ∨ X.env.scope.names.lookup x = some .local) : SndG X T (.Name x pos) (.nm i) := by
  refine PG.weak (pg_name hN hi hx hf) fun v σ H Q ⟨G0, H0, ρ, G, d, ρ2, R, hd, e, h⟩ => ?_
  cases e
  exact h _ (R.setVal hd) (by simp) fun j hj => List.getElem?_set_ne fun z => hj (by simp [Tg.slots, z])
theorem sgs_nil : PGs X [] (gGs T .nil) := by
  refine PGs.weak pgs_nil fun vs σ H Q ⟨G0, H0, ρ, G, ds, ρ2, R, hd, e, h⟩ => ?_
  cases ds with
  | nil => cases hd; cases e; exact ⟨rfl, h σ R rfl fun _ _ => rfl⟩
  | cons => simp [asgG] at e
theorem sgs_cons {g gs : Tg} (h1 : SndG X T e g) (h2 : PGs X es (gGs T gs)) (hs : (assignEach (e :: es) X.env).map (·.2) = assign e X.env :: (assignEach es X.env).map (·.2)) : PGs X (e :: es) (gGs T (.cons g gs)) := by
  refine PGs.weak (pgs_cons h1 h2 hs) fun vs σ H Q ⟨G0, H0, ρ, G, ds, ρ2, R, hd, e, h⟩ => ?_
  cases ds with
  | nil => simp [asgG] at e
  | cons d ds =>
    cases hd with
    | cons a b =>
      simp only [asgG, Option.bind_eq_some_iff] at e
      obtain ⟨ρ1, e1, e2⟩ := e
      refine ⟨_, _, rfl, G0, H0, ρ, G, d, ρ1, R, a, e1, fun σ2 R2 l2 k2 => ?_⟩
      refine ⟨G0, H0, ρ1, G, ds, ρ2, R2, b, e2, fun σ3 R3 l3 k3 => h σ3 R3 (l3.trans l2) fun i hi => ?_⟩
      have n1 : i ∉ g.slots := fun z => hi (List.mem_append_left _ z)
      have n2 : i ∉ gs.slots := fun z => hi (List.mem_append_right _ z)
      exact (k3 i n2).trans (k2 i n1)
theorem sg_tup {g : Tg} {k : Nat} (hc : X.calm = true) (hl : listG g = true) (h : PGs X es (gGs T g)) (hn : (assignEach es X.env).length = lenG g) (hst : (assignEach es X.env).findIdx? (·.1) = none) : SndG X T (.Tuple es k pos) g := by
  refine PG.weak (pg_tup hc h hn hst) fun v σ H Q ⟨G0, H0, ρ, G, d, ρ2, R, hd, e, h⟩ => ?_
  cases d with
  | tuple ds =>
    cases hd with
    | tup ga ia =>
      exact ⟨_, _, rfl, .of (R.sub _ _ ga), by rw [ia.length]; exact asgG_len hl e, G0, H0, ρ, G, ds, ρ2, R, ia, e, h⟩
  | _ => cases g <;> simp [asgG, listG] at e hl
end

/-! ### what is walked -/
structure WalkOf (T : Option Addr) (G1 H1 : Hp) (J : It) (xs : List D) (Gd : Hp → Prop) (Y : Nat → Hp → V → Hp → Prop) : Prop where
  w : Walk J xs.length Gd Y
  now : Gd H1
  item : ∀ (i : Nat) (H : Hp) (x : V) (H' G2 : Hp), i < xs.length → Gd H → Y i H x H' → Sub G1 G2 → Sub G2 H → TubOk T H → ∃ G3 d, xs[i]? = some d ∧ Stp T G2 H G3 H' ∧ Is T G3 x d
def Stb (r : Bool) (T : Option Addr) (G1 H1 : Hp) (Gd : Hp → Prop) : Prop := match r with
  | true => ∀ H', (∀ b o, T ≠ some b → H1 b = some o → H' b = some o) → Gd H'
  | false => ∀ H', Sub G1 H' → Gd H'
def PostI (r : Bool) (T : Option Addr) (G H : Hp) (R : It → Hp → Prop) (d : D) : Prop := ∃ xs, itemsD d = .ret xs ∧ ∀ J Gd Y G1 H1, Stp T G H G1 H1 → WalkOf T G1 H1 J xs Gd Y → Stb r T G1 H1 Gd → R J H1
def SndI (X : Cx) (T : Option Addr) (r : Bool) (tg ast : Expr) (f : Ro → Out D) : Prop :=
  ∃ wi : TI, PI X tg ast wi ∧ ∀ (G0 H0 : Hp) (ρ : Ro) (σ : Sg) (G H : Hp) (R : It → Hp → Prop), Rep T G0 H0 ρ σ G H → (f ρ).All (PostI r T G H R) → wi σ H R
def tI (T : Option Addr) (r : Bool) (f : Ro → Out D) : TI := fun σ H R => ∃ (G0 H0 : Hp) (ρ : Ro) (G : Hp), Rep T G0 H0 ρ σ G H ∧ (f ρ).All (PostI r T G H R)
theorem SndI.pi {X : Cx} {T : Option Addr} {r : Bool} {tg ast : Expr} {f : Ro → Out D} (h : SndI X T r tg ast f) : PI X tg ast (tI T r f) := by
  obtain ⟨t, p, q⟩ := h
  exact ⟨fun pins s σ H Q I ⟨G0, H0, ρ, G, R, h⟩ => p.run pins s σ H Q I (q G0 H0 ρ σ G H Q R h)⟩
section
variable {X : Cx} {T : Option Addr} {r : Bool} {tg e a b c : Expr} {pos p : Pos} {f fa fb fc : Ro → Out D}
def iSeq (K : PySem.W.Frag) (tl : TE) : TI := fun σ H R => tl σ H fun x H1 => ∃ a, x = .ref a ∧ (((∃ xs, SqL K H1 a xs) ∧ R (Itl K a) H1) ∨ ((∃ xs, SqT K H1 a xs) ∧ R (Itt K a) H1))
theorem pi_seq {tl : TE} (hl : PE X e tl) : PI X tg e (iSeq X.K tl) := by
  refine ⟨fun pins s σ H R I h => ?_⟩
  refine thn (hl.run pins s σ H _ I h) fun v s1 ⟨x, H1, I1, r1, q1⟩ => ?_
  obtain ⟨a, ex, q⟩ := q1
  subst ex
  cases r1
  have fp : ∀ b, b ∈ [s1.heap.objs.size] → FpOk X pins H1 b := fun b hb => by
    have e : b = s1.heap.objs.size := by simpa using hb
    subst e
    exact I1.fpOk (Nat.le_refl _) (I1.hok.fresh (Nat.le_refl _))
  rcases q with ⟨⟨xs, hq⟩, q⟩ | ⟨⟨xs, hq⟩, q⟩
  · obtain ⟨its, rv, p, hz⟩ := I1.list hq
    refine wpAny_pyIter_list p.isList ?_
    exact ⟨s1.heap.objs.size, [s1.heap.objs.size], _, _, H1, rfl, I1.kept (t' := s1.toks) fun b o e => Heap.get?_push_of_some _ e, turn_list a _, ⟨_, Heap.get?_push_size _ rfl, rfl, rfl⟩, fp, q⟩
  · obtain ⟨its, rv, p, hz⟩ := I1.tuple hq
    refine wpAny_pyIter_tuple (show s1.heap.IsTuple a its.toArray from p) ?_
    exact ⟨s1.heap.objs.size, [s1.heap.objs.size], _, _, H1, rfl, I1.kept (t' := s1.toks) fun b o e => Heap.get?_push_of_some _ e, turn_tuple a _, ⟨_, Heap.get?_push_size _ rfl, rfl, rfl⟩, fp, q⟩
theorem walkOf_list {K : PySem.W.Frag} {G1 H1 : Hp} {a : Addr} {vs : List V} {xs : List D} (h : H1 a = some (.lst vs)) (i : IsAll T G1 vs xs) : WalkOf T G1 H1 (Itl K a) xs (fun H => SqL K H a vs) (YAt vs) := by
  refine ⟨by rw [← i.length]; exact walk_list, .of h, fun j H x H' G2 hj hG y s1 s2 t => ?_⟩
  obtain ⟨rfl, hx⟩ := y
  obtain ⟨d, e, hd⟩ := i.get' hx
  exact ⟨G2, d, e, .refl s2 t, Is.mono s1 _ _ hd⟩
theorem walkOf_scr {K : PySem.W.Frag} {G1 H1 : Hp} {a : Addr} {o : Obj} {vs : List V} {xs : List D} (h : H1 a = some (.frz o (.lst vs))) (i : IsAll T G1 vs xs) : WalkOf T G1 H1 (Itl K a) xs (fun H => SqL K H a vs) (YAt vs) := by
  refine ⟨by rw [← i.length]; exact walk_list, .inl (.inr ⟨o, h⟩), fun j H x H' G2 hj hG y s1 s2 t => ?_⟩
  obtain ⟨rfl, hx⟩ := y
  obtain ⟨d, e, hd⟩ := i.get' hx
  exact ⟨G2, d, e, .refl s2 t, Is.mono s1 _ _ hd⟩
theorem walkOf_tup {K : PySem.W.Frag} {G1 H1 : Hp} {a : Addr} {vs : List V} {xs : List D} (h : H1 a = some (.tup vs)) (i : IsAll T G1 vs xs) : WalkOf T G1 H1 (Itt K a) xs (fun H => SqT K H a vs) (YAt vs) := by
  refine ⟨by rw [← i.length]; exact walk_tup, .of h, fun j H x H' G2 hj hG y s1 s2 t => ?_⟩
  obtain ⟨rfl, hx⟩ := y
  obtain ⟨d, e, hd⟩ := i.get' hx
  exact ⟨G2, d, e, .refl s2 t, Is.mono s1 _ _ hd⟩
theorem si_seq (h : SndE X T r e f) : SndI X T r tg e f := by
  obtain ⟨t, p, q⟩ := h
  refine ⟨_, pi_seq p, fun G0 H0 ρ σ G H R Rp h => q G0 H0 ρ σ G H _ Rp (h.mono fun d hd v G1 H1 k i => ?_)⟩
  obtain ⟨zs, ez, hd⟩ := hd
  cases d <;> simp only [itemsD] at ez <;> try (cases ez; done)
  case list xs =>
    cases ez
    rcases i with i | ⟨hr, a, vs, ys, e1, e2, hT, e3, iv⟩
    · cases i with
      | lst ga ia =>
        refine ⟨_, rfl, .inl ⟨⟨_, .of (k.gh _ _ ga)⟩, hd _ _ _ G1 H1 k (walkOf_list (k.gh _ _ ga) ia) ?_⟩⟩
        cases r with
        | true => exact fun H' hk => .of (hk _ _ (fun z => by rw [(Rp.step k).tg _ z] at ga; cases ga) (k.gh _ _ ga))
        | false => exact fun H' s => .of (s _ _ ga)
    · cases e1
      subst e2 hr
      exact ⟨_, rfl, .inl ⟨⟨_, .of e3⟩, hd _ _ _ G1 H1 k (walkOf_list e3 iv) fun H' hk => .of (hk _ _ hT e3)⟩⟩
  case tuple xs =>
    cases ez
    obtain ⟨a, vs, rfl, ga, ia⟩ := i.tup
    refine ⟨_, rfl, .inr ⟨⟨_, .of (k.gh _ _ ga)⟩, hd _ _ _ G1 H1 k (walkOf_tup (k.gh _ _ ga) ia) ?_⟩⟩
    cases r with
    | true => exact fun H' hk => .of (hk _ _ (fun z => by rw [(Rp.step k).tg _ z] at ga; cases ga) (k.gh _ _ ga))
    | false => exact fun H' s => .of (s _ _ ga)
  case dict kvs =>
    rcases kvs with _ | ⟨⟨a, b⟩, _ | ⟨c, q⟩⟩ <;> (try (cases ez; done)) <;> cases a <;> (try (cases ez; done)) <;> cases b <;> (try (cases ez; done))
    cases ez
    obtain ⟨a, vs, o, rfl, ga, ia⟩ := i.scr
    refine ⟨_, rfl, .inl ⟨⟨_, .inl (.inr ⟨o, k.gh _ _ ga⟩)⟩, hd _ _ _ G1 H1 k (walkOf_scr (k.gh _ _ ga) ia) ?_⟩⟩
    cases r with
    | true => exact fun H' hk => .inl (.inr ⟨o, hk _ _ (fun z => by rw [(Rp.step k).tg _ z] at ga; cases ga) (k.gh _ _ ga)⟩)
    | false => exact fun H' s => .inl (.inr ⟨o, s _ _ ga⟩)

/-! ### range -/
theorem rngL_length : ∀ (n : Nat) (lo : Int), (rngL lo n).length = n
  | 0, _ => rfl
  | n + 1, lo => by simp [rngL, rngL_length n]
theorem rngL_get : ∀ (n : Nat) (lo : Int) (i : Nat), i < n → (rngL lo n)[i]? = some (.int (lo + i))
  | 0, _, _, h => by omega
  | n + 1, lo, 0, _ => by simp [rngL]
  | n + 1, lo, i + 1, h => by
    have := rngL_get n (lo + 1) i (by omega)
    simp only [rngL, List.getElem?_cons_succ]
    rw [this]
    congr 2
    omega
theorem rngC_length (c : Int) : ∀ (n : Nat) (lo : Int), (rngC lo c n).length = n
  | 0, _ => rfl
  | n + 1, lo => by simp [rngC, rngC_length c n]
theorem rngC_get (c : Int) : ∀ (n : Nat) (lo : Int) (i : Nat), i < n → (rngC lo c n)[i]? = some (.int (lo + i * c))
  | 0, _, _, h => by omega
  | n + 1, lo, 0, _ => by simp [rngC]
  | n + 1, lo, i + 1, h => by
    have := rngC_get c n (lo + c) i (by omega)
    simp only [rngC, List.getElem?_cons_succ]
    rw [this]
    congr 2
    have e : ((i + 1 : Nat) : Int) * c = i * c + c := by
      rw [Int.natCast_succ, Int.add_mul, Int.one_mul]
    rw [e]
    omega
theorem walkOf_rng {G1 H1 : Hp} {lo : Int} {n : Nat} : WalkOf T G1 H1 (Itr lo n) (rngL lo n) (fun _ => True) (YFn fun i => .int (lo + i)) := by
  refine ⟨by rw [rngL_length]; exact walk_range, trivial, fun j H x H' G2 hj hG y s1 s2 t => ?_⟩
  obtain ⟨rfl, rfl⟩ := y
  rw [rngL_length] at hj
  exact ⟨G2, _, rngL_get n lo j hj, .refl s2 t, .int _⟩
theorem stb_true {G1 H1 : Hp} : Stb r T G1 H1 (fun _ => True) := by
  cases r
  · exact fun _ _ => trivial
  · exact fun _ _ => trivial
theorem small62_of {i : Int} (h : small62 i = true) : -(2 ^ 62) ≤ i ∧ i < 2 ^ 62 := by
  unfold small62 at h
  simpa only [Bool.and_eq_true, decide_eq_true_eq] using h
theorem si_rng1 (hg : Gl X "range") (hm : X.mg "range" = none) (ha : SndE X T true a fa) (hs : starEach [a] X.env = [(false, eval a X.env)]) :
    SndI X T r tg (.Call (.Name "range" p) [a] [] pos) (fun ρ => (fa ρ).bind fun x => (asInt x).bind fun i => .guard (small62 i) (.ret (.list (rngL 0 i.toNat)))) := by
  obtain ⟨ta, pa, qa⟩ := ha
  have hp : PA X [a] (tCons ta tNil) := pa_cons pa pa_nil (by rw [hs]; rfl)
  refine ⟨_, pi_range1 hg hm hp hs, fun G0 H0 ρ σ G H R Rp h => ?_⟩
  rw [Out.All_bind] at h
  refine qa G0 H0 ρ σ G H _ Rp (h.mono fun d hd v G1 H1 k i => ?_)
  cases d <;> simp only [asInt] at hd <;> try exact hd.elim
  rename_i z
  simp only [Out.bind_ret] at hd
  rw [Out.All_guard] at hd
  obtain ⟨hz, xs, e, hd⟩ := hd
  cases e
  obtain ⟨h1, h2⟩ := small62_of hz
  refine ⟨z, by rw [i.int], h1, h2, ?_⟩
  exact hd _ _ _ G1 H1 k walkOf_rng stb_true
theorem si_rng2 (hg : Gl X "range") (hm : X.mg "range" = none) (ha : SndE X T true a fa) (hb : SndE X T true b fb) (hs : starEach [a, b] X.env = [(false, eval a X.env), (false, eval b X.env)]) (hs2 : starEach [b] X.env = [(false, eval b X.env)]) :
    SndI X T r tg (.Call (.Name "range" p) [a, b] [] pos) (fun ρ => (fa ρ).bind fun x => (fb ρ).bind fun y => (asInt x).bind fun i => (asInt y).bind fun j => .guard (small62 i && small62 j) (.ret (.list (rngL i (j - i).toNat)))) := by
  obtain ⟨ta, pa, qa⟩ := ha
  obtain ⟨tb, pb, qb⟩ := hb
  have hp : PA X [a, b] (tCons ta (tCons tb tNil)) := pa_cons pa (pa_cons pb pa_nil (by rw [hs2]; rfl)) (by rw [hs, hs2])
  refine ⟨_, pi_range2 hg hm hp hs hs2, fun G0 H0 ρ σ G H R Rp h => ?_⟩
  rw [Out.All_bind] at h
  refine qa G0 H0 ρ σ G H _ Rp (h.mono fun d hd v G1 H1 k i => ?_)
  rw [Out.All_bind] at hd
  refine qb G0 H0 ρ σ G1 H1 _ (Rp.step k) (hd.mono fun d' hd u G2 H2 k2 j => ?_)
  obtain ⟨z, rfl, hd1⟩ := All_asInt hd
  obtain ⟨z', rfl, hd2⟩ := All_asInt hd1
  rw [Out.All_guard, Bool.and_eq_true] at hd2
  obtain ⟨⟨hz, hz'⟩, xs, e, hd3⟩ := hd2
  cases e
  obtain ⟨h1, h2⟩ := small62_of hz
  obtain ⟨h3, h4⟩ := small62_of hz'
  refine ⟨z, z', by rw [i.int, j.int], ⟨h1, h2, h3, h4⟩, ?_⟩
  exact hd3 _ _ _ G2 H2 (k.trans k2 Rp.tub) walkOf_rng stb_true
end

/-! ### comprehensions -/
def Tg.inside (g : Tg) (own : List Nat) : Bool := g.slots.all fun i => decide (i ∈ own)
theorem wipeR_len (ρ : Ro) : ∀ vs : List Nat, (wipeR ρ vs).length = ρ.length
  | [] => rfl
  | v :: vs => by simp [wipeR, wipeR_len ρ vs]
theorem wipeR_get {ρ : Ro} {σ : Sg} {i : Nat} {s : Sl} (hl : ρ.length = σ.length) : ∀ {vs : List Nat}, (wipeR ρ vs)[i]? = some (some s) → ρ[i]? = some (some s) ∧ (wipe σ vs)[i]? = σ[i]?
  | [], h => ⟨h, rfl⟩
  | v :: vs, h => by
    unfold wipeR at h
    by_cases hv : v = i
    · subst hv
      rw [List.getElem?_set] at h
      simp only [if_true] at h
      split at h <;> cases h
    · rw [List.getElem?_set_ne hv] at h
      obtain ⟨h1, h2⟩ := wipeR_get hl h
      refine ⟨h1, ?_⟩
      show ((wipe σ vs).set v none)[i]? = σ[i]?
      rw [List.getElem?_set_ne hv, h2]
theorem Rep.wipe {T : Option Addr} {G0 H0 G H : Hp} {ρ : Ro} {σ : Sg} (R : Rep T G0 H0 ρ σ G H) (vs : List Nat) : Rep T G0 H0 (wipeR ρ vs) (L2.wipe σ vs) G H :=
  R.forget (by rw [wipeR_len, wipe_length, R.len]) fun i s h => wipeR_get R.len h
theorem wipe_same {σ σ2 : Sg} {vs : List Nat} (hl : σ2.length = (wipe σ vs).length) (h : ∀ i, i ∉ vs → σ2[i]? = (wipe σ vs)[i]?) : wipe σ2 vs = wipe σ vs := by
  have key : ∀ (us : List Nat) (τ : Sg) (i : Nat), (wipe τ us)[i]? = if i ∈ us then (if i < τ.length then some none else none) else τ[i]? := by
    intro us
    induction us with
    | nil => intro τ i; simp [L2.wipe]
    | cons u us ih =>
      intro τ i
      show ((wipe τ us).set u none)[i]? = _
      by_cases hu : u = i
      · subst hu
        rw [List.getElem?_set]
        simp only [if_true, wipe_length, List.mem_cons, true_or]
      · rw [List.getElem?_set_ne hu, ih]
        have : (i ∈ u :: us) ↔ i ∈ us := by simp [Ne.symm hu]
        simp only [this]
  refine List.ext_getElem? fun i => ?_
  rw [key vs σ2 i, key vs σ i]
  by_cases hi : i ∈ vs
  · rw [if_pos hi, if_pos hi, hl, wipe_length]
  · rw [if_neg hi, if_neg hi, h i hi, key vs σ i, if_neg hi]
/-- the tests of a clause -/
def PTsOf (X : Cx) (T : Option Addr) (ifs : List Expr) (fc : Ro → Out D) : Prop := PTs X ifs (tT T fc)
section
variable {X : Cx} {T : Option Addr} {r : Bool} {tg iter elt : Expr} {ifs : List Expr} {scope : Scope} {own : List (Str × Nat)} {pos : Pos} {fi fc fe : Ro → Out D} {g : Tg}
def lcTurn (own : List Nat) (g : Tg) (fc fe : Ro → Out D) (ρ : Ro) : D → Out (Option D) := fun d => (Out.ofO (asgG g d (wipeR ρ own))).bind fun ρ2 => (fc ρ2).bind fun t => (asBool t).bind fun
  | true => (fe ρ2).bind fun y => .ret (some y)
  | false => .ret none
theorem lc_reads {σ : Sg} {H : Hp} {Q : VK} {G0 H0 G : Hp} {ρ : Ro} (hin : g.inside (own.map (·.2)) = true) (R : Rep T G0 H0 ρ σ G H)
    (h : ((fi ρ).bind fun x => (itemsD x).bind fun xs => .guard (decide (xs.length ≤ lim)) (lcGo (lcTurn (own.map (·.2)) g fc fe ρ) xs [])).All (PostF T G H Q)) :
    tLc (tI T true fi) (gG T g) (tT T fc) (tE T false fe) (own.map (·.2)) σ H Q := by
  rw [Out.All_bind] at h
  refine ⟨G0, H0, ρ, G, R, h.mono fun d hd => ?_⟩
  have hxs : ∃ xs, itemsD d = .ret xs := by
    obtain ⟨xs, ex, _⟩ := All_items hd
    exact ⟨xs, ex⟩
  obtain ⟨xs, ex⟩ := hxs
  rw [ex] at hd
  simp only [Out.bind_ret] at hd
  rw [Out.All_guard] at hd
  obtain ⟨hlen, hd⟩ := hd
  have hlen := of_decide_eq_true hlen
  refine ⟨xs, ex, fun J Gd Y G1 H1 k1 W S Da hD => ?_⟩
  have R1 := R.step k1
  have gD : G1 Da = none := by
    cases e : G1 Da with
    | none => rfl
    | some u => rw [k1.gh Da u e] at hD; cases hD
  have tD : T ≠ some Da := fun z => by
    obtain ⟨_, _, _, q, _⟩ := R1.tub Da z
    rw [hD] at q; cases q
  -- the invariant: by the turn, the list so far
  refine lc_it W.w (fun i H => ∃ (G : Hp) (vs : List V) (acc : List D), Stp T G1 H1 G H ∧ H Da = some (.lst vs) ∧ G Da = none ∧ acc.length ≤ i ∧ IsAll T G vs acc.reverse ∧ (lcGo (lcTurn (own.map (·.2)) g fc fe ρ) (xs.drop i) acc).All (PostF T G1 H1 Q)) ?_ ?_ ?_ ?_
  · exact ⟨G1, [], [], Stp.fresh R1.sub R1.tub hD, upd_same, gD, Nat.le_refl _, .nil, Out.All.mono (fun d h => h.trans k1 R.tub) hd⟩
  · rintro i H hi ⟨G, vs, acc, k, _⟩
    exact S H k.keep
  · rintro i x H H' hi ⟨G, vs, acc, k, hH, hG, ha, iv, h⟩ y
    obtain ⟨G3, d, e, k3, id⟩ := W.item i H x H' G hi (S H k.keep) y k.gs k.gh k.tub
    have kk := k.trans k3 R1.tub
    have hx : xs.drop i = d :: xs.drop (i + 1) := by
      obtain ⟨hi', rfl⟩ := List.getElem?_eq_some_iff.mp e
      exact List.drop_eq_getElem_cons hi'
    rw [hx] at h
    simp only [lcGo] at h
    unfold lcTurn at h
    rw [Out.All_bind, Out.All_bind, Out.All_ofO] at h
    obtain ⟨ρ2, e2, h⟩ := h
    have Rw := (R1.step kk).wipe (own.map (·.2))
    refine ⟨G0, H0, wipeR ρ (own.map (·.2)), G3, d, ρ2, Rw, id, e2, fun σ2 R2 l2 s2 => ?_⟩
    have hsame : wipe σ2 (own.map (·.2)) = wipe σ (own.map (·.2)) := wipe_same l2 fun j hj => s2 j fun hm => hj (by
      have := List.all_eq_true.mp hin j hm
      exact of_decide_eq_true this)
    refine ⟨hsame, G0, H0, ρ2, G3, R2, ?_⟩
    rw [Out.All_bind] at h
    refine All_tst.mpr (h.mono fun t ht => ?_)
    rw [Out.All_bind] at ht
    obtain ⟨b, et, ht2⟩ := asBool_All ht
    refine ⟨b, et, fun b' G4 H4 eb k4 => ?_⟩
    cases eb
    have R4 := R2.step k4
    have stay : ∀ {Ga Ha Gb Hb : Hp}, Stp T Ga Ha Gb Hb → Ha Da = some (.lst vs) → Ga Da = none → Hb Da = some (.lst vs) ∧ Gb Da = none := fun {Ga Ha Gb Hb} k h g => by
      refine ⟨k.keep _ _ tD h, ?_⟩
      cases q : Gb Da with
      | none => rfl
      | some o =>
        rcases k.new _ _ q with z | z | ⟨ys, z⟩
        · rw [g] at z; cases z
        · rw [h] at z; cases z
        · rw [h] at z; cases z
    obtain ⟨a3, b3⟩ := stay k3 hH hG
    obtain ⟨a4, b4⟩ := stay k4 a3 b3
    cases b with
    | false =>
      rw [if_neg Bool.false_ne_true]
      refine ⟨G4, vs, acc, kk.trans k4 R1.tub, a4, b4, by omega, (iv.mono k3.gs _ _).mono k4.gs _ _, ht2⟩
    | true =>
      rw [if_pos rfl]
      simp only at ht2
      rw [Out.All_bind] at ht2
      refine ⟨G0, H0, ρ2, G4, R4, ht2.mono fun z hz v G5 H5 k5 i5 => ?_⟩
      obtain ⟨a5, b5⟩ := stay k5 a4 b4
      have hl := iv.length
      rw [List.length_reverse] at hl
      refine ⟨vs, a5, ?_, ?_⟩
      · have : vs.length < lim := by omega
        exact Nat.lt_of_lt_of_le this lim_le
      · have k15 := (kk.trans k4 R1.tub).trans k5 R1.tub
        have iv5 : IsAll T G5 (vs ++ [v]) ((z :: acc).reverse) := by
          rw [List.reverse_cons]
          exact (((iv.mono k3.gs _ _).mono k4.gs _ _).mono k5.gs _ _).append (.cons i5.keep .nil)
        refine ⟨G5, vs ++ [v], z :: acc, ?_, upd_same, b5, by simp; omega, iv5, hz⟩
        refine ⟨k15.gs, fun b o e => ?_, fun b o hT e => ?_, k15.new, fun b e => ?_⟩
        · have : b ≠ Da := fun q => by rw [q, b5] at e; cases e
          rw [upd_ne this]; exact k15.gh b o e
        · have : b ≠ Da := fun q => by rw [q, hD] at e; cases e
          rw [upd_ne this]; exact k15.keep b o hT e
        · obtain ⟨x, y, z, q, w⟩ := k15.tub b e
          refine ⟨x, y, z, ?_, w⟩
          have : b ≠ Da := fun q => tD (by rw [← q]; exact e)
          rw [upd_ne this]; exact q
  · rintro H ⟨G, vs, acc, k, hH, hG, ha, iv, h⟩
    rw [List.drop_length] at h
    exact h Da vs acc.reverse G H rfl k hD hG hH iv
end
end Ev

set_option Elab.async false
set_option linter.all false
set_option autoImplicit false
set_option maxRecDepth 100000
set_option maxHeartbeats 2000000
namespace Ev
open PySem L2

/-! ### calls of defs -/
structure FnG (P : Program) (w : World) (K : PySem.W.Frag) (mg : Str → Option Value) (base : Heap) (n : Nat) (f : Addr) (fd : FuncData) (ps : List Str) (F : List D → Out D) : Prop where
  len : ∀ ds (P : D → Prop), (F ds).All P → ds.length = ps.length
  run : ∀ (T : Option Addr) (A : Around) (outer : List PySem.Env) (s : Shared) (H G : Hp) (args : Args) (us : List Value) (vs : List V) (ds : List D) (Q : VK), Room n A → A.guards = some [] → Env0 P w K mg base A outer s H →
    BindsTo s fd args (ps.zip us) → Vals vs us → Sub G H → TubOk T H → (∀ a, T = some a → G a = none) → IsAll T G vs ds → (F ds).All (PostE false T G H Q) →
    codeAny (model P w) A (.call (.ref f) args) (CR CX0 outer P w H s Q E0) s
section
variable {X : Cx} {n : Nat} {f : Addr} {fd : FuncData} {ps : List Str} {Fn : List D → Out D} {T : Option Addr} {r : Bool} {x : Str} {p pos : Pos} {e : Expr} {es : List Expr} {fl fk : Ro → Out D} {kws : List Keyword}
/-- what a call hands over -/
def Give (T : Option Addr) (Fn : List D → Out D) (vs : List V) (H : Hp) (Q : VK) : Prop := ∃ G ds, Sub G H ∧ TubOk T H ∧ (∀ a, T = some a → G a = none) ∧ IsAll T G vs ds ∧ (Fn ds).All (PostE false T G H Q)
theorem run_g {pins : List (Addr × Obj)} {σ : Sg} {H : Hp} {s : Shared} {Q : VK} {us : List Value} {kw : List (Str × Value)} {bs : List Value} {ws : List V} (F : FnG X.prog X.w X.K X.mg X.base n f fd ps Fn) (hr : Room n X.A) (hg : X.A.guards = some [])
    (hb : BindsTo s fd ⟨us, kw⟩ (ps.zip bs)) (I : Inv X pins σ H s) (r : Vals ws bs) (h : Give T Fn ws H Q) : wpAny (model X.prog X.w) X.A (call (.ref f) us kw) (EP X pins σ Q) X.xe s := by
  obtain ⟨G, ds, h1, h2, h3, h4, h5⟩ := h
  refine wpAny_call (codeAny_mono (F.run T X.A X.stack s H G ⟨us, kw⟩ bs ws ds Q hr hg I.env0 hb r h1 h2 h3 h4 h5) fun r s' hq => ?_)
  cases r with
  | error e => exact False.elim hq
  | ok fl =>
    cases fl with
    | ret u => exact I.after hq
    | next => exact False.elim hq
    | brk => exact False.elim hq
    | cont => exact False.elim hq
def notStarE : Expr → Bool
  | .Starred .. => false
  | _ => true
theorem starEach_cons {env : PySem.Env} (h : notStarE e = true) : starEach (e :: es) env = (false, eval e env) :: starEach es env := by
  cases e <;> first | rfl | cases h
theorem any_plain {env : PySem.Env} : ∀ {es : List Expr}, es.all notStarE = true → (backTo pos (starEach es env)).any (·.1) = false
  | [], _ => rfl
  | e :: es, h => by
    rw [List.all_cons, Bool.and_eq_true] at h
    rw [starEach_cons h.1]
    show (false || (backTo pos (starEach es env)).any (·.1)) = false
    rw [any_plain h.2]; rfl
def tGive (T : Option Addr) (Fn : List D → Out D) (t : TA) : TE := fun σ H Q => t σ H fun vs H1 => Give T Fn vs H1 Q
theorem give_len (F : FnG X.prog X.w X.K X.mg X.base n f fd ps Fn) {us : List Value} {vs : List V} {H1 : Hp} {Q : VK} (r : Vals vs us) (q : Give T Fn vs H1 Q) : us.length = ps.length := by
  obtain ⟨G, ds, _, _, _, h4, h5⟩ := q
  rw [← r.length, h4.length]
  exact F.len ds _ h5
theorem fin_g {pins : List (Addr × Obj)} {σ : Sg} {H1 : Hp} {s1 : Shared} {Q : VK} {us : List Value} {vs : List V} (F : FnG X.prog X.w X.K X.mg X.base n f fd ps Fn) (hr : Room n X.A) (hg : X.A.guards = some []) (hb : Binds X.K fd ps [])
    (I1 : Inv X pins σ H1 s1) (r : Vals vs us) (q : Give T Fn vs H1 Q) : wpAny (model X.prog X.w) X.A (call (.ref f) us) (EP X pins σ Q) X.xe s1 := by
  have hb1 := hb s1 us I1.kIn (by rw [List.append_nil]; exact give_len F r q)
  rw [List.append_nil] at hb1
  exact run_g (us := us) F hr hg hb1 I1 r q
theorem pe_callG {t : TA} (F : FnG X.prog X.w X.K X.mg X.base n f fd ps Fn) (hr : Room n X.A) (hg : X.A.guards = some []) (hgl : Gl X x) (hm : X.mg x = some (.ref f)) (hk : PySem.W.keepIn X.K (.ref f) = true) (hb : Binds X.K fd ps [])
    (ha : PA X (e :: es) t) (hns : (e :: es).all notStarE = true) (hdb : (x == ("__debug__" : Str)) = false) : PE X (.Call (.Name x p) (e :: es) [] pos) (tGive T Fn t) := by
  refine ⟨fun pins s σ H Q I h => ?_⟩
  rw [List.all_cons, Bool.and_eq_true] at hns
  refine wpAny_Call_Name_kw (ld_glob I hgl hm ?_ hdb)
  refine PySem.W.callWith_K (h₀ := X.base) I.ok.mod.kin hk (thn (ha.run pos pins s σ H _ I h) fun us s1 ⟨vs, H1, I1, r, q⟩ => ⟨I1.kIn, ?_⟩) (starEach_cons hns.1) (any_plain hns.2)
  exact fin_g F hr hg hb I1 r q
theorem pe_callG0 (F : FnG X.prog X.w X.K X.mg X.base n f fd ps Fn) (hr : Room n X.A) (hg : X.A.guards = some []) (hgl : Gl X x) (hm : X.mg x = some (.ref f)) (hk : PySem.W.keepIn X.K (.ref f) = true) (hb : Binds X.K fd ps [])
    (hdb : (x == ("__debug__" : Str)) = false) : PE X (.Call (.Name x p) [] [] pos) (tGive T Fn tNil) := by
  refine ⟨fun pins s σ H Q I h => ?_⟩
  refine wpAny_Call_Name_kw (ld_glob I hgl hm ?_ hdb)
  exact PySem.W.callWith_K0 I.kIn hk (fin_g F hr hg hb I .nil h)
theorem give_of {G0 H0 G H : Hp} {ρ : Ro} {σ : Sg} {G1 H1 : Hp} {Q : VK} {vs : List V} {ds : List D} (R : Rep T G0 H0 ρ σ G H) (k : Stp T G H G1 H1) (i : IsAll T G1 vs ds) (h : (Fn ds).All (PostE false T G H Q)) : Give T Fn vs H1 Q :=
  ⟨G1, ds, k.gh, k.tub, (R.step k).tg, i, h.mono fun d hd => hd.trans k R.tub⟩
theorem snd_call (F : FnG X.prog X.w X.K X.mg X.base n f fd ps Fn) (hr : Room n X.A) (hg : X.A.guards = some []) (hgl : Gl X x) (hm : X.mg x = some (.ref f)) (hk : PySem.W.keepIn X.K (.ref f) = true) (hb : Binds X.K fd ps [])
    (ha : SndL X T false es fl) (hns : es.all notStarE = true) (hdb : (x == ("__debug__" : Str)) = false) (h0 : es = [] → ∀ ρ, fl ρ = .ret (.tuple [])) : SndE X T r (.Call (.Name x p) es [] pos) (fun ρ => (fl ρ).bind fun x => (unTup x).bind fun xs => Fn xs) := by
  refine SndE.read ?_
  cases es with
  | nil =>
    refine ⟨_, pe_callG0 (T := T) F hr hg hgl hm hk hb hdb, fun G0 H0 ρ σ G H Q R h => ?_⟩
    dsimp only at h
    rw [h0 rfl ρ] at h
    exact give_of R (.refl R.sub R.tub) .nil h
  | cons e es =>
    obtain ⟨ta, pa, qa⟩ := ha
    refine ⟨_, pe_callG (T := T) F hr hg hgl hm hk hb pa hns hdb, fun G0 H0 ρ σ G H Q R h => ?_⟩
    rw [Out.All_bind] at h
    refine qa G0 H0 ρ σ G H _ R (h.mono fun d hd vs ds G1 H1 e k i => ?_)
    subst e
    exact give_of R k i.keep hd

/-! ### keywords -/
def SndK (X : Cx) (T : Option Addr) (kws : List Keyword) (f : Ro → Out D) : Prop :=
  ∃ t : TA, PK X kws t ∧ ∀ (G0 H0 : Hp) (ρ : Ro) (σ : Sg) (G H : Hp) (Q : List V → Hp → Prop), Rep T G0 H0 ρ σ G H → (f ρ).All (PostL false T G H Q) → t σ H Q
theorem sk_nil : SndK X T [] (fun _ => .ret (.tuple [])) :=
  ⟨_, pk_nil, fun G0 H0 ρ σ G H Q R h => h [] [] G H rfl (.refl R.sub R.tub) .nil⟩
theorem sk_cons {nm : Option Str} {kp : Pos} {fa : Ro → Out D} (he : SndE X T false e fa) (hes : SndK X T kws fk) : SndK X T (⟨nm, e, kp⟩ :: kws) (fun ρ => (fa ρ).bind fun x => (fk ρ).bind fun y => consD x y) := by
  obtain ⟨ta, pa, qa⟩ := he
  obtain ⟨tl, pl, ql⟩ := hes
  refine ⟨_, pk_cons pa pl, fun G0 H0 ρ σ G H Q R h => ?_⟩
  rw [Out.All_bind] at h
  refine qa G0 H0 ρ σ G H _ R (h.mono fun x hx v G1 H1 k1 i1 => ?_)
  rw [Out.All_bind] at hx
  refine ql G0 H0 ρ σ G1 H1 _ (R.step k1) (hx.mono fun y hy vs ds G2 H2 e k2 i2 => ?_)
  subst e
  simp only [consD] at hy
  exact hy (v :: vs) (x :: ds) G2 H2 rfl (k1.trans k2 R.tub) (.cons (i1.step k2) i2)
def kwNames : List Keyword → Option (List Str)
  | [] => some []
  | k :: r => k.arg.bind fun x => (kwNames r).map (x :: ·)
theorem kw_facts {env : PySem.Env} : ∀ {kws : List Keyword} {ks : List Str}, kwNames kws = some ks → (backToKw pos (keywordEach kws env)).all (·.1.isSome) = true ∧ (backToKw pos (keywordEach kws env)).filterMap (·.1) = ks ∧ (backToKw pos (keywordEach kws env)).any (·.1.isNone) = false
  | [], _, h => by cases h; exact ⟨rfl, rfl, rfl⟩
  | ⟨nm, v, kp⟩ :: r, ks, h => by
    simp only [kwNames, Option.bind_eq_some_iff, Option.map_eq_some_iff] at h
    obtain ⟨x, e, l, hl, rfl⟩ := h
    subst e
    obtain ⟨h1, h2, h3⟩ := kw_facts (env := env) hl
    refine ⟨?_, ?_, ?_⟩
    · show (true && (backToKw pos (keywordEach r env)).all (·.1.isSome)) = true
      rw [h1]; rfl
    · show x :: (backToKw pos (keywordEach r env)).filterMap (·.1) = _
      rw [h2]
    · show (false || (backToKw pos (keywordEach r env)).any (·.1.isNone)) = false
      rw [h3]; rfl
def permL {α : Type} (xs : List α) : List Nat → Option (List α)
  | [] => some []
  | k :: r => (xs[k]?).bind fun x => (permL xs r).map (x :: ·)
theorem permD_eq (xs : List D) : ∀ p, permD xs p = permL xs p
  | [] => rfl
  | k :: r => by simp [permD, permL, permD_eq xs r]
/-- m positional values, keywords ks: they come to the parameters by perm -/
def KwB (K : PySem.W.Frag) (fd : FuncData) (ps : List Str) (m : Nat) (ks : List Str) (perm : List Nat) : Prop :=
  ∀ (s : Shared) (us ws bs : List Value), K.In s.heap → us.length = m → ws.length = ks.length → permL (us ++ ws) perm = some bs → BindsTo s fd ⟨us, ks.zip ws⟩ (ps.zip bs)
theorem perm_vals {vs : List V} {us : List Value} (r : Vals vs us) : ∀ {p : List Nat} {ws : List V}, permL vs p = some ws → ∃ bs, permL us p = some bs ∧ Vals ws bs
  | [], _, h => by cases h; exact ⟨[], rfl, .nil⟩
  | k :: p, ws, h => by
    simp only [permL, Option.bind_eq_some_iff, Option.map_eq_some_iff] at h
    obtain ⟨v, e, l, hl, rfl⟩ := h
    obtain ⟨u, e2, ru⟩ := r.get e
    obtain ⟨bs, e3, rb⟩ := perm_vals r hl
    exact ⟨u :: bs, by simp [permL, e2, e3], .cons ru rb⟩
theorem perm_is {G : Hp} {vs : List V} {ds : List D} (r : IsAll T G vs ds) : ∀ {p : List Nat} {es : List D}, permL ds p = some es → ∃ ws, permL vs p = some ws ∧ IsAll T G ws es
  | [], _, h => by cases h; exact ⟨[], rfl, .nil⟩
  | k :: p, ws, h => by
    simp only [permL, Option.bind_eq_some_iff, Option.map_eq_some_iff] at h
    obtain ⟨v, e, l, hl, rfl⟩ := h
    obtain ⟨u, e2, ru⟩ := r.get e
    obtain ⟨bs, e3, rb⟩ := perm_is r hl
    exact ⟨u :: bs, by simp [permL, e2, e3], .cons ru rb⟩
def tGiveK (T : Option Addr) (Fn : List D → Out D) (m m2 : Nat) (perm : List Nat) (t tk : TA) : TE := fun σ H Q => t σ H fun vs H1 => tk σ H1 fun zs H2 => vs.length = m ∧ zs.length = m2 ∧ ∃ ws, permL (vs ++ zs) perm = some ws ∧ Give T Fn ws H2 Q
theorem pe_callGK {t tk : TA} {ks : List Str} {m : Nat} {perm : List Nat} (F : FnG X.prog X.w X.K X.mg X.base n f fd ps Fn) (hr : Room n X.A) (hg : X.A.guards = some []) (hgl : Gl X x) (hm : X.mg x = some (.ref f)) (hk : PySem.W.keepIn X.K (.ref f) = true) (hb : KwB X.K fd ps m ks perm)
    (ha : PA X (e :: es) t) (hkw : PK X kws tk) (hn : kwNames kws = some ks) (hns : (e :: es).all notStarE = true) (hdb : (x == ("__debug__" : Str)) = false) : PE X (.Call (.Name x p) (e :: es) kws pos) (tGiveK T Fn m ks.length perm t tk) := by
  refine ⟨fun pins s σ H Q I h => ?_⟩
  obtain ⟨h1, h2, h3⟩ := kw_facts (env := X.env) (pos := pos) hn
  have hpl : ((backTo pos (starEach (e :: es) X.env)).any (·.1) || (backToKw pos (keywordEach kws X.env)).any (·.1.isNone)) = false := by rw [any_plain hns, h3]; rfl
  rw [List.all_cons, Bool.and_eq_true] at hns
  refine wpAny_Call_Name_kw (ld_glob I hgl hm ?_ hdb)
  refine PySem.W.callWith_KW (h₀ := X.base) I.ok.mod.kin hk h1 (thn (ha.run pos pins s σ H _ I h) fun us s1 ⟨vs, H1, I1, r, q⟩ => ?_) hpl (starEach_cons hns.1)
  refine thn (hkw.run pos pins s1 σ H1 _ I1 q) fun ws s2 ⟨zs, H2, I2, rz, l1, l2, gs, e1, q2⟩ => ⟨I2.kIn, ?_⟩
  rw [h2]
  obtain ⟨bs, e2, rb⟩ := perm_vals (r.append rz) e1
  exact run_g F hr hg (hb s2 us ws bs I2.kIn (by rw [← r.length]; exact l1) (by rw [← rz.length]; exact l2) e2) I2 rb q2
theorem pe_callGK0 {tk : TA} {ks : List Str} {perm : List Nat} (F : FnG X.prog X.w X.K X.mg X.base n f fd ps Fn) (hr : Room n X.A) (hg : X.A.guards = some []) (hgl : Gl X x) (hm : X.mg x = some (.ref f)) (hk : PySem.W.keepIn X.K (.ref f) = true) (hb : KwB X.K fd ps 0 ks perm)
    (hkw : PK X kws tk) (hn : kwNames kws = some ks) (hdb : (x == ("__debug__" : Str)) = false) : PE X (.Call (.Name x p) [] kws pos) (tGiveK T Fn 0 ks.length perm tNil tk) := by
  refine ⟨fun pins s σ H Q I h => ?_⟩
  obtain ⟨h1, h2, h3⟩ := kw_facts (env := X.env) (pos := pos) hn
  refine wpAny_Call_Name_kw (ld_glob I hgl hm ?_ hdb)
  refine PySem.W.callWith_KW0 (h₀ := X.base) I.ok.mod.kin hk h1 ?_ (by rw [h3]; rfl)
  refine thn (hkw.run pos pins s σ H _ I h) fun ws s2 ⟨zs, H2, I2, rz, l1, l2, gs, e1, q2⟩ => ⟨I2.kIn, ?_⟩
  rw [h2]
  obtain ⟨bs, e2, rb⟩ := perm_vals rz e1
  exact run_g F hr hg (hb s2 [] ws bs I2.kIn rfl (by rw [← rz.length]; exact l2) e2) I2 rb q2
theorem snd_callk {ks : List Str} {m : Nat} {perm : List Nat} (F : FnG X.prog X.w X.K X.mg X.base n f fd ps Fn) (hr : Room n X.A) (hg : X.A.guards = some []) (hgl : Gl X x) (hm : X.mg x = some (.ref f)) (hk : PySem.W.keepIn X.K (.ref f) = true) (hb : KwB X.K fd ps m ks perm)
    (ha : SndL X T false es fl) (hkw : SndK X T kws fk) (hn : kwNames kws = some ks) (hns : es.all notStarE = true) (hdb : (x == ("__debug__" : Str)) = false) (h0 : es = [] → ∀ ρ, fl ρ = .ret (.tuple [])) (hm1 : es.length = m)
    : SndE X T r (.Call (.Name x p) es kws pos) (fun ρ => (fl ρ).bind fun x => (unTup x).bind fun xs => (fk ρ).bind fun y => (unTup y).bind fun ys => .guard (decide (xs.length = m) && decide (ys.length = ks.length)) ((Out.ofO (permD (xs ++ ys) perm)).bind fun zs => Fn zs)) := by
  refine SndE.read ?_
  obtain ⟨tk, pk, qk⟩ := hkw
  have core : ∀ {G0 H0 G H G1 H1 : Hp} {ρ : Ro} {σ : Sg} {Q : VK} {vs : List V} {xs : List D}, Rep T G0 H0 ρ σ G H → Stp T G H G1 H1 → IsAll T G1 vs xs →
      ((fk ρ).bind fun y => (unTup y).bind fun ys => .guard (decide (xs.length = m) && decide (ys.length = ks.length)) ((Out.ofO (permD (xs ++ ys) perm)).bind fun zs => Fn zs)).All (PostE false T G H Q) →
      tk σ H1 fun zs H2 => vs.length = m ∧ zs.length = ks.length ∧ ∃ ws, permL (vs ++ zs) perm = some ws ∧ Give T Fn ws H2 Q := fun {G0 H0 G H G1 H1 ρ σ Q vs xs} R k i h => by
    rw [Out.All_bind] at h
    refine qk G0 H0 ρ σ G1 H1 _ (R.step k) (h.mono fun y hy zs ds G2 H2 e k2 i2 => ?_)
    subst e
    simp only [unTup, Out.bind_ret] at hy
    rw [Out.All_guard, Bool.and_eq_true, decide_eq_true_eq, decide_eq_true_eq, Out.All_bind, Out.All_ofO] at hy
    obtain ⟨⟨l1, l2⟩, gs, e3, hy⟩ := hy
    rw [permD_eq] at e3
    have i2' := i2.keep
    obtain ⟨ws, e4, i4⟩ := perm_is ((i.mono k2.gs _ _).append i2') e3
    exact ⟨by rw [i.length]; exact l1, by rw [i2'.length]; exact l2, ws, e4, give_of R (k.trans k2 R.tub) i4 hy⟩
  cases es with
  | nil =>
    have hm0 : m = 0 := hm1.symm
    subst hm0
    refine ⟨_, pe_callGK0 (T := T) F hr hg hgl hm hk hb pk hn hdb, fun G0 H0 ρ σ G H Q R h => ?_⟩
    dsimp only at h
    rw [h0 rfl ρ] at h
    exact core R (.refl R.sub R.tub) .nil h
  | cons e es =>
    obtain ⟨ta, pa, qa⟩ := ha
    refine ⟨_, pe_callGK (T := T) F hr hg hgl hm hk hb pa pk hn hns hdb, fun G0 H0 ρ σ G H Q R h => ?_⟩
    rw [Out.All_bind] at h
    refine qa G0 H0 ρ σ G H _ R (h.mono fun d hd vs ds G1 H1 e k i => ?_)
    subst e
    simp only [unTup, Out.bind_ret] at hd
    exact core (R.step k) (.refl k.gh k.tub) i.keep (hd.mono fun d hd => hd.trans k R.tub)

/-! ### isinstance -/
def tyName : Ty → String
  | .int => "int"
  | .bool => "bool"
  | .tup => "tuple"
  | .str => "str"
  | .lst => "list"
  | .dict => "dict"
def tyOfD : D → Option String
  | .none => some "NoneType"
  | .bool _ => some "bool"
  | .int _ => some "int"
  | .str _ => some "str"
  | .list _ => some "list"
  | .tuple _ => some "tuple"
  | .dict _ => none
theorem isr_ty {G H : Hp} {v : V} {d : D} {t : String} (s : Sub G H) (i : IsR true T G H v d) (h : tyOfD d = some t) : TyX X.K H v (.type t) := by
  cases d <;> simp only [tyOfD, Option.some.injEq] at h <;> try (cases h; done)
  all_goals subst h
  case none => rw [i.none]; exact .base .non
  case bool b => rw [i.bool]; exact .base (.bl b)
  case int b => rw [i.int]; exact .base (.int b)
  case str x =>
    rcases i with i | ⟨_, a, vs, ys, e1, _⟩
    · cases i; exact .base (.str x)
    · cases e1
  case list xs =>
    obtain ⟨a, vs, rfl, ga, _⟩ := i.list s
    exact .base (.lst ga)
  case tuple xs =>
    obtain ⟨a, vs, rfl, ga, _⟩ := i.tup
    exact .base (.tup (s _ _ ga))
theorem kit_isTy {d : D} {t : String} {k : Ty} (h : tyOfD d = some t) : kitB t (tyName k) = some (isTy k d) := by
  cases d <;> simp only [tyOfD, Option.some.injEq] at h <;> try (cases h; done)
  all_goals (subst h; cases k <;> (simp only [tyName, isTy]; decide +kernel))
theorem isTy_dict {k : Ty} {kvs : List (D × D)} : isTy k (.dict kvs) = false := by cases k <;> rfl
end
end Ev

set_option Elab.async false
set_option linter.all false
set_option autoImplicit false
set_option maxRecDepth 100000
set_option maxHeartbeats 2000000
namespace Ev
open PySem L2
/-! ### a new list handed to a def that draws from it -/
/-- a def whose answer is a new list -/
structure FnL (P : Program) (w : World) (K : PySem.W.Frag) (mg : Str → Option Value) (base : Heap) (n : Nat) (f : Addr) (fd : FuncData) (ps : List Str) (F : List D → Out D) : Prop where
  len : ∀ ds (P : D → Prop), (F ds).All P → ds.length = ps.length
  run : ∀ (T : Option Addr) (A : Around) (outer : List PySem.Env) (s : Shared) (H G : Hp) (args : Args) (us : List Value) (vs : List V) (ds : List D) (Q : VK), Room n A → A.guards = some [] → Env0 P w K mg base A outer s H →
    BindsTo s fd args (ps.zip us) → Vals vs us → Sub G H → TubOk T H → (∀ a, T = some a → G a = none) → IsAll T G vs ds → (F ds).All (fun d => ∃ xs, d = .list xs ∧ PostF T G H Q (.list xs)) →
    codeAny (model P w) A (.call (.ref f) args) (CR CX0 outer P w H s Q E0) s
section
variable {X : Cx} {n : Nat} {f : Addr} {fd : FuncData} {ps : List Str} {Fn Fr : List D → Out D} {T : Option Addr} {r : Bool} {x : Str} {p pos : Pos} {e : Expr} {es : List Expr} {fl : Ro → Out D}
def tNew (T : Option Addr) (Fn : List D → Out D) (t : TA) : TE := fun σ H Q => t σ H fun vs H1 => ∃ G ds, Sub G H1 ∧ TubOk T H1 ∧ (∀ a, T = some a → G a = none) ∧ IsAll T G vs ds ∧ (Fn ds).All fun d => ∃ xs, d = .list xs ∧ PostF T G H1 Q (.list xs)
def tLate (Fn : List D → Out D) (t : TA) : TE := fun σ H Q => t σ H fun vs H1 => ∃ T, Give T Fn vs H1 Q
theorem pe_new {t : TA} (F : FnL X.prog X.w X.K X.mg X.base n f fd ps Fn) (hr : Room n X.A) (hg : X.A.guards = some []) (hgl : Gl X x) (hm : X.mg x = some (.ref f)) (hk : PySem.W.keepIn X.K (.ref f) = true) (hb : Binds X.K fd ps [])
    (ha : PA X (e :: es) t) (hns : (e :: es).all notStarE = true) (hdb : (x == ("__debug__" : Str)) = false) : PE X (.Call (.Name x p) (e :: es) [] pos) (tNew T Fn t) := by
  refine ⟨fun pins s σ H Q I h => ?_⟩
  rw [List.all_cons, Bool.and_eq_true] at hns
  refine wpAny_Call_Name_kw (ld_glob I hgl hm ?_ hdb)
  refine PySem.W.callWith_K (h₀ := X.base) I.ok.mod.kin hk (thn (ha.run pos pins s σ H _ I h) fun us s1 ⟨vs, H1, I1, rv, G, ds, g1, g2, g3, g4, g5⟩ => ⟨I1.kIn, ?_⟩) (starEach_cons hns.1) (any_plain hns.2)
  have hb1 := hb s1 us I1.kIn (by rw [List.append_nil, ← rv.length, g4.length]; exact F.len ds _ g5)
  rw [List.append_nil] at hb1
  refine wpAny_call (codeAny_mono (F.run T X.A X.stack s1 H1 G ⟨us, []⟩ us vs ds Q hr hg I1.env0 hb1 rv g1 g2 g3 g4 g5) fun q s' hq => ?_)
  cases q with
  | error e => exact False.elim hq
  | ok fl =>
    cases fl with
    | ret u => exact I1.after hq
    | next => exact False.elim hq
    | brk => exact False.elim hq
    | cont => exact False.elim hq
theorem pe_late {t : TA} (F : FnG X.prog X.w X.K X.mg X.base n f fd ps Fn) (hr : Room n X.A) (hg : X.A.guards = some []) (hgl : Gl X x) (hm : X.mg x = some (.ref f)) (hk : PySem.W.keepIn X.K (.ref f) = true) (hb : Binds X.K fd ps [])
    (ha : PA X (e :: es) t) (hns : (e :: es).all notStarE = true) (hdb : (x == ("__debug__" : Str)) = false) : PE X (.Call (.Name x p) (e :: es) [] pos) (tLate Fn t) := by
  refine ⟨fun pins s σ H Q I h => ?_⟩
  rw [List.all_cons, Bool.and_eq_true] at hns
  refine wpAny_Call_Name_kw (ld_glob I hgl hm ?_ hdb)
  refine PySem.W.callWith_K (h₀ := X.base) I.ok.mod.kin hk (thn (ha.run pos pins s σ H _ I h) fun us s1 ⟨vs, H1, I1, rv, T, q⟩ => ⟨I1.kIn, ?_⟩) (starEach_cons hns.1) (any_plain hns.2)
  exact fin_g (T := T) F hr hg hb I1 rv q
theorem drw_step {G H G2 H2 G' H' : Hp} {p : Addr} (kk : Stp T G H G2 H2) (k3 : Stp (some p) G2 H2 G' H') (hp : H p = none) (t : TubOk T H) : Stp T G H G' H' := by
  refine ⟨kk.gs.trans k3.gs, k3.gh, fun b o hb e => ?_, fun b o e => ?_, fun a ha => ?_⟩
  · refine k3.keep b o (fun z => ?_) (kk.keep b o hb e)
    cases z; rw [hp] at e; cases e
  · rcases k3.new b o e with q | q | ⟨xs, q⟩
    · exact kk.new b o q
    · exact .inr (.inl (kk.back t q))
    · cases e : H b with
      | none => exact .inr (.inl rfl)
      | some u =>
        refine .inr (.inr ⟨xs, ?_⟩)
        have hT : T ≠ some b := fun z => by
          obtain ⟨_, _, _, w, _⟩ := kk.tub b z
          rw [q] at w; cases w
        have := kk.keep b u hT e
        rw [q] at this
        exact this.symm
  · obtain ⟨x, y, z, q, w⟩ := kk.tub a ha
    refine ⟨x, y, z, k3.keep a _ (fun z => ?_) q, w⟩
    cases z
    obtain ⟨_, _, _, q2, _⟩ := t _ ha
    rw [hp] at q2; cases q2
theorem snd_drw {f2 : Addr} {fd2 : FuncData} {ps2 : List Str} {x2 : Str} {p2 pos2 : Pos} (FL : FnL X.prog X.w X.K X.mg X.base n f fd ps Fn) (F : FnG X.prog X.w X.K X.mg X.base n f2 fd2 ps2 Fr) (hr : Room n X.A) (hg : X.A.guards = some []) (hgl : Gl X x) (hm : X.mg x = some (.ref f)) (hk : PySem.W.keepIn X.K (.ref f) = true) (hb : Binds X.K fd ps [])
    (hgl2 : Gl X x2) (hm2 : X.mg x2 = some (.ref f2)) (hk2 : PySem.W.keepIn X.K (.ref f2) = true) (hb2 : Binds X.K fd2 ps2 []) (ha : SndL X T false (e :: es) fl) (hns : (e :: es).all notStarE = true) (hdb : (x == ("__debug__" : Str)) = false) (hdb2 : (x2 == ("__debug__" : Str)) = false) :
    SndE X T r (.Call (.Name x2 p2) [.Call (.Name x p) (e :: es) [] pos] [] pos2) (fun ρ => (fl ρ).bind fun x => (unTup x).bind fun xs => (Fn xs).bind fun
    | .list [.int _, .int y, .int _] => .guard (tubB y) ((Fr [.dict []]).bind fun r => (asBool r).bind fun b => .ret (.bool b))
    | _ => .bad) := by
  refine SndE.read ?_
  obtain ⟨ta, pa, qa⟩ := ha
  have inner := pe_new (T := T) (p := p) (pos := pos) FL hr hg hgl hm hk hb pa hns hdb
  refine ⟨_, pe_late F hr hg hgl2 hm2 hk2 hb2 (pa_cons inner pa_nil rfl) rfl hdb2, fun G0 H0 ρ σ G H Q R h => ?_⟩
  rw [Out.All_bind] at h
  refine qa G0 H0 ρ σ G H _ R (h.mono fun d hd vs ds G1 H1 ed k i => ?_)
  subst ed
  simp only [unTup, Out.bind_ret] at hd
  rw [Out.All_bind] at hd
  refine ⟨G1, ds, k.gh, k.tub, (R.step k).tg, i.keep, hd.mono fun d hd => ?_⟩
  match d, hd with
  | .list [.int a, .int b, .int c], hd =>
    have hd : (Out.guard (tubB b) ((Fr [.dict []]).bind fun r => (asBool r).bind fun b => Out.ret (PyData.bool b))).All _ := hd
    rw [Out.All_guard] at hd
    obtain ⟨hbT, hd⟩ := hd
    refine ⟨_, rfl, fun q ws xs G2 H2 ex k2 hq gq hH iv => ?_⟩
    cases ex
    have kk := k.trans k2 R.tub
    have hp : H q = none := k.back R.tub hq
    obtain ⟨rfl, _⟩ := iv.ints (ns := [a, b, c]) rfl
    refine ⟨some q, G2, [.dict []], kk.gh, fun z hz => (by cases hz; exact ⟨a, b, c, hH, hbT⟩), fun z hz => (by cases hz; exact gq), .cons (.tub rfl) .nil, ?_⟩
    rw [Out.All_bind] at hd
    refine hd.mono fun y hy v G' H' k3 iy => ?_
    cases y <;> simp only [asBool] at hy <;> try exact hy.elim
    rename_i bb
    rw [iy.bool]
    exact hy (.bl bb) G' H' (drw_step kk k3 hp R.tub) (.inl (.bl bb))
end
end Ev

set_option Elab.async false
set_option linter.all false
set_option autoImplicit false
set_option maxRecDepth 100000
set_option maxHeartbeats 2000000
namespace Ev
open PySem L2

mutual
theorem sameD_eq : ∀ {x y : D}, sameD x y = true → x = y
  | .none, y, h => by cases y <;> simp [sameD] at h ⊢
  | .bool a, y, h => by cases y <;> simp [sameD] at h ⊢; exact h
  | .int a, y, h => by cases y <;> simp [sameD] at h ⊢; exact h
  | .str a, y, h => by cases y <;> simp [sameD] at h ⊢; exact h
  | .list xs, y, h => by
    cases y <;> simp [sameD] at h ⊢
    exact sameL_eq h
  | .tuple xs, y, h => by
    cases y <;> simp [sameD] at h ⊢
    exact sameL_eq h
  | .dict xs, y, h => by cases y <;> simp [sameD] at h
theorem sameL_eq : ∀ {xs ys : List D}, sameL xs ys = true → xs = ys
  | [], [], _ => rfl
  | [], _ :: _, h => by simp [sameL] at h
  | _ :: _, [], h => by simp [sameL] at h
  | x :: xs, y :: ys, h => by
    simp only [sameL, Bool.and_eq_true] at h
    rw [sameD_eq h.1, sameL_eq h.2]
end
theorem piled_cons (x : Str) (l : List Str) : PySem.piled (x :: l) = x.length + 2 + PySem.piled l := by simp [PySem.piled]
theorem listText_le (ts : List Str) : (listText ts).length ≤ PySem.piled ts + 2 := by
  have key : ∀ (ts : List Str) (k : Nat) (acc : Str), (textFrom k acc ts).length ≤ acc.length + PySem.piled ts := by
    intro ts
    induction ts with
    | nil => intro k acc; exact Nat.le_add_right _ _
    | cons t r ih =>
      intro k acc
      refine Nat.le_trans (ih (k + 1) _) ?_
      rw [piled_cons, strLen_append, strLen_append]
      have : ((if k > 0 then ", " else "" : String) : Str).length ≤ 2 := by
        split <;> decide
      omega
  have := key ts 0 "["
  unfold listText
  rw [strLen_append]
  have e1 : (("[" : String) : Str).length = 1 := rfl
  have e2 : (("]" : String) : Str).length = 1 := rfl
  omega
theorem tupleText_le (ts : List Str) : (tupleText ts).length ≤ PySem.piled ts + 3 := by
  unfold tupleText
  rw [strLen_append, strLen_append]
  have e1 : (("(" : String) : Str).length = 1 := rfl
  have e2 : ((if ts.length == 1 then ",)" else ")" : String) : Str).length ≤ 2 := by split <;> decide
  by_cases h : ts = []
  · subst h
    have : (Str.join ", " []).length = 0 := rfl
    simp only [PySem.piled] at *
    omega
  · have := join_length_add ts h
    omega
mutual
theorem wtD_ok : ∀ {d : D} {n : Nat}, wtD d = some n → d.showable = true ∧ d.hasDict = false ∧ d.canLay0 = true ∧ d.shown.length ≤ n
  | .none, n, h => by
    simp only [wtD, Option.some.injEq] at h
    subst h
    exact ⟨by simp only [PyData.showable], by simp only [PyData.hasDict], by simp only [PyData.canLay0], by simp only [PyData.shown]; decide⟩
  | .bool b, n, h => by
    simp only [wtD, Option.some.injEq] at h
    subst h
    exact ⟨by simp only [PyData.showable], by simp only [PyData.hasDict], by simp only [PyData.canLay0], by simp only [PyData.shown]; cases b <;> decide⟩
  | .int i, n, h => by
    simp only [wtD] at h
    split at h
    · rename_i hi
      cases h
      exact ⟨by simp only [PyData.showable]; exact decide_eq_true hi, by simp only [PyData.hasDict], by simp only [PyData.canLay0], by
        simp only [PyData.shown]
        exact Nat.le_trans (PyProof.Rows.int_text_len_1921 hi) (by decide)⟩
    · cases h
  | .str x, n, h => by
    simp only [wtD] at h
    split at h
    · rename_i hi
      cases h
      refine ⟨by simp only [PyData.showable], by simp only [PyData.hasDict], by simp only [PyData.canLay0, PyData.strOk]; exact hi, ?_⟩
      simp only [PyData.shown]
      refine PySem.StrLaws.reprText_len x fun c hc => ?_
      have := Array.all_eq_true_iff_forall_mem.mp hi c (Array.mem_toList_iff.mp hc)
      have h2 : c < 1114112 := of_decide_eq_true this
      omega
    · cases h
  | .list xs, n, h => by
    simp only [wtD, Option.map_eq_some_iff] at h
    obtain ⟨m, e, rfl⟩ := h
    obtain ⟨h1, h2, h3, h4⟩ := wtL_ok e
    refine ⟨by simpa only [PyData.showable] using h1, by simpa only [PyData.hasDict] using h2, by simpa only [PyData.canLay0] using h3, ?_⟩
    simp only [PyData.shown]
    exact Nat.le_trans (listText_le _) (by omega)
  | .tuple xs, n, h => by
    simp only [wtD, Option.map_eq_some_iff] at h
    obtain ⟨m, e, rfl⟩ := h
    obtain ⟨h1, h2, h3, h4⟩ := wtL_ok e
    refine ⟨by simpa only [PyData.showable] using h1, by simpa only [PyData.hasDict] using h2, by simpa only [PyData.canLay0] using h3, ?_⟩
    simp only [PyData.shown]
    exact Nat.le_trans (tupleText_le _) (by omega)
  | .dict _, n, h => by simp [wtD] at h
theorem wtL_ok : ∀ {ds : List D} {n : Nat}, wtL ds = some n → PyData.showableAll ds = true ∧ PyData.hasDictAll ds = false ∧ PyData.canLayAll0 ds = true ∧ PySem.piled (PyData.shownAll ds) ≤ n
  | [], n, h => by
    simp only [wtL, Option.some.injEq] at h
    subst h
    exact ⟨by simp only [PyData.showableAll], by simp only [PyData.hasDictAll], by simp only [PyData.canLayAll0], by simp [PyData.shownAll, PySem.piled]⟩
  | d :: ds, n, h => by
    simp only [wtL, Option.bind_eq_some_iff, Option.map_eq_some_iff] at h
    obtain ⟨a, ea, b, eb, rfl⟩ := h
    obtain ⟨h1, h2, h3, h4⟩ := wtD_ok ea
    obtain ⟨g1, g2, g3, g4⟩ := wtL_ok eb
    refine ⟨by simp only [PyData.showableAll, h1, g1]; rfl, by simp only [PyData.hasDictAll, h2, g2]; rfl, by simp only [PyData.canLayAll0, h3, g3]; rfl, ?_⟩
    simp only [PyData.shownAll]
    rw [piled_cons]
    omega
end
section
variable {X : Cx} {T : Option Addr} {r : Bool} {ast a b e : Expr} {pos p1 p2 q1 q2 : Pos} {f g fa fb : Ro → Out D}
def rRepD (K : PySem.W.Frag) : List V → Hp → VK → Prop := fun xs H Q => ∃ v d n, xs = [v] ∧ Dp K H v d ∧ isSeqD d = true ∧ d.depth ≤ 64 ∧ wtD d = some n ∧ n ≤ 16000000 ∧ Q (.str d.shown) H
theorem call_repD {n : Nat} (hr : Room n X.A) (hg : X.A.guards = some []) : CallR X (.builtin "repr") (rRepD X.K) := by
  intro pins s σ H xs us Q I rv h
  obtain ⟨v, d, m, rfl, hd, hs, h64, hw, hm, q⟩ := h
  obtain ⟨u, rfl, ru⟩ := vals1 rv
  obtain ⟨as, hr1⟩ := Dp.reads I d v u hd ru
  obtain ⟨w1, w2, w3, w4⟩ := wtD_ok hw
  have hu := hr.un
  have fin : ∀ {ad : Addr}, u = Value.ref ad → wpAny (model X.prog X.w) X.A (call (.builtin "repr") [u]) (EP X pins σ Q) X.xe s := fun {ad} e => by
    subst e
    refine repr_of_reads' hr1 w1 (fun z => by rw [w2] at z; cases z) hg (by omega) (fun _ _ e => e) (fun h' t tk hk => ?_) (by rw [sizeLine_eq]; omega)
    exact ⟨.str d.shown, H, I.kept hk, ⟨_, rfl⟩, q⟩
  cases d <;> simp only [isSeqD] at hs <;> try (cases hs; done)
  · cases hr1; exact fin rfl
  · cases hr1; exact fin rfl
/-- from fewer answers -/
theorem SndE.weaken (h : SndE X T r ast f) (w : ∀ (ρ : Ro) (P : D → Prop), (g ρ).All P → (f ρ).All P) : SndE X T r ast g := by
  obtain ⟨t, p, q⟩ := h
  exact ⟨t, p, fun G0 H0 ρ σ G H Q R h => q G0 H0 ρ σ G H Q R (w ρ _ h)⟩
theorem snd_repr {n : Nat} (hr : Room n X.A) (hg : X.A.guards = some []) (hgl : Gl X "repr") (hm : X.mg "repr" = none) (hb : bootBuiltins "repr" = some (.builtin "repr")) (ha : SndE X T true a fa) (hns : notStarE a = true) :
    SndE X T r (.Call (.Name "repr" p1) [a] [] q1) (fun ρ => (fa ρ).bind fun x => .guard (repOk x) (.ret (.str x.shown))) := by
  refine SndE.read ?_
  obtain ⟨ta, pa, qa⟩ := ha
  have hp : PA X [a] (tCons ta tNil) := pa_cons pa pa_nil (starEach_cons hns)
  refine ⟨_, pe_callB (call_repD hr hg) hgl hm hb hp (by decide) (by decide) (starEach_cons hns) rfl, fun G0 H0 ρ σ G H Q R h => ?_⟩
  rw [Out.All_bind] at h
  refine qa G0 H0 ρ σ G H _ R (h.mono fun x hx v G1 H1 k1 i1 => ?_)
  rw [Out.All_guard] at hx
  obtain ⟨ho, hx⟩ := hx
  unfold repOk at ho
  rw [Bool.and_eq_true, Bool.and_eq_true] at ho
  obtain ⟨h1, h2, h3⟩ := ho
  cases hw : wtD x with
  | none => rw [hw] at h3; cases h3
  | some m =>
    rw [hw] at h3
    obtain ⟨_, _, w3, _⟩ := wtD_ok hw
    exact ⟨v, x, m, rfl, i1.dp k1.gh w3, h1, of_decide_eq_true h2, hw, of_decide_eq_true h3, PostE.now k1.gh k1.tub (PostE.trans hx k1 R.tub) (.str _)⟩
theorem isr_str {r : Bool} {G H : Hp} {v : V} {x : Str} (i : IsR r T G H v (.str x)) : v = .str x := by
  rcases i with i | ⟨_, _, _, _, e, _⟩
  · cases i; rfl
  · cases e
def strEq (g : Bool) : D → D → Out D
  | .str x, .str y => .ret (.bool (if g then !decide (x = y) else decide (x = y)))
  | _, _ => .bad
theorem o2_strEq : Op2 T (strEq false) rEq := by
  intro G H x y v u Q s t ix iy h
  cases x <;> cases y <;> simp only [strEq] at h <;> try exact h.elim
  rename_i x y
  rw [isr_str ix, isr_str iy]
  refine ⟨rfl, ?_⟩
  have e : decide (V.str x = V.str y) = decide (x = y) := by
    by_cases z : x = y
    · subst z; simp
    · rw [decide_eq_false z, decide_eq_false fun q => z (V.str.inj q)]
  rw [e]
  exact PostE.now s t h (.bl _)
theorem o2_strNe : Op2 T (strEq true) rNe := by
  intro G H x y v u Q s t ix iy h
  cases x <;> cases y <;> simp only [strEq] at h <;> try exact h.elim
  rename_i x y
  rw [isr_str ix, isr_str iy]
  refine ⟨rfl, ?_⟩
  have e : decide (V.str x = V.str y) = decide (x = y) := by
    by_cases z : x = y
    · subst z; simp
    · rw [decide_eq_false z, decide_eq_false fun q => z (V.str.inj q)]
  rw [e]
  exact PostE.now s t h (.bl _)
theorem rep_imp {g : Bool} {fa fb : Ro → Out D} (ρ : Ro) (P : D → Prop) (h : ((fa ρ).bind fun x => .guard (repOk x) ((fb ρ).bind fun y => .guard (sameD x y) (.ret (.bool (!g))))).All P) :
    ((((fa ρ).bind fun x => .guard (repOk x) (.ret (.str x.shown))).bind fun x => (((fb ρ).bind fun x => .guard (repOk x) (.ret (.str x.shown))).bind fun y => strEq g x y))).All P := by
  rw [Out.All_bind] at h
  rw [Out.All_bind, Out.All_bind]
  refine h.mono fun x hx => ?_
  rw [Out.All_guard] at hx
  obtain ⟨ho, hx⟩ := hx
  rw [Out.All_bind] at hx
  rw [ho, Out.guard_true, Out.All_ret, Out.All_bind, Out.All_bind]
  refine hx.mono fun y hy => ?_
  rw [Out.All_guard] at hy
  obtain ⟨e, hy⟩ := hy
  have := sameD_eq e
  subst this
  rw [ho, Out.guard_true, Out.All_ret]
  simp only [strEq, decide_true, Bool.not_true]
  cases g <;> exact hy
theorem snd_repEq {n : Nat} {gg : Bool} {op : CmpOp} (hop : op = if gg then .NotEq else .Eq) (hr : Room n X.A) (hg : X.A.guards = some []) (hgl : Gl X "repr") (hm : X.mg "repr" = none) (hb : bootBuiltins "repr" = some (.builtin "repr")) (ha : SndE X T true a fa) (hb2 : SndE X T true b fb)
    (hns : notStarE a = true) (hns2 : notStarE b = true) :
    SndE X T r (.Compare (.Call (.Name "repr" p1) [a] [] q1) [op] [.Call (.Name "repr" p2) [b] [] q2] pos) (fun ρ => (fa ρ).bind fun x => .guard (repOk x) ((fb ρ).bind fun y => .guard (sameD x y) (.ret (.bool (!gg))))) := by
  have h1 := snd_repr (r := true) (p1 := p1) (q1 := q1) hr hg hgl hm hb ha hns
  have h2 := snd_repr (r := true) (p1 := p2) (q1 := q2) hr hg hgl hm hb hb2 hns2
  subst hop
  cases gg with
  | true => exact SndE.weaken (snd2 h1 h2 (fun ta tb pa pb => pe_cmpR op_ne pa pb (nomark _)) o2_strNe) fun ρ P h => rep_imp ρ P h
  | false => exact SndE.weaken (snd2 h1 h2 (fun ta tb pa pb => pe_cmpR op_eq pa pb (nomark _)) o2_strEq) fun ρ P h => rep_imp ρ P h

/-! ### reversed copies, repeated lists -/
theorem snd_revF {k : Nat} {p3 : Pos} (ha : SndE X T true a fa) : SndF X T (.Subscript a (.Slice none none (some (.UnaryOp .USub (.Constant (.int 1) k p1) p2)) p3) pos) (fun ρ => (fa ρ).bind fun x => match x with | .list xs => .ret (.list xs.reverse) | _ => .bad) := by
  obtain ⟨ta, pa, qa⟩ := ha
  refine ⟨_, pe_revL pa, fun G0 H0 ρ σ G H Q R h => ?_⟩
  rw [Out.All_bind] at h
  refine qa G0 H0 ρ σ G H _ R (h.mono fun x hx v G1 H1 k1 i1 => ?_)
  cases x <;> try exact hx.elim
  obtain ⟨p, vs, rfl, gp, iv⟩ := i1.list k1.gh
  exact ⟨p, vs, rfl, .of gp, fun p' hp => PostF.laid k1.gh k1.tub (PostF.trans hx k1 R.tub) hp iv.reverse⟩
def rMulD (K : PySem.W.Frag) : R2 := fun x y H Q => (rI CMul (fun i j => .int (i * j)) x y H Q ∨ rI CMulW (fun i j => .int (i * j)) x y H Q) ∨ rRep x y H Q
theorem or_mul : OpR X (binaryOp .Mult) (rMulD X.K) := (op_mul.or op_mulW).or op_rep
theorem smallI_of {i : Int} (h : smallI i = true) : -(2 ^ 64) < i ∧ i < 2 ^ 64 := by
  have := of_decide_eq_true h
  constructor <;> omega
theorem mul_rule {K : PySem.W.Frag} {i j : Int} {H : Hp} {Q : VK} (h : mulOk i j = true) (q : Q (.int (i * j)) H) : rMulD K (.int i) (.int j) H Q := by
  unfold mulOk at h
  rw [Bool.or_eq_true, Bool.or_eq_true] at h
  rcases h with h | h | h
  · exact .inl (.inl ⟨i, j, rfl, rfl, .inl (smallI_of h), q⟩)
  · exact .inl (.inl ⟨i, j, rfl, rfl, .inr (smallI_of h), q⟩)
  · exact .inl (.inr ⟨i, j, rfl, rfl, (show CMulW i j from of_decide_eq_true (p := i.natAbs.log2 + j.natAbs.log2 < 1000000) h), q⟩)
theorem o2_mul {K : PySem.W.Frag} : Op2 T (fun x y => match x with | .tuple _ => .bad | _ => binD .mul x y) (rMulD K) := by
  intro G H x y v u Q s t ix iy h
  cases x <;> cases y <;> simp only [binD] at h <;> try exact h.elim
  case int.int i j =>
    rw [Out.All_guard] at h
    rw [ix.int, iy.int]
    exact mul_rule h.1 (PostE.now s t h.2 (.int _))
  case list.int xs k =>
    rw [Out.All_guard] at h
    obtain ⟨hl, h⟩ := h
    simp only [Bool.and_eq_true, decide_eq_true_eq] at hl
    obtain ⟨l1, l2, l3⟩ := hl
    obtain ⟨p, vs, rfl, gp, iv⟩ := ix.list s
    refine .inr ⟨p, k, vs, rfl, iy.int, gp, by omega, by omega, ?_, fun p' hp => PostE.laid s t h hp fun G' s' e => .lst e ((iv.mono s' _ _).rep _)⟩
    rw [iv.length, sizeLine_eq]
    have : xs.length * k.toNat ≤ 1000 * 1000 := Nat.mul_le_mul l1 (by omega)
    omega
end
end Ev

set_option Elab.async false
set_option linter.all false
set_option autoImplicit false
set_option maxRecDepth 100000
set_option maxHeartbeats 4000000
namespace Ev
open PySem L2 PySem.Spec PyProof.Rows
/-! ### tuple * int -/
theorem tuple_mul_one (l : Addr) (its : Array Value) (n : Nat) (dd : Option Addr) (sl : Array (Option Value)) (x : Int) (u : Tok) (d0 : (decide (x < -(2 ^ 63)) || decide (x ≥ 2 ^ 63)) = false) (d1 : (its.isEmpty || x == 1) = true) :
    Meets (Builtin.«tuple.__mul__» ⟨[.ref l, .int x u], []⟩) (fun _ R s => s.heap.get? l = some { cls := .type "tuple", dict := dd, data := .seq its n, slots := sl } ∧ R (.ok (.ret (Value.ref l))) s) :=
  .of_wp fun prog w A R s q => by
    obtain ⟨hp, gg, dr, tk, os⟩ := s
    obtain ⟨hl, q⟩ := q
    have f1 := AutoSeq1.idx_int
    wp_walk using wpAny_loadPart' hl
    repeat (first
      | (refine wpAny_ite_false (decide_eq_false (by rw [d0]; exact Bool.false_ne_true)) ?_; wp_walk using wpAny_loadPart' hl)
      | (refine wpAny_ite_true (decide_eq_true d1) ?_; wp_walk using wpAny_loadPart' hl))
    exact ⟨_, rfl, q⟩
section
variable {X : Cx} {T : Option Addr} {G H : Hp}
def rMulOne (K : PySem.W.Frag) : R2 := fun x y H Q => ∃ l xs, x = .ref l ∧ y = .int 1 ∧ SqT K H l xs ∧ Q (.ref l) H
theorem op_mulOne : OpR X (binaryOp .Mult) (rMulOne X.K) := by
  intro pins s σ0 H x y v u Q I r1 r2 h
  obtain ⟨l, xs, rfl, rfl, hT, q⟩ := h
  cases r1
  obtain ⟨t, rfl⟩ := r2
  obtain ⟨its, r, ⟨⟨cls, dd, data, sl⟩, ho, hc, n, hd⟩, hs⟩ := I.tuple hT
  simp only at hc hd
  subst hc hd
  refine wpAny_binaryOp_repeat_ref (T := "tuple") (U := "int") (by decide) ⟨_, ho, rfl⟩ (fun s' => typeIs_int s' 1 t) noFill_tuple_mul F.fills_int_mul F.slot_int_rmul L2.repeat_tuple F.slot_int_index.lookup
    (call_meets F.slot_int_rmul (typeIs_int s 1 t) F.entry_int_rmul (F.args_int_rmul_2 _ _) (int_rmul_tuple 1 t l its.toArray n dd sl)
      ⟨ho, rfl, ⟨_, ho, rfl⟩, call_meets F.slot_tuple_mul ⟨_, ho, rfl⟩ F.entry_tuple_mul (F.args_tuple_mul_2 _ _) (tuple_mul_one l its.toArray n dd sl 1 t (by decide) (by simp)) ⟨ho, ?_⟩⟩)
  exact ⟨.ref l, _, I, rfl, q⟩
def rMulT (K : PySem.W.Frag) : R2 := fun x y H Q => rMulOne K x y H Q ∨ rRepT K x y H Q
theorem or_mulT : OpR X (binaryOp .Mult) (rMulT X.K) := op_mulOne.or op_repT
def rMulA (K : PySem.W.Frag) : R2 := fun x y H Q => rMulD K x y H Q ∨ rMulT K x y H Q
theorem or_mulA : OpR X (binaryOp .Mult) (rMulA X.K) := or_mul.or or_mulT
theorem o2_mulA {K : PySem.W.Frag} : Op2 T (binD .mul) (rMulA K) := by
  intro G H x y v u Q s t ix iy h
  by_cases hx : ∃ xs, x = .tuple xs
  · obtain ⟨xs, rfl⟩ := hx
    cases y <;> simp only [binD] at h <;> try exact h.elim
    rename_i k
    rw [Out.All_guard] at h
    obtain ⟨hl, h⟩ := h
    simp only [Bool.and_eq_true, decide_eq_true_eq] at hl
    obtain ⟨l0, l1, l2, l3⟩ := hl
    obtain ⟨a, vs, rfl, ga, ia⟩ := ix.tup
    rw [iy.int]
    refine .inr ?_
    by_cases hk : k = 1
    · subst hk
      have e : repD xs 1 = xs := by simp [repD]
      rw [e] at h
      exact .inl ⟨a, vs, rfl, rfl, .of (s _ _ ga), PostE.now s t h (.tup ga ia)⟩
    · refine .inr ⟨a, k, vs, rfl, rfl, .of (s _ _ ga), ?_, by omega, by omega, by rw [ia.length]; omega, fun p hp => PostE.laid s t h hp fun G' s' e => .tup e ((ia.mono s' _ _).rep _)⟩
      intro z
      have := ia.length
      rw [z] at this
      simp at this
      omega
  · refine .inl (o2_mul G H x y v u Q s t ix iy ?_)
    cases x <;> first | exact h | exact absurd ⟨_, rfl⟩ hx
end
end Ev

set_option Elab.async false
set_option linter.all false
set_option autoImplicit false
set_option maxRecDepth 100000
set_option maxHeartbeats 2000000
namespace Ev
open PySem L2
open PyProof.Rows (IntsAre)
section
variable {X : Cx} {T : Option Addr} {r : Bool} {ast a b e : Expr} {pos p1 p2 p q1 : Pos} {f g fa fb : Ro → Out D}
/-! ### isinstance -/
theorem tyv {G H : Hp} {v : V} {d : D} (s : Sub G H) (i : IsR true T G H v d) (hd : ∀ kvs, d ≠ .dict kvs) : ∃ t, tyOfD d = some t ∧ TyX X.K H v (.type t) := by
  cases d with
  | dict kvs => exact absurd rfl (hd kvs)
  | none => exact ⟨_, rfl, isr_ty s i rfl⟩
  | bool => exact ⟨_, rfl, isr_ty s i rfl⟩
  | int => exact ⟨_, rfl, isr_ty s i rfl⟩
  | str => exact ⟨_, rfl, isr_ty s i rfl⟩
  | list => exact ⟨_, rfl, isr_ty s i rfl⟩
  | tuple => exact ⟨_, rfl, isr_ty s i rfl⟩
theorem snd_isi {k : Ty} (hgl : Gl X "isinstance") (hm : X.mg "isinstance" = none) (hgl2 : Gl X (tyName k)) (hm2 : X.mg (tyName k) = none) (ha : SndE X T true a fa) (hns : notStarE a = true) :
    SndE X T r (.Call (.Name "isinstance" p1) [a, .Name (tyName k) p2] [] q1) (fun ρ => (fa ρ).bind fun x => .guard (notDict x) (.ret (.bool (isTy k x)))) := by
  refine SndE.read ?_
  obtain ⟨ta, pa, qa⟩ := ha
  have hb : PE X (.Name (tyName k) p2) (tC (.ty (tyName k))) := by
    cases k <;> exact pe_bltn hgl2 hm2 rfl rfl (by decide) (by decide)
  have hp : PA X [a, .Name (tyName k) p2] (tCons ta (tCons (tC (.ty (tyName k))) tNil)) := pa_cons pa (pa_cons hb pa_nil rfl) (starEach_cons hns)
  refine ⟨_, pe_callB call_isi hgl hm rfl hp (by decide) (by decide) (starEach_cons hns) rfl, fun G0 H0 ρ σ G H Q R h => ?_⟩
  rw [Out.All_bind] at h
  refine qa G0 H0 ρ σ G H _ R (h.mono fun x hx v G1 H1 k1 i1 => ?_)
  rw [Out.All_guard] at hx
  obtain ⟨t, e, ht⟩ := tyv (X := X) k1.gh i1 (fun kvs z => by subst z; cases hx.1)
  exact ⟨v, _, _, _, _, rfl, .ty _, ht, kit_ty (kit_isTy e), PostE.now k1.gh k1.tub (PostE.trans hx.2 k1 R.tub) (.bl _)⟩
/-! ### sum -/
def rSumT (K : PySem.W.Frag) : List V → Hp → VK → Prop := fun vs H Q => ∃ (a : Addr) (ns : List Int), vs = [V.ref a] ∧ (SqL K H a (ns.map V.int) ∨ SqT K H a (ns.map V.int)) ∧ Q (.int ns.sum) H
theorem vals_ints {its : List Value} {ns : List Int} (rv : Vals (ns.map V.int) its) : IntsAre its ns := rv.ints
theorem sum_tup {prog : Program} {w : World} {A : Around} {E : Value → Shared → Prop} {s : Shared} {l : Addr} {its : List Value} {ns : List Int} {Q : Value → Shared → Prop} (hh : A.handled = none) (hl : s.heap.IsTuple l its.toArray) (hi : IntsAre its ns)
    (h : ∀ h' tk t', (∀ b o, s.heap.get? b = some o → h'.get? b = some o) → Q (.int ns.sum t') { s with heap := h', toks := tk }) : wpAny (model prog w) A (call (.builtin "sum") [.ref l]) Q E s := by
  obtain ⟨xs, e⟩ := hi.allInts.items
  have hn : numsOf (intItems xs).toList = ns := by rw [← e]; exact hi.numsOf
  rw [nums_intItems] at hn
  rw [e] at hl
  have hlt : l < s.heap.objs.size := by obtain ⟨_, e, _⟩ := hl; exact Heap.lt_size e
  refine call_sum_walkG (wpAny_pyIter_tuple hl ?_)
  refine ⟨_, _, _, _, _, _, numAt xs, rfl, Walks.tuple (A := A.in1) hh s.heap.objs.size l (Nat.ne_of_lt hlt) (intItems xs), ⟨⟨_, Heap.get?_push_size _ rfl, rfl, rfl⟩, hl.push _⟩, ?_, (fun _ _ => intItems_at), fun h' tk t' hk => ?_⟩
  · intro b hb
    show b < (s.heap.push _).objs.size
    rw [Heap.size_push]
    rcases List.mem_cons.mp hb with rfl | hb
    · exact Nat.lt_succ_self _
    · rcases List.mem_cons.mp hb with rfl | hb
      · exact Nat.lt_succ_of_lt hlt
      · cases hb
  · have := h h' tk t' (fun b o e => hk b o (fun hb => Nat.ne_of_lt (Heap.lt_size e) (List.mem_singleton.mp hb)) (Heap.get?_push_of_some _ e))
    have e2 : (intItems xs).size = xs.size := by simp [intItems]
    rw [e2, preSum_eq, List.take_of_length_le (by simp), hn]
    exact this
theorem cr_sumT (hc : X.calm = true) : CallR X (.builtin "sum") (rSumT X.K) := by
  intro pins s σ H vs us Q I r h
  obtain ⟨a, ns, rfl, hs, q⟩ := h
  rcases hs with hs | hs
  · exact cr_sum hc pins s σ H _ us Q I r ⟨a, ns, rfl, hs, q⟩
  · obtain ⟨its, rv, hl, _⟩ := I.tuple hs
    rw [Vals.ref1 r]
    exact sum_tup (I.ok.hd hc) (show s.heap.IsTuple a its.toArray from hl) rv.ints fun h' tk t' hk => ⟨.int _, H, I.kept hk, ⟨_, rfl⟩, q⟩
theorem oc_sum : OpC T (bltD .sum) (rSumT X.K) := by
  intro G H ds vs Q s t i h
  cases i with
  | nil => exact h.elim
  | cons i1 i2 =>
    cases i2 with
    | cons _ _ => rename_i d _ _ _ _ _ _; cases d <;> exact h.elim
    | nil =>
      rename_i v d
      cases d <;> simp only [bltD] at h <;> try exact h.elim
      all_goals
        rename_i xs
        rw [Out.All_bind, Out.All_ofO] at h
        obtain ⟨ns, e, h⟩ := h
      · obtain ⟨p, ws, rfl, gp, iv⟩ := i1.list s
        obtain ⟨rfl, rfl⟩ := iv.ints e
        exact ⟨p, ns, rfl, .inl (.of gp), PostE.now s t h (.int _)⟩
      · obtain ⟨p, ws, rfl, gp, iv⟩ := i1.tup
        obtain ⟨rfl, rfl⟩ := iv.ints e
        exact ⟨p, ns, rfl, .inr (.of (s _ _ gp)), PostE.now s t h (.int _)⟩
/-! ### sorted -/
theorem paired_each : ∀ {xs : List V} {us : List Value} {ds : List D}, Vals xs us → xs.length = ds.length → PySem.W.EachIs (fun u (b : V × D) => RelV b.1 u) us (xs.zip ds)
  | [], _, ds, r, _ => by cases r; exact .nil
  | x :: xs, _, d :: ds, .cons r rs, h => .cons r (paired_each rs (by simpa using h))
theorem each_reads {h : Heap} : ∀ {xs : List V} {us : List Value} {ds : List D} {as : List Addr}, Vals xs us → xs.length = ds.length → ReadsAll h us ds as → PySem.W.EachIs (fun u (b : V × D) => ∃ as, Reads h u b.2 as) us (xs.zip ds)
  | [], _, ds, _, r, _, _ => by cases r; exact .nil
  | x :: xs, _, d :: ds, _, .cons r rs, h, .cons h1 h2 => .cons ⟨_, h1⟩ (each_reads rs (by simpa using h) h2)
theorem each_vals : ∀ {us : List Value} {bs : List (V × D)}, PySem.W.EachIs (fun u (b : V × D) => RelV b.1 u) us bs → Vals (bs.map (·.1)) us
  | _, _, .nil => .nil
  | _, _, .cons r rs => .cons r (each_vals rs)
theorem insB_at {α : Type} {le : α → α → Bool} {a : α} : ∀ {l1 l2 : List α}, (∀ b ∈ l1, le a b = false) → (∀ b ∈ l2, le a b = true) → insB le a (l1 ++ l2) = l1 ++ a :: l2
  | [], [], _, _ => rfl
  | [], b :: r, _, h => by
    show (if le a b = true then _ else _) = _
    rw [if_pos (h b List.mem_cons_self)]
    rfl
  | b :: r, l2, h1, h2 => by
    show (if le a b = true then _ else b :: insB le a (r ++ l2)) = _
    rw [if_neg (by rw [h1 b List.mem_cons_self]; exact Bool.false_ne_true), insB_at (fun c hc => h1 c (List.mem_cons_of_mem _ hc)) h2]
    rfl
theorem isort_merge {α : Type} {le : α → α → Bool} (tr : ∀ a b c, le a b = true → le b c = true → le a c = true) (tot : ∀ a b, (le a b || le b a) = true) : ∀ xs : List α, isort le xs = xs.mergeSort le
  | [] => by simp [isort]
  | x :: r => by
    obtain ⟨l1, l2, e1, e2, e3⟩ := List.mergeSort_cons tr tot x r
    show insB le x (isort le r) = _
    rw [isort_merge tr tot r, e1, e2]
    have hs := List.pairwise_mergeSort tr tot (x :: r)
    rw [e1] at hs
    refine insB_at (fun b hb => ?_) fun b hb => ?_
    · have := e3 b hb
      simpa using this
    · exact (List.pairwise_cons.mp (List.pairwise_append.mp hs).2.1).1 b hb
theorem dataLe_not (a b : D) : dataLe a b = !PySem.W.dataLt b a := rfl
theorem isort_eq (xs : List D) : isort dataLe xs = xs.mergeSort dataLe := by
  refine isort_merge (fun a b c h1 h2 => ?_) (fun a b => ?_) xs
  · rw [dataLe_not] at h1 h2 ⊢
    cases h : PySem.W.dataLt c a with
    | false => rfl
    | true =>
      rcases (PyProof.Rows.listOrd PyProof.Rows.itemOrd).negTrans _ (PySem.W.keyToks b) _ h with q | q
      · rw [show PySem.W.dataLt c b = true from q] at h2; cases h2
      · rw [show PySem.W.dataLt b a = true from q] at h1; cases h1
  · rw [dataLe_not, dataLe_not]
    cases h : PySem.W.dataLt b a with
    | false => rfl
    | true =>
      cases h' : PySem.W.dataLt a b with
      | false => rfl
      | true =>
        have q := (PyProof.Rows.listOrd PyProof.Rows.itemOrd).trans _ _ _ h h'
        rw [(PyProof.Rows.listOrd PyProof.Rows.itemOrd).irrefl] at q
        cases q
def rSortD (K : PySem.W.Frag) : List V → Hp → VK → Prop := fun vs H Q => ∃ (a : Addr) (xs : List V) (ds : List D), vs = [V.ref a] ∧ SqL K H a xs ∧ xs.length = ds.length ∧ ds.length ≤ lim ∧
  ((ds.length ≤ 1 ∧ ∀ p, H p = none → Q (.ref p) (upd H p (.lst xs))) ∨
   (DpAll K H xs ds ∧ PySem.W.AllAlike ds ∧ PySem.W.Sortable ds ∧ (∀ d ∈ ds, d.depth ≤ 64) ∧ ∀ p, H p = none → Q (.ref p) (upd H p (.lst (((xs.zip ds).mergeSort (PySem.W.dataLe false (·.2))).map (·.1))))))
theorem cr_sortD {n : Nat} (hr : Room n X.A) : CallR X (.builtin "sorted") (rSortD X.K) := by
  intro pins s σ H vs us Q I r h
  obtain ⟨a, xs, ds, rfl, hs, hl, hz, h⟩ := h
  obtain ⟨its, rv, hl2, hz2⟩ := I.list hs
  rw [Vals.ref1 r]
  have hsz := rv.length
  have done : ∀ {ys : List V} {out : List Value}, Vals ys out → out.length = its.length → Q (.ref (s.heap.objs.size + 1)) (upd H (s.heap.objs.size + 1) (.lst ys)) → EP X pins σ Q (.ref (s.heap.objs.size + 1)) { s with heap := PyProof.Rows.sortedAll s.heap its out.toArray } := fun {ys out} rv2 lo q => by
    obtain ⟨k, hk⟩ := PyProof.Rows.sortedAll_at s.heap its out.toArray
    refine ⟨.ref (s.heap.objs.size + 1), _, I.laid (t' := s.toks) (o := .lst ys) (fun b o e => PyProof.Rows.sortedAll_old e) (Nat.le_succ _) ⟨?_, out, k, rv2, hk⟩, rfl, q⟩
    have e1 := rv2.length
    have : lim ≤ sizeLine := lim_le
    omega
  rcases h with ⟨h1, q⟩ | ⟨hd, hal, hk, h64, q⟩
  · refine Srt.sorted_any hl2.isList (by have : lim ≤ sizeLine := lim_le; omega) (fun h2 => absurd h2 (by omega)) fun out ho => ?_
    have : out = its := by
      cases its with
      | nil => exact ho.eq_nil
      | cons x r =>
        cases r with
        | nil => exact List.perm_singleton.mp ho
        | cons y z => simp at hsz; omega
    subst this
    exact done rv rfl (q _ (I.hok.fresh (Nat.le_succ _)))
  · obtain ⟨as, hr2⟩ := Dp.readsAll I ds xs its hd rv
    have e2 : (xs.zip ds).map (·.2) = ds := List.map_snd_zip (by omega)
    have hu := hr.un
    refine PySem.W.sorted_data (β := V × D) (bs := xs.zip ds) (enc := (·.2)) hl2.isList (paired_each rv hl) (each_reads rv hl hr2) (by rw [e2]; exact hal) (by rw [e2]; exact hk) ?_ (fun b hb => ?_) fun out ho hq => ?_
    · have : lim ≤ sizeLine := lim_le
      simp; omega
    · have := h64 b.2 (List.of_mem_zip hb).2
      omega
    · refine done (each_vals hq) (by rw [ho]; simp; omega) (q _ (I.hok.fresh (Nat.le_succ _)))
theorem zip_is {G : Hp} : ∀ {xs : List V} {ds : List D}, IsAll T G xs ds → ∀ b ∈ xs.zip ds, Is T G b.1 b.2
  | _, _, .nil, b, hb => by cases hb
  | _, _, .cons h t, b, hb => by
    rw [List.zip_cons_cons, List.mem_cons] at hb
    rcases hb with rfl | hb
    · exact h
    · exact zip_is t b hb
theorem isAll_maps {G : Hp} : ∀ {zs : List (V × D)}, (∀ b ∈ zs, Is T G b.1 b.2) → IsAll T G (zs.map (·.1)) (zs.map (·.2))
  | [], _ => .nil
  | z :: zs, h => .cons (h z List.mem_cons_self) (isAll_maps fun b hb => h b (List.mem_cons_of_mem _ hb))
theorem dataLe_snd (b c : V × D) : PySem.W.dataLe false (fun z : V × D => z.2) b c = dataLe b.2 c.2 := rfl
theorem one_sorted (xs : List D) (h : xs.length ≤ 1) : xs.mergeSort dataLe = xs := by
  cases xs with
  | nil => simp
  | cons x r =>
    cases r with
    | nil => simp
    | cons y z => simp at h
theorem oc_sorted {X : Cx} : OpCF T (bltD .sorted) (rSortD X.K) := by
  intro G H ds vs Q s t i h
  cases i with
  | nil => exact h.elim
  | cons i1 i2 =>
    cases i2 with
    | cons _ _ => rename_i d _ _ _ _ _ _; cases d <;> exact h.elim
    | nil =>
      rename_i v d
      cases d <;> simp only [bltD] at h <;> try exact h.elim
      rename_i xs
      unfold sortD at h
      rw [Out.All_guard, isort_eq] at h
      obtain ⟨ho, h⟩ := h
      obtain ⟨p, ws, rfl, gp, iv⟩ := i1.list s
      unfold sortOk at ho
      simp only [Bool.and_eq_true, decide_eq_true_eq, Bool.or_eq_true] at ho
      obtain ⟨l1, lay, l2, l3, l4⟩ := ho
      refine ⟨p, ws, xs, rfl, .of gp, iv.length, l1, ?_⟩
      rcases l4 with l4 | l4
      · rw [one_sorted xs l4] at h
        exact .inl ⟨l4, fun p' hp => PostF.laid s t h hp iv⟩
      · have hal : PySem.W.AllAlike xs := fun d hd e he => List.all_eq_true.mp (List.all_eq_true.mp l2 d hd) e he
        refine .inr ⟨iv.dp s _ _ lay, hal, ?_, fun d hd => of_decide_eq_true (List.all_eq_true.mp l3 d hd), fun p' hp => PostF.laid s t h hp ?_⟩
        · rcases l4 with l4 | l4
          · refine .inl fun d hd => ?_
            have := List.all_eq_true.mp l4 d hd
            cases d <;> try exact absurd this Bool.false_ne_true
            rename_i ys
            cases ys with
            | nil => exact absurd this Bool.false_ne_true
            | cons => exact ⟨_, _, rfl⟩
          · refine .inr fun d hd => ?_
            have := List.all_eq_true.mp l4 d hd
            cases d <;> first | exact absurd this Bool.false_ne_true | exact ⟨by simp, by simp⟩
        · have e2 : (ws.zip xs).map (·.2) = xs := List.map_snd_zip (by rw [iv.length]; exact Nat.le_refl _)
          have e3 : (((ws.zip xs).mergeSort (PySem.W.dataLe false (·.2))).map (·.2)) = xs.mergeSort dataLe := by
            rw [List.map_mergeSort (s := dataLe) (fun a _ b _ => dataLe_snd a b), e2]
          rw [← e3]
          exact isAll_maps fun b hb => zip_is iv b ((List.mergeSort_perm _ _).mem_iff.mp hb)
end
end Ev

set_option Elab.async false
set_option linter.all false
set_option autoImplicit false
set_option maxRecDepth 100000
set_option maxHeartbeats 2000000
namespace Ev
open PySem L2
open Sem (wp)
open AutoSeq1 (wpAny_loadPart')
open PyProof.Rows (boot_enumerate Call_)
/-! ### enumerate(tuple) -/
theorem meets_enumT (l : Addr) (items : Array Value) (n : Nat) (dct : Option Addr) (sl : Array (Option Value)) :
    Meets (Builtin.«enumerate.__new__» ⟨[.type "enumerate", .ref l], []⟩) (fun _ R s => s.heap.get? l = some { cls := .type "tuple", dict := dct, data := .seq items n, slots := sl } ∧
      R (.ok (.ret (.ref (s.heap.push { cls := .type "tuple_iterator", data := .fields #[.ref l, .int 0 0] }).objs.size)))
        { s with heap := (s.heap.push { cls := .type "tuple_iterator", data := .fields #[.ref l, .int 0 0] }).push { cls := .type "enumerate", data := .fields #[.none, .bool false, .ref s.heap.objs.size, rawInt 0, .none, .none] } }) :=
  .of_wp fun prog w A R s h => by
    obtain ⟨hp, g, d, tk, os⟩ := s
    obtain ⟨hl, h⟩ := h
    have hsub := sub_enumerate
    have hL : Heap.IsTuple (Shared.heap ⟨hp, g, d, tk, os⟩) l items := ⟨_, hl, rfl, n, rfl⟩
    wp_walk using wpAny_loadPart' hl
    refine wpAny_stack_any fun st => wpAny_pure ?_
    split
    · rename_i c _ _ _ _ _
      cases (c == Value.type "enumerate")
      · wp_walk using wpAny_loadPart' hl, wpAny_pyIter_tuple hL
        exact ⟨_, rfl, h⟩
      · wp_walk using wpAny_loadPart' hl, wpAny_pyIter_tuple hL
        exact ⟨_, rfl, h⟩
    · wp_walk using wpAny_loadPart' hl, wpAny_pyIter_tuple hL
      exact ⟨_, rfl, h⟩
section
variable {prog : Program} {w : World} {A : Around} {E : Value → Shared → Prop} {s : Shared}
theorem call_enumT {l : Addr} {items : Array Value} {Q : Value → Shared → Prop} (hL : s.heap.IsTuple l items)
    (h : ∀ h', IsEnum h' (s.heap.objs.size + 1) s.heap.objs.size 0 .none → h'.IsTupleIter s.heap.objs.size l 0 →
      (∀ b o, s.heap.get? b = some o → h'.get? b = some o) → Q (.ref (s.heap.objs.size + 1)) { s with heap := h' }) :
    wpAny (model prog w) A (call (.type "enumerate") [.ref l]) Q E s := by
  obtain ⟨⟨c, dct, dt, sl⟩, hl, hc, n, hd⟩ := hL
  replace hc : c = .type "tuple" := hc
  replace hd : dt = .seq items n := hd
  subst hc hd
  refine callType_new F.called_enumerate (by decide) (F.typeCall_enumerate_1 _) (F.newCall_enumerate_1 _) (fun obj => F.args_object_init_2 obj _) F.entry_enumerate_new
    (meets_enumT l items n dct sl) ⟨hl, ?_⟩
  have hz : (s.heap.push { cls := .type "tuple_iterator", data := .fields #[.ref l, .int 0 0] }).objs.size = s.heap.objs.size + 1 := Heap.size_push ..
  show _ ∧ _
  rw [hz]
  have he : IsEnum ((s.heap.push { cls := .type "tuple_iterator", data := .fields #[.ref l, .int 0 0] }).push
      { cls := .type "enumerate", data := .fields #[.none, .bool false, .ref s.heap.objs.size, rawInt 0, .none, .none] }) (s.heap.objs.size + 1) s.heap.objs.size 0 .none := by
    have := Heap.get?_push_size (s.heap.push { cls := .type "tuple_iterator", data := .fields #[.ref l, .int 0 0] })
      (o := { cls := .type "enumerate", data := .fields #[.none, .bool false, .ref s.heap.objs.size, rawInt 0, .none, .none] }) rfl
    rw [hz] at this
    exact this
  exact ⟨⟨_, he, rfl⟩, h _ he ⟨_, Heap.get?_push_of_some _ (Heap.get?_push_size _ rfl), rfl, rfl⟩ fun b o x => Heap.get?_push_of_some _ (Heap.get?_push_of_some _ x)⟩
end
def IteT (K : PySem.W.Frag) (a : Addr) : It :=
  ⟨fun i H => ∃ (xs : List V) (x : V), SqT K H a xs ∧ xs[i]? = some x, fun i H v H' => ∃ T x, v = .ref T ∧ H T = none ∧ H' = upd H T (.tup [.int (i : Nat), x]) ∧ ∀ xs, SqT K H a xs → xs[i]? = some x, fun i H => ∃ xs : List V, SqT K H a xs ∧ xs.length ≤ i⟩
theorem turn_enumT {P : Program} {w : World} {K : PySem.W.Frag} {elts : List Expr} {kk : Nat} {tpos : Pos} (a e it : Addr) :
    Turn P w K (.Tuple elts kk tpos) (IteT K a) [e, it] e (fun i h => (∃ old, IsEnum h e it ((i : Nat) : Int) old) ∧ h.IsTupleIter it a i ∧ e ≠ it ∧ a ≠ it ∧ e ≠ a) where
  mem := by simp
  obj := fun i h st b hb => by
    obtain ⟨⟨old, he⟩, ⟨o, ho, hc, hd⟩, _⟩ := st
    have e' : b = e ∨ b = it := by simpa using hb
    rcases e' with z | z
    · rw [z]; exact ⟨_, he, fun v q => nomatch q⟩
    · rw [z]; exact ⟨o, ho, fun v q => by rw [hd] at q; cases q⟩
  keep := fun i h h' st k => let ⟨⟨old, he⟩, hi, hne⟩ := st; ⟨⟨old, k e (by simp) _ he⟩, hi.at fun o q => k it (by simp) o q, hne⟩
  item := by
    intro X hP hw hK hc i pins s σ H E I hf st hg
    subst hP hw hK
    obtain ⟨⟨old, he⟩, hit, hne, hai, hea⟩ := st
    obtain ⟨xs, x, hq, hx⟩ := hg
    obtain ⟨its, rv, p, hz⟩ := I.tuple hq
    obtain ⟨u, hu, ru⟩ := rv.get hx
    have hel : e < s.heap.objs.size := Heap.lt_size he
    have hil : it < s.heap.objs.size := by obtain ⟨_, q, _⟩ := hit; exact Heap.lt_size q
    have hIT : s.heap.IsTuple a its.toArray := p
    have hlt : i < its.toArray.size := by
      have := (List.getElem?_eq_some_iff.mp hu).1
      simpa using this
    refine wpAny_pyNext_enum_itemD (Draws.tuple (A := X.A.in1) (I.ok.hd hc) it a hai its.toArray) he ⟨hit, hIT⟩ hlt hne (by simp [hne, hea]) fun x' h' tk hP ho hs' hT hsz hk => ?_
    have ex : x' = u := by
      have e1 : its.toArray[i]? = some u := by simpa using hu
      rw [e1] at hP
      cases hP
      rfl
    subst ex
    obtain ⟨hit', _⟩ := hs'
    refine ⟨_, rfl, wpAny_letOwnedTupleGo_enum (s := { s with heap := h', toks := tk + 1 }) ho fun h'' he' sb => ?_⟩
    have hT2 : h''.get? s.heap.objs.size = some { cls := .type "tuple", data := .seq #[.int i tk, x'] } := (sb.2 _ (Nat.ne_of_gt hel)).trans hT
    have new : ObjOk X.prog X.w (upd H s.heap.objs.size (.tup [.int (i : Nat), x])) h'' s.heap.objs.size (.tup [.int (i : Nat), x]) :=
      ⟨by show 2 ≤ sizeLine; decide, [.int i tk, x'], .cons ⟨_, rfl⟩ (.cons ru .nil), ⟨_, hT2, rfl, _, rfl⟩⟩
    have I1 : Inv X pins σ (upd H s.heap.objs.size (.tup [.int (i : Nat), x])) { s with heap := h'', toks := tk + 1 } :=
      I.turnedNew (ch := [e, it]) (fun b ob hb q => (sb.2 b (fun z => hb (by simp [z]))).trans (hk b ob (fun z => hb (by simp [z])) (fun z => hb (by simp [z])) q)) hf (Nat.le_refl _) new
    refine ⟨.ref s.heap.objs.size, _, I1, rfl, ⟨_, x, rfl, I.hok.fresh (Nat.le_refl _), rfl, fun ys hy => ?_⟩, ⟨⟨x', ?_⟩, hit'.at fun o q => (sb.2 it (Ne.symm hne)).trans q, hne, hai, hea⟩, fun b hb => ?_⟩
    · rw [I.tuple_inj hy hq]; exact hx
    · have e1 : ((i + 1 : Nat) : Int) = (i : Int) + 1 := by omega
      rw [e1]; exact he'
    · have hb' : b < s.heap.objs.size := by
        have e' : b = e ∨ b = it := by simpa using hb
        rcases e' with z | z
        · rw [z]; exact hel
        · rw [z]; exact hil
      rw [upd_ne (Nat.ne_of_lt hb')]
      exact (hf b hb).1
  done := by
    intro X hP hw hK hc i pins s σ H E I hf st hg
    subst hP hw hK
    obtain ⟨⟨old, he⟩, hit, hne, hai, hea⟩ := st
    obtain ⟨xs, hq, hx⟩ := hg
    obtain ⟨its, rv, p, hz⟩ := I.tuple hq
    obtain ⟨f0, f1, f2, f3, f4, f5⟩ := hf it (by simp)
    have hl := rv.length
    have hIT : s.heap.IsTuple a its.toArray := p
    have hT : s.TypeIs (.ref e) "enumerate" := ⟨_, he, rfl⟩
    unfold pyNext
    refine wpAny_bind (wpAny_attempt (wpAny_callSpecial?_slot (name := Str.ofString "__next__") hT F.slot_enumerate_next
      (wpAny_call_entry F.slot_enumerate_next hT F.entry_enumerate_next ?_ (F.args_enumerate_next_1 _))))
    show wpAny _ _ (field (.ref e) 2 >>= _) _ _ _
    refine wpAny_bind (wpAny_field he rfl (x := .ref it) rfl ?_)
    refine wpAny_bind (wpAny_nextOf_tuple_end (I.ok.hd hc) hit hIT (by simp; omega) fun h' x he' hx' => ?_)
    obtain ⟨o, ho, hc'⟩ := hx'
    refine wpAny_bind (wpAny_isInstance (T := "StopIteration") (b := true) ⟨o, ho, hc'⟩ isSubtype_stop ?_)
    exact wpAny_pure ⟨rfl, I.turned (t' := s.toks) (fun b o hb q => he' b o hb q) f0 f1 f3 f4 f5⟩
  self := fun A i s Q E st h => let ⟨⟨_, he⟩, _⟩ := st; wpAny_pyIter_enum he h
theorem walk_enumT {K : PySem.W.Frag} {a : Addr} {xs : List V} : Walk (IteT K a) xs.length (fun H => SqT K H a xs) (YPair (fun i => some (.int (i : Nat))) (fun i => xs[i]?)) := by
  refine ⟨fun i _ hi q => ⟨xs, xs[i], q, by simp [hi]⟩, fun _ q => ⟨xs, q, Nat.le_refl _⟩, fun i H v H' _ q y => ?_⟩
  obtain ⟨T, x, h1, h2, h3, h4⟩ := y
  exact ⟨T, .int (i : Nat), x, h1, h2, h3, rfl, h4 xs q⟩
def iEnumD (K : PySem.W.Frag) (ta : TA) : TI := fun σ H R => ta σ H fun vs H1 => ∃ a xs, vs = [.ref a] ∧ ((SqL K H1 a xs ∧ R (Ite K a) H1) ∨ (SqT K H1 a xs ∧ R (IteT K a) H1))
theorem pi_enumD {X : Cx} {e : Expr} {ta : TA} {p pos tpos : Pos} {elts : List Expr} {kk : Nat} (hg : Gl X "enumerate") (hm : X.mg "enumerate" = none) (ha : PA X [e] ta) (hs : starEach [e] X.env = [(false, eval e X.env)]) :
    PI X (.Tuple elts kk tpos) (.Call (.Name "enumerate" p) [e] [] pos) (iEnumD X.K ta) := by
  refine ⟨fun pins s σ H R I h => ?_⟩
  refine Call_ (ld_blt I hg hm boot_enumerate (PyProof.Rows.callWith_type1 (thn (ha.run pos pins s σ H _ I h) fun us s1 ⟨vs, H1, I1, r1, q1⟩ => ?_) hs rfl))
  obtain ⟨a, xs, ex, q1⟩ := q1
  subst ex
  cases r1 with
  | cons r rr =>
    cases rr
    cases r
    have fp : ∀ b, b ∈ [s1.heap.objs.size + 1, s1.heap.objs.size] → FpOk X pins H1 b := fun b hb => by
      have e' : b = s1.heap.objs.size + 1 ∨ b = s1.heap.objs.size := by simpa using hb
      have hle : s1.heap.objs.size ≤ b := by
        rcases e' with z | z
        · rw [z]; exact Nat.le_add_right _ _
        · rw [z]; exact Nat.le_refl _
      exact I1.fpOk hle (I1.hok.fresh hle)
    rcases q1 with ⟨hq, q⟩ | ⟨hq, q⟩
    · obtain ⟨its, rv, p', hz⟩ := I1.list hq
      refine call_enumerate_list p'.isList fun h' he hit hsz hk => wpAny_pyIter_enum he ?_
      have I2 : Inv X pins σ H1 { s1 with heap := h' } := I1.kept (t' := s1.toks) hk
      exact ⟨s1.heap.objs.size + 1, [s1.heap.objs.size + 1, s1.heap.objs.size], _, _, H1, rfl, I2, turn_enum a (s1.heap.objs.size + 1) s1.heap.objs.size, ⟨⟨.none, he⟩, hit, Nat.succ_ne_self _⟩, fp, q⟩
    · obtain ⟨its, rv, p', hz⟩ := I1.tuple hq
      have hT : s1.heap.IsTuple a its.toArray := p'
      have hlt : a < s1.heap.objs.size := by obtain ⟨_, e, _⟩ := hT; exact Heap.lt_size e
      refine call_enumT hT fun h' he hit hk => wpAny_pyIter_enum he ?_
      have I2 : Inv X pins σ H1 { s1 with heap := h' } := I1.kept (t' := s1.toks) hk
      exact ⟨s1.heap.objs.size + 1, [s1.heap.objs.size + 1, s1.heap.objs.size], _, _, H1, rfl, I2, turn_enumT a (s1.heap.objs.size + 1) s1.heap.objs.size, ⟨⟨.none, he⟩, hit, Nat.succ_ne_self _, Nat.ne_of_lt hlt, Nat.ne_of_gt (Nat.lt_succ_of_lt hlt)⟩, fp, q⟩
theorem enumL_length : ∀ (xs : List D) (k : Int), (enumL k xs).length = xs.length
  | [], _ => rfl
  | x :: r, k => by simp [enumL, enumL_length r]
theorem enumL_get : ∀ (xs : List D) (k : Int) (i : Nat) (d : D), xs[i]? = some d → (enumL k xs)[i]? = some (.tuple [.int (k + i), d])
  | [], _, _, _, h => by simp at h
  | x :: r, k, 0, d, h => by simp at h; simp [enumL, h]
  | x :: r, k, i + 1, d, h => by
    have := enumL_get r (k + 1) i d (by simpa using h)
    simp only [enumL, List.getElem?_cons_succ]
    rw [this]
    congr 3
    simp
    omega
theorem zipL_length : ∀ (xs ys : List D), (zipL xs ys).length = min xs.length ys.length
  | [], ys => by simp [zipL]
  | x :: r, [] => by simp [zipL]
  | x :: r, y :: q => by simp [zipL, zipL_length r q]
theorem zipL_get : ∀ (xs ys : List D) (i : Nat) (d e : D), xs[i]? = some d → ys[i]? = some e → (zipL xs ys)[i]? = some (.tuple [d, e])
  | [], _, _, _, _, h, _ => by simp at h
  | _ :: _, [], _, _, _, _, h => by simp at h
  | x :: r, y :: q, 0, d, e, h, h' => by simp at h h'; simp [zipL, h, h']
  | x :: r, y :: q, i + 1, d, e, h, h' => by
    simp only [zipL, List.getElem?_cons_succ]
    exact zipL_get r q i d e (by simpa using h) (by simpa using h')
section
variable {X : Cx} {T : Option Addr} {r : Bool} {a b : Expr} {pos p tpos : Pos} {fa fb : Ro → Out D} {elts : List Expr} {kk : Nat}
theorem pair_step {T : Option Addr} {G2 H H' : Hp} {t : Addr} {v u : V} {d e : D} (s2 : Sub G2 H) (tb : TubOk T H) (hT : H t = none) (hH : H' = upd H t (.tup [v, u])) (iv : Is T G2 v d) (iu : Is T G2 u e) : ∃ G3, Stp T G2 H G3 H' ∧ Is T G3 (.ref t) (.tuple [d, e]) := by
  subst hH
  have k := Stp.laid (o := .tup [v, u]) s2 tb hT
  exact ⟨_, k, .tup upd_same (.cons (Is.mono k.gs _ _ iv) (.cons (Is.mono k.gs _ _ iu) .nil))⟩
theorem walkOf_enum {K : PySem.W.Frag} {G1 H1 : Hp} {a : Addr} {vs : List V} {xs : List D} (h : H1 a = some (.lst vs)) (i : IsAll T G1 vs xs) : WalkOf T G1 H1 (Ite K a) (enumL 0 xs) (fun H => SqL K H a vs) (YPair (fun i => some (.int (i : Nat))) (fun i => vs[i]?)) := by
  refine ⟨by rw [enumL_length, ← i.length]; exact walk_enum, .of h, fun j H x H' G2 hj hG y s1 s2 t => ?_⟩
  obtain ⟨t0, x0, y0, rfl, hT, hH, e1, e2⟩ := y
  cases e1
  obtain ⟨d, e, hd⟩ := i.get' e2
  obtain ⟨G3, k, hi⟩ := pair_step s2 t hT hH (.int j) (Is.mono s1 _ _ hd)
  exact ⟨G3, _, by rw [enumL_get xs 0 j d e, Int.zero_add], k, hi⟩
theorem walkOf_enumF {K : PySem.W.Frag} {G1 H1 : Hp} {a : Addr} {o : Obj} {vs : List V} {xs : List D} (h : H1 a = some (.frz o (.lst vs))) (i : IsAll T G1 vs xs) : WalkOf T G1 H1 (Ite K a) (enumL 0 xs) (fun H => SqL K H a vs) (YPair (fun i => some (.int (i : Nat))) (fun i => vs[i]?)) := by
  refine ⟨by rw [enumL_length, ← i.length]; exact walk_enum, .inl (.inr ⟨o, h⟩), fun j H x H' G2 hj hG y s1 s2 t => ?_⟩
  obtain ⟨t0, x0, y0, rfl, hT, hH, e1, e2⟩ := y
  cases e1
  obtain ⟨d, e, hd⟩ := i.get' e2
  obtain ⟨G3, k, hi⟩ := pair_step s2 t hT hH (.int j) (Is.mono s1 _ _ hd)
  exact ⟨G3, _, by rw [enumL_get xs 0 j d e, Int.zero_add], k, hi⟩
theorem walkOf_enumT {K : PySem.W.Frag} {G1 H1 : Hp} {a : Addr} {vs : List V} {xs : List D} (h : H1 a = some (.tup vs)) (i : IsAll T G1 vs xs) : WalkOf T G1 H1 (IteT K a) (enumL 0 xs) (fun H => SqT K H a vs) (YPair (fun i => some (.int (i : Nat))) (fun i => vs[i]?)) := by
  refine ⟨by rw [enumL_length, ← i.length]; exact walk_enumT, .of h, fun j H x H' G2 hj hG y s1 s2 t => ?_⟩
  obtain ⟨t0, x0, y0, rfl, hT, hH, e1, e2⟩ := y
  cases e1
  obtain ⟨d, e, hd⟩ := i.get' e2
  obtain ⟨G3, k, hi⟩ := pair_step s2 t hT hH (.int j) (Is.mono s1 _ _ hd)
  exact ⟨G3, _, by rw [enumL_get xs 0 j d e, Int.zero_add], k, hi⟩
/-- a list in hand stays as long as it is looked at -/
theorem IsR.listS {G0 H0 G H : Hp} {ρ : Ro} {σ : Sg} {v : V} {xs : List D} (R : Rep T G0 H0 ρ σ G H) (h : IsR r T G H v (.list xs)) : ∃ a vs, v = V.ref a ∧ H a = some (.lst vs) ∧ IsAll T G vs xs ∧ ∀ K, Stb r T G H (fun H => SqL K H a vs) := by
  rcases h with h | ⟨hr, a, vs, ys, e1, e2, hT, e3, h⟩
  · cases h with
    | lst e h =>
      refine ⟨_, _, rfl, R.sub _ _ e, h, fun K => ?_⟩
      cases r with
      | true => exact fun H' hk => .of (hk _ _ (fun z => by rw [R.tg _ z] at e; cases e) (R.sub _ _ e))
      | false => exact fun H' s => .of (s _ _ e)
  · cases e1
    subst hr
    exact ⟨a, vs, e2, e3, h, fun K H' hk => .of (hk _ _ hT e3)⟩
theorem IsR.tupS {G0 H0 G H : Hp} {ρ : Ro} {σ : Sg} {v : V} {xs : List D} (R : Rep T G0 H0 ρ σ G H) (h : IsR r T G H v (.tuple xs)) : ∃ a vs, v = V.ref a ∧ H a = some (.tup vs) ∧ IsAll T G vs xs ∧ ∀ K, Stb r T G H (fun H => SqT K H a vs) := by
  obtain ⟨a, vs, rfl, e, h⟩ := h.tup
  refine ⟨_, _, rfl, R.sub _ _ e, h, fun K => ?_⟩
  cases r with
  | true => exact fun H' hk => .of (hk _ _ (fun z => by rw [R.tg _ z] at e; cases e) (R.sub _ _ e))
  | false => exact fun H' s => .of (s _ _ e)
theorem si_enum (hg : Gl X "enumerate") (hm : X.mg "enumerate" = none) (ha : SndE X T r a fa) (hs : starEach [a] X.env = [(false, eval a X.env)]) :
    SndI X T r (.Tuple elts kk tpos) (.Call (.Name "enumerate" p) [a] [] pos) (fun ρ => (fa ρ).bind fun x => (itemsD x).bind fun xs => .ret (.list (enumL 0 xs))) := by
  obtain ⟨ta, pa, qa⟩ := ha
  have hp : PA X [a] (tCons ta tNil) := pa_cons pa pa_nil (by rw [hs]; rfl)
  refine ⟨_, pi_enumD hg hm hp hs, fun G0 H0 ρ σ G H R Rp h => ?_⟩
  rw [Out.All_bind] at h
  refine qa G0 H0 ρ σ G H _ Rp (h.mono fun d hd v G1 H1 k i => ?_)
  obtain ⟨xs, ex, hd'⟩ := All_items hd
  obtain ⟨zs, ez, hd2⟩ := hd'
  cases ez
  have R1 := Rp.step k
  cases d <;> simp only [itemsD] at ex <;> try (cases ex; done)
  case list ys =>
    cases ex
    obtain ⟨p', vs, rfl, gp, iv, st⟩ := i.listS R1
    exact ⟨p', vs, rfl, .inl ⟨.of gp, hd2 _ _ _ G1 H1 k (walkOf_enum gp iv) (st _)⟩⟩
  case tuple ys =>
    cases ex
    obtain ⟨p', vs, rfl, gp, iv, st⟩ := i.tupS R1
    exact ⟨p', vs, rfl, .inr ⟨.of gp, hd2 _ _ _ G1 H1 k (walkOf_enumT gp iv) (st _)⟩⟩
  case dict kvs =>
    rcases kvs with _ | ⟨⟨a, b⟩, _ | ⟨c, q⟩⟩ <;> (try (cases ex; done)) <;> cases a <;> (try (cases ex; done)) <;> cases b <;> (try (cases ex; done))
    cases ex
    obtain ⟨a, vs, o, rfl, ga, iv⟩ := i.scr
    refine ⟨a, vs, rfl, .inl ⟨.inl (.inr ⟨o, k.gh _ _ ga⟩), hd2 _ _ _ G1 H1 k (walkOf_enumF (k.gh _ _ ga) iv) ?_⟩⟩
    cases r with
    | true => exact fun H' hk => .inl (.inr ⟨o, hk _ _ (fun z => by rw [R1.tg _ z] at ga; cases ga) (k.gh _ _ ga)⟩)
    | false => exact fun H' s => .inl (.inr ⟨o, s _ _ ga⟩)
end
end Ev

set_option Elab.async false
set_option linter.all false
set_option autoImplicit false
set_option maxRecDepth 100000
set_option maxHeartbeats 400000
namespace Ev
open PySem PyProof.Rows L2
/-! ### zip(a list, a tuple) -/
def ItLT (K : PySem.W.Frag) (a b : Addr) : It where
  go := fun i H => ∃ (us ws : List V) (u w : V), SqL K H a us ∧ SqT K H b ws ∧ us[i]? = some u ∧ ws[i]? = some w
  yld := fun i H v H' => ∃ t u w, v = .ref t ∧ H t = none ∧ H' = upd H t (.tup [u, w]) ∧ (∀ us, SqL K H a us → us[i]? = some u) ∧ ∀ ws, SqT K H b ws → ws[i]? = some w
  stop := fun i H => ∃ us ws : List V, SqL K H a us ∧ SqT K H b ws ∧ i = min us.length ws.length
/-- the cells of the zip lie apart -/
structure ApLT (z t o i j a b : Addr) : Prop where
  nd : [z, t, o, i, j].Nodup
  na : a ∉ [z, t, o, i, j]
  nb : b ∉ [z, t, o, i, j]
theorem ApLT.sep {z t o i j a b : Addr} (D : ApLT z t o i j a b) : ZipSep2 z t o i j [i, a] [j, b] := by
  obtain ⟨nd, na, nb⟩ := D
  simp only [List.nodup_cons, List.mem_cons, List.not_mem_nil, or_false, not_or] at nd na nb
  constructor <;> simp <;> grind
abbrev StLT (z t o i j a b : Addr) (k : Nat) (h : Heap) : Prop := IsZip h z t o .none ∧ IsTupOf2 h t (.ref i) (.ref j) ∧ (∃ x y, IsTupOf2 h o x y) ∧ h.IsListIter i a k ∧ h.IsTupleIter j b k
theorem turn_zipLT {P : Program} {w : World} {K : PySem.W.Frag} {elts : List Expr} {kk : Nat} {tpos : Pos} {a b z t o i1 i2 : Addr} (D : ApLT z t o i1 i2 a b) : Turn P w K (.Tuple elts kk tpos) (ItLT K a b) [z, t, o, i1, i2] z (StLT z t o i1 i2 a b) where
  mem := List.mem_cons_self
  obj := fun i h st c hc => by
    obtain ⟨h1, h2, ⟨x, y, h3⟩, ⟨u1, e1, _, d1⟩, ⟨u2, e2, _, d2⟩⟩ := st
    simp only [List.mem_cons, List.not_mem_nil, or_false] at hc
    rcases hc with rfl | rfl | rfl | rfl | rfl
    · exact ⟨_, h1, fun v q => by cases q⟩
    · exact ⟨_, h2, fun v q => by cases q⟩
    · exact ⟨_, h3, fun v q => by cases q⟩
    · exact ⟨u1, e1, fun v q => by rw [q] at d1; cases d1⟩
    · exact ⟨u2, e2, fun v q => by rw [q] at d2; cases d2⟩
  keep := fun i h h' st k => by
    obtain ⟨h1, h2, ⟨x, y, h3⟩, h4, h5⟩ := st
    refine ⟨k _ (by simp) _ h1, k _ (by simp) _ h2, ⟨x, y, k _ (by simp) _ h3⟩, ?_, ?_⟩
    · exact h4.at fun u q => k _ (by simp) u q
    · exact h5.at fun u q => k _ (by simp) u q
  item := by
    intro X hP hw hK hc n pins s σ H E I hf st hg
    subst hP hw hK
    obtain ⟨h1, h2, ⟨x0, y0, h3⟩, h4, h5⟩ := st
    obtain ⟨us, ws, u, v, qu, qw, eu, ew⟩ := hg
    obtain ⟨l1, r1, p1, _⟩ := I.list qu
    obtain ⟨l2, r2, p2, _⟩ := I.tuple qw
    obtain ⟨c, hcu, ru⟩ := r1.get eu
    obtain ⟨d, hdw, rw'⟩ := r2.get ew
    have S := D.sep
    have ne1 : a ≠ i1 := fun e => D.na (by simp [e])
    have ne2 : b ≠ i2 := fun e => D.nb (by simp [e])
    have zlt : z < s.heap.objs.size := Heap.lt_size h1
    refine wpAny_pyNext_zipD2_item S (Draws.list (A := X.A.in1) (I.ok.hd hc) i1 a ne1 l1.toArray) (Draws.tuple (A := X.A.in1) (I.ok.hd hc) i2 b ne2 l2.toArray) h1 h2 h3 ⟨h4, p1.isList⟩ ⟨h5, p2⟩ (by simpa using (List.getElem?_eq_some_iff.mp hcu).1) (by simpa using (List.getElem?_eq_some_iff.mp hdw).1) ?_
    intro y1 y2 h' tk e1 e2 g1 g2 d1 d2 g5 g6 g7
    have e1 : c = y1 := by
      have e1 : l1.toArray[n]? = some y1 := e1
      simp only [List.getElem?_toArray] at e1
      rw [hcu] at e1; exact Option.some.inj e1
    have e2 : d = y2 := by
      have e2 : l2.toArray[n]? = some y2 := e2
      simp only [List.getElem?_toArray] at e2
      rw [hdw] at e2; exact Option.some.inj e2
    subst e1 e2
    refine ⟨_, rfl, wpAny_letOwnedTupleGo_zip (s := { s with heap := h', toks := tk }) g1 fun h2' z2 sb => ?_⟩
    have up : ∀ x o', x ≠ z → h'.get? x = some o' → h2'.get? x = some o' := fun x o' hx e => (sb.2 x hx).trans e
    have hT2 := up _ _ (Nat.ne_of_gt zlt) g5
    have new : ObjOk X.prog X.w (upd H s.heap.objs.size (.tup [u, v])) h2' s.heap.objs.size (.tup [u, v]) := ⟨by show 2 ≤ sizeLine; decide, [c, d], .cons ru (.cons rw' .nil), ⟨_, hT2, rfl, _, rfl⟩⟩
    have I1 : Inv X pins σ (upd H s.heap.objs.size (.tup [u, v])) { s with heap := h2', toks := tk } := I.turnedNew (t' := tk) (ch := [z, t, o, i1, i2]) (fun x o' hb q => up x o' (fun q' => hb (by simp [q'])) (g7 x o' (fun q' => hb (by simp [q'])) (fun q' => hb (by simp [q'])) (fun q' => hb (by simp [q'])) (fun q' => hb (by simp [q'])) q)) hf (Nat.le_refl _) new
    refine ⟨.ref s.heap.objs.size, _, I1, rfl, ⟨_, u, v, rfl, I.hok.fresh (Nat.le_refl _), rfl, fun l hl => ?_, fun l hl => ?_⟩, ⟨z2, up _ _ S.TIz (g7 _ _ S.TIz S.TITO S.TIi1 S.TIi2 h2), ⟨c, d, up _ _ S.TOz g2⟩, ?_, ?_⟩, fun x hx => ?_⟩
    · rw [I.list_inj hl qu]; exact eu
    · rw [I.tuple_inj hl qw]; exact ew
    · exact d1.1.at fun o' q => up _ o' S.zi1.symm q
    · exact d2.1.at fun o' q => up _ o' S.zi2.symm q
    · have hlt : x < s.heap.objs.size := by
        simp only [List.mem_cons, List.not_mem_nil, or_false] at hx
        rcases hx with rfl | rfl | rfl | rfl | rfl
        · exact zlt
        · exact Heap.lt_size h2
        · exact Heap.lt_size h3
        · exact Heap.lt_size h4.choose_spec.1
        · exact Heap.lt_size h5.choose_spec.1
      rw [upd_ne (Nat.ne_of_lt hlt)]
      exact (hf x hx).1
  done := by
    intro X hP hw hK hc n pins s σ H E I hf st hg
    subst hP hw hK
    obtain ⟨h1, h2, ⟨x0, y0, h3⟩, h4, h5⟩ := st
    obtain ⟨us, ws, qu, qw, he⟩ := hg
    obtain ⟨l1, r1, p1, _⟩ := I.list qu
    obtain ⟨l2, r2, p2, _⟩ := I.tuple qw
    have ne1 : a ≠ i1 := fun e => D.na (by simp [e])
    have ne2 : b ≠ i2 := fun e => D.nb (by simp [e])
    have z1 := r1.length
    have z2 := r2.length
    refine wpAny_pyNext_zipD2_end D.sep (Draws.list (A := X.A.in1) (I.ok.hd hc) i1 a ne1 l1.toArray) (Draws.tuple (A := X.A.in1) (I.ok.hd hc) i2 b ne2 l2.toArray) h1 h2 h3 ⟨h4, p1.isList⟩ ⟨h5, p2⟩ (by simp; omega) (by simp; omega) (by simp; omega) fun h' tk g => ?_
    refine ⟨rfl, I.turnedL (t' := tk) (ch := [z, t, o, i1, i2]) (fun x o' hb q => g x o' (fun q' => hb (by simp [q'])) (fun q' => hb (by simp [q'])) (fun q' => hb (by simp [q'])) (fun q' => hb (by simp [q'])) q) hf⟩
  self := fun A i s Q E st h => wpAny_pyIter_zip st.1 h
theorem ap_new (n a b : Addr) (ha : a < n) (hb : b < n) : ApLT (n + 4) (n + 2) (n + 3) n (n + 1) a b := by
  have e : ∀ x : Nat, x < n → ¬ x ∈ ([n + 4, n + 2, n + 3, n, n + 1] : List Nat) := fun x hx h => by
    simp only [List.mem_cons, List.not_mem_nil, or_false] at h
    omega
  refine ⟨?_, e a ha, e b hb⟩
  show ([n + 4, n + 2, n + 3, n, n + 1] : List Nat).Nodup
  simp only [List.nodup_cons, List.mem_cons, List.not_mem_nil, or_false, not_or]
  refine ⟨⟨?_, ?_, ?_, ?_⟩, ⟨?_, ?_, ?_⟩, ⟨?_, ?_⟩, ?_, not_false, List.nodup_nil⟩ <;> omega
abbrev cells5 (n : Addr) : List Addr := [n + 4, n + 2, n + 3, n, n + 1]
theorem cells5_le {n c : Nat} (h : c ∈ cells5 n) : n ≤ c := by
  simp only [cells5, List.mem_cons, List.not_mem_nil, or_false] at h
  omega
/-- zip(a, b): of two lists, of two tuples, of a list and a tuple -/
def iZip3 (K : PySem.W.Frag) (ta : TA) : TI := fun σ H R => ta σ H fun vs H1 => ∃ a b us ws, vs = [.ref a, .ref b] ∧ ((SqL K H1 a us ∧ SqL K H1 b ws ∧ R (Itz K a b) H1) ∨ (SqT K H1 a us ∧ SqT K H1 b ws ∧ R (RZ.ItzT K a b) H1) ∨ (SqL K H1 a us ∧ SqT K H1 b ws ∧ R (ItLT K a b) H1))
theorem pi_zip3 {X : Cx} {e f : Expr} {ta : TA} {p q tpos : Pos} {elts : List Expr} {kk : Nat} (hg : Gl X "zip") (hm : X.mg "zip" = none) (ha : PA X [e, f] ta) (hs : starEach [e, f] X.env = (false, eval e X.env) :: starEach [f] X.env) (hb : (backTo q (starEach [f] X.env)).any (·.1) = false) :
    PI X (.Tuple elts kk tpos) (.Call (.Name "zip" p) [e, f] [] q) (iZip3 X.K ta) := by
  constructor
  intro pins s σ H R I h
  refine Call_ (ld_blt I hg hm PyProof.Rows.boot_zip (PyProof.Rows.callWith_type1 (thn (ha.run q pins s σ H _ I h) fun xs s2 ⟨vs, G, J, rv, hq⟩ => ?_) hs hb))
  obtain ⟨a, b, us, ws, rfl, hq⟩ := hq
  cases rv with
  | cons ra rv =>
    cases ra
    cases rv with
    | cons rb rv =>
      cases rb
      cases rv
      have fr : ∀ c, c ∈ cells5 s2.heap.objs.size → FpOk X pins G c := fun c hc => J.fpOk (cells5_le hc) (J.hok.fresh (cells5_le hc))
      rcases hq with ⟨q1, q2, hR⟩ | ⟨q1, q2, hR⟩ | ⟨q1, q2, hR⟩
      · obtain ⟨l1, r1, p1, _⟩ := J.list q1
        obtain ⟨l2, r2, p2, _⟩ := J.list q2
        refine zip_begins2 (begins_list a l1.toArray) (begins_list b l2.toArray) p1.isList p2.isList fun h' g1 g2 g3 g4 g5 g6 g7 => wpAny_pyIter_zip g1 ?_
        have I2 : Inv X pins σ G { s2 with heap := h' } := J.kept (t' := s2.toks) g7
        exact ⟨s2.heap.objs.size + 4, cells5 s2.heap.objs.size, _, _, G, rfl, I2, turn_zip (PySem.W.ktu_apart s2.heap.objs.size a b p1.lt p2.lt), ⟨g1, g2, ⟨_, _, g3⟩, ⟨_, g4, rfl, rfl⟩, ⟨_, g5, rfl, rfl⟩⟩, fr, hR⟩
      · obtain ⟨l1, r1, p1, _⟩ := J.tuple q1
        obtain ⟨l2, r2, p2, _⟩ := J.tuple q2
        have la : a < s2.heap.objs.size := Heap.lt_size p1.choose_spec.1
        have lb : b < s2.heap.objs.size := Heap.lt_size p2.choose_spec.1
        refine zip_begins2 (begins_tuple a l1.toArray) (begins_tuple b l2.toArray) p1 p2 fun h' g1 g2 g3 g4 g5 g6 g7 => wpAny_pyIter_zip g1 ?_
        have I2 : Inv X pins σ G { s2 with heap := h' } := J.kept (t' := s2.toks) g7
        exact ⟨s2.heap.objs.size + 4, cells5 s2.heap.objs.size, _, _, G, rfl, I2, RZ.turn_zipT (PySem.W.ktu_apart s2.heap.objs.size a b la lb), ⟨g1, g2, ⟨_, _, g3⟩, ⟨_, g4, rfl, rfl⟩, ⟨_, g5, rfl, rfl⟩⟩, fr, hR⟩
      · obtain ⟨l1, r1, p1, _⟩ := J.list q1
        obtain ⟨l2, r2, p2, _⟩ := J.tuple q2
        have la : a < s2.heap.objs.size := p1.lt
        have lb : b < s2.heap.objs.size := Heap.lt_size p2.choose_spec.1
        refine zip_begins2 (begins_list a l1.toArray) (begins_tuple b l2.toArray) p1.isList p2 fun h' g1 g2 g3 g4 g5 g6 g7 => wpAny_pyIter_zip g1 ?_
        have I2 : Inv X pins σ G { s2 with heap := h' } := J.kept (t' := s2.toks) g7
        exact ⟨s2.heap.objs.size + 4, cells5 s2.heap.objs.size, _, _, G, rfl, I2, turn_zipLT (ap_new _ a b la lb), ⟨g1, g2, ⟨_, _, g3⟩, ⟨_, g4, rfl, rfl⟩, ⟨_, g5, rfl, rfl⟩⟩, fr, hR⟩
end Ev

set_option Elab.async false
set_option linter.all false
set_option autoImplicit false
set_option maxRecDepth 100000
set_option maxHeartbeats 2000000
namespace Ev
open PySem L2
/-! ### zip(a, b) -/
section
variable {X : Cx} {T : Option Addr} {r : Bool} {a b tg : Expr} {fa fb : Ro → Out D} {p pos tpos : Pos} {elts : List Expr} {kk : Nat}
theorem Stb.and {G1 H1 : Hp} {P Q : Hp → Prop} (h : Stb r T G1 H1 P) (k : Stb r T G1 H1 Q) : Stb r T G1 H1 (fun H => P H ∧ Q H) := by
  cases r with
  | true => exact fun H' z => ⟨h H' z, k H' z⟩
  | false => exact fun H' z => ⟨h H' z, k H' z⟩
theorem walk_zipT {K : PySem.W.Frag} {a b : Addr} {xs ys : List V} : Walk (RZ.ItzT K a b) (min xs.length ys.length) (fun H => SqT K H a xs ∧ SqT K H b ys) (YPair (fun i => xs[i]?) (fun i => ys[i]?)) := by
  refine ⟨fun i _ hi q => ?_, fun _ q => ⟨xs, ys, q.1, q.2, by omega⟩, fun i H v H' _ q y => ?_⟩
  · have l1 : i < xs.length := by omega
    have l2 : i < ys.length := by omega
    exact ⟨xs, ys, xs[i], ys[i], q.1, q.2, by simp [l1], by simp [l2]⟩
  · obtain ⟨t0, x, z, e1, e2, e3, e4, e5⟩ := y
    exact ⟨t0, x, z, e1, e2, e3, e4 xs q.1, e5 ys q.2⟩
theorem zip_turn {G1 G2 H H' : Hp} {vs us : List V} {xs ys : List D} {j : Nat} {x : V} (i1 : IsAll T G1 vs xs) (i2 : IsAll T G1 us ys) (y : YPair (fun i => vs[i]?) (fun i => us[i]?) j H x H') (s1 : Sub G1 G2) (s2 : Sub G2 H) (t : TubOk T H) :
    ∃ G3 d, (zipL xs ys)[j]? = some d ∧ Stp T G2 H G3 H' ∧ Is T G3 x d := by
  obtain ⟨t0, x0, y0, rfl, hT, hH, e1, e2⟩ := y
  obtain ⟨d, z1, hd⟩ := i1.get' e1
  obtain ⟨e, z2, he⟩ := i2.get' e2
  obtain ⟨G3, k, hi⟩ := pair_step s2 t hT hH (Is.mono s1 _ _ hd) (Is.mono s1 _ _ he)
  exact ⟨G3, _, zipL_get xs ys j d e z1 z2, k, hi⟩
theorem walkOf_zip {K : PySem.W.Frag} {G1 H1 : Hp} {a b : Addr} {vs us : List V} {xs ys : List D} (h1 : SqL K H1 a vs) (h2 : SqL K H1 b us) (i1 : IsAll T G1 vs xs) (i2 : IsAll T G1 us ys) :
    WalkOf T G1 H1 (Itz K a b) (zipL xs ys) (fun H => SqL K H a vs ∧ SqL K H b us) (YPair (fun i => vs[i]?) (fun i => us[i]?)) := by
  refine ⟨by rw [zipL_length, ← i1.length, ← i2.length]; exact walk_zip rfl, ⟨h1, h2⟩, fun j H x H' G2 hj hG y s1 s2 t => ?_⟩
  obtain ⟨G3, d, e, k, hi⟩ := zip_turn i1 i2 y s1 s2 t
  exact ⟨G3, d, e, k, hi⟩
theorem walkOf_zipT {K : PySem.W.Frag} {G1 H1 : Hp} {a b : Addr} {vs us : List V} {xs ys : List D} (h1 : SqT K H1 a vs) (h2 : SqT K H1 b us) (i1 : IsAll T G1 vs xs) (i2 : IsAll T G1 us ys) :
    WalkOf T G1 H1 (RZ.ItzT K a b) (zipL xs ys) (fun H => SqT K H a vs ∧ SqT K H b us) (YPair (fun i => vs[i]?) (fun i => us[i]?)) := by
  refine ⟨by rw [zipL_length, ← i1.length, ← i2.length]; exact walk_zipT, ⟨h1, h2⟩, fun j H x H' G2 hj hG y s1 s2 t => ?_⟩
  obtain ⟨G3, d, e, k, hi⟩ := zip_turn i1 i2 y s1 s2 t
  exact ⟨G3, d, e, k, hi⟩
theorem walk_zipLT {K : PySem.W.Frag} {a b : Addr} {us ws : List V} : Walk (ItLT K a b) (min us.length ws.length) (fun H => SqL K H a us ∧ SqT K H b ws) (YPair (fun i => us[i]?) (fun i => ws[i]?)) := by
  refine ⟨fun i _ hi q => ?_, fun _ q => ⟨us, ws, q.1, q.2, rfl⟩, fun i H v H' _ q y => ?_⟩
  · exact ⟨us, ws, us[i]'(by omega), ws[i]'(by omega), q.1, q.2, List.getElem?_eq_getElem _, List.getElem?_eq_getElem _⟩
  · obtain ⟨t, x, z, e1, e2, e3, e4, e5⟩ := y
    exact ⟨t, x, z, e1, e2, e3, e4 us q.1, e5 ws q.2⟩
theorem walkOf_zipLT {K : PySem.W.Frag} {G1 H1 : Hp} {a b : Addr} {vs us : List V} {xs ys : List D} (h1 : SqL K H1 a vs) (h2 : SqT K H1 b us) (i1 : IsAll T G1 vs xs) (i2 : IsAll T G1 us ys) :
    WalkOf T G1 H1 (ItLT K a b) (zipL xs ys) (fun H => SqL K H a vs ∧ SqT K H b us) (YPair (fun i => vs[i]?) (fun i => us[i]?)) := by
  refine ⟨by rw [zipL_length, ← i1.length, ← i2.length]; exact walk_zipLT, ⟨h1, h2⟩, fun j H x H' G2 hj hG y s1 s2 t => ?_⟩
  obtain ⟨G3, d, e, k, hi⟩ := zip_turn i1 i2 y s1 s2 t
  exact ⟨G3, d, e, k, hi⟩
theorem si_zip (hg : Gl X "zip") (hm : X.mg "zip" = none) (ha : SndE X T r a fa) (hb : SndE X T r b fb) (hs : starEach [a, b] X.env = (false, eval a X.env) :: starEach [b] X.env) (hs2 : starEach [b] X.env = [(false, eval b X.env)]) :
    SndI X T r (.Tuple elts kk tpos) (.Call (.Name "zip" p) [a, b] [] pos) (fun ρ => (fa ρ).bind fun x => (fb ρ).bind fun y => zipD x y) := by
  obtain ⟨ta, pa, qa⟩ := ha
  obtain ⟨tb, pb, qb⟩ := hb
  have hp : PA X [a, b] (tCons ta (tCons tb tNil)) := pa_cons pa (pa_cons pb pa_nil (by rw [hs2]; rfl)) hs
  refine ⟨_, pi_zip3 hg hm hp hs (by rw [hs2]; rfl), fun G0 H0 ρ σ G H R Rp h => ?_⟩
  rw [Out.All_bind] at h
  refine qa G0 H0 ρ σ G H _ Rp (h.mono fun x hx v G1 H1 k1 i1 => ?_)
  have R1 := Rp.step k1
  rw [Out.All_bind] at hx
  refine qb G0 H0 ρ σ G1 H1 _ R1 (hx.mono fun y hy u G2 H2 k2 i2 => ?_)
  have R2 := R1.step k2
  have i1' := i1.step k2
  have k := k1.trans k2 Rp.tub
  cases x <;> cases y <;> simp only [zipD] at hy <;> try exact hy.elim
  case list.list xs ys =>
    obtain ⟨zs, ez, hd⟩ := hy
    cases ez
    obtain ⟨p1, vs, rfl, g1, v1, s1⟩ := i1'.listS R2
    obtain ⟨p2, us, rfl, g2, v2, s2⟩ := i2.listS R2
    exact ⟨p1, p2, vs, us, rfl, .inl ⟨.of g1, .of g2, hd _ _ _ G2 H2 k (walkOf_zip (.of g1) (.of g2) v1 v2) ((s1 _).and (s2 _))⟩⟩
  case tuple.tuple xs ys =>
    obtain ⟨zs, ez, hd⟩ := hy
    cases ez
    obtain ⟨p1, vs, rfl, g1, v1, s1⟩ := i1'.tupS R2
    obtain ⟨p2, us, rfl, g2, v2, s2⟩ := i2.tupS R2
    exact ⟨p1, p2, vs, us, rfl, .inr (.inl ⟨.of g1, .of g2, hd _ _ _ G2 H2 k (walkOf_zipT (.of g1) (.of g2) v1 v2) ((s1 _).and (s2 _))⟩)⟩
  case list.tuple xs ys =>
    obtain ⟨zs, ez, hd⟩ := hy
    cases ez
    obtain ⟨p1, vs, rfl, g1, v1, s1⟩ := i1'.listS R2
    obtain ⟨p2, us, rfl, g2, v2, s2⟩ := i2.tupS R2
    exact ⟨p1, p2, vs, us, rfl, .inr (.inr ⟨.of g1, .of g2, hd _ _ _ G2 H2 k (walkOf_zipLT (.of g1) (.of g2) v1 v2) ((s1 _).and (s2 _))⟩)⟩
end
end Ev

set_option Elab.async false
set_option linter.all false
set_option autoImplicit false
set_option maxRecDepth 100000
set_option maxHeartbeats 4000000
namespace Ev
open PySem L2

/-! ### what is sound of an expression -/
def onlyL (f : Ro → Out D) : Ro → Out D := fun ρ => (f ρ).bind fun d => match d with
  | .list xs => .ret (.list xs)
  | _ => .bad
theorem All_onlyL {f : Ro → Out D} {ρ : Ro} {P : D → Prop} : (onlyL f ρ).All P ↔ (f ρ).All fun d => ∃ xs, d = .list xs ∧ P (.list xs) := by
  unfold onlyL
  rw [Out.All_bind]
  constructor
  · exact fun h => h.mono fun d hd => by
      cases d <;> first | exact hd.elim | exact ⟨_, rfl, hd⟩
  · exact fun h => h.mono fun d ⟨xs, e, hd⟩ => by subst e; exact hd
def SndW (X : Cx) (T : Option Addr) (ast : Expr) (f : Ro → Out D) : Prop := ∃ t : TT, PW X ast t ∧ ∀ (G0 H0 : Hp) (ρ : Ro) (σ : Sg) (G H : Hp) (Q : Bool → Hp → Prop), Rep T G0 H0 ρ σ G H → (f ρ).All (PostT T G H Q) → t σ H Q
theorem SndW.t {X : Cx} {T : Option Addr} {ast : Expr} {f : Ro → Out D} (h : SndW X T ast f) : SndT X T ast f := by
  obtain ⟨t, p, q⟩ := h
  exact ⟨t, p.pt, q⟩
def frE : E → Bool
  | .bin .add _ _ => true
  | .bin .mul _ _ => true
  | .lst _ => true
  | .rev _ => true
  | .blt .list _ => true
  | .blt .sorted _ => true
  | .lc .. => true
  | .lc2 .. => true
  | .dsort _ => true
  | .lrng _ _ => true
  | _ => false
structure SE (X : Cx) (T : Option Addr) (Γ : Env) (E : E) (x : Expr) : Prop where
  e : ∀ r, SndE X T r x (ev Γ r E)
  t : SndT X T x (tst (ev Γ true E))
  f : frE E = true → SndF X T x (onlyL (ev Γ false E))
  w : ∀ op ys p, x = .BoolOp op ys p → SndW X T x (tst (ev Γ true E))
def plainT : Expr → Bool
  | .UnaryOp .Not _ _ => false
  | .BoolOp .. => false
  | .IfExp .. => false
  | .Compare .. => false
  | _ => true
theorem plainT_is {x : Expr} {env : PySem.Env} (h : plainT x = true) (whole : Sem Value) : isTrue x env whole = (do let v ← whole; standAt x.pos; holding [v] (truthy v)) := by
  cases x <;> first | rfl | (simp only [plainT] at h; done) | skip
  case UnaryOp op a p => cases op <;> first | rfl | (simp only [plainT] at h; cases h)
  all_goals (simp only [plainT] at h; cases h)
theorem SE.plain {X : Cx} {T : Option Addr} {Γ : Env} {E : E} {x : Expr} (h : ∀ r, SndE X T r x (ev Γ r E)) (hp : plainT x = true) (hf : frE E = true → SndF X T x (onlyL (ev Γ false E))) : SE X T Γ E x :=
  ⟨h, snd_test (h true) (fun whole => plainT_is hp whole), hf, fun op ys p e => by subst e; simp only [plainT] at hp; cases hp⟩

/-! ### comparisons -/
def SndC (X : Cx) (T : Option Addr) (op : CmpOp) (a b : Expr) (f : Ro → Out D) : Prop :=
  ∃ t : TE, PC X op a b t ∧ ∀ (G0 H0 : Hp) (ρ : Ro) (σ : Sg) (G H : Hp) (Q : VK), Rep T G0 H0 ρ σ G H → (f ρ).All (PostE false T G H Q) → t σ H Q
section
variable {X : Cx} {T : Option Addr} {r : Bool} {a b : Expr} {pos : Pos} {f g fa fb : Ro → Out D} {op : CmpOp}
theorem SndC.e (h : SndC X T op a b f) (hm : behindInMarks op b = false) : SndE X T r (.Compare a [op] [b] pos) f := by
  obtain ⟨t, p, q⟩ := h
  exact SndE.read ⟨t, pe_cmp p hm, q⟩
theorem SndC.t (h : SndC X T op a b f) (hm : behindInMarks op b = false) : SndT X T (.Compare a [op] [b] pos) (tst f) := by
  obtain ⟨t, p, q⟩ := h
  refine ⟨_, pt_cmp p hm, fun G0 H0 ρ σ G H Q R h => ?_⟩
  rw [All_tst] at h
  refine q G0 H0 ρ σ G H _ R (h.mono fun d ⟨bb, e, hd⟩ v G1 H1 k1 i1 => ?_)
  subst e
  exact ⟨bb, i1.bool, hd bb G1 H1 rfl k1⟩
theorem SndC.weaken (h : SndC X T op a b f) (w : ∀ (ρ : Ro) (P : D → Prop), (g ρ).All P → (f ρ).All P) : SndC X T op a b g := by
  obtain ⟨t, p, q⟩ := h
  exact ⟨t, p, fun G0 H0 ρ σ G H Q R h => q G0 H0 ρ σ G H Q R (w ρ _ h)⟩
theorem pc_op2 {q : R2} {ta tb : TE} (ho : OpR X (compareOp op) q) (pa : PE X a ta) (pb : PE X b tb) : PC X op a b (tOp q ta tb) := ⟨fun pins s σ H Q I h =>
  thn (pa.run pins s σ H _ I h) fun v s1 ⟨x, H1, I1, r1, q1⟩ => thn (pb.run pins s1 σ H1 _ I1 q1) fun u s2 ⟨y, H2, I2, r2, q2⟩ => ho pins s2 σ H2 x y v u Q I2 r1 r2 q2⟩
theorem sc_op2 {g : D → D → Out D} {q : R2} (ho : OpR X (compareOp op) q) (ha : SndE X T true a fa) (hb : SndE X T true b fb) (e2 : Op2 T g q) : SndC X T op a b (fun ρ => (fa ρ).bind fun x => (fb ρ).bind fun y => g x y) := by
  obtain ⟨ta, pa, qa⟩ := ha
  obtain ⟨tb, pb, qb⟩ := hb
  refine ⟨_, pc_op2 ho pa pb, fun G0 H0 ρ σ G H Q R h => ?_⟩
  rw [Out.All_bind] at h
  refine qa G0 H0 ρ σ G H _ R (h.mono fun x hx v G1 H1 k1 i1 => ?_)
  rw [Out.All_bind] at hx
  refine qb G0 H0 ρ σ G1 H1 _ (R.step k1) (hx.mono fun y hy u G2 H2 k2 i2 => ?_)
  have k := k1.trans k2 R.tub
  exact e2 G2 H2 x y v u _ k2.gh k2.tub (i1.step k2) i2 (hy.mono fun d hd => PostE.trans hd k R.tub)
theorem sc_isn {gg : Bool} {j : Nat} {p2 : Pos} (ha : SndE X T true a fa) : SndC X T (if gg then .IsNot else .Is) a (.Constant .none j p2) (fun ρ => (fa ρ).bind fun x => .ret (.bool (match x with | .none => !gg | _ => gg))) := by
  obtain ⟨ta, pa, qa⟩ := ha
  have key : ∀ (v : V) (x : D) (G H : Hp), IsR true T G H v x → decide (v = .non) = (match x with | .none => true | _ => false) := fun v x G H i => by
    cases x with
    | none => rw [i.none]; rfl
    | _ =>
      refine decide_eq_false fun e => ?_
      subst e
      rcases i with i | ⟨_, a, vs, xs, _, e, _⟩
      · cases i
      · cases e
  cases gg with
  | false =>
    refine ⟨_, pc_isN pa, fun G0 H0 ρ σ G H Q R h => ?_⟩
    rw [Out.All_bind] at h
    refine qa G0 H0 ρ σ G H _ R (h.mono fun x hx v G1 H1 k1 i1 => ?_)
    show Q (V.bl (decide (v = .non))) H1
    rw [key v x G1 H1 i1]
    refine PostE.now k1.gh k1.tub (PostE.trans hx k1 R.tub) ?_
    cases x <;> exact .bl _
  | true =>
    refine ⟨_, pc_notN pa, fun G0 H0 ρ σ G H Q R h => ?_⟩
    rw [Out.All_bind] at h
    refine qa G0 H0 ρ σ G H _ R (h.mono fun x hx v G1 H1 k1 i1 => ?_)
    show Q (V.bl (!decide (v = .non))) H1
    rw [key v x G1 H1 i1]
    refine PostE.now k1.gh k1.tub (PostE.trans hx k1 R.tub) ?_
    cases x <;> exact .bl _
theorem sc_ist {gg bb : Bool} {j : Nat} {p2 : Pos} (ha : SndE X T true a fa) : SndC X T (if gg then .IsNot else .Is) a (.Constant (.bool bb) j p2) (fun ρ => (fa ρ).bind fun x => (asBool x).bind fun c => .ret (.bool (if c = bb then !gg else gg))) := by
  obtain ⟨ta, pa, qa⟩ := ha
  cases gg with
  | false =>
    refine ⟨_, pc_op2 (op := .Is) op_isBl pa pe_bl, fun G0 H0 ρ σ G H Q R h => ?_⟩
    rw [Out.All_bind] at h
    refine qa G0 H0 ρ σ G H _ R (h.mono fun x hx v G1 H1 k1 i1 => ?_)
    cases x <;> simp only [asBool] at hx <;> try exact hx.elim
    rename_i c
    refine ⟨c, bb, i1.bool, rfl, PostE.now k1.gh k1.tub (PostE.trans hx k1 R.tub) ?_⟩
    by_cases e : c = bb <;> simp only [e, if_true, if_false, decide_true, decide_false, Bool.not_false] <;> exact .bl _
  | true =>
    refine ⟨_, pc_op2 (op := .IsNot) op_notBl pa pe_bl, fun G0 H0 ρ σ G H Q R h => ?_⟩
    rw [Out.All_bind] at h
    refine qa G0 H0 ρ σ G H _ R (h.mono fun x hx v G1 H1 k1 i1 => ?_)
    cases x <;> simp only [asBool] at hx <;> try exact hx.elim
    rename_i c
    refine ⟨c, bb, i1.bool, rfl, PostE.now k1.gh k1.tub (PostE.trans hx k1 R.tub) ?_⟩
    by_cases e : c = bb <;> simp only [e, if_true, if_false, decide_true, decide_false, Bool.not_true, Bool.not_false] <;> exact .bl _
theorem sc_repEq {n : Nat} {gg : Bool} {p1 p2 q1 q2 : Pos} {op : CmpOp} (hop : op = if gg then .NotEq else .Eq) (hr : Room n X.A) (hg : X.A.guards = some []) (hgl : Gl X "repr") (hm : X.mg "repr" = none) (hb : bootBuiltins "repr" = some (.builtin "repr")) (ha : SndE X T true a fa) (hb2 : SndE X T true b fb)
    (hns : notStarE a = true) (hns2 : notStarE b = true) :
    SndC X T op (.Call (.Name "repr" p1) [a] [] q1) (.Call (.Name "repr" p2) [b] [] q2) (fun ρ => (fa ρ).bind fun x => .guard (repOk x) ((fb ρ).bind fun y => .guard (sameD x y) (.ret (.bool (!gg))))) := by
  have h1 := snd_repr (r := true) (p1 := p1) (q1 := q1) hr hg hgl hm hb ha hns
  have h2 := snd_repr (r := true) (p1 := p2) (q1 := q2) hr hg hgl hm hb hb2 hns2
  subst hop
  cases gg with
  | true => exact SndC.weaken (sc_op2 op_ne h1 h2 o2_strNe) fun ρ P h => rep_imp ρ P h
  | false => exact SndC.weaken (sc_op2 op_eq h1 h2 o2_strEq) fun ρ P h => rep_imp ρ P h
theorem SE.cmp {Γ : Env} {E : E} {op : CmpOp} (h : SndC X T op a b (ev Γ true E)) (hr : ∀ r, ev Γ r E = ev Γ true E) (hm : behindInMarks op b = false) (hf : frE E = false) : SE X T Γ E (.Compare a [op] [b] pos) :=
  ⟨fun r => by rw [hr r]; exact h.e hm, h.t hm, fun e => (by rw [hf] at e; cases e), fun _ _ _ e => (by cases e)⟩
end
end Ev

set_option Elab.async false
set_option linter.all false
set_option autoImplicit false
set_option maxRecDepth 100000
set_option maxHeartbeats 4000000
namespace Ev
open PySem L2

/-! ### the checker -/
inductive Nd where
  | e (x : Expr)
  | i (tg x : Expr)
  | l (xs : List Expr)
  | k (ks : List Keyword)
def Nd.x : Nd → Option Expr
  | .e x => some x
  | .i _ x => some x
  | _ => none
structure Ck where
  τ : Tab
  N : List Str
  kws : List (Nat × Nat × List Str × List Nat)
  fr : Bool
structure Sx where
  sc : Scope
  all : Bool
  raw : Scope
def Sx.fn (S : Sx) (x : Str) : Bool := S.all || (match S.raw.names.lookup x with | some .cell => true | _ => false)
def relS (scope sc : Scope) : Scope := { scope with names := scope.names.map fun (n, k) => if (k == .free && sc.kind == .function && sc.names.lookup n == some .cell) then (n, .cell) else (n, k) }
def Sx.into (S : Sx) (scope : Scope) : Sx := ⟨relS scope S.sc, false, scope⟩
def visB (S : Sx) (x : Str) : Bool := match S.sc.names.lookup x with
  | some .local => true
  | some .cell => true
  | some .free => true
  | _ => false
def locB (S : Sx) (x : Str) : Bool := match S.sc.names.lookup x with
  | some .local => true
  | some .cell => S.fn x
  | _ => false
def glB (S : Sx) (x : Str) : Bool := match S.sc.names.lookup x with
  | some .globalImplicit => true
  | _ => false
def nmB (C : Ck) (S : Sx) (i : Nat) (x : Str) : Bool := decide (C.N[i]? = some x) && (visB S x && (!(x == ("__debug__" : Str)) && !(x == ("__classdict__" : Str))))
def bopA : Bop → Operator
  | .add => .Add
  | .sub => .Sub
  | .mul => .Mult
  | .fdiv => .FloorDiv
  | .mod => .Mod
  | .pow => .Pow
def copA : Cop → CmpOp
  | .eq => .Eq
  | .ne => .NotEq
  | .lt => .Lt
  | .le => .LtE
  | .gt => .Gt
  | .ge => .GtE
  | .inn => .In
  | .nin => .NotIn
def bltN : Blt → String
  | .len => "len"
  | .sum => "sum"
  | .max => "max"
  | .min => "min"
  | .all => "all"
  | .any => "any"
  | .tuple => "tuple"
  | .list => "list"
  | .sorted => "sorted"
  | .abs => "abs"
  | .int => "int"
  | .divmod => "divmod"
def conB : D → Const → Bool
  | .int i, .int j => decide (i = j)
  | .bool i, .bool j => i == j
  | .str i, .str j => decide (i = j)
  | .none, .none => true
  | _, _ => false
def isB (S : Sx) (nm x : Str) : Bool := decide (x = nm) && glB S nm
def notSetE : Expr → Bool
  | .Set .. => false
  | _ => true
def plainIxB : Expr → Bool
  | .Slice .. => false
  | _ => true
def yesE : E → Bool
  | .con (.bool true) => true
  | _ => false
def tailE (op : BoolOp) (y : Expr) (p : Pos) : List Expr → Expr
  | [] => y
  | z :: r => .BoolOp op (y :: z :: r) p
mutual
def chkG (C : Ck) (S : Sx) : Tg → Expr → Bool
  | .nm i, .Name x _ => decide (C.N[i]? = some x) && locB S x
  | .nil, .Tuple es _ _ => es.isEmpty
  | .cons g gs, .Tuple es _ _ => chkGs C S (.cons g gs) es
  | _, _ => false
def chkGs (C : Ck) (S : Sx) : Tg → List Expr → Bool
  | .nil, [] => true
  | .cons g gs, e :: es => notStarE e && (chkG C S g e && chkGs C S gs es)
  | _, _ => false
end
/-- what stands ahead of a dot -/
def baseB : Expr → Bool
  | .Name .. => true
  | .Subscript .. => true
  | _ => false
def Γof (C : Ck) (n : Nat) : Env := ⟨callT C.τ n, callB C.τ n true, C.τ.glob⟩
def chk (C : Ck) : E → Sx → Nd → Bool
  | .con d, _, nd => match nd.x with
    | some (.Constant c _ _) => conB d c
    | _ => false
  | .glb g, S, nd => match nd.x with
    | some (.Name x _) => decide (x = g) && (glB S x && !(x == ("__debug__" : Str)))
    | _ => false
  | .var i, S, nd => match nd.x with
    | some (.Name x _) => nmB C S i x
    | _ => false
  | .pk i, S, nd => match nd.x with
    | some (.Name x _) => nmB C S i x
    | _ => false
  | .bin o a b, S, nd => match nd.x with
    | some (.BinOp x op y _) => decide (op = bopA o) && (chk C a S (.e x) && chk C b S (.e y))
    | _ => false
  | .neg a, S, nd => match nd.x with
    | some (.UnaryOp op x _) => decide (op = .USub) && chk C a S (.e x)
    | _ => false
  | .not a, S, nd => match nd.x with
    | some (.UnaryOp op x _) => decide (op = .Not) && chk C a S (.e x)
    | _ => false
  | .and a b, S, nd => match nd.x with
    | some (.BoolOp op (x :: y :: r) p) => decide (op = .And) && (chk C a S (.e x) && chk C b S (.e (tailE .And y p r)))
    | _ => false
  | .or a b, S, nd => match nd.x with
    | some (.BoolOp op (x :: y :: r) p) => decide (op = .Or) && (chk C a S (.e x) && chk C b S (.e (tailE .Or y p r)))
    | _ => false
  | .cmp o a b, S, nd => match nd.x with
    | some (.Compare x [op] [y] _) => decide (op = copA o) && (notSetE y && (chk C a S (.e x) && chk C b S (.e y)))
    | _ => false
  | .chain o p a b c, S, nd => match nd.x with
    | some (.Compare x [op, op'] [y, z] _) => decide (op = copA o) && (decide (op' = copA p) && (notSetE z && (chk C a S (.e x) && (chk C b S (.e y) && chk C c S (.e z)))))
    | _ => false
  | .isn g a, S, nd => match nd.x with
    | some (.Compare x [op] [.Constant .none _ _] _) => decide (op = if g then .IsNot else .Is) && chk C a S (.e x)
    | _ => false
  | .ist g a b, S, nd => match nd.x with
    | some (.Compare x [op] [.Constant (.bool b') _ _] _) => decide (op = if g then .IsNot else .Is) && (b == b' && chk C a S (.e x))
    | _ => false
  | .ite c a b, S, nd => match nd.x with
    | some (.IfExp z x y _) => chk C c S (.e z) && (chk C a S (.e x) && chk C b S (.e y))
    | _ => false
  | .nil, _, nd => match nd with
    | .l [] => true
    | .k [] => true
    | _ => false
  | .cons a b, S, nd => match nd with
    | .l (x :: xs) => notStarE x && (chk C a S (.e x) && chk C b S (.l xs))
    | .k (x :: xs) => chk C a S (.e x.value) && chk C b S (.k xs)
    | _ => false
  | .star a b, S, nd => match nd with
    | .l (.Starred x _ :: xs) => chk C a S (.e x) && chk C b S (.l xs)
    | _ => false
  | .tup a, S, nd => match nd.x with
    | some (.Tuple xs _ _) => chk C a S (.l xs)
    | _ => false
  | .lst a, S, nd => match nd.x with
    | some (.List xs _) => chk C a S (.l xs)
    | _ => false
  | .idx a b, S, nd => match nd.x with
    | some (.Subscript x y _) => plainIxB y && (chk C a S (.e x) && chk C b S (.e y))
    | _ => false
  | .slc a lo hi, S, nd => match nd.x with
    | some (.Subscript x (.Slice l h none _) _) => chk C a S (.e x) && ((match l with | none => isNilE lo | some e => !isNilE lo && chk C lo S (.e e)) && (match h with | none => isNilE hi | some e => !isNilE hi && chk C hi S (.e e)))
    | _ => false
  | .rev a, S, nd => match nd.x with
    | some (.Subscript x (.Slice none none (some (.UnaryOp .USub (.Constant (.int z) _ _) _)) _) _) => decide (z = 1) && chk C a S (.e x)
    | _ => false
  | .call f a, S, nd => match nd.x with
    | some (.Call (.Name x _) xs [] _) => (match C.τ.fns[f]? with | some F => decide (F.name = x) | none => false) && (glB S x && (!(x == ("__debug__" : Str)) && (xs.all notStarE && chk C a S (.l xs))))
    | _ => false
  | .callk f m k perm a b, S, nd => match nd.x with
    | some (.Call (.Name x _) xs ks _) => (match C.τ.fns[f]? with | some F => decide (F.name = x) | none => false) && (glB S x && (!(x == ("__debug__" : Str)) && (xs.all notStarE && (chk C a S (.l xs) &&
        (chk C b S (.k ks) && (match kwNames ks with | some l => decide ((f, m, l, perm) ∈ C.kws) && decide (k = l.length) | none => false) && decide (xs.length = m))))))
    | _ => false
  | .blt b a, S, nd => match nd.x with
    | some (.Call (.Name x _) (y :: ys) [] _) => isB S (bltN b) x && ((y :: ys).all notStarE && chk C a S (.l (y :: ys)))
    | _ => false
  | .isi t a, S, nd => match nd.x with
    | some (.Call (.Name x _) [y, .Name z _] [] _) => isB S "isinstance" x && (isB S (tyName t) z && (notStarE y && chk C a S (.e y)))
    | _ => false
  | .repEq g a b, S, nd => match nd.x with
    | some (.Compare (.Call (.Name x1 _) [y1] [] _) [op] [.Call (.Name x2 _) [y2] [] _] _) => decide (op = if g then .NotEq else .Eq) && (isB S "repr" x1 && (isB S "repr" x2 && (notStarE y1 && (notStarE y2 && (chk C a S (.e y1) && chk C b S (.e y2))))))
    | _ => false
  | .lc own g it c elt, S, nd => match nd.x with
    | some (.ListComp y [⟨tg, iter, ifs, z⟩] scope _) => decide (z = 0) && (notSetE iter && (chk C it S (.i tg iter) && (blkC C.N S.sc scope (own.map fun i => ((C.N[i]?).getD "", i)) && (chkG C (S.into scope) g tg && (g.inside own &&
        ((match ifs with | [] => yesE c | [t] => chk C c (S.into scope) (.e t) | _ => false) && chk C elt (S.into scope) (.e y)))))))
    | _ => false
  | .lc2 own own2 g it g2 it2 elt, S, nd => match nd.x with
    | some (.ListComp y [⟨tg, iter, [], z⟩, ⟨tg1, iter1, [], z1⟩] scope _) => decide (z = 0) && (decide (z1 = 0) && (notSetE iter && (notSetE iter1 && (chk C it S (.i tg iter) && (blkC C.N S.sc scope (own.map fun i => ((C.N[i]?).getD "", i)) && (chkG C (S.into scope) g tg && (g.inside own &&
        (chkG C (S.into scope) g2 tg1 && (g2.inside own2 && ((own2.all fun i => decide (i ∈ own)) && (chk C it2 (S.into scope) (.i tg1 iter1) && chk C elt (S.into scope) (.e y))))))))))))
    | _ => false
  | .rng1 a, S, nd => match nd with
    | .i _ (.Call (.Name x _) [y] [] _) => isB S "range" x && (notStarE y && chk C a S (.e y))
    | _ => false
  | .rng2 a b, S, nd => match nd with
    | .i _ (.Call (.Name x _) [y, z] [] _) => isB S "range" x && (notStarE y && (notStarE z && (chk C a S (.e y) && chk C b S (.e z))))
    | _ => false
  | .rng3 .., _, _ => false
  | .enum a, S, nd => match nd with
    | .i (.Tuple _ _ _) (.Call (.Name x _) [y] [] _) => isB S "enumerate" x && (notStarE y && chk C a S (.e y))
    | _ => false
  | .zip a b, S, nd => match nd with
    | .i (.Tuple _ _ _) (.Call (.Name x _) [y, z] [] _) => isB S "zip" x && (notStarE y && (notStarE z && (chk C a S (.e y) && chk C b S (.e z))))
    | _ => false
  | .tix i j, S, nd => match nd.x with
    | some (.Subscript (.Name x _) (.Constant (.int z) _ _) _) => decide (z = (j : Int)) && nmB C S i x
    | _ => false
  | .din g k i, S, nd => match nd.x with
    | some (.Compare x [op] [.Name y _] _) => decide (op = if g then .NotIn else .In) && (nmB C S i y && chk C k S (.e x))
    | _ => false
  | .dget i k, S, nd => match nd.x with
    | some (.Subscript (.Name y _) x _) => nmB C S i y && (plainIxB x && chk C k S (.e x))
    | _ => false
  | .dgetd i k z, S, nd => match nd.x with
    | some (.Call (.Attribute (.Name y _) m apos) [a, b] [] cpos) => decide (m = "get") && (nmB C S i y && ((apos.endLine == cpos.line) && (notStarE a && (notStarE b && (chk C k S (.e a) && chk C z S (.e b))))))
    | _ => false
  | .dlen i, S, nd => match nd.x with
    | some (.Call (.Name f _) [.Name y _] [] _) => isB S "len" f && nmB C S i y
    | _ => false
  | .dsort i, S, nd => match nd.x with
    | some (.Call (.Name f _) [.Name y _] [] _) => isB S "sorted" f && nmB C S i y
    | _ => false
  | .row i e, S, nd => match nd.x with
    | some (.Subscript (.Name x _) y _) => nmB C S i x && (plainIxB y && chk C e S (.e y))
    | _ => false
  | .rows i, S, nd => match nd.x with
    | some (.Call (.Name f _) [.Name y _] [] _) => isB S "len" f && nmB C S i y
    | _ => false
  | .lrng a b, S, nd => match nd.x with
    | some (.Call (.Name f _) [.Call (.Name x _) [y, z] [] _] [] _) => isB S "list" f && (isB S "range" x && (notStarE y && (notStarE z && (chk C a S (.e y) && chk C b S (.e z)))))
    | _ => false
  | .mkx x k par fld kw a, S, nd => match nd.x with
    | some (.Call (.Name y _) [e] [] _) => !kw && (decide (y = x) && (glB S x && (!(x == ("__debug__" : Str)) && (decide ((x, k, par, fld) ∈ C.τ.xc.mks) && (notStarE e && chk C a S (.e e))))))
    | some (.Call (.Name y _) [] [⟨some q, e, _⟩] _) => kw && (decide (y = x) && (decide (q = par) && (glB S x && (!(x == ("__debug__" : Str)) && (decide ((x, k, par, fld) ∈ C.τ.xc.mks) && chk C a S (.e e))))))
    | _ => false
  | .mk0 x k, S, nd => match nd.x with
    | some (.Call (.Name y _) [] [] _) => decide (y = x) && (glB S x && (!(x == ("__debug__" : Str)) && decide ((x, k) ∈ C.τ.xc.mk0s)))
    | _ => false
  | .isx x yes no a, S, nd => match nd.x with
    | some (.Call (.Name f _) [y, .Name z _] [] _) => isB S "isinstance" f && (decide (z = x) && (glB S x && (!(x == ("__debug__" : Str)) && (decide ((x, yes, no) ∈ C.τ.xc.isxs) && (notStarE y && chk C a S (.e y))))))
    | _ => false
  | .xat f cs a, S, nd => match nd.x with
    | some (.Attribute e g _) => decide (g = f) && (decide ((f, cs) ∈ C.τ.xc.xats) && (baseB e && chk C a S (.e e)))
    | _ => false
  | .drw fr ft a, S, nd => match nd.x with
    | some (.Call (.Name x2 _) [.Call (.Name x _) (y :: ys) [] _] [] _) => (match C.τ.fns[fr]? with | some F => decide (F.name = x2) | none => false) && ((match C.τ.fns[ft]? with | some F => decide (F.name = x) | none => false) && (decide (ft ∈ C.τ.news) &&
        (glB S x && (glB S x2 && (!(x == ("__debug__" : Str)) && (!(x2 == ("__debug__" : Str)) && ((y :: ys).all notStarE && chk C a S (.l (y :: ys)))))))))
    | _ => false
end Ev

set_option Elab.async false
set_option linter.all false
set_option autoImplicit false
set_option maxRecDepth 100000
set_option maxHeartbeats 4000000
namespace Ev
open PySem L2

/-- what is known of own exceptions -/
structure XcOk (P : Program) (K : PySem.W.Frag) (mg : Str → Option Value) (xc : Xc) : Prop where
  mks : ∀ x C par fld, (x, C, par, fld) ∈ xc.mks → mg x = some (.ref C) ∧ mg "super" = none ∧ ∃ (fI : Addr) (B newId i : String) (bmB : List Value) (fd : FuncData), Exn.MkFacts P K C fI B newId i bmB par fld fd
  mk0s : ∀ x C, (x, C) ∈ xc.mk0s → mg x = some (.ref C) ∧ ∃ (B newId i : String) (bmB : List Value), Exn.Mk0Facts K C B newId i bmB
  isxs : ∀ x yes no, (x, yes, no) ∈ xc.isxs → ∃ cv : Value, ((∃ k : Addr, cv = .ref k ∧ mg x = some cv) ∨ (∃ t : String, cv = .type t ∧ mg x = none ∧ bootBuiltins x = some cv ∧ x ≠ "__name__")) ∧
    (∀ c ∈ yes, ExcC K c ∧ PySem.W.kitOne K (.ref c) cv = some true) ∧ (∀ c ∈ no, ExcC K c ∧ PySem.W.kitOne K (.ref c) cv = some false)
  xats : ∀ f cs, (f, cs) ∈ xc.xats → ∀ c ∈ cs, XfC K c ∧ PySem.W.findIn K (.ref c) f = some none
structure Gd (C : Ck) (n : Nat) (S : Sx) (X : Cx) : Prop where
  calm : X.calm = true
  nd : X.N.Nodup
  hN : X.N = C.N
  room : Room n X.A
  gua : X.A.guards = some []
  sc : X.env.scope = S.sc
  fn : ∀ x, S.fn x = true → X.fn x = true
  blt : ∀ x ∈ bltNames, X.mg x = none
  glob : ∀ x d, C.τ.glob x = some d → ∃ u v, X.mg x = some u ∧ RelV v u ∧ ∀ T G, Is T G v d
  fns : ∀ f F, C.τ.fns[f]? = some F → ∃ a fd, FnG X.prog X.w X.K X.mg X.base n a fd F.ps (callT C.τ n f) ∧ X.mg F.name = some (.ref a) ∧ PySem.W.keepIn X.K (.ref a) = true ∧ Binds X.K fd F.ps [] ∧
    ∀ m ks perm, (f, m, ks, perm) ∈ C.kws → KwB X.K fd F.ps m ks perm
  news : ∀ f F, C.τ.fns[f]? = some F → f ∈ C.τ.news → ∃ a fd, FnL X.prog X.w X.K X.mg X.base n a fd F.ps (callB C.τ n true f) ∧ X.mg F.name = some (.ref a) ∧ PySem.W.keepIn X.K (.ref a) = true ∧ Binds X.K fd F.ps []
  xc : XcOk X.prog X.K X.mg C.τ.xc
theorem Gd.blk {C : Ck} {n : Nat} {S : Sx} {X : Cx} (g : Gd C n S X) (s : Shared) (H : Hp) (scope : Scope) (cl : List (Str × Addr)) (c : Addr) (fp : List Addr) : Gd C n (S.into scope) (X.blk s H scope (compEnvC scope cl c X.env) fp) where
  calm := g.calm
  nd := g.nd
  hN := g.hN
  room := g.room
  gua := g.gua
  sc := by
    show relabel scope X.env = relS scope S.sc
    rw [← g.sc]
    rfl
  fn := fun x h => by
    show (scope.names.lookup x == some .cell) = true
    simp only [Sx.fn, Sx.into, Bool.false_or] at h
    split at h
    · rename_i e; rw [e]; rfl
    · cases h
  blt := g.blt
  glob := g.glob
  fns := g.fns
  news := g.news
  xc := g.xc
section
variable {C : Ck} {n : Nat} {S : Sx} {X : Cx} {T : Option Addr} {x : Str} {i : Nat}
theorem Gd.vis (g : Gd C n S X) (h : visB S x = true) : Vis X.env.scope x := by
  rw [g.sc]
  unfold visB at h
  split at h
  · rename_i e; exact .inl e
  · rename_i e; exact .inr (.inl e)
  · rename_i e; exact .inr (.inr e)
  · cases h
theorem Gd.gl (g : Gd C n S X) (h : glB S x = true) : Gl X x := by
  show X.env.scope.names.lookup x = some .globalImplicit
  rw [g.sc]
  unfold glB at h
  split at h
  · assumption
  · cases h
theorem Gd.isB {nm : Str} (g : Gd C n S X) (h : isB S nm x = true) : x = nm ∧ Gl X nm := by
  unfold Ev.isB at h
  rw [Bool.and_eq_true, decide_eq_true_eq] at h
  exact ⟨h.1, g.gl h.2⟩
theorem not_t {b : Bool} (h : (!b) = true) : b = false := by cases b <;> first | rfl | cases h
theorem Gd.nm (g : Gd C n S X) (h : nmB C S i x = true) : X.N[i]? = some x ∧ Vis X.env.scope x ∧ (x == ("__debug__" : Str)) = false ∧ (x == ("__classdict__" : Str)) = false := by
  unfold nmB at h
  simp only [Bool.and_eq_true, decide_eq_true_eq] at h
  rw [g.hN]
  exact ⟨h.1, g.vis h.2.1, not_t h.2.2.1, not_t h.2.2.2⟩
/-! ### targets -/
theorem Gd.loc (g : Gd C n S X) (h : locB S x = true) : L2.Loc X.env.scope x ∧ (X.fn x = true ∨ X.env.scope.names.lookup x = some .local) := by
  rw [show X.env.scope = S.sc from g.sc]
  unfold locB at h
  split at h
  · rename_i e; exact ⟨.inl e, .inr e⟩
  · rename_i e; exact ⟨.inr e, .inl (g.fn _ h)⟩
  · cases h
theorem ae_cons {e : Expr} {es : List Expr} {env : PySem.Env} (h : notStarE e = true) : assignEach (e :: es) env = (false, assign e env) :: assignEach es env := by
  cases e <;> first | rfl | cases h
theorem listG_of : ∀ {gs : Tg} {es : List Expr}, chkGs C S gs es = true → listG gs = true
  | .nil, _, _ => rfl
  | .nm _, es, h => by cases es <;> simp only [chkGs] at h <;> cases h
  | .cons g gs, [], h => by simp only [chkGs] at h; cases h
  | .cons g gs, e :: es, h => by
    simp only [chkGs, Bool.and_eq_true] at h
    exact listG_of (gs := gs) h.2.2
theorem lenG_of {env : PySem.Env} : ∀ {gs : Tg} {es : List Expr}, chkGs C S gs es = true → (assignEach es env).length = lenG gs ∧ (assignEach es env).findIdx? (·.1) = none
  | .nil, [], _ => ⟨rfl, rfl⟩
  | .nil, _ :: _, h => by simp only [chkGs] at h; cases h
  | .nm _, es, h => by cases es <;> simp only [chkGs] at h <;> cases h
  | .cons g gs, [], h => by simp only [chkGs] at h; cases h
  | .cons g gs, e :: es, h => by
    simp only [chkGs, Bool.and_eq_true] at h
    obtain ⟨h1, h2⟩ := lenG_of (env := env) (gs := gs) h.2.2
    rw [ae_cons h.1]
    refine ⟨by simp [lenG, h1], ?_⟩
    rw [List.findIdx?_cons, h2]
    rfl
mutual
theorem chkG_ok (g : Gd C n S X) : ∀ (tg : Tg) (x : Expr), chkG C S tg x = true → SndG X T x tg
  | .nm i, x, h => by
    cases x <;> simp only [chkG] at h <;> try cases h
    rename_i y p
    rw [Bool.and_eq_true, decide_eq_true_eq] at h
    obtain ⟨h1, h2⟩ := h
    obtain ⟨l1, l2⟩ := g.loc h2
    exact sg_nm g.nd (by rw [g.hN]; exact h1) l1 l2
  | .nil, x, h => by
    cases x <;> simp only [chkG] at h <;> try cases h
    rename_i es k p
    cases es with
    | cons => cases h
    | nil => exact sg_tup g.calm rfl sgs_nil rfl rfl
  | .cons a b, x, h => by
    cases x <;> simp only [chkG] at h <;> try cases h
    rename_i es k p
    obtain ⟨h1, h2⟩ := lenG_of (env := X.env) h
    exact sg_tup g.calm (listG_of h) (chkGs_ok g _ _ h) h1 h2
theorem chkGs_ok (g : Gd C n S X) : ∀ (tg : Tg) (es : List Expr), chkGs C S tg es = true → PGs X es (gGs T tg)
  | .nil, [], _ => sgs_nil
  | .nil, _ :: _, h => by simp only [chkGs] at h; cases h
  | .nm _, es, h => by cases es <;> simp only [chkGs] at h <;> cases h
  | .cons a b, [], h => by simp only [chkGs] at h; cases h
  | .cons a b, e :: es, h => by
    simp only [chkGs, Bool.and_eq_true] at h
    exact sgs_cons (chkG_ok g a e h.2.1) (chkGs_ok g b es h.2.2) (by rw [ae_cons h.1]; rfl)
end
/-! ### operations -/
theorem bin_ok {o : Bop} {a b : Expr} {pos : Pos} {fa fb : Ro → Out D} {r : Bool} (ha : SndE X T true a fa) (hb : SndE X T true b fb) : SndE X T r (.BinOp a (bopA o) b pos) (fun ρ => (fa ρ).bind fun x => (fb ρ).bind fun y => binD o x y) := by
  cases o with
  | add => exact snd2 ha hb (fun ta tb pa pb => pe_op or_add pa pb) o2_add
  | sub => exact snd2 ha hb (fun ta tb pa pb => pe_op op_sub pa pb) o2_sub
  | mul => exact snd2 ha hb (fun ta tb pa pb => pe_op or_mulA pa pb) o2_mulA
  | fdiv => exact snd2 ha hb (fun ta tb pa pb => pe_op op_fdivW pa pb) o2_fdiv
  | mod => exact snd2 ha hb (fun ta tb pa pb => pe_op op_mod pa pb) o2_mod
  | pow => exact snd2 ha hb (fun ta tb pa pb => pe_op op_pow pa pb) o2_pow
theorem o2_mulF {K : PySem.W.Frag} : Op2F T (fun x y => match x with | .list _ => binD .mul x y | _ => .bad) (rMulD K) := by
  intro G H x y v u Q s t ix iy h
  cases x <;> cases y <;> simp only [binD] at h <;> try exact h.elim
  case list.int xs k =>
    rw [Out.All_guard] at h
    obtain ⟨hl, h⟩ := h
    simp only [Bool.and_eq_true, decide_eq_true_eq] at hl
    obtain ⟨l1, l2, l3⟩ := hl
    obtain ⟨p, vs, rfl, gp, iv⟩ := ix.list s
    refine .inr ⟨p, k, vs, rfl, iy.int, gp, by omega, by omega, ?_, fun p' hp => PostF.laid s t h hp (iv.rep _)⟩
    rw [iv.length, sizeLine_eq]
    have : xs.length * k.toNat ≤ 1000 * 1000 := Nat.mul_le_mul l1 (by omega)
    omega
theorem SndF.weaken {f g : Ro → Out D} {ast : Expr} (h : SndF X T ast f) (w : ∀ (ρ : Ro) (P : D → Prop), (g ρ).All P → (f ρ).All P) : SndF X T ast g := by
  obtain ⟨t, p, q⟩ := h
  exact ⟨t, p, fun G0 H0 ρ σ G H Q R h => q G0 H0 ρ σ G H Q R (w ρ _ h)⟩
theorem SndF.only {f : Ro → Out D} {ast : Expr} (h : SndF X T ast f) : SndF X T ast (onlyL f) := h.weaken fun ρ P q => (All_onlyL.mp q).mono fun d ⟨xs, e, hd⟩ => by rw [e]; exact hd
theorem binF_ok {o : Bop} {a b : Expr} {pos : Pos} {fa fb : Ro → Out D} (ho : o = .add ∨ o = .mul) (ha : SndE X T true a fa) (hb : SndE X T true b fb) : SndF X T (.BinOp a (bopA o) b pos) (onlyL fun ρ => (fa ρ).bind fun x => (fb ρ).bind fun y => binD o x y) := by
  rcases ho with rfl | rfl
  · refine SndF.weaken (snd2F ha hb (fun ta tb pa pb => pe_op or_add pa pb) o2_addF) fun ρ P h => ?_
    rw [All_onlyL, Out.All_bind] at h
    rw [Out.All_bind]
    refine h.mono fun x hx => ?_
    rw [Out.All_bind] at hx ⊢
    refine hx.mono fun y hy => ?_
    cases x <;> cases y <;> simp only [binD] at hy <;> try exact hy.elim
    case int.int => obtain ⟨xs, e, _⟩ := hy; cases e
    case tuple.tuple => rw [Out.All_guard] at hy; obtain ⟨_, xs, e, _⟩ := hy; cases e
    case list.list =>
      simp only [binD]
      exact hy.mono fun d ⟨xs, e, hd⟩ => by rw [e]; exact hd
  · refine SndF.weaken (snd2F ha hb (fun ta tb pa pb => pe_op or_mul pa pb) o2_mulF) fun ρ P h => ?_
    rw [All_onlyL, Out.All_bind] at h
    rw [Out.All_bind]
    refine h.mono fun x hx => ?_
    rw [Out.All_bind] at hx ⊢
    refine hx.mono fun y hy => ?_
    cases x <;> cases y <;> simp only [binD] at hy <;> try exact hy.elim
    case int.int => rw [Out.All_guard] at hy; obtain ⟨_, xs, e, _⟩ := hy; cases e
    case tuple.int => rw [Out.All_guard] at hy; obtain ⟨_, xs, e, _⟩ := hy; cases e
    case list.int =>
      simp only [binD]
      exact hy.mono fun d ⟨xs, e, hd⟩ => by rw [e]; exact hd
theorem Gd.u64 (g : Gd C n S X) : X.A.units + 64 < cLine := by have := g.room.un; omega
theorem Gd.u1 (g : Gd C n S X) : X.A.units + 1 < cLine := by have := g.room.un; omega
theorem Gd.u65 (g : Gd C n S X) : X.A.units + 65 < cLine := by have := g.room.un; omega
theorem mark_of {op : CmpOp} {b : Expr} (h : notSetE b = true) : behindInMarks op b = false := by
  cases b <;> first | rfl | cases h
theorem cmp_ok {o : Cop} {a b : Expr} {fa fb : Ro → Out D} (g : Gd C n S X) (ha : SndE X T true a fa) (hb : SndE X T true b fb) : SndC X T (copA o) a b (fun ρ => (fa ρ).bind fun x => (fb ρ).bind fun y => cmpD o x y) := by
  cases o with
  | eq => exact sc_op2 (op_eqD g.u64) ha hb o2_eq
  | ne => exact sc_op2 (op_neD g.u64) ha hb o2_ne
  | lt => exact sc_op2 op_lt ha hb o2_lt
  | le => exact sc_op2 op_le ha hb o2_le
  | gt => exact sc_op2 op_gt ha hb o2_gt
  | ge => exact sc_op2 op_ge ha hb o2_ge
  | inn => exact sc_op2 (op_inS g.u65) ha hb o2_in
  | nin => exact sc_op2 (op_ninS g.u65) ha hb o2_nin
/-- the rule of a comparison -/
theorem cop_rule (g : Gd C n S X) (o : Cop) : ∃ q : R2, OpR X (compareOp (copA o)) q ∧ Op2 T (cmpD o) q := by
  cases o with
  | eq => exact ⟨_, op_eqD g.u64, o2_eq⟩
  | ne => exact ⟨_, op_neD g.u64, o2_ne⟩
  | lt => exact ⟨_, op_lt, o2_lt⟩
  | le => exact ⟨_, op_le, o2_le⟩
  | gt => exact ⟨_, op_gt, o2_gt⟩
  | ge => exact ⟨_, op_ge, o2_ge⟩
  | inn => exact ⟨_, op_inS g.u65, o2_in⟩
  | nin => exact ⟨_, op_ninS g.u65, o2_nin⟩
end
end Ev

set_option Elab.async false
set_option linter.all false
set_option autoImplicit false
set_option maxRecDepth 100000
set_option maxHeartbeats 4000000
namespace Ev
open PySem L2 PySem.Spec PyProof.Rows
/-! ### t[::-1] of a list, of a tuple -/
theorem adjust_back (n : Nat) : Builtin.Slice.sliceAdjust none none (-1) (n : Int) = ((n : Int) - 1, -1) := by
  unfold Builtin.Slice.sliceAdjust
  rw [if_pos (show (-1 : Int) < 0 by decide), if_pos (show (-1 : Int) < 0 by decide)]
  simp
theorem places_back (n : Nat) : Builtin.Slice.slicePlaces ((n : Int) - 1) (-1) (-1) = n := by
  unfold Builtin.Slice.slicePlaces
  rw [if_neg (show ¬ (-1 : Int) > 0 by decide)]
  by_cases h : (n : Int) - 1 > -1
  · rw [if_pos h, show (- -1 : Int) = 1 by decide, Int.ediv_one]
    omega
  · rw [if_neg h]
    omega
theorem fm_congr {α β : Type} {f g : α → Option β} : ∀ {l : List α}, (∀ x ∈ l, f x = g x) → l.filterMap f = l.filterMap g
  | [], _ => rfl
  | x :: r, h => by
    have e := h x List.mem_cons_self
    have ih := fm_congr (l := r) fun y hy => h y (List.mem_cons_of_mem _ hy)
    cases q : g x with
    | none => rw [List.filterMap_cons_none (e.trans q), List.filterMap_cons_none q, ih]
    | some b => rw [List.filterMap_cons_some (e.trans q), List.filterMap_cons_some q, ih]
theorem pick_back (xs : Array Value) : ((List.range xs.size).filterMap fun (k : Nat) => xs[((xs.size : Int) - 1 + (k : Int) * (-1)).toNat]?).toArray = xs.toList.reverse.toArray := by
  congr 1
  rw [← PySem.W.krv_all xs]
  rw [← List.filterMap_reverse]
  rw [← PySem.W.krv_range, List.filterMap_map]
  refine fm_congr fun k hk => ?_
  have := List.mem_range.mp hk
  show xs[((xs.size : Int) - 1 + (k : Int) * (-1)).toNat]? = xs[xs.size - 1 - k]?
  congr 1
  omega
section
variable {prog : Program} {w : World} {A : Around} {E : Value → Shared → Prop} {s : Shared}
theorem sliceApplied_back {sl : Addr} {vl vu vs : Value} {n : Nat} {Q : Int × Int × Nat → Shared → Prop} (hs : s.heap.IsSliceOf sl vl vu vs) (pl : IsPart vl none) (pu : IsPart vu none) (pk : IsPart vs (some (-1)))
    (h : Q ((n : Int) - 1, -1, n) s) : wpAny (model prog w) A (Builtin.Slice.sliceApplied (.ref sl) (pure (n : Int))) Q E s := by
  obtain ⟨os, hos, hcs, hds⟩ := id hs
  unfold Builtin.Slice.sliceApplied Builtin.Slice.sliceFields
  refine wpAny_bind (wpAny_bind (wpAny_field hos hds (x := vl) rfl (wpAny_bind (wpAny_field hos hds (x := vu) rfl (wpAny_bind (wpAny_field hos hds (x := vs) rfl (wpAny_pure ?_)))))))
  refine wpAny_bind (HT.slicePart_ pk ?_)
  show wpAny _ _ (if ((-1 : Int) == 0) = true then _ else _) _ _ s
  rw [if_neg (by decide)]
  refine wpAny_bind (HT.slicePart_ pl (wpAny_bind (HT.slicePart_ pu (wpAny_bind (wpAny_pure ?_)))))
  show wpAny _ _ (match Builtin.Slice.sliceAdjust none none (-1) (n : Int) with | (lo, hi) => pure (lo, (-1 : Int), Builtin.Slice.slicePlaces lo hi (-1))) _ _ s
  rw [adjust_back n]
  show wpAny _ _ (pure ((n : Int) - 1, (-1 : Int), Builtin.Slice.slicePlaces ((n : Int) - 1) (-1) (-1))) _ _ s
  rw [places_back]
  exact wpAny_pure h
theorem getItem_tuple_back {t sl : Addr} {items : Array Value} {vl vu vs : Value} {Q : Value → Shared → Prop} (ht : IsTup s.heap t items) (hs : s.heap.IsSliceOf sl vl vu vs) (pl : IsPart vl none) (pu : IsPart vu none) (pk : IsPart vs (some (-1)))
    (h : Q (.ref s.heap.objs.size) { s with heap := s.heap.push { cls := .type "tuple", data := .seq items.toList.reverse.toArray } })
    (hsz : items.size ≤ sizeLine) : wpAny (model prog w) A (getItem (.ref t) (.ref sl)) Q E s := by
  have htake : sizeOk (.seq items.toList.reverse.toArray) := by
    show items.toList.reverse.toArray.size ≤ sizeLine
    rw [List.size_toArray, List.length_reverse, Array.length_toList]
    exact hsz
  obtain ⟨os, hos, hcs, hds⟩ := id hs
  have hTs : s.TypeIs (.ref sl) "slice" := ⟨os, hos, hcs⟩
  unfold getItem
  try with_reducible refine wpAny_holding ?_
  first | refine wpAny_bind (wpAny_pure ?_) | skip
  refine wpAny_bind (wpAny_sequenceKey ht.typeIs (by decide) ?_)
  refine wpAny_bind (wpAny_callSpecial?_slot (name := Str.ofString "__getitem__") ht.typeIs PyProof.Rows.slot_tuple_getitem
    (wpAny_call_entry PyProof.Rows.slot_tuple_getitem ht.typeIs entry_tuple_getitem ?_ (args_tuple_getitem _ _)))
  show wpAny _ _ (Builtin.Tuple.tupleItemsOf (.ref t) >>= _) _ _ s
  refine wpAny_bind (tupleItemsOf_ ht ?_)
  refine wpAny_bind (wpAny_typeOf hTs ?_)
  rw [if_pos (by decide)]
  refine wpAny_bind (sliceApplied_back hs pl pu pk ?_)
  have hno : ¬ ((((items.size : Int) - 1) == 0 && (-1 : Int) == 1 && items.size == items.size) = true) := by
    intro q
    rw [Bool.and_eq_true, Bool.and_eq_true] at q
    exact absurd (eq_of_beq q.1.2) (by decide)
  show wpAny _ _ (if (((items.size : Int) - 1) == 0 && (-1 : Int) == 1 && items.size == items.size) = true then _ else _) _ _ s
  rw [if_neg hno, pick_back]
  first
    | exact wpAny_bind (m := Builtin.Tuple.tupleExact _) (wpAny_newObj_type (wpAny_pure ⟨_, rfl, wpAny_pure h⟩) htake)
    | exact wpAny_bind (m := Builtin.Tuple.tupleExact _) (wpAny_newObj_type (wpAny_bind (wpAny_pure (wpAny_pure ⟨_, rfl, wpAny_pure h⟩))) htake)
    | exact wpAny_bind (wpAny_bind (m := Builtin.Tuple.tupleExact _) (wpAny_newObj_type (wpAny_pure (wpAny_pure ⟨_, rfl, wpAny_pure h⟩)) htake))
    | exact wpAny_bind (wpAny_bind (m := Builtin.Tuple.tupleExact _) (wpAny_newObj_type (wpAny_pure ⟨_, rfl, wpAny_pure h⟩) htake))
end
section
variable {X : Cx} {T : Option Addr}
def tRevA (K : PySem.W.Frag) (te : TE) : TE := fun σ H Q => te σ H fun x H1 => ∃ a xs, x = .ref a ∧ ((SqL K H1 a xs ∧ ∀ p, H1 p = none → Q (.ref p) (upd H1 p (.lst xs.reverse))) ∨ (SqT K H1 a xs ∧ ∀ p, H1 p = none → Q (.ref p) (upd H1 p (.tup xs.reverse))))
theorem pe_revA {e : Expr} {te : TE} {k : Nat} {p1 p2 p3 pos : Pos} (he : PE X e te) : PE X (.Subscript e (.Slice none none (some (.UnaryOp .USub (.Constant (.int 1) k p1) p2)) p3) pos) (tRevA X.K te) := by
  refine ⟨fun pins s σ H Q I h => ?_⟩
  refine Subscript_ (thn (he.run pins s σ H _ I h) fun v s1 ⟨x, H1, I1, r1, q1⟩ => ?_)
  obtain ⟨a, xs, ex, hx⟩ := q1
  subst ex
  cases r1
  have hst : PO X (some (.UnaryOp .USub (.Constant (.int 1) k p1) p2)) (tPart (tUn (rU fun i => .int (-i)) (tC (.int 1)))) := po_some (pe_un un_neg pe_int)
  refine wpAny_Slice (thn (po_none.run pins s1 σ H1 (fun o H2 => o = none ∧ H2 = H1) I1 ⟨rfl, rfl⟩) fun vl s2 ⟨l, H2, I2, pl, el, e2⟩ => ?_)
  subst el e2
  refine thn (po_none.run pins s2 σ H2 (fun o H3 => o = none ∧ H3 = H2) I2 ⟨rfl, rfl⟩) fun vu s3 ⟨u, H3, I3, pu, eu, e3⟩ => ?_
  subst eu e3
  refine thn (hst.run pins s3 σ H3 (fun o H4 => o = some (-1) ∧ H4 = H3) I3 ⟨1, rfl, -1, rfl, rfl, rfl⟩) fun vs s4 ⟨o, H4, I4, ps, eo, e4⟩ => ?_
  subst eo e4
  have I5 : Inv X pins σ H4 { s4 with heap := s4.heap.push { cls := .type "slice", data := .fields #[vl, vu, vs] } } := I4.kept (t' := s4.toks) fun b ob q => Heap.get?_push_of_some _ q
  rcases hx with ⟨hx, q⟩ | ⟨hx, q⟩
  · obtain ⟨its, r, ht, hz⟩ := I5.list hx
    have hlen := r.length
    show wpAny (model X.prog X.w) X.A (subscriptTail e (.Slice none none (some (.UnaryOp .USub (.Constant (.int 1) k p1) p2)) p3) (.ref a) (.ref s4.heap.objs.size)) (EP X pins σ Q) X.xe { s4 with heap := s4.heap.push { cls := .type "slice", data := .fields #[vl, vu, vs] } }
    refine tail_any (ops := [.ref a, .ref s4.heap.objs.size]) ht.isList.typeIs (PySem.slot_list_getitem.lookup) ?_ (by with_unfolding_all rfl)
    refine wpAny_getItem_list_slice ht.isList (Heap.IsSliceOf.new _ vl vu vs) pl pu ps (by decide) ?_ (by rw [List.size_toArray]; omega)
    rw [PySem.W.krv_pick]
    refine ⟨.ref _, _, I5.laid (t' := s4.toks) (o := .lst xs.reverse) (fun b ob q => Heap.get?_push_of_some _ q) (Nat.le_refl _) ?_, rfl, q _ (I5.hok.fresh (Nat.le_refl _))⟩
    exact ⟨by rw [List.length_reverse]; exact hz, _, 0, r.reverse, Heap.get?_push_size _ rfl⟩
  · obtain ⟨its, r, ht, hz⟩ := I5.tuple hx
    have hlen := r.length
    show wpAny (model X.prog X.w) X.A (subscriptTail e (.Slice none none (some (.UnaryOp .USub (.Constant (.int 1) k p1) p2)) p3) (.ref a) (.ref s4.heap.objs.size)) (EP X pins σ Q) X.xe { s4 with heap := s4.heap.push { cls := .type "slice", data := .fields #[vl, vu, vs] } }
    refine tail_any (ops := [.ref a, .ref s4.heap.objs.size]) ht.typeIs (PyProof.Rows.slot_tuple_getitem.lookup) ?_ (by with_unfolding_all rfl)
    refine getItem_tuple_back ht (Heap.IsSliceOf.new _ vl vu vs) pl pu ps ?_ (by rw [List.size_toArray]; omega)
    refine ⟨.ref _, _, I5.laid (t' := s4.toks) (o := .tup xs.reverse) (fun b ob q => Heap.get?_push_of_some _ q) (Nat.le_refl _) ?_, rfl, q _ (I5.hok.fresh (Nat.le_refl _))⟩
    exact ⟨by rw [List.length_reverse]; exact hz, _, r.reverse, IsTup.new _ _⟩
theorem snd_revE {r : Bool} {a : Expr} {fa : Ro → Out D} {p1 p2 p3 pos : Pos} {k : Nat} (ha : SndE X T true a fa) : SndE X T r (.Subscript a (.Slice none none (some (.UnaryOp .USub (.Constant (.int 1) k p1) p2)) p3) pos) (fun ρ => (fa ρ).bind revD) := by
  obtain ⟨ta, pa, qa⟩ := ha
  refine ⟨_, pe_revA pa, fun G0 H0 ρ σ G H Q R h => ?_⟩
  rw [Out.All_bind] at h
  refine qa G0 H0 ρ σ G H _ R (h.mono fun x hx v G1 H1 k1 i1 => ?_)
  cases x <;> simp only [revD] at hx <;> try exact hx.elim
  · obtain ⟨p, vs, rfl, gp, iv⟩ := i1.list k1.gh
    exact ⟨p, vs, rfl, .inl ⟨.of gp, fun p' hp => PostF.laid k1.gh k1.tub (PostF.trans (PostE.ofF R.sub R.tub hx) k1 R.tub) hp iv.reverse⟩⟩
  · obtain ⟨p, vs, rfl, gp, iv⟩ := i1.tup
    exact ⟨p, vs, rfl, .inr ⟨.of (k1.gh _ _ gp), fun p' hp => PostE.laid k1.gh k1.tub (PostE.trans hx k1 R.tub) hp fun G' s' e => .tup e ((iv.mono s' _ _).reverse)⟩⟩
theorem snd_revO {a : Expr} {fa : Ro → Out D} {p1 p2 p3 pos : Pos} {k : Nat} (ha : SndE X T true a fa) : SndF X T (.Subscript a (.Slice none none (some (.UnaryOp .USub (.Constant (.int 1) k p1) p2)) p3) pos) (onlyL fun ρ => (fa ρ).bind revD) := by
  refine SndF.weaken (snd_revF ha) fun ρ P h => ?_
  obtain h := All_onlyL.mp h
  rw [Out.All_bind] at h ⊢
  refine h.mono fun x hx => ?_
  cases x <;> simp only [revD] at hx <;> try exact hx.elim
  · obtain ⟨xs, e, hd⟩ := hx
    cases e
    exact hd
  · obtain ⟨xs, e, hd⟩ := hx
    cases e
end
end Ev

set_option Elab.async false
set_option linter.all false
set_option autoImplicit false
set_option maxRecDepth 100000
set_option maxHeartbeats 4000000
namespace Ev
open PySem L2
section
variable {C : Ck} {n : Nat} {S : Sx} {X : Cx} {T : Option Addr}
theorem tOf_v {x : Expr} {f : Ro → Out D} {t : TE} (p : PT X x (tTest t)) (q : ∀ (G0 H0 : Hp) (ρ : Ro) (σ : Sg) (G H : Hp) (Q : VK), Rep T G0 H0 ρ σ G H → (f ρ).All (PostE false T G H Q) → t σ H Q) : SndT X T x (tst f) := by
  refine ⟨_, p, fun G0 H0 ρ σ G H Q R h => ?_⟩
  rw [All_tst] at h
  refine q G0 H0 ρ σ G H _ R (h.mono fun d ⟨bb, e, hd⟩ v G1 H1 k1 i1 => ?_)
  subst e
  exact ⟨bb, i1.bool, hd bb G1 H1 rfl k1⟩
theorem pt_ite {c a b : Expr} {pos : Pos} {tc ta tb : TT} (hc : PT X c tc) (ha : PT X a ta) (hb : PT X b tb) : PT X (.IfExp c a b pos) (fun σ H Q => tc σ H fun k H1 => if k = true then ta σ H1 Q else tb σ H1 Q) := by
  refine ⟨fun pins s σ H Q I h => PyProof.Rows.isTrue_IfExp (thn (hc.run pins s σ H _ I h) fun d s1 ⟨H1, I1, q1⟩ => ?_)⟩
  cases d with
  | true => exact ha.run pins s1 σ H1 Q I1 q1
  | false => exact hb.run pins s1 σ H1 Q I1 q1
theorem tst_ite {c a b : Expr} {pos : Pos} {fc fa fb : Ro → Out D} (hc : SndT X T c (tst fc)) (ha : SndT X T a (tst fa)) (hb : SndT X T b (tst fb)) : SndT X T (.IfExp c a b pos) (tst fun ρ => (fc ρ).bind fun x => (asBool x).bind fun
    | true => fa ρ
    | false => fb ρ) := by
  obtain ⟨tc, pc, qc⟩ := hc
  obtain ⟨ta, pa, qa⟩ := ha
  obtain ⟨tb, pb, qb⟩ := hb
  refine ⟨_, pt_ite pc pa pb, fun G0 H0 ρ σ G H Q R h => ?_⟩
  rw [All_tst, Out.All_bind] at h
  refine qc G0 H0 ρ σ G H _ R (All_tst.mpr (h.mono fun x hx => ?_))
  cases x <;> simp only [asBool] at hx <;> try exact hx.elim
  rename_i k
  refine ⟨k, rfl, fun k' G1 H1 e k1 => ?_⟩
  cases e
  cases k with
  | true =>
    rw [if_pos rfl]
    exact qa G0 H0 ρ σ G1 H1 _ (R.step k1) (All_tst.mpr (Out.All.mono (fun d ⟨bb, e, hd⟩ => ⟨bb, e, PostT.trans hd k1 R.tub⟩) hx))
  | false =>
    rw [if_neg Bool.false_ne_true]
    exact qb G0 H0 ρ σ G1 H1 _ (R.step k1) (All_tst.mpr (Out.All.mono (fun d ⟨bb, e, hd⟩ => ⟨bb, e, PostT.trans hd k1 R.tub⟩) hx))
/-! ### comprehensions -/
theorem pts_yes : PTs X [] (tT T fun _ => .ret (.bool true)) := by
  refine ⟨fun pins s σ H Q I ⟨G0, H0, ρ, G, R, h⟩ => pts_nil.run pins s σ H Q I ?_⟩
  exact (All_tst.mp h).elim fun b ⟨e, q⟩ => (by cases e; exact q true G H rfl (.refl R.sub R.tub))
theorem snd_lc {elt tg iter : Expr} {ifs : List Expr} {scope : Scope} {own : List (Str × Nat)} {pos : Pos} {fi fc fe : Ro → Out D} {g : Tg} (hc : X.calm = true) (hN : X.N.Nodup) (hi : SndI X T true tg iter fi) (ok : BlkOk X.N X.env.scope scope own)
    (hg : ∀ (s : Shared) (H : Hp) (c : Addr) (cl : List (Str × Addr)) (fp : List Addr), SndG (X.blk s H scope (compEnvC scope cl c X.env) fp) T tg g)
    (ht : ∀ (s : Shared) (H : Hp) (c : Addr) (cl : List (Str × Addr)) (fp : List Addr), PTs (X.blk s H scope (compEnvC scope cl c X.env) fp) ifs (tT T fc))
    (he : ∀ (s : Shared) (H : Hp) (c : Addr) (cl : List (Str × Addr)) (fp : List Addr), SndE (X.blk s H scope (compEnvC scope cl c X.env) fp) T false elt fe)
    (hs : ∀ x, foldedSetIterable iter X.env x = pure x) (hin : g.inside (own.map (·.2)) = true) :
    SndF X T (.ListComp elt [⟨tg, iter, ifs, 0⟩] scope pos) (fun ρ => (fi ρ).bind fun x => (itemsD x).bind fun xs => .guard (decide (xs.length ≤ lim)) (lcGo (lcTurn (own.map (·.2)) g fc fe ρ) xs [])) :=
  ⟨_, pe_lc hc hN hi.pi ok hg ht (fun s H c cl fp => (he s H c cl fp).pe) hs, fun G0 H0 ρ σ G H Q R h => lc_reads hin R h⟩
theorem folded_of {iter : Expr} (h : notSetE iter = true) (env : PySem.Env) (x : Value) : foldedSetIterable iter env x = pure x := by
  cases iter <;> first | rfl | cases h
/-! ### the main theorem for expressions -/
def SndN (X : Cx) (T : Option Addr) (Γ : Env) (E : E) : Nd → Prop
  | .e x => SE X T Γ E x
  | .i tg x => ∀ r, SndI X T r tg x (ev Γ r E)
  | .l xs => ∀ r, SndL X T r xs (ev Γ r E)
  | .k ks => SndK X T ks (ev Γ false E)
theorem ofX {Γ : Env} {E : E} {nd : Nd} {x : Expr} (h : nd.x = some x) (s : SE X T Γ E x) : SndN X T Γ E nd := by
  cases nd with
  | e y => cases h; exact s
  | i tg y => cases h; exact fun r => si_seq (s.e r)
  | l xs => cases h
  | k ks => cases h
theorem plain_name {x : Str} {p : Pos} : plainT (.Name x p) = true := rfl
end
end Ev

set_option Elab.async false
set_option linter.all false
set_option autoImplicit false
set_option maxRecDepth 100000
set_option maxHeartbeats 4000000
namespace Ev
open PySem L2
/-! ### comprehensions with two clauses -/
theorem loop_it {J : It} {n : Nat} {Gd : Hp → Prop} {Y : Nat → Hp → V → Hp → Prop} (w : Walk J n Gd Y) (Pv : Nat → Hp → Prop) {Body : (Hp → Prop) → V → Hp → Prop} {Fin : Hp → Prop} {H0 : Hp} (h0 : Pv 0 H0) (hG : ∀ i H, i ≤ n → Pv i H → Gd H)
    (hs : ∀ i x H H', i < n → Pv i H → Y i H x H' → Body (Pv (i + 1)) x H') (hd : ∀ H, Pv n H → Fin H) :
    ∃ W : Nat → Nat → Hp → Prop, (∃ m, W 0 m H0) ∧ ∀ i m H, W i m H → (J.stop i H ∧ Fin H) ∨ (J.go i H ∧ ∃ Nx : Hp → Prop, (∀ H', Nx H' → ∃ m', m' < m ∧ W (i + 1) m' H') ∧ ∀ x H', J.yld i H x H' → Body Nx x H') := by
  refine ⟨fun i m H => m = n - i ∧ i ≤ n ∧ Pv i H, ⟨n, rfl, Nat.zero_le _, h0⟩, ?_⟩
  rintro i m H ⟨em, hi, p⟩
  have g := hG i H hi p
  rcases Nat.lt_or_eq_of_le hi with lt | e
  · exact .inr ⟨w.goes i H lt g, Pv (i + 1), fun H' p' => ⟨n - (i + 1), by omega, rfl, lt, p'⟩, fun x H' y => hs i x H H' lt p (w.yields i H x H' lt g y)⟩
  · subst e
    exact .inl ⟨w.stops H g, hd H p⟩
section
variable {T : Option Addr} {G0 H0 G H G3 H3 : Hp} {ρ ρ2 : Ro} {σ σ2 : Sg}
theorem asgG_mut : ∀ (g : Tg) {d : D} {ρ ρ2 : Ro} {i : Nat} {s : Sl}, asgG g d ρ = some ρ2 → ρ2[i]? = some (some s) → s.mut = true → ρ[i]? = some (some s) ∧ i ∉ g.slots
  | .nm j, d, ρ, ρ2, i, s, h, e, m => by
    simp only [asgG] at h
    cases h
    by_cases hj : j = i
    · subst hj
      rw [List.getElem?_set] at e
      simp only [if_true] at e
      split at e
      · cases e; cases m
      · cases e
    · rw [List.getElem?_set_ne hj] at e
      exact ⟨e, by simp [Tg.slots, Ne.symm hj]⟩
  | .nil, d, ρ, ρ2, i, s, h, e, m => by
    obtain ⟨xs, rfl⟩ : ∃ xs, d = .tuple xs := by cases d <;> first | exact ⟨_, rfl⟩ | cases h
    cases xs with
    | nil => cases h; exact ⟨e, by simp [Tg.slots]⟩
    | cons a b => cases h
  | .cons g gs, d, ρ, ρ2, i, s, h, e, m => by
    obtain ⟨xs, rfl⟩ : ∃ xs, d = .tuple xs := by cases d <;> first | exact ⟨_, rfl⟩ | cases h
    cases xs with
    | nil => cases h
    | cons a b =>
      simp only [asgG, Option.bind_eq_some_iff] at h
      obtain ⟨ρ1, h1, h2⟩ := h
      obtain ⟨e1, n1⟩ := asgG_mut gs h2 e m
      obtain ⟨e2, n2⟩ := asgG_mut g h1 e1 m
      exact ⟨e2, by simp [Tg.slots, n1, n2]⟩
/-- the frame later on: what is owned as it stands now, the values as they were -/
theorem Rep.again (R : Rep T G0 H0 ρ σ G H) (R2 : Rep T G0 H0 ρ2 σ2 G3 H3) (sb : Sub G3 G) (hm : ∀ (i : Nat) (s : Sl), ρ2[i]? = some (some s) → s.mut = true → ρ[i]? = some (some s) ∧ σ2[i]? = σ[i]?) : Rep T G0 H0 ρ2 σ2 G H := by
  refine ⟨R.st, R.t0, R.tg, R2.len, fun i s e => ?_, fun i j si sj vi vj b h1 h2 e1 e2 a1 a2 => ?_⟩
  · cases hq : s.mut with
    | true =>
      obtain ⟨z1, z2⟩ := hm i s e hq
      rw [z2]
      exact R.sl i s z1
    | false =>
      obtain ⟨v, e1, e2⟩ := R2.sl i s e
      cases s with
      | val d => exact ⟨v, e1, Is.mono sb _ _ e2⟩
      | own xs => cases hq
      | dic t kvs => cases hq
      | own2 xss => cases hq
  · have mt : ∀ {s : Sl} {v : V}, AtS H s v b → s.mut = true := fun {s v} a => by cases s <;> first | rfl | exact a.elim
    obtain ⟨z1, z2⟩ := hm i si h1 (mt a1)
    obtain ⟨z3, z4⟩ := hm j sj h2 (mt a2)
    rw [z2] at e1
    rw [z4] at e2
    exact R.apx i j si sj vi vj b z1 z3 e1 e2 a1 a2
end
section
variable {X : Cx} {T : Option Addr} {fi fi2 fe : Ro → Out D} {g g2 : Tg} {own own2 : List Nat}
abbrev yes : Ro → Out D := fun _ => .ret (.bool true)
def lcTurn2 (own own2 : List Nat) (g g2 : Tg) (fi2 fe : Ro → Out D) (ρ : Ro) : D → List D → Out (List D) := fun d acc => (Out.ofO (asgG g d (wipeR ρ own))).bind fun ρ2 => (fi2 ρ2).bind fun x2 => (itemsD x2).bind fun xs2 =>
  .guard (decide (acc.length + xs2.length ≤ lim)) (lcIn (fun d2 => (Out.ofO (asgG g2 d2 (wipeR ρ2 own2))).bind fun ρ3 => fe ρ3) xs2 acc)
theorem stay_at {Ga Ha Gb Hb : Hp} {Da : Addr} {vs : List V} (tD : T ≠ some Da) (k : Stp T Ga Ha Gb Hb) (h : Ha Da = some (.lst vs)) (g : Ga Da = none) : Hb Da = some (.lst vs) ∧ Gb Da = none := by
  refine ⟨k.keep _ _ tD h, ?_⟩
  cases q : Gb Da with
  | none => rfl
  | some o =>
    rcases k.new _ _ q with z | z | ⟨ys, z⟩
    · rw [g] at z; cases z
    · rw [h] at z; cases z
    · rw [h] at z; cases z
theorem put_at {G1 H1 G5 H5 : Hp} {Da : Addr} {us : List V} (k : Stp T G1 H1 G5 H5) (hD : H1 Da = none) (gD : G5 Da = none) (tD : T ≠ some Da) : Stp T G1 H1 G5 (upd H5 Da (.lst us)) := by
  refine ⟨k.gs, fun b o e => ?_, fun b o hT e => ?_, k.new, fun b e => ?_⟩
  · rw [upd_ne (fun q => by rw [q, gD] at e; cases e)]; exact k.gh b o e
  · rw [upd_ne (fun q => by rw [q, hD] at e; cases e)]; exact k.keep b o hT e
  · obtain ⟨x, y, z, q, w⟩ := k.tub b e
    refine ⟨x, y, z, ?_, w⟩
    rw [upd_ne (fun q => tD (by rw [← q]; exact e))]; exact q
theorem lc2_reads {σ : Sg} {H : Hp} {Q : VK} {G0 H0 G : Hp} {ρ : Ro} (hin : g.inside own = true) (hin2 : g2.inside own2 = true) (R : Rep T G0 H0 ρ σ G H)
    (h : ((fi ρ).bind fun x => (itemsD x).bind fun xs => lcOut (lcTurn2 own own2 g g2 fi2 fe ρ) xs []).All (PostF T G H Q)) :
    tLc2 (tI T true fi) (gG T g) (tT T yes) (tI T false fi2) (gG T g2) (tT T yes) (tE T false fe) own own2 σ H Q := by
  rw [Out.All_bind] at h
  refine ⟨G0, H0, ρ, G, R, h.mono fun d hd => ?_⟩
  obtain ⟨xs, ex, hd⟩ := All_items hd
  refine ⟨xs, ex, fun J Gd Y G1 H1 k1 W S Da hD => ?_⟩
  have R1 := R.step k1
  have gD : G1 Da = none := by
    cases e : G1 Da with
    | none => rfl
    | some u => rw [k1.gh Da u e] at hD; cases hD
  have tD : T ≠ some Da := fun z => by
    obtain ⟨_, _, _, q, _⟩ := R1.tub Da z
    rw [hD] at q; cases q
  refine loop_it W.w (fun i H => ∃ (G : Hp) (vs : List V) (acc : List D), Stp T G1 H1 G H ∧ H Da = some (.lst vs) ∧ G Da = none ∧ IsAll T G vs acc.reverse ∧ (lcOut (lcTurn2 own own2 g g2 fi2 fe ρ) (xs.drop i) acc).All (PostF T G1 H1 Q)) ?_ ?_ ?_ ?_
  · exact ⟨G1, [], [], Stp.fresh R1.sub R1.tub hD, upd_same, gD, .nil, Out.All.mono (fun d h => h.trans k1 R.tub) hd⟩
  · rintro i H hi ⟨G, vs, acc, k, _⟩
    exact S H k.keep
  · rintro i x H H' hi ⟨G, vs, acc, k, hH, hG, iv, h⟩ y
    obtain ⟨G3, d, e, k3, id⟩ := W.item i H x H' G hi (S H k.keep) y k.gs k.gh k.tub
    have kk := k.trans k3 R1.tub
    have hx : xs.drop i = d :: xs.drop (i + 1) := by
      obtain ⟨hi', rfl⟩ := List.getElem?_eq_some_iff.mp e
      exact List.drop_eq_getElem_cons hi'
    rw [hx] at h
    simp only [lcOut] at h
    unfold lcTurn2 at h
    rw [Out.All_bind, Out.All_bind, Out.All_ofO] at h
    obtain ⟨ρ2, e2, h⟩ := h
    have Rw := (R1.step kk).wipe own
    refine ⟨G0, H0, wipeR ρ own, G3, d, ρ2, Rw, id, e2, fun σ2 R2 l2 s2 => ?_⟩
    have hsame : L2.wipe σ2 own = L2.wipe σ own := wipe_same l2 fun j hj => s2 j fun hm => hj (by
      have := List.all_eq_true.mp hin j hm
      exact of_decide_eq_true this)
    obtain ⟨a3, b3⟩ := stay_at tD k3 hH hG
    refine ⟨hsame, G0, H0, ρ2, G3, R2, All_tst.mpr ⟨true, rfl, fun b' G4 H4 eb k4 => ?_⟩⟩
    cases eb
    rw [if_pos rfl]
    obtain ⟨a4, b4⟩ := stay_at tD k4 a3 b3
    have R4 := R2.step k4
    rw [Out.All_bind] at h
    refine ⟨G0, H0, ρ2, G4, R4, h.mono fun x2 hx2 => ?_⟩
    obtain ⟨xs2, ex2, hx2⟩ := All_items hx2
    rw [Out.All_guard] at hx2
    obtain ⟨hlen, hx2⟩ := hx2
    have hlen := of_decide_eq_true hlen
    refine ⟨xs2, ex2, fun J1 Gd1 Y1 G5 H5 k5 W1 S1 => ?_⟩
    obtain ⟨a5, b5⟩ := stay_at tD k5 a4 b4
    have k15 := (kk.trans k4 R1.tub).trans k5 R1.tub
    refine loop_it W1.w (fun j H => ∃ (G : Hp) (vs : List V) (acc : List D), Stp T G1 H1 G H ∧ Sub G5 G ∧ H Da = some (.lst vs) ∧ G Da = none ∧ acc.length + (xs2.length - j) ≤ lim ∧ IsAll T G vs acc.reverse ∧
      (lcIn (fun d2 => (Out.ofO (asgG g2 d2 (wipeR ρ2 own2))).bind fun ρ3 => fe ρ3) (xs2.drop j) acc).All fun acc' => (lcOut (lcTurn2 own own2 g g2 fi2 fe ρ) (xs.drop (i + 1)) acc').All (PostF T G1 H1 Q)) ?_ ?_ ?_ ?_
    · refine ⟨G5, vs, acc, k15, .refl _, a5, b5, by simpa using hlen, ((iv.mono k3.gs _ _).mono k4.gs _ _).mono k5.gs _ _, ?_⟩
      exact hx2
    · rintro j H hj ⟨G, vs, acc, k, sG, _⟩
      exact S1 H (sG.trans k.gh)
    · rintro j x H H' hj ⟨G, vs, acc, k, sG, hH, hG, hl, iv, h⟩ y
      obtain ⟨G6, d2, e6, k6, id2⟩ := W1.item j H x H' G hj (S1 H (sG.trans k.gh)) y sG k.gh k.tub
      have kk6 := k.trans k6 R1.tub
      have hx : xs2.drop j = d2 :: xs2.drop (j + 1) := by
        obtain ⟨hj', rfl⟩ := List.getElem?_eq_some_iff.mp e6
        exact List.drop_eq_getElem_cons hj'
      rw [hx] at h
      simp only [lcIn] at h
      rw [Out.All_bind, Out.All_bind, Out.All_ofO] at h
      obtain ⟨ρ3, e3, h⟩ := h
      have Rj : Rep T G0 H0 ρ2 σ2 G6 H' := ((R1.step kk6).wipe own).again R2 ((((k4.gs.trans k5.gs).trans sG)).trans k6.gs) fun n s es m => by
        obtain ⟨z1, z2⟩ := asgG_mut g e2 es m
        exact ⟨z1, s2 n z2⟩
      have Rw2 := Rj.wipe own2
      refine ⟨G0, H0, wipeR ρ2 own2, G6, d2, ρ3, Rw2, id2, e3, fun σ3 R3 l3 s3 => ?_⟩
      have hsame2 : L2.wipe σ3 own2 = L2.wipe σ2 own2 := wipe_same l3 fun n hn => s3 n fun hm => hn (by
        have := List.all_eq_true.mp hin2 n hm
        exact of_decide_eq_true this)
      obtain ⟨a6, b6⟩ := stay_at tD k6 hH hG
      refine ⟨hsame2, G0, H0, ρ3, G6, R3, All_tst.mpr ⟨true, rfl, fun b' G7 H7 eb k7 => ?_⟩⟩
      cases eb
      rw [if_pos rfl]
      obtain ⟨a7, b7⟩ := stay_at tD k7 a6 b6
      refine ⟨G0, H0, ρ3, G7, R3.step k7, h.mono fun z hz v G8 H8 k8 i8 => ?_⟩
      obtain ⟨a8, b8⟩ := stay_at tD k8 a7 b7
      have el := iv.length
      rw [List.length_reverse] at el
      refine ⟨vs, a8, Nat.lt_of_lt_of_le (show vs.length < lim by omega) lim_le, ?_⟩
      have k18 := (kk6.trans k7 R1.tub).trans k8 R1.tub
      refine ⟨G8, vs ++ [v], z :: acc, put_at k18 hD b8 tD, ((sG.trans k6.gs).trans k7.gs).trans k8.gs, upd_same, b8, by simp; omega, ?_, hz⟩
      rw [List.reverse_cons]
      exact (((iv.mono k6.gs _ _).mono k7.gs _ _).mono k8.gs _ _).append (.cons i8.keep .nil)
    · rintro H ⟨G, vs, acc, k, sG, hH, hG, hl, iv, h⟩
      rw [List.drop_length] at h
      exact ⟨G, vs, acc, k, hH, hG, iv, h⟩
  · rintro H ⟨G, vs, acc, k, hH, hG, iv, h⟩
    rw [List.drop_length] at h
    exact h Da vs acc.reverse G H rfl k hD hG hH iv
theorem snd_lc2 {elt tg iter tg1 iter1 : Expr} {scope : Scope} {ow : List (Str × Nat)} {pos : Pos} (hc : X.calm = true) (hN : X.N.Nodup) (hi : SndI X T true tg iter fi) (ok : BlkOk X.N X.env.scope scope ow) (ho : ow.map (·.2) = own) (hv : ∀ i ∈ own2, i ∈ own)
    (hg : ∀ (s : Shared) (H : Hp) (c : Addr) (cl : List (Str × Addr)) (fp : List Addr), SndG (X.blk s H scope (compEnvC scope cl c X.env) fp) T tg g)
    (hi1 : ∀ (s : Shared) (H : Hp) (c : Addr) (cl : List (Str × Addr)) (fp : List Addr), SndI (X.blk s H scope (compEnvC scope cl c X.env) fp) T false tg1 iter1 fi2)
    (hg1 : ∀ (s : Shared) (H : Hp) (c : Addr) (cl : List (Str × Addr)) (fp : List Addr), SndG (X.blk s H scope (compEnvC scope cl c X.env) fp) T tg1 g2)
    (he : ∀ (s : Shared) (H : Hp) (c : Addr) (cl : List (Str × Addr)) (fp : List Addr), SndE (X.blk s H scope (compEnvC scope cl c X.env) fp) T false elt fe)
    (hs : ∀ x, foldedSetIterable iter X.env x = pure x) (hs1 : ∀ env x, foldedSetIterable iter1 env x = pure x) (hin : g.inside own = true) (hin2 : g2.inside own2 = true) :
    SndF X T (.ListComp elt [⟨tg, iter, [], 0⟩, ⟨tg1, iter1, [], 0⟩] scope pos) (fun ρ => (fi ρ).bind fun x => (itemsD x).bind fun xs => lcOut (lcTurn2 own own2 g g2 fi2 fe ρ) xs []) :=
  ⟨_, pe_lc2 hc hN hi.pi ok (by rw [ho]; exact hv) hg (fun _ _ _ _ _ => pts_yes) (fun s H c cl fp => (hi1 s H c cl fp).pi) hg1 (fun _ _ _ _ _ => pts_yes) (fun s H c cl fp => (he s H c cl fp).pe) hs hs1, fun G0 H0 ρ σ G H Q R h => by rw [ho]; exact lc2_reads hin hin2 R h⟩
end
end Ev

set_option Elab.async false
set_option linter.all false
set_option autoImplicit false
set_option maxRecDepth 100000
set_option maxHeartbeats 8000000
namespace Ev
open PySem L2
section
variable {C : Ck} {n : Nat} {S : Sx} {X : Cx} {T : Option Addr}
theorem bt {a b : Bool} (h : (a && b) = true) : a = true ∧ b = true := by cases a <;> cases b <;> first | exact ⟨rfl, rfl⟩ | cases h
theorem nf {P : Prop} {E : E} (h : frE E = false) (e : frE E = true) : P := by rw [h] at e; cases e
/-- nodes that read alike in both ways -/
theorem SE.one {Γ : Env} {E : E} {x : Expr} (h : ∀ r, SndE X T r x (ev Γ true E)) (hr : ∀ r, ev Γ r E = ev Γ true E) (hp : plainT x = true) (hf : frE E = true → SndF X T x (onlyL (ev Γ false E))) : SE X T Γ E x :=
  SE.plain (fun r => by rw [hr r]; exact h r) hp hf
theorem sd_con {d : D} {c : Const} {k : Nat} {p : Pos} (h : conB d c = true) {Γ : Env} : SE X T Γ (.con d) (.Constant c k p) := by
  refine SE.plain (fun r => ?_) rfl (nf rfl)
  cases d <;> cases c <;> simp only [conB] at h <;> try cases h
  case int.int i j => cases of_decide_eq_true h; exact snd_c pe_int fun G => .int _
  case bool.bool i j => cases eq_of_beq h; exact snd_c pe_bl fun G => .bl _
  case str.str i j => cases of_decide_eq_true h; exact snd_c pe_str fun G => .str _
  case none.none => exact snd_c pe_non fun G => .non
theorem sd_glb (g : Gd C n S X) {x : Str} {p : Pos} (h1 : glB S x = true) (h2 : (x == ("__debug__" : Str)) = false) : SE X T (Γof C n) (.glb x) (.Name x p) := by
  refine SE.plain (fun r => ?_) rfl (nf rfl)
  show SndE X T r (.Name x p) (fun ρ => Out.ofO (C.τ.glob x))
  cases q : C.τ.glob x with
  | none =>
    refine ⟨fun _ _ _ => False, ⟨fun _ _ _ _ _ _ h => h.elim⟩, fun G0 H0 ρ σ G H Q R h => h.elim⟩
  | some d =>
    obtain ⟨u, v, h3, h4, h5⟩ := g.glob x d q
    exact snd_c (pe_glob (g.gl h1) h3 h4 h2) fun G => h5 T G
theorem sd_bin {o : Bop} {a b : E} {x y : Expr} {p : Pos} {Γ : Env} (ha : SE X T Γ a x) (hb : SE X T Γ b y) : SE X T Γ (.bin o a b) (.BinOp x (bopA o) y p) := by
  refine SE.plain (fun r => bin_ok (ha.e true) (hb.e true)) rfl fun e => ?_
  cases o <;> first | exact binF_ok (.inl rfl) (ha.e true) (hb.e true) | exact binF_ok (.inr rfl) (ha.e true) (hb.e true) | cases e
theorem sd_not {a : E} {x : Expr} {p : Pos} {Γ : Env} (ha : SE X T Γ a x) : SE X T Γ (.not a) (.UnaryOp .Not x p) :=
  ⟨fun r => snd_not (ha.e true), tt_not ha.t, nf rfl, fun _ _ _ e => (by cases e)⟩
theorem sd_and {a b : E} {x y : Expr} {rest : List Expr} {p : Pos} {Γ : Env} (ha : SE X T Γ a x) (hb : SE X T Γ b (tailE .And y p rest)) : SE X T Γ (.and a b) (.BoolOp .And (x :: y :: rest) p) := by
  have hw : SndW X T (.BoolOp .And (x :: y :: rest) p) (tst (ev Γ true (.and a b))) := by
    cases rest with
    | nil => exact tt_and ha.t (tt_one_and hb.t)
    | cons z r => exact tt_and ha.t (hb.w _ _ _ rfl)
  refine ⟨fun r => ?_, hw.t, nf rfl, fun op ys q e => by cases e; exact hw⟩
  cases rest with
  | nil => exact snd_and (ha.e true) (snd_one (hb.e true))
  | cons z rr => exact snd_and (ha.e true) (hb.e true)
theorem sd_or {a b : E} {x y : Expr} {rest : List Expr} {p : Pos} {Γ : Env} (ha : SE X T Γ a x) (hb : SE X T Γ b (tailE .Or y p rest)) : SE X T Γ (.or a b) (.BoolOp .Or (x :: y :: rest) p) := by
  have hw : SndW X T (.BoolOp .Or (x :: y :: rest) p) (tst (ev Γ true (.or a b))) := by
    cases rest with
    | nil => exact tt_or ha.t (tt_one_or hb.t)
    | cons z r => exact tt_or ha.t (hb.w _ _ _ rfl)
  refine ⟨fun r => ?_, hw.t, nf rfl, fun op ys q e => by cases e; exact hw⟩
  cases rest with
  | nil => exact snd_or (ha.e true) (snd_one (hb.e true))
  | cons z rr => exact snd_or (ha.e true) (hb.e true)
theorem last_of {op op' : CmpOp} {y z : Expr} (h : notSetE z = true) : lastMarks [op, op'] [y, z] = false := by
  show lastMarks [op'] [z] = false
  exact mark_of h
theorem sd_chain (g : Gd C n S X) {o o' : Cop} {a b c : E} {x y z : Expr} {p : Pos} {Γ : Env} (ha : SE X T Γ a x) (hb : SE X T Γ b y) (hc : SE X T Γ c z) (hz : notSetE z = true) : SE X T Γ (.chain o o' a b c) (.Compare x [copA o, copA o'] [y, z] p) := by
  obtain ⟨q1, r1, s1⟩ := cop_rule (T := T) g o
  obtain ⟨q2, r2, s2⟩ := cop_rule (T := T) g o'
  obtain ⟨t, h1, h2, h3⟩ := snb_chain (pos := p) r1 r2 s1 s2 (ha.e true) (hb.e true) (hc.e true) (last_of hz)
  exact ⟨fun r => SndE.read ⟨t, h1, h3⟩, tOf_v h2 h3, nf rfl, fun _ _ _ e => (by cases e)⟩
theorem sd_ite {a b c : E} {x y z : Expr} {p : Pos} {Γ : Env} (hc : SE X T Γ c z) (ha : SE X T Γ a x) (hb : SE X T Γ b y) : SE X T Γ (.ite c a b) (.IfExp z x y p) :=
  ⟨fun r => tt_ite hc.t (ha.e r) (hb.e r), tst_ite hc.t ha.t hb.t, nf rfl, fun _ _ _ e => (by cases e)⟩
theorem sd_idx {a b : E} {x y : Expr} {p : Pos} {Γ : Env} (ha : SE X T Γ a x) (hb : SE X T Γ b y) (hi : plainIxB y = true) : SE X T Γ (.idx a b) (.Subscript x y p) := by
  refine SE.plain (fun r => ?_) rfl (nf rfl)
  refine snd2 (ha.e true) (hb.e true) (fun ta tb pa pb => pe_ix or_ix pa pb ?_) o2_ix
  intro o i
  cases y <;> first | rfl | cases hi
theorem sd_rev {a : E} {x : Expr} {k : Nat} {p1 p2 p3 pos : Pos} {Γ : Env} (ha : SE X T Γ a x) : SE X T Γ (.rev a) (.Subscript x (.Slice none none (some (.UnaryOp .USub (.Constant (.int 1) k p1) p2)) p3) pos) :=
  SE.plain (fun r => snd_revE (ha.e true)) rfl fun _ => snd_revO (ha.e true)
theorem star_none {xs : List Expr} (h : xs.all notStarE = true) {x : Expr} {r : List Expr} (e : xs = x :: r) : notStarE x = true ∧ r.all notStarE = true := by
  subst e
  rw [List.all_cons] at h
  exact bt h
theorem sd_call (g : Gd C n S X) {f : Nat} {F : Fd} {a : E} {x : Str} {xs : List Expr} {p pos : Pos} (hF : C.τ.fns[f]? = some F) (hx : F.name = x) (h1 : glB S x = true) (h2 : (x == ("__debug__" : Str)) = false) (h3 : xs.all notStarE = true)
    (ha : SndL X T false xs (ev (Γof C n) false a)) (h0 : xs = [] → ∀ ρ, ev (Γof C n) false a ρ = .ret (.tuple [])) : SE X T (Γof C n) (.call f a) (.Call (.Name x p) xs [] pos) := by
  subst hx
  obtain ⟨ad, fd, k1, k2, k3, k4, k5⟩ := g.fns f F hF
  exact SE.plain (fun r => snd_call k1 g.room g.gua (g.gl h1) k2 k3 k4 ha h3 h2 h0) rfl (nf rfl)
theorem sd_callk (g : Gd C n S X) {f m k : Nat} {perm : List Nat} {F : Fd} {a b : E} {x : Str} {xs : List Expr} {ks : List Keyword} {l : List Str} {p pos : Pos} (hF : C.τ.fns[f]? = some F) (hx : F.name = x) (h1 : glB S x = true) (h2 : (x == ("__debug__" : Str)) = false) (h3 : xs.all notStarE = true)
    (ha : SndL X T false xs (ev (Γof C n) false a)) (hb : SndK X T ks (ev (Γof C n) false b)) (hk : kwNames ks = some l) (hm : (f, m, l, perm) ∈ C.kws) (hl : k = l.length) (hm1 : xs.length = m) (h0 : xs = [] → ∀ ρ, ev (Γof C n) false a ρ = .ret (.tuple [])) :
    SE X T (Γof C n) (.callk f m k perm a b) (.Call (.Name x p) xs ks pos) := by
  subst hx hl
  obtain ⟨ad, fd, k1, k2, k3, k4, k5⟩ := g.fns f F hF
  exact SE.plain (fun r => snd_callk k1 g.room g.gua (g.gl h1) k2 k3 (k5 m l perm hm) ha hb hk h3 h2 h0 hm1) rfl (nf rfl)
theorem boot_len' : bootBuiltins ("len" : Str) = some (.builtin "len") := by decide +kernel
theorem boot_sum' : bootBuiltins ("sum" : Str) = some (.builtin "sum") := by decide +kernel
theorem boot_max' : bootBuiltins ("max" : Str) = some (.builtin "max") := by decide +kernel
theorem boot_min' : bootBuiltins ("min" : Str) = some (.builtin "min") := by decide +kernel
theorem boot_all' : bootBuiltins ("all" : Str) = some (.builtin "all") := by decide +kernel
theorem boot_any' : bootBuiltins ("any" : Str) = some (.builtin "any") := by decide +kernel
theorem boot_tuple' : bootBuiltins ("tuple" : Str) = some (.type "tuple") := by decide +kernel
theorem boot_list' : bootBuiltins ("list" : Str) = some (.type "list") := by decide +kernel
theorem boot_sorted' : bootBuiltins ("sorted" : Str) = some (.builtin "sorted") := by decide +kernel
theorem boot_abs' : bootBuiltins ("abs" : Str) = some (.builtin "abs") := by decide +kernel
theorem boot_int' : bootBuiltins ("int" : Str) = some (.type "int") := by decide +kernel
theorem boot_divmod' : bootBuiltins ("divmod" : Str) = some (.builtin "divmod") := by decide +kernel
theorem boot_repr' : bootBuiltins ("repr" : Str) = some (.builtin "repr") := by decide +kernel
theorem Gd.mg (g : Gd C n S X) {nm : Str} (h : decide (nm ∈ bltNames) = true) : X.mg nm = none := g.blt nm (of_decide_eq_true h)
theorem plain_args {es : List Expr} (h : es.all notStarE = true) {env : PySem.Env} {pos : Pos} : (backTo pos (starEach es env)).any (·.1) = false := any_plain h
theorem mkB {id : String} {q : List V → Hp → VK → Prop} {nm : Str} {y : Expr} {ys : List Expr} {p pos : Pos} {t : TA} (g : Gd C n S X) (hc : CallR X (.builtin id) q) (hg : Gl X nm) (hm : decide (nm ∈ bltNames) = true) (hv : bootBuiltins nm = some (.builtin id)) (h1 : nm ≠ "__name__") (h2 : (nm == ("__debug__" : Str)) = false)
    (hns : (y :: ys).all notStarE = true) (ha : PA X (y :: ys) t) : PE X (.Call (.Name nm p) (y :: ys) [] pos) (tCB q t) :=
  pe_callB hc hg (g.mg hm) hv ha h1 h2 (starEach_cons (star_none hns rfl).1) (plain_args (star_none hns rfl).2)
theorem mkT {id : String} {q : List V → Hp → VK → Prop} {nm : Str} {y : Expr} {ys : List Expr} {p pos : Pos} {t : TA} (g : Gd C n S X) (hc : CallR X (.type id) q) (hg : Gl X nm) (hm : decide (nm ∈ bltNames) = true) (hv : bootBuiltins nm = some (.type id)) (h1 : nm ≠ "__name__") (h2 : (nm == ("__debug__" : Str)) = false)
    (hns : (y :: ys).all notStarE = true) (ha : PA X (y :: ys) t) : PE X (.Call (.Name nm p) (y :: ys) [] pos) (tCB q t) :=
  pe_callTy hc hg (g.mg hm) hv ha h1 h2 (starEach_cons (star_none hns rfl).1) (plain_args (star_none hns rfl).2)
theorem call_max2D (hc : X.calm = true) : CallR X (.builtin "max") (rMax2 X.K) := CallR.or (call_max2 hc) (cr_max hc)
theorem call_min3I (hc : X.calm = true) : CallR X (.builtin "min") rMin3 := by
  intro pins s σ0 H xs us Q I r1 h
  obtain ⟨i, j, k, e, q⟩ := h
  refine call_min3Nu hc pins s σ0 H xs us Q I r1 ⟨_, _, _, _, e, ?_, q⟩
  simp only [nuMin3, nuMin2, nuLt, nuCB, Option.map_some, Option.bind_some, decide_eq_true_eq]
  split <;> (simp; split <;> rfl)
theorem call_min2D (hc : X.calm = true) : CallR X (.builtin "min") (rMin2 X.K) := CallR.or (call_min2 hc) (CallR.or (cr_min hc) (call_min3I hc))
end
end Ev

set_option Elab.async false
set_option linter.all false
set_option autoImplicit false
set_option maxRecDepth 100000
set_option maxHeartbeats 8000000
namespace Ev
open PySem L2

/-! ### keys -/
theorem flat_inj {a b : D} {p q : L2.Key} (ha : flatKey a = some p) (hb : flatKey b = some q) : sameD a b = true ↔ p = q := by
  cases a <;> simp only [flatKey] at ha <;> try (cases ha; done)
  all_goals
    cases ha
    cases b <;> simp only [flatKey] at hb <;> try (cases hb; done)
    all_goals
      cases hb
      simp [sameD]
theorem flats_inj : ∀ {xs ys : List D} {ps qs : List L2.Key}, flatKeys xs = some ps → flatKeys ys = some qs → (sameL xs ys = true ↔ ps = qs)
  | [], [], _, _, h1, h2 => by cases h1; cases h2; simp [sameL]
  | [], y :: ys, _, _, h1, h2 => by
    cases h1
    simp only [flatKeys, Option.bind_eq_some_iff, Option.map_eq_some_iff] at h2
    obtain ⟨k, _, l, _, rfl⟩ := h2
    simp [sameL]
  | x :: xs, [], _, _, h1, h2 => by
    cases h2
    simp only [flatKeys, Option.bind_eq_some_iff, Option.map_eq_some_iff] at h1
    obtain ⟨k, _, l, _, rfl⟩ := h1
    simp [sameL]
  | x :: xs, y :: ys, _, _, h1, h2 => by
    simp only [flatKeys, Option.bind_eq_some_iff, Option.map_eq_some_iff] at h1 h2
    obtain ⟨k, e1, l, e2, rfl⟩ := h1
    obtain ⟨k', e3, l', e4, rfl⟩ := h2
    have i1 := flat_inj e1 e3
    have i2 := flats_inj e2 e4
    simp only [sameL, Bool.and_eq_true, i1, i2, List.cons.injEq]
theorem tup_inj {a b : D} {p q : List L2.Key} (ha : tupKey a = some p) (hb : tupKey b = some q) : sameD a b = true ↔ p = q := by
  cases a <;> simp only [tupKey] at ha <;> try (cases ha; done)
  cases b <;> simp only [tupKey] at hb <;> try (cases hb; done)
  simp only [sameD]
  exact flats_inj ha hb
theorem flat_injK {a b : D} {p q : L2.Key} (ha : flatKey a = some p) (hb : flatKey b = some q) : keyEq a b = true ↔ p = q := by
  rw [keyEq_eq]
  exact flat_inj ha hb
theorem tup_injK {a b : D} {p q : List L2.Key} (ha : tupKey a = some p) (hb : tupKey b = some q) : keyEq a b = true ↔ p = q := by
  rw [keyEq_eq]
  exact tup_inj ha hb
theorem flat_of {d : D} (h : flatOk d = true) : ∃ q, flatKey d = some q := by
  cases d <;> first | exact ⟨_, rfl⟩ | cases h
theorem flats_of : ∀ {xs : List D}, xs.all flatOk = true → ∃ q, flatKeys xs = some q
  | [], _ => ⟨[], rfl⟩
  | x :: xs, h => by
    rw [List.all_cons] at h
    obtain ⟨p, e⟩ := flat_of (bt h).1
    obtain ⟨q, e2⟩ := flats_of (bt h).2
    exact ⟨p :: q, by simp [flatKeys, e, e2]⟩
section
variable {T : Option Addr} {G H : Hp}
theorem flat_val {d : D} {q : L2.Key} {v : V} (h : flatKey d = some q) (i : Is T G v d) : v = kV q := by
  cases d <;> simp only [flatKey] at h <;> try (cases h; done)
  all_goals
    cases h
    cases i
    rfl
theorem flats_val : ∀ {ds : List D} {q : List L2.Key} {vs : List V}, flatKeys ds = some q → IsAll T G vs ds → vs = q.map kV
  | [], _, _, h, i => by cases h; cases i; rfl
  | d :: ds, _, _, h, .cons i t => by
    simp only [flatKeys, Option.bind_eq_some_iff, Option.map_eq_some_iff] at h
    obtain ⟨k, e1, l, e2, rfl⟩ := h
    rw [List.map_cons, flat_val e1 i, flats_val e2 t]
theorem tup_val {d : D} {q : List L2.Key} {v : V} (h : tupKey d = some q) (i : Is T G v d) : ∃ b, v = V.ref b ∧ G b = some (.tup (q.map kV)) := by
  cases d <;> simp only [tupKey] at h <;> try (cases h; done)
  cases i with
  | tup e j => exact ⟨_, rfl, by rw [e, flats_val h j]⟩
theorem IsR.plain {r : Bool} {v : V} {d : D} (i : IsR r T G H v d) (h : ∀ xs, d ≠ .list xs) : Is T G v d := by
  rcases i with i | ⟨_, _, _, xs, e, _⟩
  · exact i
  · exact absurd e (h xs)
theorem flat_nl {d : D} {q : L2.Key} (h : flatKey d = some q) : ∀ xs, d ≠ .list xs := fun xs e => by subst e; cases h
theorem tup_nl {d : D} {q : List L2.Key} (h : tupKey d = some q) : ∀ xs, d ≠ .list xs := fun xs e => by subst e; cases h
/-! ### looking up -/
theorem look_some {κ : Type} [DecidableEq κ] {f : D → Option κ} (hf : ∀ {a b p q}, f a = some p → f b = some q → (keyEq a b = true ↔ p = q)) {x : D} {q : κ} (hx : f x = some q) : ∀ {kvs : List (D × D)} {ks : List (κ × V)}, KvF T G f kvs ks →
    (∀ d, dLook x kvs = some d → ∃ v, valV ks q = some v ∧ Is T G v d) ∧ (dLook x kvs = none → valV ks q = none)
  | _, _, .nil => ⟨fun d h => (by simp [dLook] at h), fun _ => rfl⟩
  | _, _, .cons (k := a) (x := d0) (q := p) (v := u) h1 h2 h3 => by
    obtain ⟨i1, i2⟩ := look_some hf hx h3
    have e := hf h1 hx
    by_cases c : p = q
    · subst c
      have hs := e.mpr rfl
      refine ⟨fun d h => ?_, fun h => ?_⟩
      · simp only [dLook, hs] at h
        cases h
        exact ⟨u, valV_pos rfl, h2⟩
      · simp only [dLook, hs] at h
        cases h
    · have hs : ¬ keyEq a x = true := fun z => c (e.mp z)
      refine ⟨fun d h => ?_, fun h => ?_⟩
      · simp only [dLook, Bool.eq_false_iff.mpr hs] at h
        rw [valV_neg c]
        exact i1 d h
      · simp only [dLook, Bool.eq_false_iff.mpr hs] at h
        rw [valV_neg c]
        exact i2 h
theorem map_kv {κ : Type} [DecidableEq κ] {f : D → Option κ} (hf : ∀ {a b p q}, f a = some p → f b = some q → (keyEq a b = true ↔ p = q)) {x y : D} {q : κ} {w : V} (hx : f x = some q) (iw : Is T G w y) : ∀ {kvs : List (D × D)} {ks : List (κ × V)}, KvF T G f kvs ks →
    KvF T G f (kvs.map fun p => if keyEq p.1 x = true then (p.1, y) else p) (ks.map fun kv => if kv.1 = q then (kv.1, w) else kv)
  | _, _, .nil => .nil
  | _, _, .cons (k := a) (x := d0) (q := p) (v := u) h1 h2 h3 => by
    have ih := map_kv hf hx iw h3
    have e := hf h1 hx
    rw [List.map_cons, List.map_cons]
    by_cases c : p = q
    · rw [if_pos (show keyEq (a, d0).1 x = true from e.mpr c), if_pos (show (p, u).1 = q from c)]
      exact .cons h1 iw ih
    · rw [if_neg (show ¬ keyEq (a, d0).1 x = true from fun z => c (e.mp z)), if_neg (show ¬ (p, u).1 = q from c)]
      exact .cons h1 h2 ih
theorem KvF.app {κ : Type} {f : D → Option κ} {x y : D} {q : κ} {w : V} (hx : f x = some q) (iw : Is T G w y) : ∀ {kvs : List (D × D)} {ks : List (κ × V)}, KvF T G f kvs ks → KvF T G f (kvs ++ [(x, y)]) (ks ++ [(q, w)])
  | _, _, .nil => .cons hx iw .nil
  | _, _, .cons h1 h2 h3 => .cons h1 h2 (KvF.app hx iw h3)
theorem put_kv {κ : Type} [DecidableEq κ] {f : D → Option κ} (hf : ∀ {a b p q}, f a = some p → f b = some q → (keyEq a b = true ↔ p = q)) {x y : D} {q : κ} {w : V} (hx : f x = some q) (iw : Is T G w y) {kvs : List (D × D)} {ks : List (κ × V)} (h : KvF T G f kvs ks) : KvF T G f (dPut x y kvs) (putK ks q w) := by
  obtain ⟨h1, h2⟩ := look_some hf hx h
  unfold dPut putK
  rw [valV_any]
  cases e : dLook x kvs with
  | none =>
    rw [h2 e]
    exact KvF.app hx iw h
  | some d =>
    obtain ⟨v, e2, _⟩ := h1 d e
    rw [e2]
    exact map_kv hf hx iw h
theorem KvF.length {κ : Type} {f : D → Option κ} : ∀ {kvs : List (D × D)} {ks : List (κ × V)}, KvF T G f kvs ks → ks.length = kvs.length
  | _, _, .nil => rfl
  | _, _, .cons _ _ t => by simp [KvF.length t]
/-- what stands at a key -/
theorem dic_get {a : Addr} {t : Bool} {kvs : List (D × D)} {x : D} {y : V} {r : Bool} (sub : Sub G H) (hd : DicOk T G H a t kvs) (hk : keyOk t x = true) (i : IsR r T G H y x) : ∃ o, DGet H a y o ∧ (∀ d, dLook x kvs = some d → ∃ v, o = some v ∧ Is T G v d) ∧ (dLook x kvs = none → o = none) := by
  rcases hd with ⟨rfl, ks, e1, e2⟩ | ⟨rfl, ks, e1, e2⟩
  · obtain ⟨q, hq⟩ := flat_of hk
    obtain ⟨l1, l2⟩ := look_some flat_injK hq e2
    rw [flat_val hq (i.plain (flat_nl hq))]
    exact ⟨_, .k e1, l1, l2⟩
  · have hk2 : ∃ q, tupKey x = some q := by
      cases x <;> simp only [keyOk] at hk <;> try (cases hk; done)
      exact flats_of hk
    obtain ⟨q, hq⟩ := hk2
    obtain ⟨l1, l2⟩ := look_some tup_injK hq e2
    obtain ⟨b, rfl, hb⟩ := tup_val hq (i.plain (tup_nl hq))
    exact ⟨_, .t e1 (sub _ _ hb), l1, l2⟩
theorem dic_put {a : Addr} {t : Bool} {kvs : List (D × D)} {x d : D} {y w : V} {r : Bool} (sub : Sub G H) (hga : G a = none) (hd : DicOk T G H a t kvs) (hk : keyOk t x = true) (i : IsR r T G H y x) (iw : Is T G w d) (hl : kvs.length < lim) :
    ∃ o, DPut H a y w (upd H a o) ∧ DicOk T G (upd H a o) a t (dPut x d kvs) := by
  rcases hd with ⟨rfl, ks, e1, e2⟩ | ⟨rfl, ks, e1, e2⟩
  · obtain ⟨q, hq⟩ := flat_of hk
    rw [flat_val hq (i.plain (flat_nl hq))]
    exact ⟨_, .k e1 (by rw [e2.length]; exact Nat.lt_of_lt_of_le hl lim_le), .inl ⟨rfl, _, upd_same, put_kv flat_injK hq iw e2⟩⟩
  · have hk2 : ∃ q, tupKey x = some q := by
      cases x <;> simp only [keyOk] at hk <;> try (cases hk; done)
      exact flats_of hk
    obtain ⟨q, hq⟩ := hk2
    obtain ⟨b, rfl, hb⟩ := tup_val hq (i.plain (tup_nl hq))
    exact ⟨_, .t e1 (sub _ _ hb) (by rw [e2.length]; exact Nat.lt_of_lt_of_le hl lim_le), .inr ⟨rfl, _, upd_same, put_kv tup_injK hq iw e2⟩⟩
theorem dicSlot_get {ρ : Ro} {i : Nat} {α : Type} {k : Bool × List (D × D) → Out α} {P : α → Prop} (h : ((dicOf ρ i).bind k).All P) : ∃ t kvs, ρ[i]? = some (some (.dic t kvs)) ∧ (k (t, kvs)).All P := by
  unfold dicOf slot at h
  rw [Out.bind_assoc, Out.All_bind, Out.All_ofO] at h
  obtain ⟨s, e, h⟩ := h
  have e' : ρ[i]? = some (some s) := by
    cases q : ρ[i]? with
    | none => rw [q] at e; cases e
    | some o => rw [q] at e; simp at e; rw [e]
  cases s with
  | own xs => exact h.elim
  | val d => exact h.elim
  | own2 xss => exact h.elim
  | dic t kvs => exact ⟨t, kvs, e', h⟩
end
section
variable {X : Cx} {T : Option Addr} {r : Bool} {a b : Expr} {pos : Pos} {fk fz : Ro → Out D} {i : Nat} {x : Str} {p1 : Pos}
theorem sc_din {g : Bool} (hu : X.A.units + 1 < cLine) (hN : X.N[i]? = some x) (hv : Vis X.env.scope x) (h1 : (x == ("__debug__" : Str)) = false) (h2 : (x == ("__classdict__" : Str)) = false) (hk : SndE X T true a fk) :
    SndC X T (if g then .NotIn else .In) a (.Name x p1) (fun ρ => (fk ρ).bind fun k => (dicOf ρ i).bind fun kvs => .guard (keyOk kvs.1 k) (.ret (.bool (if (dLook k kvs.2).isSome then !g else g)))) := by
  obtain ⟨tk, pk, qk⟩ := hk
  have core : ∀ {G0 H0 G H G1 H1 : Hp} {ρ : Ro} {σ : Sg} {Q : VK} {d : D} {y : V}, Rep T G0 H0 ρ σ G H → Stp T G H G1 H1 → IsR true T G1 H1 y d →
      ((dicOf ρ i).bind fun kvs => Out.guard (keyOk kvs.1 d) (.ret (.bool (if (dLook d kvs.2).isSome then !g else g)))).All (PostE false T G H Q) →
      ∃ v, σ[i]? = some (some v) ∧ ∃ ad o, v = V.ref ad ∧ DGet H1 ad y o ∧ Q (.bl (if o.isSome then !g else g)) H1 := fun {G0 H0 G H G1 H1 ρ σ Q d y} R k iy h => by
    obtain ⟨t, kvs, e, h⟩ := dicSlot_get h
    rw [Out.All_guard] at h
    have R1 := R.step k
    obtain ⟨v, ev, ad, rfl, _, _, _, hd⟩ := R1.sl i _ e
    obtain ⟨o, g1, g2, g3⟩ := dic_get R1.sub hd h.1 iy
    have eo : o.isSome = (dLook d kvs).isSome := by
      cases q : dLook d kvs with
      | none => rw [g3 q]; rfl
      | some d' => obtain ⟨v, e5, _⟩ := g2 d' q; rw [e5]; rfl
    refine ⟨_, ev, ad, o, rfl, g1, ?_⟩
    rw [eo]
    exact PostE.now k.gh k.tub (PostE.trans h.2 k R.tub) (.bl _)
  cases g with
  | false =>
    refine ⟨_, pc_din hu pk (pe_var hN hv h1 h2), fun G0 H0 ρ σ G H Q R h => ?_⟩
    rw [Out.All_bind] at h
    refine qk G0 H0 ρ σ G H _ R (h.mono fun d hd y G1 H1 k iy => ?_)
    obtain ⟨v, e1, ad, o, e2, e3, e4⟩ := core R k iy hd
    refine ⟨v, e1, ad, o, e2, e3, ?_⟩
    cases o <;> exact e4
  | true =>
    refine ⟨_, pc_dnotin hu pk (pe_var hN hv h1 h2), fun G0 H0 ρ σ G H Q R h => ?_⟩
    rw [Out.All_bind] at h
    refine qk G0 H0 ρ σ G H _ R (h.mono fun d hd y G1 H1 k iy => ?_)
    obtain ⟨v, e1, ad, o, e2, e3, e4⟩ := core R k iy hd
    refine ⟨v, e1, ad, o, e2, e3, ?_⟩
    cases o <;> exact e4
theorem snd_dget (hu : X.A.units + 1 < cLine) (hN : X.N[i]? = some x) (hv : Vis X.env.scope x) (h1 : (x == ("__debug__" : Str)) = false) (h2 : (x == ("__classdict__" : Str)) = false) (hk : SndE X T true a fk) (hs : plainIxB a = true) :
    SndE X T r (.Subscript (.Name x p1) a pos) (fun ρ => (dicOf ρ i).bind fun kvs => (fk ρ).bind fun k => .guard (keyOk kvs.1 k) (.ofO (dLook k kvs.2))) := by
  refine SndE.read ?_
  obtain ⟨tk, pk, qk⟩ := hk
  refine ⟨_, pe_dget hu (pe_var hN hv h1 h2) pk (by intro o j; cases a <;> first | rfl | cases hs), fun G0 H0 ρ σ G H Q R h => ?_⟩
  obtain ⟨t, kvs, e, h⟩ := dicSlot_get h
  obtain ⟨v, ev, ad, rfl, _⟩ := R.sl i _ e
  refine ⟨_, ev, ?_⟩
  rw [Out.All_bind] at h
  refine qk G0 H0 ρ σ G H _ R (h.mono fun d hd y G1 H1 k iy => ?_)
  rw [Out.All_guard, Out.All_ofO] at hd
  obtain ⟨hko, d2, e2, hd⟩ := hd
  have R1 := R.step k
  obtain ⟨v, ev2, ad2, e3, _, _, _, hdic⟩ := R1.sl i _ e
  subst e3
  rw [ev] at ev2
  cases ev2
  obtain ⟨o, g1, g2, g3⟩ := dic_get R1.sub hdic hko iy
  obtain ⟨w, e5, iw⟩ := g2 d2 e2
  subst e5
  exact ⟨ad, w, rfl, g1, PostE.now k.gh k.tub (PostE.trans hd k R.tub) iw⟩
theorem isD_of {G H : Hp} {ad : Addr} {t : Bool} {kvs : List (D × D)} (h : DicOk T G H ad t kvs) : IsD H ad := by
  rcases h with ⟨_, ks, e, _⟩ | ⟨_, ks, e, _⟩
  · exact .inl ⟨ks, .inl e⟩
  · exact .inr ⟨ks, .inl e⟩
theorem snd_dgetd {apos cpos : Pos} (hu : X.A.units + 1 < cLine) (hN : X.N[i]? = some x) (hv : Vis X.env.scope x) (h1 : (x == ("__debug__" : Str)) = false) (h2 : (x == ("__classdict__" : Str)) = false) (hk : SndE X T true a fk) (hz : SndE X T false b fz) (na : notStarE a = true) (nb : notStarE b = true) (hl : (apos.endLine == cpos.line) = true) :
    SndE X T r (.Call (.Attribute (.Name x p1) "get" apos) [a, b] [] cpos) (fun ρ => (dicOf ρ i).bind fun kvs => (fk ρ).bind fun k => (fz ρ).bind fun w => .guard (keyOk kvs.1 k) (.ret ((dLook k kvs.2).getD w))) := by
  refine SndE.read ?_
  obtain ⟨tk, pk, qk⟩ := hk
  obtain ⟨tz, pz, qz⟩ := hz
  have hst : starEach [a, b] X.env = [(false, eval a X.env), (false, eval b X.env)] := by rw [starEach_cons na, starEach_cons nb]; rfl
  refine ⟨_, pe_dget2 hu (pe_var hN hv h1 h2) pk pz ⟨rfl, by rw [hst]; rfl, hl, by rw [hst]; rfl⟩, fun G0 H0 ρ σ G H Q R h => ?_⟩
  obtain ⟨t, kvs, e, h⟩ := dicSlot_get h
  obtain ⟨v, ev, ad, rfl, _, _, _, hd0⟩ := R.sl i _ e
  refine ⟨_, ev, ad, rfl, isD_of hd0, ?_⟩
  rw [Out.All_bind] at h
  refine qk G0 H0 ρ σ G H _ R (h.mono fun d hd y G1 H1 k iy => ?_)
  rw [Out.All_bind] at hd
  refine qz G0 H0 ρ σ G1 H1 _ (R.step k) (hd.mono fun w hw u G2 H2 k2 iu => ?_)
  rw [Out.All_guard] at hw
  have kk := k.trans k2 R.tub
  have R2 := R.step kk
  obtain ⟨v, ev2, ad2, e3, _, _, _, hdic⟩ := R2.sl i _ e
  subst e3
  rw [ev] at ev2
  cases ev2
  obtain ⟨o, g1, g2, g3⟩ := dic_get R2.sub hdic hw.1 (iy.step k2)
  refine ⟨o, g1, ?_⟩
  have hp := PostE.trans hw.2 kk R.tub
  cases q : dLook d kvs with
  | none =>
    rw [g3 q]
    rw [q] at hp
    exact PostE.now kk.gh kk.tub hp iu.keep
  | some d2 =>
    obtain ⟨w2, e5, iw⟩ := g2 d2 q
    rw [e5]
    rw [q] at hp
    exact PostE.now kk.gh kk.tub hp iw
theorem snd_dlen {p2 : Pos} (hg : Gl X "len") (hm : X.mg "len" = none) (hN : X.N[i]? = some x) (hv : Vis X.env.scope x) (h1 : (x == ("__debug__" : Str)) = false) (h2 : (x == ("__classdict__" : Str)) = false) :
    SndE X T r (.Call (.Name "len" p2) [.Name x p1] [] pos) (fun ρ => (dicOf ρ i).bind fun kvs => .ret (.int kvs.2.length)) := by
  refine SndE.read ?_
  refine ⟨_, pe_callB (CallR.or call_lenD call_len_dT) hg hm boot_len' (pa_cons (pe_var hN hv h1 h2) pa_nil rfl) (by decide +kernel) (by decide +kernel) rfl rfl, fun G0 H0 ρ σ G H Q R h => ?_⟩
  obtain ⟨t, kvs, e, h⟩ := dicSlot_get h
  obtain ⟨v, ev, ad, rfl, _, _, _, hd0⟩ := R.sl i _ e
  refine ⟨_, ev, ?_⟩
  rcases hd0 with ⟨rfl, ks, e1, e2⟩ | ⟨rfl, ks, e1, e2⟩
  · refine .inl ⟨ad, ks, rfl, e1, ?_⟩
    rw [e2.length]
    exact PostE.now R.sub R.tub h (.int _)
  · refine .inr ⟨ad, ks, rfl, e1, ?_⟩
    rw [e2.length]
    exact PostE.now R.sub R.tub h (.int _)
end
end Ev

set_option Elab.async false
set_option linter.all false
set_option autoImplicit false
set_option maxRecDepth 100000
set_option maxHeartbeats 8000000
namespace Ev
open PySem L2
/-! ### tuples are data -/
def frzTups (G H : Hp) : Hp := fun b => match H b with
  | some (.tup xs) => some (.tup xs)
  | _ => G b
section
variable {T : Option Addr} {G H : Hp}
theorem frzTups_at {b : Addr} {xs : List V} (h : H b = some (.tup xs)) : frzTups G H b = some (.tup xs) := by unfold frzTups; rw [h]
theorem stp_tups (s : Sub G H) (t : TubOk T H) : Stp T G H (frzTups G H) H := by
  refine ⟨fun b o e => ?_, fun b o e => ?_, fun _ _ _ h => h, fun b o e => ?_, t⟩
  · have q := s b o e
    unfold frzTups
    split
    · rename_i xs hx
      rw [hx] at q
      exact q
    · exact e
  · unfold frzTups at e
    split at e
    · rename_i xs hx
      rw [hx, ← e]
    · exact s b o e
  · unfold frzTups at e
    split at e
    · rename_i xs hx
      exact .inr (.inr ⟨xs, hx⟩)
    · exact .inl e
theorem is_flat {d : D} {q : L2.Key} (h : flatKey d = some q) : Is T G (kV q) d := by
  cases d <;> simp only [flatKey] at h <;> try (cases h; done)
  · cases h; exact .int _
  · cases h; exact .str _
theorem is_flats : ∀ {ds : List D} {q : List L2.Key}, flatKeys ds = some q → IsAll T G (q.map kV) ds
  | [], _, h => by cases h; exact .nil
  | d :: ds, _, h => by
    simp only [flatKeys, Option.bind_eq_some_iff, Option.map_eq_some_iff] at h
    obtain ⟨k, e1, l, e2, rfl⟩ := h
    exact .cons (is_flat e1) (is_flats e2)
theorem is_tup {d : D} {q : List L2.Key} {b : Addr} (h : tupKey d = some q) (hb : G b = some (.tup (q.map kV))) : Is T G (.ref b) d := by
  cases d <;> simp only [tupKey] at h <;> try (cases h; done)
  exact .tup hb (is_flats h)
theorem keysK : ∀ {kvs : List (D × D)} {ks : List (L2.Key × V)}, KvF T G flatKey kvs ks → IsAll T G (ks.map fun p => kV p.1) (kvs.map (·.1))
  | _, _, .nil => .nil
  | _, _, .cons h _ t => .cons (is_flat h) (keysK t)
theorem keysT {G' : Hp} : ∀ {kvs : List (D × D)} {ks : List (List L2.Key × V)} {bs : List Addr}, KvF T G tupKey kvs ks → IsKeys H ks bs → IsAll T (frzTups G' H) (bs.map V.ref) (kvs.map (·.1))
  | _, _, _, .nil, .nil => .nil
  | _, _, _, .cons h _ t, .cons hb tb => .cons (is_tup h (frzTups_at hb)) (keysT t tb)
end
/-! ### sorted(dict) -/
mutual
theorem reads_live {h : Heap} : ∀ {d : PyData} {v : Value} {as : List Addr}, Reads h v d as → ∀ a ∈ as, a < h.objs.size
  | _, _, _, .none, a, m => by cases m
  | _, _, _, .bool _, a, m => by cases m
  | _, _, _, .int _ _, a, m => by cases m
  | _, _, _, .str _ _, a, m => by cases m
  | _, _, _, .list h1 _ _ h4, a, m => by
    rcases List.mem_cons.mp m with rfl | m
    · exact Heap.lt_size h1
    · exact readsAll_live h4 a m
  | _, _, _, .tuple _ _ _ h4, a, m => readsAll_live h4 a m
  | _, _, _, .dict h1 _ _ h4 h5, a, m => by
    rcases List.mem_append.mp m with m | m
    · rcases List.mem_cons.mp m with rfl | m
      · exact Heap.lt_size h1
      · exact readsAll_live h4 a m
    · exact readsAll_live h5 a m
theorem readsAll_live {h : Heap} : ∀ {ds : List PyData} {vs : List Value} {as : List Addr}, ReadsAll h vs ds as → ∀ a ∈ as, a < h.objs.size
  | _, _, _, .nil, a, m => by cases m
  | _, _, _, .cons h1 h2, a, m => by
    rcases List.mem_append.mp m with m | m
    · exact reads_live h1 a m
    · exact readsAll_live h2 a m
end
theorem each_reads2 {h : Heap} {x : Addr} (hx : h.objs.size ≤ x) : ∀ {xs : List V} {us : List Value} {ds : List D} {as : List Addr}, Vals xs us → xs.length = ds.length → ReadsAll h us ds as → PySem.W.EachIs (fun u (b : V × D) => ∃ as, Reads h u b.2 as ∧ x ∉ as) us (xs.zip ds)
  | [], _, ds, _, r, _, _ => by cases r; exact .nil
  | y :: xs, _, d :: ds, _, .cons r rs, h, .cons h1 h2 => .cons ⟨_, h1, fun m => absurd (reads_live h1 x m) (Nat.not_lt.mpr hx)⟩ (each_reads2 hx rs (by simpa using h) h2)
theorem each_up {h h' : Heap} {x : Addr} (k : ∀ b o, h.get? b = some o → h'.get? b = some o) {us : List Value} {bs : List (V × D)} (e : PySem.W.EachIs (fun u (b : V × D) => ∃ as, Reads h u b.2 as ∧ x ∉ as) us bs) : PySem.W.EachIs (fun u (b : V × D) => ∃ as, Reads h' u b.2 as ∧ x ∉ as) us bs :=
  e.mono fun _ _ ⟨as, r, m⟩ => ⟨as, PyProof.Rows.Reads.keeps k r, m⟩
/-- what is left to show of the sorted values -/
def SortTail (K : PySem.W.Frag) (xs : List V) (ds : List D) (H : Hp) (Q : VK) : Prop := xs.length = ds.length ∧ ds.length ≤ lim ∧
  ((ds.length ≤ 1 ∧ ∀ p, H p = none → Q (.ref p) (upd H p (.lst xs))) ∨
   (DpAll K H xs ds ∧ PySem.W.AllAlike ds ∧ PySem.W.Sortable ds ∧ (∀ d ∈ ds, d.depth ≤ 64) ∧ ∀ p, H p = none → Q (.ref p) (upd H p (.lst (((xs.zip ds).mergeSort (PySem.W.dataLe false (·.2))).map (·.1))))))
section
variable {X : Cx} {pins : List (Addr × Obj)} {σ : Sg} {H : Hp} {s : Shared} {Q : VK}
theorem sort_src {n m : Nat} {d : Addr} {P : Nat → Value → Prop} {OK : Heap → Prop} {xs : List V} {ds : List D} (hr : Room n X.A) (I : Inv X pins σ H s) (S : PySem.W.KdlSrc X.prog X.w "dict" d d m P OK) (hok : OK s.heap) (hm : m = ds.length)
    (hv : ∀ acc : List Value, acc.length = m → (∀ j v, acc[j]? = some v → P j v) → Vals xs acc) (hT : SortTail X.K xs ds H Q) : wpAny (model X.prog X.w) X.A (call (.builtin "sorted") [.ref d]) (EP X pins σ Q) X.xe s := by
  obtain ⟨hlen, hz, hT⟩ := hT
  have hzz : lim ≤ sizeLine := lim_le
  refine Calls.call_function_entry PyProof.Rows.kind_sorted PyProof.Rows.plain_sorted PyProof.Rows.entry_sorted (PyProof.Rows.args_sorted1 _) ?_
  unfold Builtin.«sorted»
  refine wpAny_bind (m := checkCount "sorted" 1 1 _) (wpAny_pure (wpAny_bind (PySem.W.kdu_collect (A := X.A.in1) S hr.hd hok (by omega) fun h1 tk acc kp itm => ?_)))
  have rv : Vals xs acc.toList := hv _ (by rw [Array.length_toList]; exact itm.1) fun j v e => itm.2 j v (by rw [← Array.getElem?_toList]; exact e)
  have lv := rv.length
  have lv2 : xs.length = acc.size := by rw [lv, Array.length_toList]
  have J : Inv X pins σ H { s with heap := h1, toks := tk } := I.kept kp
  refine wpAny_bind (wpAny_newList ?_ (by omega))
  have at1 : (h1.push (PyProof.Rows.seqObj "list" acc.toList.toArray 0)).get? h1.objs.size = some (PyProof.Rows.seqObj "list" acc.toList.toArray 0) := Heap.get?_push_size _ rfl
  show wpAny _ _ _ _ _ { s with heap := h1.push (PyProof.Rows.seqObj "list" acc.toList.toArray 0), toks := tk }
  have fin : ∀ {ys : List V} {out : List Value}, Vals ys out → out.length = acc.toList.length → Q (.ref h1.objs.size) (upd H h1.objs.size (.lst ys)) →
      EP X pins σ Q (.ref h1.objs.size) { s with heap := PyProof.Rows.sortedHeap (h1.push (PyProof.Rows.seqObj "list" acc.toList.toArray 0)) h1.objs.size acc.toList out.toArray, toks := tk } := fun {ys out} r2 lo q => by
    obtain ⟨e2, at2⟩ := PyProof.Rows.sortedHeap_at (vs := acc.toList) (out := out.toArray) at1
    refine ⟨.ref h1.objs.size, _, J.laid (t' := tk) (o := .lst ys) (fun b u e => ?_) (Nat.le_refl _) ⟨?_, out, e2, r2, at2⟩, rfl, q⟩
    · have hb : b < h1.objs.size := Heap.lt_size e
      rw [PyProof.Rows.sortedHeap_old (Nat.ne_of_lt hb) (by rw [PyProof.Rows.size_push']; exact Nat.lt_succ_of_lt hb)]
      exact Heap.get?_push_of_some _ e
    · have := r2.length
      omega
  rcases hT with ⟨hone, q⟩ | ⟨hd, hal, hk, h64, q⟩
  · refine wpAny_bind (wpAny_holding (wpAny_call_entry PyProof.Rows.slot_list_sort ⟨_, at1, rfl⟩ PyProof.Rows.entry_list_sort (Srt.list_sort_any at1 (by omega) (fun h2 => absurd h2 (by omega)) fun out ho => ⟨_, rfl, ?_⟩) (PyProof.Rows.args_list_sort _)))
    have e : out = acc.toList := by
      cases hacc : acc.toList with
      | nil => rw [hacc] at ho; exact ho.eq_nil
      | cons u t =>
        rw [hacc] at ho
        cases t with
        | nil => exact List.perm_singleton.mp ho
        | cons u2 t2 => rw [hacc] at lv; simp at lv; omega
    subst e
    exact wpAny_pure ⟨_, rfl, fin rv rfl (q _ (J.hok.fresh (Nat.le_refl _)))⟩
  · obtain ⟨as, hr1⟩ := Dp.readsAll J ds xs acc.toList hd rv
    have e2 : (xs.zip ds).map (·.2) = ds := List.map_snd_zip (by omega)
    have hu := hr.un
    refine wpAny_bind (wpAny_holding (PySem.W.list_sort_data (A := X.A.in1) (β := V × D) (bs := xs.zip ds) (enc := (·.2)) (R := fun u (b : V × D) => RelV b.1 u) at1 (paired_each rv hlen) (each_up (fun b o e => Heap.get?_push_of_some _ e) (each_reads2 (Nat.le_refl _) rv hlen hr1)) (by rw [e2]; exact hal) (by rw [e2]; exact hk) (by simp; omega) (fun b hb => ?_) fun out ho hq => ?_))
    · have := h64 b.2 (List.of_mem_zip hb).2
      show X.A.units + 1 + 1 + _ < _
      omega
    · exact wpAny_pure ⟨_, rfl, fin (each_vals hq) (by rw [ho]; simp; omega) (q _ (J.hok.fresh (Nat.le_refl _)))⟩
def rSortDic (K : PySem.W.Frag) : List V → Hp → VK → Prop := fun vs H Q => ∃ (a : Addr) (ds : List D), vs = [V.ref a] ∧
  ((∃ kvs : List (L2.Key × V), H a = some (.dK kvs) ∧ SortTail K (kvs.map fun p => kV p.1) ds H Q) ∨ ∃ kvs : List (List L2.Key × V), H a = some (.dT kvs) ∧ kvs.length = ds.length ∧ ∀ bs, IsKeys H kvs bs → SortTail K (bs.map V.ref) ds H Q)
theorem cr_sortDic {n : Nat} (hr : Room n X.A) : CallR X (.builtin "sorted") (rSortDic X.K) := by
  intro pins s σ H vs us Q I r h
  obtain ⟨a, ds, rfl, h⟩ := h
  rw [Vals.ref1 r]
  rcases h with ⟨kvs, ha, hT⟩ | ⟨kvs, ha, hkl, hT⟩
  · obtain ⟨z, lo, ws, rel, dd⟩ := dk_of I.hok ha
    obtain ⟨ep, hat⟩ := dd.dictAt
    have l1 : kvs.length = ws.length := Paired.length rel
    have hl := hT.1
    rw [List.length_map] at hl
    refine sort_src hr I (PySem.W.kdl_dict (knd := mixKind X.prog X.w) (kvs := ws) (ep := ep) lo) hat (by omega) (fun acc hacc hP => ?_) hT
    have ek : (kvs.map fun p => kV p.1) = ws.map fun p => kV p.1 := by
      have e := congrArg (List.map kV) rel.keys
      rw [List.map_map, List.map_map] at e
      exact e
    rw [ek]
    exact keys_at hacc hP
  · obtain ⟨z, hs, ks, pr, o, es, ep, ho, hx, hdt, he, hn⟩ := (show ObjOk X.prog X.w H s.heap a (.dT kvs) from I.hok a _ ha)
    have l1 : es.size = ks.length := size_of_entries he
    have l2 : kvs.length = ks.length := Paired.length pr
    refine sort_src hr I (kdl_raw (o := o) (es := es) (ep := ep) hs hx hdt) ho (by omega) (fun acc hacc hP => ?_) (hT _ (isKeys_of pr))
    have ea : acc = (ks.map fun x => x.2.1).map Value.ref := by
      refine List.ext_getElem? fun j => ?_
      rw [List.map_map, List.getElem?_map]
      cases hj : acc[j]? with
      | none =>
        have h1 := List.getElem?_eq_none_iff.mp hj
        rw [List.getElem?_eq_none (by omega)]
        rfl
      | some v =>
        obtain ⟨en, hen, rfl⟩ := hP j v hj
        have qe := entry_at he j
        rw [hen] at qe
        cases hb : ks[j]? with
        | none => rw [hb] at qe; cases qe
        | some b => rw [hb] at qe; cases qe; rfl
    rw [ea]
    exact vals_refs _
theorem tail_of {T : Option Addr} {G G' : Hp} {K : PySem.W.Frag} {xs : List V} {ds : List D} (k : Stp T G H G' H) (tb : TubOk T H) (iv : IsAll T G' xs ds) (ho : sortOk ds = true) (hp : PostF T G H Q (.list (ds.mergeSort dataLe))) : SortTail K xs ds H Q := by
  unfold sortOk at ho
  simp only [Bool.and_eq_true, decide_eq_true_eq, Bool.or_eq_true] at ho
  obtain ⟨l1, lay, l2, l3, l4⟩ := ho
  have h := PostF.trans hp k tb
  refine ⟨iv.length, l1, ?_⟩
  rcases l4 with l4 | l4
  · rw [one_sorted ds l4] at h
    exact .inl ⟨l4, fun p' hp' => PostF.laid k.gh k.tub h hp' iv⟩
  · have hal : PySem.W.AllAlike ds := fun d hd e he => List.all_eq_true.mp (List.all_eq_true.mp l2 d hd) e he
    refine .inr ⟨iv.dp k.gh _ _ lay, hal, ?_, fun d hd => of_decide_eq_true (List.all_eq_true.mp l3 d hd), fun p' hp' => PostF.laid k.gh k.tub h hp' ?_⟩
    · rcases l4 with l4 | l4
      · refine .inl fun d hd => ?_
        have := List.all_eq_true.mp l4 d hd
        cases d <;> try exact absurd this Bool.false_ne_true
        rename_i ys
        cases ys with
        | nil => exact absurd this Bool.false_ne_true
        | cons => exact ⟨_, _, rfl⟩
      · refine .inr fun d hd => ?_
        have := List.all_eq_true.mp l4 d hd
        cases d <;> first | exact absurd this Bool.false_ne_true | exact ⟨by simp, by simp⟩
    · have e2 : (xs.zip ds).map (·.2) = ds := List.map_snd_zip (by rw [iv.length]; exact Nat.le_refl _)
      have e3 : (((xs.zip ds).mergeSort (PySem.W.dataLe false (·.2))).map (·.2)) = ds.mergeSort dataLe := by
        rw [List.map_mergeSort (s := dataLe) (fun a _ b _ => dataLe_snd a b), e2]
      rw [← e3]
      exact isAll_maps fun b hb => zip_is iv b ((List.mergeSort_perm _ _).mem_iff.mp hb)
theorem snd_dsort {n : Nat} {T : Option Addr} {i : Nat} {x : Str} {p1 p2 pos : Pos} (hr : Room n X.A) (hg : Gl X "sorted") (hm : X.mg "sorted" = none) (hN : X.N[i]? = some x) (hv : Vis X.env.scope x) (h1 : (x == ("__debug__" : Str)) = false) (h2 : (x == ("__classdict__" : Str)) = false) :
    SndF X T (.Call (.Name "sorted" p2) [.Name x p1] [] pos) (fun ρ => (dicOf ρ i).bind fun kvs => sortD (kvs.2.map (·.1))) := by
  refine ⟨_, pe_callB (cr_sortDic hr) hg hm boot_sorted' (pa_cons (pe_var hN hv h1 h2) pa_nil rfl) (by decide +kernel) (by decide +kernel) rfl rfl, fun G0 H0 ρ σ G H Q R h => ?_⟩
  obtain ⟨t, kvs, e, h⟩ := dicSlot_get h
  obtain ⟨v, ev, ad, rfl, _, _, _, hd0⟩ := R.sl i _ e
  unfold sortD at h
  rw [Out.All_guard, isort_eq] at h
  refine ⟨_, ev, ad, kvs.map (·.1), rfl, ?_⟩
  rcases hd0 with ⟨rfl, ks, e1, e2⟩ | ⟨rfl, ks, e1, e2⟩
  · exact .inl ⟨ks, e1, tail_of (.refl R.sub R.tub) R.tub (keysK e2) h.1 h.2⟩
  · exact .inr ⟨ks, e1, by rw [e2.length, List.length_map], fun bs hbs => tail_of (stp_tups R.sub R.tub) R.tub (keysT e2 hbs) h.1 h.2⟩
end
end Ev

set_option Elab.async false
set_option linter.all false
set_option autoImplicit false
set_option maxRecDepth 100000
set_option maxHeartbeats 4000000
namespace Ev
open PySem L2
/-! ### lists of one's own in a list of one's own: looked at; list(range(..)) -/
theorem own2_get {ρ : Ro} {i : Nat} {α : Type} {k : List (List D) → Out α} {P : α → Prop} (h : ((own2Of ρ i).bind k).All P) : ∃ xss, ρ[i]? = some (some (.own2 xss)) ∧ (k xss).All P := by
  unfold own2Of slot at h
  rw [Out.bind_assoc, Out.All_bind, Out.All_ofO] at h
  obtain ⟨s, e, h⟩ := h
  have e' : ρ[i]? = some (some s) := by
    cases q : ρ[i]? with
    | none => rw [q] at e; cases e
    | some o => rw [q] at e; simp at e; rw [e]
  cases s with
  | own xs => exact h.elim
  | val d => exact h.elim
  | dic t kvs => exact h.elim
  | own2 xss => exact ⟨xss, e', h⟩
theorem atI_of {xs : List V} {n : Nat} {z : Int} {j : Nat} {v : V} (hn : xs.length = n) (h : L2.ixN n z = some j) (e : xs[j]? = some v) : L2.atI xs z = some v := by
  unfold L2.atI
  rw [hn, h]
  exact e
section
variable {X : Cx} {T : Option Addr} {r : Bool} {a b ix : Expr} {pos : Pos} {fa fb fi : Ro → Out D} {i : Nat} {x : Str} {p1 p2 p3 : Pos}
theorem ix_plain {ix : Expr} (h : plainIxB ix = true) : PlainIx ix := by
  intro env d
  cases ix <;> first | rfl | cases h
theorem snd_row (hN : X.N[i]? = some x) (hv : Vis X.env.scope x) (h1 : (x == ("__debug__" : Str)) = false) (h2 : (x == ("__classdict__" : Str)) = false) (hi : SndE X T true ix fi) (hpi : plainIxB ix = true) :
    SndE X T r (.Subscript (.Name x p1) ix p3) (fun ρ => .guard r ((own2Of ρ i).bind fun xss => (fi ρ).bind fun k => (asInt k).bind fun z => (Out.ofO (L2.ixN xss.length z)).bind fun j => (Out.ofO xss[j]?).bind fun xs => .ret (.list xs))) := by
  obtain ⟨ti, pi, qi⟩ := hi
  refine ⟨_, pe_ix ix_list (pe_var hN hv h1 h2) pi (ix_plain hpi), fun G0 H0 ρ σ G H Q R h => ?_⟩
  rw [Out.All_guard] at h
  obtain ⟨hr, h⟩ := h
  obtain ⟨xss, e, h⟩ := own2_get h
  obtain ⟨w, ew, a, as, rfl, ga, h0, hT, hH, nd, iv⟩ := R.sl i _ e
  refine ⟨_, ew, ?_⟩
  rw [Out.All_bind] at h
  refine qi G0 H0 ρ σ G H _ R (h.mono fun y hy yv G2 H2 k2 iy => ?_)
  obtain ⟨z, rfl, hy2⟩ := All_asInt hy
  rw [Out.All_bind, Out.All_ofO] at hy2
  obtain ⟨j, ej, hy3⟩ := hy2
  rw [Out.All_bind, Out.All_ofO] at hy3
  obtain ⟨xs, ex, hy4⟩ := hy3
  have R2 := R.step k2
  obtain ⟨w1, ew1, a1, as1, e1, ga1, h01, hT1, hH1, nd1, iv1⟩ := R2.sl i _ e
  subst e1
  rw [ew] at ew1
  cases ew1
  obtain ⟨b, vs, eb, gb, h0b, hTb, hHb, ivb⟩ := iv1.get ex
  refine ⟨a, as1.map V.ref, z, .ref b, rfl, iy.int, .of hH1, atI_of (n := xss.length) (by rw [List.length_map, iv1.length]) ej (by rw [List.getElem?_map, eb]; rfl), ?_⟩
  exact hy4 (.ref b) G2 H2 k2 (.inr ⟨hr, b, vs, xs, rfl, rfl, hTb, hHb, ivb⟩)
theorem snd_rows (hg : Gl X "len") (hm : X.mg "len" = none) (hN : X.N[i]? = some x) (hv : Vis X.env.scope x) (h1 : (x == ("__debug__" : Str)) = false) (h2 : (x == ("__classdict__" : Str)) = false) :
    SndE X T r (.Call (.Name "len" p2) [.Name x p1] [] pos) (fun ρ => (own2Of ρ i).bind fun xss => .ret (.int xss.length)) := by
  refine SndE.read ?_
  refine ⟨_, pe_callB call_len_seq hg hm boot_len' (pa_cons (pe_var hN hv h1 h2) pa_nil rfl) (by decide +kernel) (by decide +kernel) rfl rfl, fun G0 H0 ρ σ G H Q R h => ?_⟩
  obtain ⟨xss, e, h⟩ := own2_get h
  obtain ⟨v, ev, a, as, rfl, ga, h0, hT, hH, nd, iv⟩ := R.sl i _ e
  refine ⟨_, ev, a, as.map V.ref, rfl, .inl (.of hH), ?_⟩
  rw [List.length_map, iv.length]
  exact PostE.now R.sub R.tub h (.int _)
theorem rgV_is {G : Hp} (i j : Int) : IsAll T G (rgV i j) (rngL i (j - i).toNat) := by
  refine IsAll.of_get (by rw [rgV_length, rngL_length]) fun k v d h1 h2 => ?_
  have hk : k < (j - i).toNat := by
    have := (List.getElem?_eq_some_iff.mp h1).1
    rwa [rgV_length] at this
  rw [rngL_get _ _ _ hk] at h2
  cases h2
  unfold rgV at h1
  rw [List.getElem?_map, List.getElem?_range hk] at h1
  cases h1
  exact .int _
theorem snd_lrng (hc : X.calm = true) (hl : Gl X "list") (hml : X.mg "list" = none) (hg : Gl X "range") (hm : X.mg "range" = none) (ha : SndE X T true a fa) (hb : SndE X T true b fb) (na : notStarE a = true) (nb : notStarE b = true) :
    SndF X T (.Call (.Name "list" p1) [.Call (.Name "range" p2) [a, b] [] p3] [] pos) (fun ρ => (fa ρ).bind fun x => (fb ρ).bind fun y => (asInt x).bind fun i => (asInt y).bind fun j =>
      .guard (small62 i && (small62 j && decide ((j - i).toNat ≤ lim))) (.ret (.list (rngL i (j - i).toNat)))) := by
  obtain ⟨ta, pa, qa⟩ := ha
  obtain ⟨tb, pb, qb⟩ := hb
  refine ⟨_, pe_listRg hc hl hml (prg_2 hg hm pa pb (starEach_cons na) (starEach_cons nb) (by rw [starEach_cons nb]; rfl)) rfl, fun G0 H0 ρ σ G H Q R h => ?_⟩
  rw [Out.All_bind] at h
  refine qa G0 H0 ρ σ G H _ R (h.mono fun d hd v G1 H1 k i1 => ?_)
  rw [Out.All_bind] at hd
  refine qb G0 H0 ρ σ G1 H1 _ (R.step k) (hd.mono fun d' hd u G2 H2 k2 j1 => ?_)
  obtain ⟨z, rfl, hd1⟩ := All_asInt hd
  obtain ⟨z', rfl, hd2⟩ := All_asInt hd1
  rw [Out.All_guard, Bool.and_eq_true, Bool.and_eq_true] at hd2
  obtain ⟨⟨hz, hz', hl⟩, hd3⟩ := hd2
  obtain ⟨s1, s2⟩ := small62_of hz
  obtain ⟨s3, s4⟩ := small62_of hz'
  have hl := of_decide_eq_true hl
  refine ⟨z, z', i1.int, j1.int, ⟨s1, s2, s3, s4, Nat.le_trans hl (by decide)⟩, fun q hq => ?_⟩
  have kk := k.trans k2 R.tub
  have R2 := R.step kk
  have hq0 : H q = none := kk.back R.tub hq
  refine hd3 q (rgV z z') _ G2 _ rfl (kk.trans (Stp.fresh R2.sub R2.tub hq) R.tub) hq0 ?_ upd_same (rgV_is z z')
  cases e : G2 q with
  | none => rfl
  | some o => rw [R2.sub q o e] at hq; cases hq
end
end Ev

set_option Elab.async false
set_option linter.all false
set_option autoImplicit false
set_option maxRecDepth 100000
set_option maxHeartbeats 4000000
namespace Ev
open PySem L2 Exn
/-! ### own exceptions: made, asked, a field read -/
section
variable {X : Cx} {T : Option Addr} {r : Bool} {a e : Expr} {pos p1 p2 p kp : Pos} {fa : Ro → Out D} {x : Str}
theorem atm_of {G : Hp} {v : V} {d : D} (h : atomD d = true) (i : Is T G v d) : Atm G v d := by
  cases i with
  | non => exact .non
  | int i => exact .int i
  | str x => exact .str x
  | lst g r =>
    rename_i ds
    cases ds with
    | nil => cases r; exact .nil g
    | cons d ds => cases h
  | bl b => cases h
  | tup g r => cases h
  | tub e => cases h
  | scr e => cases h
  | xc0 e => cases h
  | xc1 e1 e2 e3 => cases h
/-- two new objects, frozen at once -/
theorem xc1_post {G H : Hp} {Q : VK} {v : V} {d : D} {C : Addr} {fld : Str} (s : Sub G H) (t : TubOk T H) (i : Is T G v d) (h : (Out.guard (atomD d) (.ret (xcD C fld d)) : Out D).All (PostE r T G H Q)) :
    ∀ a dx, H a = none → H dx = none → dx ≠ a → Q (.ref a) (upd (upd H dx (exd dx [(fld, v)])) a (exo a C (some dx))) := fun a dx ha hd ne => by
  rw [Out.All_guard] at h
  obtain ⟨hA, h⟩ := h
  have k1 : Stp T G H (upd G dx (exd dx [(fld, v)])) (upd H dx (exd dx [(fld, v)])) := .laid s t hd
  have ha1 : upd H dx (exd dx [(fld, v)]) a = none := by rw [upd_ne (Ne.symm ne)]; exact ha
  have k2 := Stp.laid (o := exo a C (some dx)) k1.gh k1.tub ha1
  have k := k1.trans k2 t
  refine h (.ref a) _ _ k (.inl (.xc1 upd_same ?_ ((atm_of hA i).mono k.gs)))
  rw [upd_ne ne, upd_same]
theorem snd_mkx {C fI : Addr} {B newId i : String} {bmB : List Value} {par fld : Str} {fd : FuncData} (F : MkFacts X.prog X.K C fI B newId i bmB par fld fd) (hs : X.mg "super" = none) (room : X.A.depth + 1 < recursionLimit) (hg : Gl X x) (hm : X.mg x = some (.ref C))
    (he : SndE X T false e fa) (hns : notStarE e = true) (hdb : (x == ("__debug__" : Str)) = false) : SndE X T r (.Call (.Name x p) [e] [] pos) (fun ρ => (fa ρ).bind fun d => .guard (atomD d) (.ret (xcD C fld d))) := by
  obtain ⟨te, pe, qe⟩ := he
  refine ⟨_, pe_mkp F hs room hg hm pe (starEach_cons hns) hdb, fun G0 H0 ρ σ G H Q R h => ?_⟩
  rw [Out.All_bind] at h
  exact qe G0 H0 ρ σ G H _ R (h.mono fun d hd v G1 H1 k1 i1 => xc1_post k1.gh k1.tub i1.keep (hd.mono fun d hd => hd.trans k1 R.tub))
theorem snd_mkk {C fI : Addr} {B newId i : String} {bmB : List Value} {par fld : Str} {fd : FuncData} (F : MkFacts X.prog X.K C fI B newId i bmB par fld fd) (hs : X.mg "super" = none) (room : X.A.depth + 1 < recursionLimit) (hg : Gl X x) (hm : X.mg x = some (.ref C))
    (he : SndE X T false e fa) (hdb : (x == ("__debug__" : Str)) = false) : SndE X T r (.Call (.Name x p) [] [⟨some par, e, kp⟩] pos) (fun ρ => (fa ρ).bind fun d => .guard (atomD d) (.ret (xcD C fld d))) := by
  obtain ⟨te, pe, qe⟩ := he
  refine ⟨_, pe_mkk F hs room hg hm pe hdb, fun G0 H0 ρ σ G H Q R h => ?_⟩
  rw [Out.All_bind] at h
  exact qe G0 H0 ρ σ G H _ R (h.mono fun d hd v G1 H1 k1 i1 => xc1_post k1.gh k1.tub i1.keep (hd.mono fun d hd => hd.trans k1 R.tub))
theorem snd_mk0 {C : Addr} {B newId i : String} {bmB : List Value} (F : Mk0Facts X.K C B newId i bmB) (hg : Gl X x) (hm : X.mg x = some (.ref C)) (hdb : (x == ("__debug__" : Str)) = false) : SndE X T r (.Call (.Name x p) [] [] pos) (fun _ => .ret (xc0 C)) :=
  ⟨_, pe_mk0 F hg hm hdb, fun G0 H0 ρ σ G H Q R h a ha => h (.ref a) _ _ (.laid R.sub R.tub ha) (.inl (.xc0 upd_same))⟩
/-- an exception in hand -/
theorem isr_x0 {G H : Hp} {v : V} {c : Int} (s : Sub G H) (i : IsR true T G H v (.dict [(.int c, .none)])) : ∃ (a C : Addr), c = (C : Int) ∧ v = V.ref a ∧ ExAt H a C := by
  rcases i with i | ⟨_, a, vs, xs, e, _⟩
  · cases i with
    | xc0 e => exact ⟨_, _, rfl, rfl, .inl (s _ _ e)⟩
  · cases e
theorem isr_x1 {G H : Hp} {v : V} {c : Int} {f : Str} {d : D} (s : Sub G H) (i : IsR true T G H v (.dict [(.int c, .tuple [.str f, d])])) : ∃ (a C dx : Addr) (u : V), c = (C : Int) ∧ v = V.ref a ∧ H a = some (exo a C (some dx)) ∧ H dx = some (exd dx [(f, u)]) ∧ Is T G u d := by
  rcases i with i | ⟨_, a, vs, xs, e, _⟩
  · cases i with
    | xc1 e1 e2 q =>
      refine ⟨_, _, _, _, rfl, rfl, s _ _ e1, s _ _ e2, ?_⟩
      cases q with
      | non => exact .non
      | int i => exact .int i
      | str x => exact .str x
      | nil e => exact .lst e .nil
  · cases e
theorem any_nat {l : List Nat} {c : Nat} (h : (l.any fun n => decide ((n : Int) = (c : Int))) = true) : c ∈ l := by
  obtain ⟨n, hn, e⟩ := List.any_eq_true.mp h
  have : (n : Int) = (c : Int) := of_decide_eq_true e
  rw [← Int.ofNat.inj this]
  exact hn
theorem isx_say {yes no : List Nat} {c : Nat} {P : D → Prop} (h : (isxV yes no (c : Int)).All P) : ∃ b : Bool, P (.bool b) ∧ ((b = true ∧ c ∈ yes) ∨ (b = false ∧ c ∈ no)) := by
  unfold isxV at h
  split at h
  · rename_i q
    exact ⟨true, h, .inl ⟨rfl, any_nat q⟩⟩
  · rw [Out.All_guard] at h
    exact ⟨false, h.2, .inr ⟨rfl, any_nat h.1⟩⟩
theorem snd_isx {yes no : List Nat} {cv : Value} (hgl : Gl X "isinstance") (hm : X.mg "isinstance" = none) (hb : ∃ c : V, (∀ u, RelV c u → u = cv) ∧ PE X (.Name x p2) (tC c))
    (hy : ∀ c ∈ yes, ExcC X.K c ∧ PySem.W.kitOne X.K (.ref c) cv = some true) (hn : ∀ c ∈ no, ExcC X.K c ∧ PySem.W.kitOne X.K (.ref c) cv = some false) (ha : SndE X T true a fa) (hns : notStarE a = true) :
    SndE X T r (.Call (.Name "isinstance" p1) [a, .Name x p2] [] pos) (fun ρ => (fa ρ).bind (isxD yes no)) := by
  refine SndE.read ?_
  obtain ⟨ta, pa, qa⟩ := ha
  obtain ⟨cc, hcc, hb⟩ := hb
  have hp : PA X [a, .Name x p2] (tCons ta (tCons (tC cc) tNil)) := pa_cons pa (pa_cons hb pa_nil rfl) (starEach_cons hns)
  refine ⟨_, pe_callB call_isx hgl hm PyProof.Rows.Boot.«isinstance» hp (by decide) (by decide) (starEach_cons hns) rfl, fun G0 H0 ρ σ G H Q R h => ?_⟩
  rw [Out.All_bind] at h
  refine qa G0 H0 ρ σ G H _ R (h.mono fun d hd v G1 H1 k1 i1 => ?_)
  have core : ∀ {a C : Addr}, v = V.ref a → ExAt H1 a C → (isxV yes no (C : Int)).All (PostE false T G H Q) → rIsx X.K [v, cc] H1 Q := fun {a C} ev ex hq => by
    obtain ⟨b, q, hbc⟩ := isx_say hq
    refine ⟨a, C, cc, cv, b, by rw [ev], ex, ?_, hcc, ?_, PostE.now k1.gh k1.tub (q.trans k1 R.tub) (.bl _)⟩
    · rcases hbc with ⟨_, z⟩ | ⟨_, z⟩
      · exact (hy C z).1
      · exact (hn C z).1
    · rcases hbc with ⟨rfl, z⟩ | ⟨rfl, z⟩
      · exact (hy C z).2
      · exact (hn C z).2
  unfold isxD at hd
  split at hd
  · obtain ⟨a, C, rfl, ev, ex⟩ := isr_x0 k1.gh i1
    exact core ev ex hd
  · obtain ⟨a, C, dx, u, rfl, ev, e1, e2, _⟩ := isr_x1 k1.gh i1
    exact core ev (.inr ⟨dx, _, e1, e2⟩) hd
  · exact hd.elim
theorem snd_xat {f : Str} {cs : List Nat} (hx : ∀ c ∈ cs, XfC X.K c ∧ PySem.W.findIn X.K (.ref c) f = some none) (he : SndE X T true e fa) (hb : attributeBase e f X.env (eval e X.env) = eval e X.env) :
    SndE X T r (.Attribute e f pos) (fun ρ => (fa ρ).bind (xatD f cs)) := by
  refine SndE.read ?_
  obtain ⟨te, pe, qe⟩ := he
  refine ⟨_, pe_xat pe hb, fun G0 H0 ρ σ G H Q R h => ?_⟩
  rw [Out.All_bind] at h
  refine qe G0 H0 ρ σ G H _ R (h.mono fun d hd v G1 H1 k1 i1 => ?_)
  unfold xatD at hd
  split at hd
  · rename_i c g d
    rw [Out.All_guard, Bool.and_eq_true, decide_eq_true_eq] at hd
    obtain ⟨⟨hc, rfl⟩, hd⟩ := hd
    obtain ⟨a, C, dx, u, rfl, ev, e1, e2, iu⟩ := isr_x1 k1.gh i1
    have hC := hx C (any_nat hc)
    exact ⟨a, C, dx, _, u, ev, e1, e2, hC.1, hC.2, by simp [List.lookup], PostE.now k1.gh k1.tub (PostE.trans hd k1 R.tub) iu⟩
  · exact hd.elim
end
end Ev

set_option Elab.async false
set_option linter.all false
set_option autoImplicit false
set_option maxRecDepth 100000
set_option maxHeartbeats 8000000
namespace Ev
open PySem L2
section
variable {C : Ck} {n : Nat} {S : Sx} {X : Cx} {T : Option Addr}
theorem sd_blt (g : Gd C n S X) {b : Blt} {a : E} {y : Expr} {ys : List Expr} {p pos : Pos} {Γ : Env} (hg : Gl X (bltN b)) (hns : (y :: ys).all notStarE = true) (ha : ∀ r, SndL X T r (y :: ys) (ev Γ r a)) : SE X T Γ (.blt b a) (.Call (.Name (bltN b) p) (y :: ys) [] pos) := by
  have hc := g.calm
  cases b with
  | len => exact SE.plain (fun r => snd_blt (ha true) (fun t pa => mkB g call_len_seq hg (by decide +kernel) boot_len' (by decide +kernel) (by decide +kernel) hns pa) oc_len) rfl (nf rfl)
  | sum => exact SE.plain (fun r => snd_blt (ha true) (fun t pa => mkB g (cr_sumT hc) hg (by decide +kernel) boot_sum' (by decide +kernel) (by decide +kernel) hns pa) oc_sum) rfl (nf rfl)
  | max => exact SE.plain (fun r => snd_blt (ha true) (fun t pa => mkB g (call_max2D hc) hg (by decide +kernel) boot_max' (by decide +kernel) (by decide +kernel) hns pa) oc_max) rfl (nf rfl)
  | min => exact SE.plain (fun r => snd_blt (ha true) (fun t pa => mkB g (call_min2D hc) hg (by decide +kernel) boot_min' (by decide +kernel) (by decide +kernel) hns pa) oc_min) rfl (nf rfl)
  | all => exact SE.plain (fun r => snd_blt (ha true) (fun t pa => mkB g (cr_all hc) hg (by decide +kernel) boot_all' (by decide +kernel) (by decide +kernel) hns pa) oc_all) rfl (nf rfl)
  | any => exact SE.plain (fun r => snd_blt (ha true) (fun t pa => mkB g (cr_any hc) hg (by decide +kernel) boot_any' (by decide +kernel) (by decide +kernel) hns pa) oc_any) rfl (nf rfl)
  | tuple => exact SE.plain (fun r => snd_blt (ha true) (fun t pa => mkT g call_tuple_of hg (by decide +kernel) boot_tuple' (by decide +kernel) (by decide +kernel) hns pa) oc_tuple) rfl (nf rfl)
  | list =>
    have hf : SndF X T (.Call (.Name (bltN .list) p) (y :: ys) [] pos) (ev Γ false (.blt .list a)) := snd_bltF (ha true) (fun t pa => mkT g call_list_of hg (by decide +kernel) boot_list' (by decide +kernel) (by decide +kernel) hns pa) oc_list
    exact SE.plain (fun r => hf.e) rfl fun _ => hf.only
  | sorted =>
    have hf : SndF X T (.Call (.Name (bltN .sorted) p) (y :: ys) [] pos) (ev Γ false (.blt .sorted a)) := snd_bltF (ha true) (fun t pa => mkB g (cr_sortD g.room) hg (by decide +kernel) boot_sorted' (by decide +kernel) (by decide +kernel) hns pa) (oc_sorted (X := X))
    exact SE.plain (fun r => hf.e) rfl fun _ => hf.only
  | abs => exact SE.plain (fun r => snd_blt (ha true) (fun t pa => mkB g call_abs hg (by decide +kernel) boot_abs' (by decide +kernel) (by decide +kernel) hns pa) oc_abs) rfl (nf rfl)
  | int => exact SE.plain (fun r => snd_blt (ha true) (fun t pa => mkT g call_int1 hg (by decide +kernel) boot_int' (by decide +kernel) (by decide +kernel) hns pa) oc_int) rfl (nf rfl)
  | divmod => exact SE.plain (fun r => snd_blt (ha true) (fun t pa => mkB g call_divmod hg (by decide +kernel) boot_divmod' (by decide +kernel) (by decide +kernel) hns pa) oc_divmod) rfl (nf rfl)
theorem room1 {n : Nat} {A : Around} (r : Room n A) : A.depth + 1 < recursionLimit := by
  have := r.dp
  omega
theorem base_of {e : Expr} {f : Str} {env : PySem.Env} (h : baseB e = true) : attributeBase e f env (eval e env) = eval e env := by
  cases e <;> first | rfl | cases h
theorem bt3 {a b c : Bool} (h : (a && (b && c)) = true) : a = true ∧ b = true ∧ c = true := ⟨(bt h).1, (bt (bt h).2).1, (bt (bt h).2).2⟩
theorem chk_nil_of {E : E} (h : chk C E S (.l []) = true) {Γ : Env} {r : Bool} : ∀ ρ, ev Γ r E ρ = .ret (.tuple []) := by
  cases E <;> first | (intro ρ; rfl) | (simp only [chk, Nd.x] at h; cases h)
theorem yes_of {c : E} (h : yesE c = true) {Γ : Env} : ev Γ true c = fun _ => .ret (.bool true) := by
  cases c <;> try exact absurd h Bool.false_ne_true
  rename_i d
  cases d <;> try exact absurd h Bool.false_ne_true
  rename_i b
  cases b
  · exact absurd h Bool.false_ne_true
  · rfl
theorem tub_get {ρ : Ro} {i : Nat} {α : Type} {k : Unit → Out α} {P : α → Prop} (h : ((tubOf ρ i).bind k).All P) : ρ[i]? = some (some (.val (.dict []))) ∧ (k ()).All P := by
  unfold tubOf slot at h
  rw [Out.bind_assoc, Out.All_bind, Out.All_ofO] at h
  obtain ⟨s, e, h⟩ := h
  have e' : ρ[i]? = some (some s) := by
    cases q : ρ[i]? with
    | none => rw [q] at e; cases e
    | some o => rw [q] at e; simp at e; rw [e]
  cases s with
  | own xs => exact h.elim
  | dic t kvs => exact h.elim
  | own2 xss => exact h.elim
  | val d =>
    cases d <;> try exact h.elim
    rename_i kvs
    cases kvs with
    | cons => exact h.elim
    | nil => exact ⟨e', h⟩
theorem tub_at {G0 H0 G H : Hp} {ρ : Ro} {σ : Sg} {i : Nat} (R : Rep T G0 H0 ρ σ G H) (e : ρ[i]? = some (some (.val (.dict [])))) : ∃ a, T = some a ∧ σ[i]? = some (some (V.ref a)) ∧ ∃ ns : List Int, ns.length = 3 ∧ H a = some (.lst (ns.map V.int)) ∧ ∀ y, ns[1]? = some y → tubB y = true := by
  obtain ⟨v, e1, e2⟩ := R.sl i _ e
  have e3 : Is T G v (.dict []) := e2
  cases e3 with
  | tub hT =>
    obtain ⟨x, y, z, q, hb⟩ := R.tub _ hT
    exact ⟨_, hT, e1, [x, y, z], rfl, q, fun w e => by cases e; exact hb⟩
theorem snd_tix {i j : Nat} {x : Str} {k : Nat} {p1 p2 p3 : Pos} {r : Bool} (hN : X.N[i]? = some x) (hv : Vis X.env.scope x) (h1 : (x == ("__debug__" : Str)) = false) (h2 : (x == ("__classdict__" : Str)) = false) :
    SndE X T r (.Subscript (.Name x p1) (.Constant (.int (j : Int)) k p2) p3) (fun ρ => (tubOf ρ i).bind fun _ => .guard (decide (j < 3)) (.any fun z => .ret (.int (tixV j z)))) := by
  refine ⟨_, pe_ix ix_list (pe_var hN hv h1 h2) pe_int (by intro _ _; rfl), fun G0 H0 ρ σ G H Q R h => ?_⟩
  obtain ⟨e, h⟩ := tub_get h
  obtain ⟨a, hT, e1, ns, hl, hH, hb⟩ := tub_at R e
  rw [Out.All_guard] at h
  have hj : j < 3 := of_decide_eq_true h.1
  refine ⟨_, e1, a, ns.map V.int, (j : Int), .int ns[j], rfl, rfl, .of hH, ?_, ?_⟩
  · unfold atI ixN
    have hz : (j : Int) < 3 := by omega
    simp [hl, hj, hz]
  · have hv : tixV j ns[j] = ns[j] := by
      unfold tixV
      split
      · rename_i e
        have := hb ns[j] (by subst e; exact List.getElem?_eq_getElem _)
        unfold tubB at this
        rw [Bool.and_eq_true, decide_eq_true_eq, decide_eq_true_eq] at this
        omega
      · rfl
    have h2 : (Out.ret (PyData.int (tixV j ns[j]))).All _ := h.2 ns[j]
    rw [hv] at h2
    exact PostE.now R.sub R.tub h2 (.int _)
theorem sound : ∀ (E : E) {S : Sx} {nd : Nd} {X : Cx}, Gd C n S X → chk C E S nd = true → SndN X T (Γof C n) E nd
  | .con d, S, nd, X, g, h => by
    simp only [chk] at h
    split at h
    · rename_i e; exact ofX e (sd_con h)
    · cases h
  | .glb x, S, nd, X, g, h => by
    simp only [chk] at h
    split at h
    · rename_i e
      obtain ⟨h1, h2, h3⟩ := bt3 h
      cases of_decide_eq_true h1
      exact ofX e (sd_glb g h2 (not_t h3))
    · cases h
  | .var i, S, nd, X, g, h => by
    simp only [chk] at h
    split at h
    · rename_i e
      obtain ⟨h1, h2, h3, h4⟩ := g.nm h
      exact ofX e (SE.plain (fun r => snd_var h1 h2 h3 h4) rfl (nf rfl))
    · cases h
  | .pk i, S, nd, X, g, h => by
    simp only [chk] at h
    split at h
    · rename_i e
      obtain ⟨h1, h2, h3, h4⟩ := g.nm h
      exact ofX e (SE.plain (fun r => snd_pk h1 h2 h3 h4) rfl (nf rfl))
    · cases h
  | .bin o a b, S, nd, X, g, h => by
    simp only [chk] at h
    split at h
    · rename_i e
      obtain ⟨h1, h2, h3⟩ := bt3 h
      rw [of_decide_eq_true h1] at e
      exact ofX e (sd_bin (sound a g h2) (sound b g h3))
    · cases h
  | .neg a, S, nd, X, g, h => by
    simp only [chk] at h
    split at h
    · rename_i e
      obtain ⟨h1, h2⟩ := bt h
      rw [of_decide_eq_true h1] at e
      exact ofX e (SE.plain (fun r => snd_neg ((sound a g h2).e true)) rfl (nf rfl))
    · cases h
  | .not a, S, nd, X, g, h => by
    simp only [chk] at h
    split at h
    · rename_i e
      obtain ⟨h1, h2⟩ := bt h
      rw [of_decide_eq_true h1] at e
      exact ofX e (sd_not (sound a g h2))
    · cases h
  | .and a b, S, nd, X, g, h => by
    simp only [chk] at h
    split at h
    · rename_i e
      obtain ⟨h1, h2, h3⟩ := bt3 h
      rw [of_decide_eq_true h1] at e
      exact ofX e (sd_and (sound a g h2) (sound b g h3))
    · cases h
  | .or a b, S, nd, X, g, h => by
    simp only [chk] at h
    split at h
    · rename_i e
      obtain ⟨h1, h2, h3⟩ := bt3 h
      rw [of_decide_eq_true h1] at e
      exact ofX e (sd_or (sound a g h2) (sound b g h3))
    · cases h
  | .cmp o a b, S, nd, X, g, h => by
    simp only [chk] at h
    split at h
    · rename_i e
      obtain ⟨h1, h2, h34⟩ := bt3 h
      obtain ⟨h3, h4⟩ := bt h34
      rw [of_decide_eq_true h1] at e
      have ha := sound a g h3
      have hb := sound b g h4
      exact ofX e (SE.cmp (cmp_ok g (ha.e true) (hb.e true)) (fun r => rfl) (mark_of h2) rfl)
    · cases h
  | .chain o p a b c, S, nd, X, g, h => by
    simp only [chk] at h
    split at h
    · rename_i e
      obtain ⟨h1, h2, h3⟩ := bt3 h
      obtain ⟨h3, h4, h5⟩ := bt3 h3
      obtain ⟨h5, h6⟩ := bt h5
      rw [of_decide_eq_true h1, of_decide_eq_true h2] at e
      exact ofX e (sd_chain g (sound a g h4) (sound b g h5) (sound c g h6) h3)
    · cases h
  | .isn gg a, S, nd, X, g, h => by
    simp only [chk] at h
    split at h
    · rename_i e
      obtain ⟨h1, h2⟩ := bt h
      rw [of_decide_eq_true h1] at e
      have ha := sound a g h2
      exact ofX e (SE.cmp (sc_isn (ha.e true)) (fun r => rfl) (mark_of rfl) rfl)
    · cases h
  | .ist gg a b, S, nd, X, g, h => by
    simp only [chk] at h
    split at h
    · rename_i e
      obtain ⟨h1, h2, h3⟩ := bt3 h
      rw [of_decide_eq_true h1] at e
      cases eq_of_beq h2
      have ha := sound a g h3
      exact ofX e (SE.cmp (sc_ist (ha.e true)) (fun r => rfl) (mark_of rfl) rfl)
    · cases h
  | .ite c a b, S, nd, X, g, h => by
    simp only [chk] at h
    split at h
    · rename_i e
      obtain ⟨h1, h2, h3⟩ := bt3 h
      exact ofX e (sd_ite (sound c g h1) (sound a g h2) (sound b g h3))
    · cases h
  | .nil, S, nd, X, g, h => by
    simp only [chk] at h
    split at h
    · exact fun r => sl_nil
    · exact sk_nil
    · cases h
  | .cons a b, S, nd, X, g, h => by
    simp only [chk] at h
    split at h
    · obtain ⟨h1, h2, h3⟩ := bt3 h
      have ha := sound a g h2
      have hb := sound b g h3
      exact fun r => sl_cons (ha.e r) (hb r) (starEach_cons h1)
    · rename_i kw kws
      obtain ⟨h1, h2⟩ := bt h
      have ha := sound a g h1
      have hb := sound b g h2
      cases kw
      exact sk_cons (ha.e false) hb
    · cases h
  | .star a b, S, nd, X, g, h => by
    simp only [chk] at h
    split at h
    · obtain ⟨h1, h2⟩ := bt h
      have ha := sound a g h1
      have hb := sound b g h2
      exact fun r => sl_star (ha.e true) (hb r)
    · cases h
  | .tup a, S, nd, X, g, h => by
    simp only [chk] at h
    split at h
    · rename_i e
      have ha := sound a g h
      exact ofX e (SE.plain (fun r => snd_tup (ha false)) rfl (nf rfl))
    · cases h
  | .lst a, S, nd, X, g, h => by
    simp only [chk] at h
    split at h
    · rename_i xs pos e
      have ha := sound a g h
      have hf := snd_lst (pos := pos) (ha false)
      exact ofX e (SE.plain (fun r => hf.e) rfl fun _ => hf.only)
    · cases h
  | .idx a b, S, nd, X, g, h => by
    simp only [chk] at h
    split at h
    · rename_i e
      obtain ⟨h1, h2, h3⟩ := bt3 h
      exact ofX e (sd_idx (sound a g h2) (sound b g h3) h1)
    · cases h
  | .slc a lo hi, S, nd, X, g, h => by
    simp only [chk] at h
    split at h
    · rename_i x l hh p2 pos e
      obtain ⟨h1, h2, h3⟩ := bt3 h
      have ha := sound a g h1
      refine ofX e (SE.plain (fun r => snd_slc (ha.e true) ?_ ?_) rfl (nf rfl))
      · cases l with
        | none => exact h2
        | some y =>
          obtain ⟨h4, h5⟩ := bt h2
          have hl := sound lo g h5
          exact ⟨not_t h4, hl.e true⟩
      · cases hh with
        | none => exact h3
        | some y =>
          obtain ⟨h4, h5⟩ := bt h3
          have hl := sound hi g h5
          exact ⟨not_t h4, hl.e true⟩
    · cases h
  | .rev a, S, nd, X, g, h => by
    simp only [chk] at h
    split at h
    · rename_i e
      obtain ⟨h1, h2⟩ := bt h
      rw [of_decide_eq_true h1] at e
      exact ofX e (sd_rev (sound a g h2))
    · cases h
  | .call f a, S, nd, X, g, h => by
    simp only [chk] at h
    split at h
    · rename_i x p xs pos e
      obtain ⟨h1, h2, h3⟩ := bt3 h
      obtain ⟨h3, h4, h5⟩ := bt3 h3
      have ha := sound a g h5
      cases hF : C.τ.fns[f]? with
      | none => rw [hF] at h1; cases h1
      | some F =>
        rw [hF] at h1
        exact ofX e (sd_call g hF (of_decide_eq_true h1) h2 (not_t h3) h4 (ha false) fun e2 => by subst e2; exact chk_nil_of h5)
    · cases h
  | .callk f m k perm a b, S, nd, X, g, h => by
    simp only [chk] at h
    split at h
    · rename_i x p xs ks pos e
      obtain ⟨h1, h2, h3⟩ := bt3 h
      obtain ⟨h3, h4, h5⟩ := bt3 h3
      obtain ⟨h5, h67, h8⟩ := bt3 h5
      obtain ⟨h6, h7⟩ := bt h67
      have ha := sound a g h5
      have hb := sound b g h6
      cases hF : C.τ.fns[f]? with
      | none => rw [hF] at h1; cases h1
      | some F =>
        rw [hF] at h1
        cases hk : kwNames ks with
        | none => rw [hk] at h7; cases h7
        | some l =>
          rw [hk] at h7
          obtain ⟨h9, h10⟩ := bt h7
          exact ofX e (sd_callk g hF (of_decide_eq_true h1) h2 (not_t h3) h4 (ha false) hb hk (of_decide_eq_true h9) (of_decide_eq_true h10) (of_decide_eq_true h8) fun e2 => by subst e2; exact chk_nil_of h5)
    · cases h
  | .blt b a, S, nd, X, g, h => by
    simp only [chk] at h
    split at h
    · rename_i x p y ys pos e
      obtain ⟨h1, h2, h3⟩ := bt3 h
      obtain ⟨h4, h5⟩ := g.isB h1
      subst h4
      have ha := sound a g h3
      exact ofX e (sd_blt g h5 h2 ha)
    · cases h
  | .isi t a, S, nd, X, g, h => by
    simp only [chk] at h
    split at h
    · rename_i e
      obtain ⟨h1, h2, h3⟩ := bt3 h
      obtain ⟨h3, h4⟩ := bt h3
      obtain ⟨h5, h6⟩ := g.isB h1
      obtain ⟨h7, h8⟩ := g.isB h2
      subst h5 h7
      have ha := sound a g h4
      exact ofX e (SE.plain (fun r => snd_isi h6 (g.mg (by decide +kernel)) h8 (g.mg (by cases t <;> decide +kernel)) (ha.e true) h3) rfl (nf rfl))
    · cases h
  | .repEq gg a b, S, nd, X, g, h => by
    simp only [chk] at h
    split at h
    · rename_i e
      obtain ⟨h1, h2, h3⟩ := bt3 h
      obtain ⟨h3, h4, h5⟩ := bt3 h3
      obtain ⟨h5, h6, h7⟩ := bt3 h5
      obtain ⟨e1, h8⟩ := g.isB h2
      obtain ⟨e2, h9⟩ := g.isB h3
      subst e1 e2
      have ha := sound a g h6
      have hb := sound b g h7
      exact ofX e (SE.cmp (sc_repEq (of_decide_eq_true h1) g.room g.gua h8 (g.mg (by decide +kernel)) boot_repr' (ha.e true) (hb.e true) h4 h5) (fun r => rfl) (mark_of rfl) rfl)
    · cases h
  | .lc own gg it c elt, S, nd, X, g, h => by
    simp only [chk] at h
    split at h
    · rename_i y tg iter ifs z scope pos e
      obtain ⟨h1, h2, h3⟩ := bt3 h
      obtain ⟨h3, h4, h5⟩ := bt3 h3
      obtain ⟨h5, h6, h7⟩ := bt3 h5
      rw [of_decide_eq_true h1] at e
      have hi := sound it g h3
      have hown : (own.map fun i => (((C.N[i]?).getD "", i) : Str × Nat)).map (·.2) = own := by
        rw [List.map_map]
        exact List.map_id _
      have hf : SndF X T (.ListComp y [⟨tg, iter, ifs, 0⟩] scope pos) (ev (Γof C n) false (.lc own gg it c elt)) := by
        obtain ⟨h8, h9⟩ := bt h7
        have ht : ∀ (s : Shared) (H : Hp) (cc : Addr) (cl : List (Str × Addr)) (fp : List Addr), PTs (X.blk s H scope (compEnvC scope cl cc X.env) fp) ifs (tT T (ev (Γof C n) true c)) := fun s H cc cl fp => by
          split at h8
          · rw [yes_of h8]; exact pts_yes
          · have hc := sound c (g.blk s H scope cl cc fp) h8
            exact pts_one hc.t.pt
          · cases h8
        have he : ∀ (s : Shared) (H : Hp) (cc : Addr) (cl : List (Str × Addr)) (fp : List Addr), SndE (X.blk s H scope (compEnvC scope cl cc X.env) fp) T false y (ev (Γof C n) false elt) := fun s H cc cl fp => by
          have he := sound elt (g.blk s H scope cl cc fp) h9
          exact he.e false
        have := snd_lc (pos := pos) (T := T) (g := gg) g.calm g.nd (hi true) (by rw [g.hN, g.sc]; exact blkOk_by h4) (fun s H cc cl fp => chkG_ok (g.blk s H scope cl cc fp) gg tg h5)
          ht he (folded_of h2 _) (by rw [hown]; exact h6)
        rw [hown] at this
        exact this
      exact ofX e (SE.plain (fun r => hf.e) rfl fun _ => hf.only)
    · cases h
  | .lc2 own own2 gg it gg2 it2 elt, S, nd, X, g, h => by
    simp only [chk] at h
    split at h
    · rename_i y tg iter z tg1 iter1 z1 scope pos e
      obtain ⟨a1, a2, h⟩ := bt3 h
      obtain ⟨a3, a4, h⟩ := bt3 h
      obtain ⟨a5, a6, h⟩ := bt3 h
      obtain ⟨a7, a8, h⟩ := bt3 h
      obtain ⟨a9, a10, h⟩ := bt3 h
      obtain ⟨a11, a12, a13⟩ := bt3 h
      rw [of_decide_eq_true a1, of_decide_eq_true a2] at e
      have hi := sound it g a5
      have hown : (own.map fun i => (((C.N[i]?).getD "", i) : Str × Nat)).map (·.2) = own := by
        rw [List.map_map]
        exact List.map_id _
      have hf : SndF X T (.ListComp y [⟨tg, iter, [], 0⟩, ⟨tg1, iter1, [], 0⟩] scope pos) (ev (Γof C n) false (.lc2 own own2 gg it gg2 it2 elt)) := by
        have hi1 : ∀ (s : Shared) (H : Hp) (cc : Addr) (cl : List (Str × Addr)) (fp : List Addr), SndI (X.blk s H scope (compEnvC scope cl cc X.env) fp) T false tg1 iter1 (ev (Γof C n) false it2) := fun s H cc cl fp => by
          have q := sound it2 (g.blk s H scope cl cc fp) a12
          exact q false
        have he : ∀ (s : Shared) (H : Hp) (cc : Addr) (cl : List (Str × Addr)) (fp : List Addr), SndE (X.blk s H scope (compEnvC scope cl cc X.env) fp) T false y (ev (Γof C n) false elt) := fun s H cc cl fp => by
          have he := sound elt (g.blk s H scope cl cc fp) a13
          exact he.e false
        exact snd_lc2 (pos := pos) (T := T) (g := gg) (g2 := gg2) g.calm g.nd (hi true) (by rw [g.hN, g.sc]; exact blkOk_by a6) hown (fun i hi => of_decide_eq_true (List.all_eq_true.mp a11 i hi)) (fun s H cc cl fp => chkG_ok (g.blk s H scope cl cc fp) gg tg a7)
          hi1 (fun s H cc cl fp => chkG_ok (g.blk s H scope cl cc fp) gg2 tg1 a9) he (folded_of a3 _) (fun env => folded_of a4 env) a8 a10
      exact ofX e (SE.plain (fun r => hf.e) rfl fun _ => hf.only)
    · cases h
  | .rng1 a, S, nd, X, g, h => by
    simp only [chk] at h
    split at h
    · obtain ⟨h1, h2, h3⟩ := bt3 h
      obtain ⟨h4, h5⟩ := g.isB h1
      subst h4
      have ha := sound a g h3
      exact fun r => si_rng1 h5 (g.mg (by decide +kernel)) (ha.e true) (by rw [starEach_cons h2]; rfl)
    · cases h
  | .rng2 a b, S, nd, X, g, h => by
    simp only [chk] at h
    split at h
    · obtain ⟨h1, h2, h3⟩ := bt3 h
      obtain ⟨h3, h6, h7⟩ := bt3 h3
      obtain ⟨h4, h5⟩ := g.isB h1
      subst h4
      have ha := sound a g h6
      have hb := sound b g h7
      exact fun r => si_rng2 h5 (g.mg (by decide +kernel)) (ha.e true) (hb.e true) (by rw [starEach_cons h2, starEach_cons h3]; rfl) (by rw [starEach_cons h3]; rfl)
    · cases h
  | .rng3 .., S, nd, X, g, h => by simp only [chk] at h; cases h
  | .enum a, S, nd, X, g, h => by
    simp only [chk] at h
    split at h
    · obtain ⟨h1, h2, h3⟩ := bt3 h
      obtain ⟨h4, h5⟩ := g.isB h1
      subst h4
      have ha := sound a g h3
      exact fun r => si_enum h5 (g.mg (by decide +kernel)) (ha.e r) (by rw [starEach_cons h2]; rfl)
    · cases h
  | .zip a b, S, nd, X, g, h => by
    simp only [chk] at h
    split at h
    · obtain ⟨h1, h2, h4⟩ := bt3 h
      obtain ⟨h3, h5⟩ := bt h4
      obtain ⟨h6, h7⟩ := g.isB h1
      subst h6
      obtain ⟨h8, h9⟩ := bt h5
      have ha := sound a g h8
      have hb := sound b g h9
      exact fun r => si_zip h7 (g.mg (by decide +kernel)) (ha.e r) (hb.e r) (by rw [starEach_cons h2]) (by rw [starEach_cons h3]; rfl)
    · cases h
  | .din gg k i, S, nd, X, g, h => by
    simp only [chk] at h
    split at h
    · rename_i e
      obtain ⟨h1, h2, h3⟩ := bt3 h
      rw [of_decide_eq_true h1] at e
      obtain ⟨l1, l2, l3, l4⟩ := g.nm h2
      have hk := sound k g h3
      exact ofX e (SE.cmp (sc_din g.u1 l1 l2 l3 l4 (hk.e true)) (fun r => rfl) (mark_of rfl) rfl)
    · cases h
  | .dget i k, S, nd, X, g, h => by
    simp only [chk] at h
    split at h
    · rename_i e
      obtain ⟨h1, h2, h3⟩ := bt3 h
      obtain ⟨l1, l2, l3, l4⟩ := g.nm h1
      have hk := sound k g h3
      exact ofX e (SE.plain (fun r => snd_dget g.u1 l1 l2 l3 l4 (hk.e true) h2) rfl (nf rfl))
    · cases h
  | .dgetd i k z, S, nd, X, g, h => by
    simp only [chk] at h
    split at h
    · rename_i e
      obtain ⟨h1, h2, h3⟩ := bt3 h
      obtain ⟨h3, h4, h5⟩ := bt3 h3
      obtain ⟨h5, h6, h7⟩ := bt3 h5
      rw [of_decide_eq_true h1] at e
      obtain ⟨l1, l2, l3, l4⟩ := g.nm h2
      have hk := sound k g h6
      have hz := sound z g h7
      exact ofX e (SE.plain (fun r => snd_dgetd g.u1 l1 l2 l3 l4 (hk.e true) (hz.e false) h4 h5 h3) rfl (nf rfl))
    · cases h
  | .dlen i, S, nd, X, g, h => by
    simp only [chk] at h
    split at h
    · rename_i e
      obtain ⟨h1, h2⟩ := bt h
      obtain ⟨h3, h4⟩ := g.isB h1
      subst h3
      obtain ⟨l1, l2, l3, l4⟩ := g.nm h2
      exact ofX e (SE.plain (fun r => snd_dlen h4 (g.mg (by decide +kernel)) l1 l2 l3 l4) rfl (nf rfl))
    · cases h
  | .dsort i, S, nd, X, g, h => by
    simp only [chk] at h
    split at h
    · rename_i e
      obtain ⟨h1, h2⟩ := bt h
      obtain ⟨h3, h4⟩ := g.isB h1
      subst h3
      obtain ⟨l1, l2, l3, l4⟩ := g.nm h2
      exact ofX e (SE.plain (fun r => (snd_dsort g.room h4 (g.mg (by decide +kernel)) l1 l2 l3 l4).e) rfl fun _ => (snd_dsort g.room h4 (g.mg (by decide +kernel)) l1 l2 l3 l4).only)
    · cases h
  | .drw fr ft a, S, nd, X, g, h => by
    simp only [chk] at h
    split at h
    · rename_i x2 p2 x p y ys pos pos2 e
      obtain ⟨h1, h2, w1⟩ := bt3 h
      obtain ⟨q3, q4, w2⟩ := bt3 w1
      obtain ⟨q5, q6, w3⟩ := bt3 w2
      obtain ⟨q7, q8, q9⟩ := bt3 w3
      have ha := sound a g q9
      cases hF : C.τ.fns[fr]? with
      | none => rw [hF] at h1; cases h1
      | some F =>
        rw [hF] at h1
        cases hL : C.τ.fns[ft]? with
        | none => rw [hL] at h2; cases h2
        | some F2 =>
          rw [hL] at h2
          cases of_decide_eq_true h1
          cases of_decide_eq_true h2
          obtain ⟨a1, d1, k1, k2, k3, k4, _⟩ := g.fns fr F hF
          obtain ⟨a2, d2, m1, m2, m3, m4⟩ := g.news ft F2 hL (of_decide_eq_true q3)
          exact ofX e (SE.plain (fun r => snd_drw m1 k1 g.room g.gua (g.gl q4) m2 m3 m4 (g.gl q5) k2 k3 k4 (ha false) q8 (not_t q6) (not_t q7)) rfl (nf rfl))
    · cases h
  | .row i ix, S, nd, X, g, h => by
    simp only [chk] at h
    split at h
    · rename_i e
      obtain ⟨h1, h2, h3⟩ := bt3 h
      obtain ⟨l1, l2, l3, l4⟩ := g.nm h1
      have hi := sound ix g h3
      exact ofX e (SE.plain (fun r => snd_row l1 l2 l3 l4 (hi.e true) h2) rfl (nf rfl))
    · cases h
  | .rows i, S, nd, X, g, h => by
    simp only [chk] at h
    split at h
    · rename_i e
      obtain ⟨h1, h2⟩ := bt h
      obtain ⟨h3, h4⟩ := g.isB h1
      subst h3
      obtain ⟨l1, l2, l3, l4⟩ := g.nm h2
      exact ofX e (SE.plain (fun r => snd_rows h4 (g.mg (by decide +kernel)) l1 l2 l3 l4) rfl (nf rfl))
    · cases h
  | .lrng a b, S, nd, X, g, h => by
    simp only [chk] at h
    split at h
    · rename_i e
      obtain ⟨h1, h2, h3⟩ := bt3 h
      obtain ⟨h4, h5, h6⟩ := bt3 h3
      obtain ⟨h7, h8⟩ := bt h6
      obtain ⟨q1, q2⟩ := g.isB h1
      obtain ⟨q3, q4⟩ := g.isB h2
      subst q1 q3
      have ha := sound a g h7
      have hb := sound b g h8
      have hf (p1 p2 p3 pos : Pos) := snd_lrng (T := T) (p1 := p1) (p2 := p2) (p3 := p3) (pos := pos) g.calm q2 (g.mg (by decide +kernel)) q4 (g.mg (by decide +kernel)) (ha.e true) (hb.e true) h4 h5
      exact ofX e (SE.plain (fun r => (hf _ _ _ _).e) rfl fun _ => (hf _ _ _ _).only)
    · cases h
  | .mkx x k par fld kw a, S, nd, X, g, h => by
    simp only [chk] at h
    split at h
    · rename_i e
      obtain ⟨_, h2, h3⟩ := bt3 h
      obtain ⟨h4, h5, h6⟩ := bt3 h3
      obtain ⟨h8, h9⟩ := bt h6
      have h9 := bt h9
      cases of_decide_eq_true h2
      obtain ⟨hm, hs, fI, B, newId, i, bmB, fd, F⟩ := g.xc.mks _ _ _ _ (of_decide_eq_true h8)
      have ha := sound a g h9.2
      exact ofX e (SE.plain (fun r => snd_mkx F hs (room1 g.room) (g.gl h4) hm (ha.e false) h9.1 (not_t h5)) rfl (nf rfl))
    · rename_i e
      obtain ⟨_, h2, h3⟩ := bt3 h
      obtain ⟨h4, h5, h6⟩ := bt3 h3
      obtain ⟨h7, h8, h9⟩ := bt3 h6
      cases of_decide_eq_true h2
      cases of_decide_eq_true h4
      obtain ⟨hm, hs, fI, B, newId, i, bmB, fd, F⟩ := g.xc.mks _ _ _ _ (of_decide_eq_true h8)
      have ha := sound a g h9
      exact ofX e (SE.plain (fun r => snd_mkk F hs (room1 g.room) (g.gl h5) hm (ha.e false) (not_t h7)) rfl (nf rfl))
    · cases h
  | .mk0 x k, S, nd, X, g, h => by
    simp only [chk] at h
    split at h
    · rename_i e
      obtain ⟨h2, h3, h4⟩ := bt3 h
      obtain ⟨h5, h6⟩ := bt h4
      cases of_decide_eq_true h2
      obtain ⟨hm, B, newId, i, bmB, F⟩ := g.xc.mk0s _ _ (of_decide_eq_true h6)
      exact ofX e (SE.plain (fun r => snd_mk0 F (g.gl h3) hm (not_t h5)) rfl (nf rfl))
    · cases h
  | .isx x yes no a, S, nd, X, g, h => by
    simp only [chk] at h
    split at h
    · rename_i e
      obtain ⟨h1, h2, h3⟩ := bt3 h
      obtain ⟨h4, h5, h6⟩ := bt3 h3
      obtain ⟨h7, h8, h9⟩ := bt3 h6
      obtain ⟨q1, q2⟩ := g.isB h1
      subst q1
      cases of_decide_eq_true h2
      obtain ⟨cv, hcv, hy, hn⟩ := g.xc.isxs _ _ _ (of_decide_eq_true h7)
      have ha := sound a g h9
      refine ofX e (SE.plain (fun r => snd_isx q2 (g.mg (by decide +kernel)) ?_ hy hn (ha.e true) h8) rfl (nf rfl))
      rcases hcv with ⟨k, rfl, hm⟩ | ⟨t, rfl, hm, hb, hne⟩
      · exact ⟨.ref k, fun u r => r, pe_glob (g.gl h4) hm rfl (not_t h5)⟩
      · exact ⟨.ty t, fun u r => r, pe_bltn (g.gl h4) hm hb rfl hne (not_t h5)⟩
    · cases h
  | .xat f cs a, S, nd, X, g, h => by
    simp only [chk] at h
    split at h
    · rename_i e
      obtain ⟨h1, h2, h3⟩ := bt3 h
      obtain ⟨h4, h5⟩ := bt h3
      cases of_decide_eq_true h1
      have ha := sound a g h5
      exact ofX e (SE.plain (fun r => snd_xat (g.xc.xats _ _ (of_decide_eq_true h2)) (ha.e true) (base_of h4)) rfl (nf rfl))
    · cases h
  | .tix i j, S, nd, X, g, h => by
    simp only [chk] at h
    split at h
    · rename_i e
      obtain ⟨h1, h2⟩ := bt h
      rw [of_decide_eq_true h1] at e
      obtain ⟨l1, l2, l3, l4⟩ := g.nm h2
      exact ofX e (SE.plain (fun r => snd_tix l1 l2 l3 l4) rfl (nf rfl))
    · cases h
end
end Ev

set_option Elab.async false
set_option linter.all false
set_option autoImplicit false
set_option maxRecDepth 100000
set_option maxHeartbeats 8000000
namespace Ev
open PySem L2

/-! ### statements -/
def EndR (fr : Bool) (T : Option Addr) (G0 H0 : Hp) (Q : VK) (d : D) : Prop := match fr with
  | false => ∀ v G' H', Stp T G0 H0 G' H' → Is T G' v d → Q v H'
  | true => ∃ xs, d = .list xs ∧ PostF T G0 H0 Q (.list xs)
def EndOf (fr : Bool) (T : Option Addr) (G0 H0 G : Hp) (D : Ends) : Fl → Prop
  | .nx ρ' => ∀ σ' G' H', Rep T G0 H0 ρ' σ' G' H' → Sub G G' → D.nx σ' H'
  | .bk ρ' => ∀ σ' G' H', Rep T G0 H0 ρ' σ' G' H' → Sub G G' → D.bk σ' H'
  | .ct ρ' => ∀ σ' G' H', Rep T G0 H0 ρ' σ' G' H' → Sub G G' → D.ct σ' H'
  | .rt d => EndR fr T G0 H0 D.rt d
theorem EndOf.up {fr : Bool} {T : Option Addr} {G0 H0 G G1 : Hp} {D : Ends} (s : Sub G G1) : ∀ {f : Fl}, EndOf fr T G0 H0 G D f → EndOf fr T G0 H0 G1 D f
  | .nx _, h => fun σ' G' H' R q => h σ' G' H' R (s.trans q)
  | .bk _, h => fun σ' G' H' R q => h σ' G' H' R (s.trans q)
  | .ct _, h => fun σ' G' H' R q => h σ' G' H' R (s.trans q)
  | .rt _, h => h
def SndS (X : Cx) (T : Option Addr) (fr : Bool) (st : Stmt) (f : Ro → Out Fl) : Prop :=
  ∃ t : TS, PS X st t ∧ ∀ (G0 H0 : Hp) (ρ : Ro) (σ : Sg) (G H : Hp) (D : Ends), Rep T G0 H0 ρ σ G H → (f ρ).All (EndOf fr T G0 H0 G D) → t D σ H
def SndSs (X : Cx) (T : Option Addr) (fr : Bool) (sts : List Stmt) (f : Ro → Out Fl) : Prop :=
  ∃ t : TS, PSs X sts t ∧ ∀ (G0 H0 : Hp) (ρ : Ro) (σ : Sg) (G H : Hp) (D : Ends), Rep T G0 H0 ρ σ G H → (f ρ).All (EndOf fr T G0 H0 G D) → t D σ H
section
variable {X : Cx} {T : Option Addr} {fr : Bool} {st : Stmt} {sts : List Stmt} {pos : Pos}
theorem ss_nil : SndSs X T fr [] (fun ρ => .ret (.nx ρ)) := ⟨_, pss_nil, fun G0 H0 ρ σ G H D R h => h σ G H R (.refl G)⟩
theorem ss_cons {f g : Ro → Out Fl} (h1 : SndS X T fr st f) (h2 : SndSs X T fr sts g) : SndSs X T fr (st :: sts) (fun ρ => (f ρ).bind fun
    | .nx ρ1 => g ρ1
    | fl => .ret fl) := by
  obtain ⟨t, p, q⟩ := h1
  obtain ⟨u, p2, q2⟩ := h2
  refine ⟨_, pss_cons p p2, fun G0 H0 ρ σ G H D R h => ?_⟩
  rw [Out.All_bind] at h
  refine q G0 H0 ρ σ G H _ R (h.mono fun fl hf => ?_)
  cases fl with
  | nx ρ1 => exact fun σ' G' H' R' s => q2 G0 H0 ρ1 σ' G' H' D R' (Out.All.mono (fun fl h => h.up s) hf)
  | bk ρ1 => exact hf
  | ct ρ1 => exact hf
  | rt d => exact hf
/-- a frozen list first -/
theorem ss_frz {i : Nat} {g : Ro → Out Fl} (h2 : SndSs X T fr sts g) : SndSs X T fr sts (fun ρ => ((ownOf ρ i).bind fun xs => .ret (Fl.nx (ρ.set i (some (.val (.list xs)))))).bind fun
    | .nx ρ1 => g ρ1
    | fl => .ret fl) := by
  obtain ⟨u, p2, q2⟩ := h2
  refine ⟨_, p2, fun G0 H0 ρ σ G H D R h => ?_⟩
  rw [Out.All_bind, Out.All_bind] at h
  unfold ownOf slot at h
  rw [Out.All_bind, Out.All_ofO] at h
  obtain ⟨s, e, h⟩ := h
  have e' : ρ[i]? = some (some s) := by
    cases q : ρ[i]? with
    | none => rw [q] at e; cases e
    | some o => rw [q] at e; simp at e; rw [e]
  cases s with
  | val d => exact h.elim
  | dic t kvs => exact h.elim
  | own2 xss => exact h.elim
  | own xs =>
    obtain ⟨G', hs, R'⟩ := R.freeze e'
    exact q2 G0 H0 _ σ G' H D R' (Out.All.mono (fun fl h => h.up hs) h)
/-- slots forgotten first -/
theorem wipeR_same {ρ : Ro} {i : Nat} {s : Sl} : ∀ {vs : List Nat}, (wipeR ρ vs)[i]? = some (some s) → ρ[i]? = some (some s)
  | [], h => h
  | v :: vs, h => by
    unfold wipeR at h
    rw [List.getElem?_set] at h
    split at h
    · split at h <;> cases h
    · exact wipeR_same h
theorem ss_wip {vs : List Nat} {g : Ro → Out Fl} (h2 : SndSs X T fr sts g) : SndSs X T fr sts (fun ρ => (Out.ret (Fl.nx (wipeR ρ vs))).bind fun
    | .nx ρ1 => g ρ1
    | fl => .ret fl) := by
  obtain ⟨u, p2, q2⟩ := h2
  refine ⟨_, p2, fun G0 H0 ρ σ G H D R h => ?_⟩
  exact q2 G0 H0 _ σ G H D (R.forget (by rw [wipeR_len, R.len]) fun i s e => ⟨wipeR_same e, rfl⟩) h
theorem slot_get {ρ : Ro} {i : Nat} {α : Type} {k : Sl → Out α} {P : α → Prop} (h : ((slot ρ i).bind k).All P) : ∃ s, ρ[i]? = some (some s) ∧ (k s).All P := by
  unfold slot at h
  rw [Out.All_bind, Out.All_ofO] at h
  obtain ⟨s, e, h⟩ := h
  refine ⟨s, ?_, h⟩
  cases q : ρ[i]? with
  | none => rw [q] at e; cases e
  | some o => rw [q] at e; simp at e; rw [e]
theorem own_get {ρ : Ro} {i : Nat} {α : Type} {k : List D → Out α} {P : α → Prop} (h : ((ownOf ρ i).bind k).All P) : ∃ xs, ρ[i]? = some (some (.own xs)) ∧ (k xs).All P := by
  unfold ownOf at h
  rw [Out.bind_assoc] at h
  obtain ⟨s, e, h⟩ := slot_get h
  cases s with
  | val d => exact h.elim
  | dic t kvs => exact h.elim
  | own2 xss => exact h.elim
  | own xs => exact ⟨xs, e, h⟩
/-- name = value: what is laid into the slot -/
def SetE (X : Cx) (T : Option Addr) (i : Nat) (st : Stmt) (f : Ro → Out D) : Prop :=
  ∃ te : TE, PS X st (tAsg te (gName i)) ∧ ∀ (G0 H0 : Hp) (ρ : Ro) (σ : Sg) (G H : Hp) (Q : VK), Rep T G0 H0 ρ σ G H → (f ρ).All (PostE false T G H Q) → te σ H Q
def SetF (X : Cx) (T : Option Addr) (i : Nat) (st : Stmt) (f : Ro → Out D) : Prop :=
  ∃ te : TE, PS X st (tAsg te (gName i)) ∧ ∀ (G0 H0 : Hp) (ρ : Ro) (σ : Sg) (G H : Hp) (Q : VK), Rep T G0 H0 ρ σ G H → (f ρ).All (PostF T G H Q) → te σ H Q
theorem SetF.e {i : Nat} {f : Ro → Out D} (h : SetF X T i st f) : SetE X T i st f := by
  obtain ⟨te, p, q⟩ := h
  exact ⟨te, p, fun G0 H0 ρ σ G H Q R h => q G0 H0 ρ σ G H Q R (h.mono fun d hd => hd.ofF R.sub R.tub)⟩
theorem ss_setE {i : Nat} {f : Ro → Out D} (h : SetE X T i st f) : SndS X T fr st (fun ρ => (f ρ).bind fun d => (Out.ofO (asgG (.nm i) d ρ)).bind fun ρ1 => .ret (.nx ρ1)) := by
  obtain ⟨te, p, q⟩ := h
  refine ⟨_, p, fun G0 H0 ρ σ G H D R h => ?_⟩
  rw [Out.All_bind] at h
  refine q G0 H0 ρ σ G H _ R (h.mono fun d hd v G1 H1 k iv => ?_)
  rw [Out.All_bind, Out.All_ofO] at hd
  obtain ⟨ρ2, e, hd⟩ := hd
  cases e
  exact hd _ G1 H1 ((R.step k).setVal iv.keep) k.gs
theorem fresh_not {G0 H0 G H G1 H1 : Hp} {ρ : Ro} {σ : Sg} {p : Addr} (R : Rep T G0 H0 ρ σ G H) (k : Stp T G H G1 H1) (hp : H p = none) (j : Nat) (sj : Sl) (vj : V) (e : ρ[j]? = some (some sj)) (es : σ[j]? = some (some vj)) : ¬ AtS H1 sj vj p := fun a2 => by
  obtain ⟨v, e1, e2⟩ := R.sl j sj e
  rw [es] at e1
  cases e1
  obtain ⟨_, _, _, o, q, _, _⟩ := e2.mine (a2.back e2 fun b hb => (stp_at e2 k b hb).2.2)
  rw [hp] at q; cases q
theorem fresh_slot {G0 H0 G H G1 H1 : Hp} {ρ : Ro} {σ : Sg} {p : Addr} {i : Nat} {s : Sl} (R : Rep T G0 H0 ρ σ G H) (k : Stp T G H G1 H1) (hp : H p = none) (hf : s.flat = true := by rfl) :
    H0 p = none ∧ T ≠ some p ∧ ∀ (j : Nat) (sj : Sl) (vj : V) (b : Addr), ρ[j]? = some (some sj) → σ[j]? = some (some vj) → AtS H1 s (.ref p) b → AtS H1 sj vj b → j = i := by
  have hT : T ≠ some p := fun z => by
    obtain ⟨_, _, _, q, _⟩ := R.tub p z
    rw [hp] at q; cases q
  refine ⟨?_, hT, fun j sj vj b e es a1 a2 => ?_⟩
  · cases q : H0 p with
    | none => rfl
    | some o =>
      have := R.st.keep p o hT q
      rw [hp] at this; cases this
  · rw [a1.one hf] at a2
    exact absurd a2 (fresh_not R k hp j sj vj e es)
theorem ss_setF {i : Nat} {f : Ro → Out D} (h : SetF X T i st (onlyL f)) : SndS X T fr st (fun ρ => (f ρ).bind fun d => (asList d).bind fun xs => .ret (.nx (ρ.set i (some (.own xs))))) := by
  obtain ⟨te, p, q⟩ := h
  refine ⟨_, p, fun G0 H0 ρ σ G H D R h => ?_⟩
  rw [Out.All_bind] at h
  refine q G0 H0 ρ σ G H _ R (All_onlyL.mpr (h.mono fun d hd => ?_))
  cases d <;> simp only [asList] at hd <;> try exact hd.elim
  rename_i xs
  refine ⟨xs, rfl, fun p vs xs' G1 H1 e k hp gp hH iv => ?_⟩
  cases e
  obtain ⟨f1, f2, f3⟩ := fresh_slot (i := i) (s := .own xs) R k hp
  exact hd _ G1 H1 ((R.step k).setMut (s := .own xs) ⟨p, vs, rfl, gp, f1, f2, hH, iv⟩ f3) k.gs
theorem ss_asg {g : Tg} {tg v : Expr} {f : Ro → Out D} (he : SndE X T false v f) (hg : SndG X T tg g) (h1 : swapsWithSole [tg] v pos.line X.env = pure false) (h2 : swappedStores [tg] v X.env = pure none) (h3 : (assignEach [tg] X.env).map (·.2) = [assign tg X.env]) :
    SndS X T fr (.Assign [tg] v pos) (fun ρ => (f ρ).bind fun d => (Out.ofO (asgG g d ρ)).bind fun ρ1 => .ret (.nx ρ1)) := by
  obtain ⟨te, p, q⟩ := he
  refine ⟨_, ps_asg p hg h1 h2 h3, fun G0 H0 ρ σ G H D R h => ?_⟩
  rw [Out.All_bind] at h
  refine q G0 H0 ρ σ G H _ R (h.mono fun d hd v G1 H1 k iv => ?_)
  rw [Out.All_bind, Out.All_ofO] at hd
  obtain ⟨ρ2, e, hd⟩ := hd
  exact ⟨G0, H0, ρ, G1, d, ρ2, R.step k, iv.keep, e, fun σ2 R2 l k2 => hd σ2 G1 H1 R2 k.gs⟩
theorem ss_ret {v : Expr} {f : Ro → Out D} (he : SndE X T false v f) : SndS X T false (.Return (some v) pos) (fun ρ => (f ρ).bind fun d => .ret (.rt d)) := by
  obtain ⟨te, p, q⟩ := he
  refine ⟨_, ps_ret p, fun G0 H0 ρ σ G H D R h => ?_⟩
  rw [Out.All_bind] at h
  exact q G0 H0 ρ σ G H _ R (h.mono fun d hd v G1 H1 k iv => hd v G1 H1 (R.st.trans k R.t0) iv.keep)
theorem ss_retF {v : Expr} {f : Ro → Out D} (he : SndF X T v (onlyL f)) : SndS X T true (.Return (some v) pos) (fun ρ => (f ρ).bind fun d => .ret (.rt d)) := by
  obtain ⟨te, p, q⟩ := he
  refine ⟨_, ps_ret p, fun G0 H0 ρ σ G H D R h => ?_⟩
  rw [Out.All_bind] at h
  refine q G0 H0 ρ σ G H _ R (All_onlyL.mpr (h.mono fun d hd => ?_))
  obtain ⟨xs, e, hd⟩ := hd
  exact ⟨xs, e, PostF.trans hd R.st R.t0⟩
theorem ss_expr {v : Expr} {f : Ro → Out D} (he : SndE X T false v f) (hs : swapsWith v none pos.line X.env = pure false) : SndS X T fr (.Expr v pos) (fun ρ => (f ρ).bind fun _ => .ret (.nx ρ)) := by
  obtain ⟨te, p, q⟩ := he
  refine ⟨_, ps_expr p hs, fun G0 H0 ρ σ G H D R h => ?_⟩
  rw [Out.All_bind] at h
  exact q G0 H0 ρ σ G H _ R (h.mono fun d hd v G1 H1 k iv => hd σ G1 H1 (R.step k) k.gs)
theorem ss_brk : SndS X T fr (.Break pos) (fun ρ => .ret (.bk ρ)) := ⟨_, ps_break, fun G0 H0 ρ σ G H D R h => h σ G H R (.refl G)⟩
theorem ss_cnt : SndS X T fr (.Continue pos) (fun ρ => .ret (.ct ρ)) := ⟨_, ps_continue, fun G0 H0 ρ σ G H D R h => h σ G H R (.refl G)⟩
theorem ss_pass : SndS X T fr (.Pass pos) (fun ρ => .ret (.nx ρ)) := ⟨_, ps_pass, fun G0 H0 ρ σ G H D R h => h σ G H R (.refl G)⟩
theorem ss_never : SndS X T fr st (fun ρ => .bad) := ⟨_, ps_never, fun G0 H0 ρ σ G H D R h => h.elim⟩
theorem ss_if {c : Expr} {p q : List Stmt} {fc : Ro → Out D} {f g : Ro → Out Fl} (hc : SndT X T c (tst fc)) (hp : SndSs X T fr p f) (hq : SndSs X T fr q g) : SndS X T fr (.If c p q pos) (fun ρ => (fc ρ).bind fun x => (asBool x).bind fun
    | true => f ρ
    | false => g ρ) := by
  obtain ⟨tc, pc, qc⟩ := hc
  obtain ⟨t1, p1, q1⟩ := hp
  obtain ⟨t2, p2, q2⟩ := hq
  refine ⟨_, ps_if pc p1 p2, fun G0 H0 ρ σ G H D R h => ?_⟩
  rw [Out.All_bind] at h
  refine qc G0 H0 ρ σ G H _ R (All_tst.mpr (h.mono fun x hx => ?_))
  cases x <;> simp only [asBool] at hx <;> try exact hx.elim
  rename_i k
  refine ⟨k, rfl, fun k' G1 H1 e k1 => ?_⟩
  cases e
  cases k with
  | true =>
    rw [if_pos rfl]
    exact q1 G0 H0 ρ σ G1 H1 D (R.step k1) (Out.All.mono (fun fl h => h.up k1.gs) hx)
  | false =>
    rw [if_neg Bool.false_ne_true]
    exact q2 G0 H0 ρ σ G1 H1 D (R.step k1) (Out.All.mono (fun fl h => h.up k1.gs) hx)
theorem ss_while {c : Expr} {p : List Stmt} {fc : Ro → Out D} {f : Ro → Out Fl} {W : Nat} (hx : PassesOwn (model X.prog X.w) X.A X.env X.xe) (hc : SndT X T c (tst fc)) (hp : SndSs X T fr p f) : SndS X T fr (.While c p [] pos) (fun ρ => whlGo fc f W ρ) := by
  obtain ⟨tc, pc, qc⟩ := hc
  obtain ⟨t1, p1, q1⟩ := hp
  refine ⟨_, ps_while hx pc p1, fun G0 H0 ρ σ G H D R h => ?_⟩
  refine ⟨fun m σ' H' => ∃ ρ' G', Rep T G0 H0 ρ' σ' G' H' ∧ Sub G G' ∧ (whlGo fc f m ρ').All (EndOf fr T G0 H0 G D), ⟨W, ρ, G, R, .refl G, h⟩, ?_⟩
  rintro m σ' H' ⟨ρ', G', R', s', h'⟩
  cases m with
  | zero => exact h'.elim
  | succ m =>
    simp only [whlGo] at h'
    rw [Out.All_bind] at h'
    refine qc G0 H0 ρ' σ' G' H' _ R' (All_tst.mpr (h'.mono fun x hx => ?_))
    cases x <;> simp only [asBool] at hx <;> try exact hx.elim
    rename_i k
    refine ⟨k, rfl, fun k' G1 H1 e k1 => ?_⟩
    cases e
    have R1 := R'.step k1
    have s1 := s'.trans k1.gs
    cases k with
    | false =>
      rw [if_neg Bool.false_ne_true]
      exact hx σ' G1 H1 R1 s1
    | true =>
      rw [if_pos rfl]
      refine ⟨fun σ2 H2 => ∃ m', m' < m + 1 ∧ ∃ ρ' G', Rep T G0 H0 ρ' σ2 G' H2 ∧ Sub G G' ∧ (whlGo fc f m' ρ').All (EndOf fr T G0 H0 G D), fun σ2 H2 q => q, ?_⟩
      simp only [Out.bind_ret] at hx
      rw [Out.All_bind] at hx
      refine q1 G0 H0 ρ' σ' G1 H1 _ R1 (hx.mono fun fl hf => ?_)
      cases fl with
      | nx ρ2 => exact fun σ2 G2 H2 R2 s2 => ⟨m, Nat.lt_succ_self m, ρ2, G2, R2, s1.trans s2, hf⟩
      | ct ρ2 => exact fun σ2 G2 H2 R2 s2 => ⟨m, Nat.lt_succ_self m, ρ2, G2, R2, s1.trans s2, hf⟩
      | bk ρ2 => exact fun σ2 G2 H2 R2 s2 => hf σ2 G2 H2 R2 (s1.trans s2)
      | rt d => exact hf
theorem for_core {g : Tg} {f : Ro → Out Fl} {t1 : TS} {J : It} {xs : List D} {Gd : Hp → Prop} {Y : Nat → Hp → V → Hp → Prop} {G0 H0 G G1 H1 : Hp} {ρ : Ro} {σ : Sg} {D : Ends} (q1 : ∀ (G0 H0 : Hp) (ρ : Ro) (σ : Sg) (G H : Hp) (D : Ends), Rep T G0 H0 ρ σ G H → (f ρ).All (EndOf fr T G0 H0 G D) → t1 D σ H)
    (W : WalkOf T G1 H1 J xs Gd Y) (hG : ∀ ρ' σ' G' H', Rep T G0 H0 ρ' σ' G' H' → Sub G1 G' → Gd H') (R1 : Rep T G0 H0 ρ σ G1 H1) (k1 : Sub G G1) (hd : (forGo g f xs ρ).All (EndOf fr T G0 H0 G D)) :
    ∃ W : Nat → Nat → St → Hp → Prop, (∃ m, W 0 m σ H1) ∧ ∀ i m σ H, W i m σ H →
      (J.stop i H ∧ D.nx σ H) ∨ (J.go i H ∧ ∃ N : St → Hp → Prop, (∀ σ' H', N σ' H' → ∃ m', m' < m ∧ W (i + 1) m' σ' H') ∧ ∀ x H', J.yld i H x H' → gG T g x σ H' fun σ2 H2 => t1 { D with nx := N, ct := N, bk := D.nx } σ2 H2) := by
  refine ⟨fun i m σ' H' => m = xs.length - i ∧ i ≤ xs.length ∧ ∃ ρ' G', Rep T G0 H0 ρ' σ' G' H' ∧ Sub G1 G' ∧ (forGo g f (xs.drop i) ρ').All (EndOf fr T G0 H0 G D), ⟨xs.length, by simp, Nat.zero_le _, ρ, G1, R1, .refl G1, hd⟩, ?_⟩
  rintro i m σ' H' ⟨rfl, hi, ρ', G', R', s', h'⟩
  have gd : Gd H' := hG _ _ _ _ R' s'
  by_cases hlt : i < xs.length
  · refine .inr ⟨W.w.goes i H' hlt gd, fun σ2 H2 => ∃ m', m' < xs.length - i ∧ (m' = xs.length - (i + 1) ∧ i + 1 ≤ xs.length ∧ ∃ ρ' G', Rep T G0 H0 ρ' σ2 G' H2 ∧ Sub G1 G' ∧ (forGo g f (xs.drop (i + 1)) ρ').All (EndOf fr T G0 H0 G D)), fun σ2 H2 q => q, fun x H2 y => ?_⟩
    obtain ⟨G3, d', e, k3, id⟩ := W.item i H' x H2 G' hlt gd (W.w.yields i H' x H2 hlt gd y) s' R'.sub R'.tub
    have hdr : xs.drop i = d' :: xs.drop (i + 1) := by
      obtain ⟨hi', rfl⟩ := List.getElem?_eq_some_iff.mp e
      exact List.drop_eq_getElem_cons hi'
    rw [hdr] at h'
    simp only [forGo] at h'
    rw [Out.All_bind, Out.All_ofO] at h'
    obtain ⟨ρ1, e1, h'⟩ := h'
    refine ⟨G0, H0, ρ', G3, d', ρ1, R'.step k3, id, e1, fun σ2 R2 l2 _ => ?_⟩
    rw [Out.All_bind] at h'
    have s3 := s'.trans k3.gs
    refine q1 G0 H0 ρ1 σ2 G3 H2 _ R2 (h'.mono fun fl hf => ?_)
    have gg : Sub G G3 := k1.trans s3
    cases fl with
    | nx ρ2 => exact fun σ4 G4 H4 R4 s4 => ⟨_, by omega, rfl, hlt, ρ2, G4, R4, s3.trans s4, hf⟩
    | ct ρ2 => exact fun σ4 G4 H4 R4 s4 => ⟨_, by omega, rfl, hlt, ρ2, G4, R4, s3.trans s4, hf⟩
    | bk ρ2 => exact fun σ4 G4 H4 R4 s4 => hf σ4 G4 H4 R4 (gg.trans s4)
    | rt d => exact hf
  · have e : i = xs.length := by omega
    subst e
    rw [List.drop_length] at h'
    exact .inl ⟨W.w.stops H' gd, h' σ' G' H' R' (k1.trans s')⟩
theorem ss_for {g : Tg} {tg iter : Expr} {p : List Stmt} {fi : Ro → Out D} {f : Ro → Out Fl} (hx : PassesOwn (model X.prog X.w) X.A X.env X.xe) (hc : X.calm = true) (hi : SndI X T false tg iter fi) (hg : SndG X T tg g) (hp : SndSs X T fr p f)
    (hs : ∀ x, foldedSetIterable iter X.env x = pure x) : SndS X T fr (.For tg iter p [] pos) (fun ρ => (fi ρ).bind fun x => (itemsD x).bind fun xs => forGo g f xs ρ) := by
  obtain ⟨wi, pi, qi⟩ := hi
  obtain ⟨t1, p1, q1⟩ := hp
  refine ⟨_, ps_for hx hc pi hg p1 hs, fun G0 H0 ρ σ G H D R h => ?_⟩
  rw [Out.All_bind] at h
  refine qi G0 H0 ρ σ G H _ R (h.mono fun d hd => ?_)
  obtain ⟨xs, ex, hd⟩ := All_items hd
  exact ⟨xs, ex, fun J Gd Y G1 H1 k1 W S => for_core q1 W (fun ρ' σ' G' H' R' s' => S H' (s'.trans R'.sub)) (R.step k1) k1.gs hd⟩
end
end Ev

set_option Elab.async false
set_option linter.all false
set_option autoImplicit false
set_option maxRecDepth 100000
set_option maxHeartbeats 8000000
namespace Ev
open PySem L2
def compB : Expr → Bool
  | .ListComp .. => true
  | .SetComp .. => true
  | .DictComp .. => true
  | _ => false
theorem sw_plain {v : Expr} {t : Option Expr} {l : Nat} {env : PySem.Env} (h : compB v = false) : swapsWith v t l env = pure false := by
  cases v <;> first | rfl | cases h
theorem sw_tup {v : Expr} {t : Expr} {l : Nat} {env : PySem.Env} (h : compB v = false ∨ ∀ y p, t ≠ .Name y p) : swapsWithSole [t] v l env = pure false := by
  show swapsWith v (some t) l env = pure false
  rcases h with h | h
  · exact sw_plain h
  · cases v <;> first | rfl | (cases t <;> first | rfl | exact absurd rfl (h _ _))
def isTupE : Expr → Bool
  | .Tuple .. => true
  | _ => false
theorem ss_none {t v : Expr} {env : PySem.Env} (h : isTupE v = false) : swappedStores [t] v env = pure none := by
  cases t <;> first | rfl | (cases v <;> first | rfl | cases h)
section
variable {X : Cx} {T : Option Addr} {fr : Bool} {st : Stmt} {sts : List Stmt} {pos : Pos}
theorem ss_app {i : Nat} {x : Str} {v : Expr} {p1 apos cpos : Pos} {f : Ro → Out D} (hN : X.N[i]? = some x) (hv : Vis X.env.scope x) (h1 : (x == ("__debug__" : Str)) = false) (h2 : (x == ("__classdict__" : Str)) = false) (he : SndE X T false v f) (hns : notStarE v = true) (hl : (apos.endLine == cpos.line) = true) :
    SndS X T fr (.Expr (.Call (.Attribute (.Name x p1) "append" apos) [v] [] cpos) pos) (fun ρ => (ownOf ρ i).bind fun xs => (f ρ).bind fun d => .guard (decide (xs.length < lim)) (.ret (.nx (ρ.set i (some (.own (xs ++ [d]))))))) := by
  obtain ⟨tv, pv, qv⟩ := he
  have ha : PA X [v] (tCons tv tNil) := pa_cons pv pa_nil (starEach_cons hns)
  refine ⟨_, ps_expr (pe_bm PySem.F.plainAttrs_list PySem.F.slot_list_append PySem.F.type_list_append mt_append (pe_var hN hv h1 h2) ha rfl (by rw [starEach_cons hns]; rfl) hl (starEach_cons hns) rfl) rfl, fun G0 H0 ρ σ G H D R h => ?_⟩
  obtain ⟨xs, e, h⟩ := own_get h
  obtain ⟨w, ew, a, vs, rfl, ga, h0, hT, hH, iv⟩ := R.sl i _ e
  refine ⟨_, ew, .inl ⟨rfl, vs, .of hH⟩, ?_⟩
  rw [Out.All_bind] at h
  refine qv G0 H0 ρ σ G H _ R (h.mono fun d hd u G1 H1 k iu => ?_)
  rw [Out.All_guard] at hd
  obtain ⟨hz, hd⟩ := hd
  have R1 := R.step k
  obtain ⟨w1, ew1, a1, vs1, e1, ga1, h01, hT1, hH1, iv1⟩ := R1.sl i _ e
  subst e1
  rw [ew] at ew1
  cases ew1
  refine ⟨a, vs1, u, rfl, rfl, hH1, ?_, ?_⟩
  · rw [iv1.length]
    exact Nat.lt_of_lt_of_le (of_decide_eq_true hz) lim_le
  · exact hd σ G1 _ (R1.change (s := .own xs) (s' := .own (xs ++ [d])) e rfl ew ⟨a, vs1 ++ [u], rfl, ga1, h01, hT1, upd_same, iv1.append (.cons iu.keep .nil)⟩ rfl) k.gs
theorem dropLast_is {G : Hp} {vs : List V} {xs : List D} (h : IsAll T G vs xs) : IsAll T G vs.dropLast xs.dropLast := by
  rw [List.dropLast_eq_take, List.dropLast_eq_take, h.length]
  exact h.take _
theorem ss_pop {g : Tg} {tg : Expr} {i : Nat} {x : Str} {p1 apos cpos : Pos} (hN : X.N[i]? = some x) (hv : Vis X.env.scope x) (h1 : (x == ("__debug__" : Str)) = false) (h2 : (x == ("__classdict__" : Str)) = false) (hg : SndG X T tg g) (hl : (apos.endLine == cpos.line) = true) (h3 : (assignEach [tg] X.env).map (·.2) = [assign tg X.env]) :
    SndS X T fr (.Assign [tg] (.Call (.Attribute (.Name x p1) "pop" apos) [] [] cpos) pos) (fun ρ => (ownOf ρ i).bind fun xs => (Out.ofO xs.getLast?).bind fun d => (Out.ofO (asgG g d (ρ.set i (some (.own xs.dropLast))))).bind fun ρ1 => .ret (.nx ρ1)) := by
  refine ⟨_, ps_asg (pe_bm0 PySem.F.plainAttrs_list PySem.F.slot_list_pop PySem.F.type_list_pop mt_pop (pe_var hN hv h1 h2) rfl hl) hg rfl (by cases tg <;> rfl) h3, fun G0 H0 ρ σ G H D R h => ?_⟩
  obtain ⟨xs, e, h⟩ := own_get h
  obtain ⟨w, ew, a, vs, rfl, ga, h0, hT, hH, iv⟩ := R.sl i _ e
  rw [Out.All_bind, Out.All_ofO] at h
  obtain ⟨d, ed, h⟩ := h
  rw [Out.All_bind, Out.All_ofO] at h
  obtain ⟨ρ2, e2, h⟩ := h
  rw [List.getLast?_eq_getElem?] at ed
  obtain ⟨u, eu, iu⟩ := iv.get ed
  refine ⟨_, ew, .inl ⟨rfl, vs, .of hH⟩, a, vs, u, rfl, rfl, hH, by rw [iv.length]; exact eu, ?_⟩
  have R1 := R.change (s := .own xs) (s' := .own xs.dropLast) (o := .lst vs.dropLast) e rfl ew ⟨a, vs.dropLast, rfl, ga, h0, hT, upd_same, dropLast_is iv⟩ rfl
  exact ⟨G0, H0, _, G, d, ρ2, R1, iu, e2, fun σ2 R2 l k2 => h σ2 G _ R2 (.refl G)⟩
theorem ixN_len {α β : Type} {xs : List α} {ys : List β} (h : xs.length = ys.length) (k : Int) : L2.ixN xs.length k = L2.ixN ys.length k := by rw [h]
theorem ss_setix {i : Nat} {x : Str} {v ix : Expr} {p1 p2 : Pos} {f fi : Ro → Out D} (hN : X.N[i]? = some x) (hv : Vis X.env.scope x) (h1 : (x == ("__debug__" : Str)) = false) (h2 : (x == ("__classdict__" : Str)) = false) (he : SndE X T false v f) (hi : SndE X T true ix fi) (hpi : plainIxB ix = true) (hs : swapsWithSole [.Subscript (.Name x p1) ix p2] v pos.line X.env = pure false) :
    SndS X T fr (.Assign [.Subscript (.Name x p1) ix p2] v pos) (fun ρ => (f ρ).bind fun d => (ownOf ρ i).bind fun xs => (fi ρ).bind fun k => (asInt k).bind fun z => (Out.ofO (L2.ixN xs.length z)).bind fun j => .ret (.nx (ρ.set i (some (.own (xs.set j d)))))) := by
  obtain ⟨tv, pv, qv⟩ := he
  obtain ⟨ti, pi, qi⟩ := hi
  refine ⟨_, ps_asg pv (pg_sub (pe_var hN hv h1 h2) pi set_list (by intro _; cases ix <;> first | rfl | cases hpi)) hs (by cases v <;> rfl) rfl, fun G0 H0 ρ σ G H D R h => ?_⟩
  rw [Out.All_bind] at h
  refine qv G0 H0 ρ σ G H _ R (h.mono fun d hd u G1 H1 k iu => ?_)
  have R1 := R.step k
  obtain ⟨xs, e, hd⟩ := own_get hd
  obtain ⟨w, ew, a, vs, rfl, ga, h0, hT, hH, iv⟩ := R1.sl i _ e
  refine ⟨_, ew, ?_⟩
  rw [Out.All_bind] at hd
  refine qi G0 H0 ρ σ G1 H1 _ R1 (hd.mono fun y hy yv G2 H2 k2 iy => ?_)
  obtain ⟨z, rfl, hy2⟩ := All_asInt hy
  rw [Out.All_bind, Out.All_ofO] at hy2
  obtain ⟨j, ej, hy3⟩ := hy2
  have R2 := R1.step k2
  obtain ⟨w1, ew1, a1, vs1, e1, ga1, h01, hT1, hH1, iv1⟩ := R2.sl i _ e
  subst e1
  rw [ew] at ew1
  cases ew1
  refine ⟨a, vs1, z, j, rfl, iy.int, hH1, by rw [ixN_len iv1.length]; exact ej, ?_⟩
  exact hy3 σ G2 _ (R2.change (s := .own xs) (s' := .own (xs.set j d)) e rfl ew ⟨a, vs1.set j u, rfl, ga1, h01, hT1, upd_same, iv1.set j (Is.mono k2.gs _ _ iu.keep)⟩ rfl) (k.gs.trans k2.gs)
theorem tub_put {G0 H0 G H : Hp} {ρ : Ro} {σ : Sg} {a : Addr} {ns : List Int} (R : Rep T G0 H0 ρ σ G H) (hT : T = some a) (hl : ns.length = 3) (hg : G a = none) (hb : ∀ y, ns[1]? = some y → tubB y = true) : Rep T G0 H0 ρ σ G (upd H a (.lst (ns.map V.int))) := by
  have k : Stp T G H G (upd H a (.lst (ns.map V.int))) := by
    refine ⟨.refl G, fun b o e => ?_, fun b o hb e => ?_, fun b o e => .inl e, fun b hb => ?_⟩
    · rw [upd_ne (fun z => by rw [z, hg] at e; cases e)]; exact R.sub b o e
    · rw [upd_ne (fun z => hb (by rw [z]; exact hT))]; exact e
    · rw [hT] at hb
      cases hb
      match ns, hl with
      | [x, y, z], _ => exact ⟨x, y, z, upd_same, hb y rfl⟩
  exact R.step k
theorem ixN3 {ns : List Int} {j : Nat} (hl : ns.length = 3) (hj : j < 3) : L2.ixN (ns.map V.int).length (j : Int) = some j := by
  unfold L2.ixN
  have hz : (j : Int) < 3 := by omega
  simp [hl, hj, hz]
theorem set_ints (ns : List Int) (j : Nat) (z : Int) : (ns.map V.int).set j (V.int z) = (ns.set j z).map V.int := by
  rw [List.map_set]
theorem set_tub {ns : List Int} {j : Nat} {v : Int} (hb : ∀ y, ns[1]? = some y → tubB y = true) (h : tsOk j v = true) : ∀ y, (ns.set j v)[1]? = some y → tubB y = true := fun y e => by
  rw [List.getElem?_set] at e
  unfold tsOk at h
  rw [Bool.or_eq_true, decide_eq_true_eq] at h
  split at e
  · split at e
    · cases e
      rcases h with h | h
      · rename_i z _; exact absurd z h
      · exact h
    · cases e
  · exact hb y e
theorem ss_tset {i j : Nat} {x : Str} {k : Nat} {p1 p2 p3 : Pos} {v : Expr} {f : Ro → Out D} (hN : X.N[i]? = some x) (hv : Vis X.env.scope x) (h1 : (x == ("__debug__" : Str)) = false) (h2 : (x == ("__classdict__" : Str)) = false) (he : SndE X T false v f) :
    SndS X T fr (.Assign [.Subscript (.Name x p1) (.Constant (.int (j : Int)) k p2) p3] v pos) (fun ρ => (f ρ).bind fun d => (asInt d).bind fun v => (tubOf ρ i).bind fun _ => .guard (decide (j < 3) && tsOk j v) (.ret (.nx ρ))) := by
  obtain ⟨tv, pv, qv⟩ := he
  refine ⟨_, ps_asg pv (pg_sub (pe_var hN hv h1 h2) pe_int set_list (by intro _; rfl)) (sw_tup (.inr fun y p e => by cases e)) (by cases v <;> rfl) rfl, fun G0 H0 ρ σ G H D R h => ?_⟩
  rw [Out.All_bind] at h
  refine qv G0 H0 ρ σ G H _ R (h.mono fun d hd u G1 H1 kk iu => ?_)
  obtain ⟨z, rfl, hd2⟩ := All_asInt hd
  obtain ⟨e, hd3⟩ := tub_get hd2
  have R1 := R.step kk
  obtain ⟨a, hT, e1, ns, hl, hH, hb⟩ := tub_at R1 e
  rw [Out.All_guard, Bool.and_eq_true] at hd3
  have hj : j < 3 := of_decide_eq_true hd3.1.1
  refine ⟨_, e1, a, ns.map V.int, (j : Int), j, rfl, rfl, hH, ixN3 hl hj, ?_⟩
  rw [iu.keep.int_eq, set_ints]
  exact hd3.2 σ G1 _ (tub_put R1 hT (by simp [hl]) (R1.tg a hT) (set_tub hb hd3.1.2)) kk.gs
theorem ss_tdvm {i j : Nat} {x : Str} {k kk2 : Nat} {p1 p2 p3 p4 : Pos} {v t : Expr} {g : Tg} {f : Ro → Out D} (hc : X.calm = true) (hN : X.N[i]? = some x) (hv : Vis X.env.scope x) (h1 : (x == ("__debug__" : Str)) = false) (h2 : (x == ("__classdict__" : Str)) = false) (he : SndE X T false v f)
    (hg : SndG X T t g) (hns : notStarE t = true) (hv1 : compB v = false) (hv2 : isTupE v = false) :
    SndS X T fr (.Assign [.Tuple [.Subscript (.Name x p1) (.Constant (.int (j : Int)) k p2) p3, t] kk2 p4] v pos) (fun ρ => (f ρ).bind fun
      | .tuple [.int v, d] => (tubOf ρ i).bind fun _ => .guard (decide (j < 3) && tsOk j v) ((Out.ofO (asgG g d ρ)).bind fun ρ1 => .ret (.nx ρ1))
      | _ => .bad) := by
  obtain ⟨tv, pv, qv⟩ := he
  have hst : assignEach [.Subscript (.Name x p1) (.Constant (.int (j : Int)) k p2) p3, t] X.env = [(false, assign (.Subscript (.Name x p1) (.Constant (.int (j : Int)) k p2) p3) X.env), (false, assign t X.env)] := by
    rw [ae_cons rfl, ae_cons hns]; rfl
  refine ⟨_, ps_asg pv (pg_tup (n := 2) hc (pgs_cons (pg_sub (pe_var hN hv h1 h2) pe_int set_list (by intro _; rfl)) (pgs_cons hg pgs_nil (by rw [ae_cons hns]; rfl)) (by rw [ae_cons rfl]; rfl)) (by rw [hst]; rfl) (by rw [hst]; rfl)) (sw_tup (.inl hv1)) (ss_none hv2) rfl, fun G0 H0 ρ σ G H D R h => ?_⟩
  rw [Out.All_bind] at h
  refine qv G0 H0 ρ σ G H _ R (h.mono fun d hd u G1 H1 kk iu => ?_)
  match d, hd with
  | .tuple [.int z, d2], hd =>
    obtain ⟨e, hd3⟩ := tub_get hd
    have R1 := R.step kk
    obtain ⟨a, hT, e1, ns, hl, hH, hb⟩ := tub_at R1 e
    rw [Out.All_guard, Bool.and_eq_true] at hd3
    have hj : j < 3 := of_decide_eq_true hd3.1.1
    obtain ⟨b, ws, rfl, gb, iw⟩ := iu.tup
    cases iw with
    | cons i1 i2 =>
      cases i2 with
      | cons i2 i3 =>
        cases i3
        refine ⟨b, _, rfl, .of (R1.sub _ _ gb), rfl, _, _, rfl, _, e1, a, ns.map V.int, (j : Int), j, rfl, rfl, hH, ixN3 hl hj, ?_⟩
        rw [i1.int_eq, set_ints]
        have R2 := tub_put (ns := ns.set j z) R1 hT (by simp [hl]) (R1.tg a hT) (set_tub hb hd3.1.2)
        have hd4 := hd3.2
        rw [Out.All_bind, Out.All_ofO] at hd4
        obtain ⟨ρ1, e4, hd5⟩ := hd4
        exact ⟨_, _, rfl, G0, H0, ρ, G1, d2, ρ1, R2, i2, e4, fun σ2 R3 l3 k3 => ⟨rfl, hd5 σ2 G1 _ R3 kk.gs⟩⟩
theorem set_vals {G0 H0 G H : Hp} {ρ : Ro} {σ : Sg} {i j : Nat} {d e : D} {v u : V} (R : Rep T G0 H0 ρ σ G H) (a : Is T G v d) (b : Is T G u e) : Rep T G0 H0 ((ρ.set i (some (.val d))).set j (some (.val e))) ((σ.set i (some v)).set j (some u)) G H := (R.setVal a).setVal b
theorem ss_par {i j : Nat} {x y : Str} {a b : Expr} {px py pt : Pos} {kt k2 : Nat} {pt2 : Pos} {fa fb : Ro → Out D} (hc : X.calm = true) (hN : X.N.Nodup) (hi : X.N[i]? = some x) (hj : X.N[j]? = some y) (hij : i ≠ j)
    (hx : X.env.scope.names.lookup x = some .local) (hy : X.env.scope.names.lookup y = some .local) (ha : SndE X T false a fa) (hb : SndE X T false b fb) (na : notStarE a = true) (nb : notStarE b = true)
    (hw : swappedStores [.Tuple [.Name x px, .Name y py] kt pt] (.Tuple [a, b] k2 pt2) X.env = pure (some [x, y])) :
    SndS X T fr (.Assign [.Tuple [.Name x px, .Name y py] kt pt] (.Tuple [a, b] k2 pt2) pos) (fun ρ => (fa ρ).bind fun z => (slOf false z).bind fun sx => (fb ρ).bind fun w => (slOf false w).bind fun sy => .ret (.nx ((ρ.set i (some sx)).set j (some sy)))) := by
  obtain ⟨ta, pa, qa⟩ := ha
  obtain ⟨tb, pb, qb⟩ := hb
  refine ⟨_, ps_par hc hN hi hj hij hx hy (pa_cons pa (pa_cons pb pa_nil (starEach_cons nb)) (starEach_cons na)) hw rfl, fun G0 H0 ρ σ G H D R h => ?_⟩
  rw [Out.All_bind] at h
  refine qa G0 H0 ρ σ G H _ R (h.mono fun d hd u G1 H1 k iu => ?_)
  have hd : ((fb ρ).bind fun w => (slOf false w).bind fun sy => .ret (Fl.nx ((ρ.set i (some (.val d))).set j (some sy)))).All _ := hd
  rw [Out.All_bind] at hd
  refine qb G0 H0 ρ σ G1 H1 _ (R.step k) (hd.mono fun d2 hd2 u2 G2 H2 k2 iu2 => ?_)
  refine ⟨u, u2, rfl, ?_⟩
  exact hd2 _ G2 H2 (set_vals ((R.step k).step k2) (Is.mono k2.gs _ _ iu.keep) iu2.keep) (k.gs.trans k2.gs)
end
theorem ss_folded {t : Expr} {vs : List Expr} {k : Nat} {p : Pos} {env : PySem.Env} (h : vs.all (foldedForSure 8) = true) : swappedStores [t] (.Tuple vs k p) env = pure none := by
  cases t <;> try rfl
  all_goals
    unfold swappedStores
    simp only [pure_bind]
    split
    · rfl
    · split
      · rfl
      · split
        · rfl
        · simp only [h, if_true]
def namesOf (S : Scope) (line : Nat) : Expr → Option Str
  | .Name id pos => if (S.names.lookup id == some .local && pos.line == line) = true then some id else none
  | _ => none
theorem star_f {a : Expr} (h : notStarE a = true) : (match (generalizing := false) a with | .Starred value pos => true | x => false) = false := by
  cases a <;> first | rfl | cases h
theorem ss_two {x y : Str} {px py pt pt2 : Pos} {kt k2 : Nat} {a b : Expr} {env : PySem.Env} (hk : env.scope.kind = .function) (hx : env.scope.names.lookup x = some .local) (hy : env.scope.names.lookup y = some .local) (hxy : (y == x) = false) (hl : (py.line == px.line) = true)
    (na : notStarE a = true) (nb : notStarE b = true) (h1 : [a, b].all (foldedForSure 8) = false) (h2 : [a, b].all (constantsAlone 8) = false) : swappedStores [.Tuple [.Name x px, .Name y py] kt pt] (.Tuple [a, b] k2 pt2) env = pure (some [x, y]) := by
  have hb : env.blockKind = .function := by unfold Env.blockKind; rw [hk]; rfl
  have kx : env.kindOf x = some .local := hx
  have ky : env.kindOf y = some .local := hy
  have cx : (env.kindOf x == some .local && px.line == px.line) = true := by rw [kx]; simp
  have cy : (env.kindOf y == some .local && py.line == px.line) = true := by rw [ky, hl]; rfl
  have hn : ([x, y].eraseDups.length != [x, y].length) = false := by
    simp [List.eraseDups, List.eraseDupsBy, List.eraseDupsBy.loop, hxy]
  have c0 : (!(([Expr.Name x px, Expr.Name y py].length == 2) || ([Expr.Name x px, Expr.Name y py].length == 3)) || [a, b].length != [Expr.Name x px, Expr.Name y py].length || env.blockKind != .function) = false := by rw [hb]; rfl
  unfold swappedStores
  simp only [pure_bind, h1, h2]
  rw [if_neg (by rw [c0]; exact Bool.false_ne_true)]
  simp only [List.any_cons, List.any_nil, star_f na, star_f nb, List.filterMap_cons, List.filterMap_nil, List.head?_cons, Option.map_some, Option.getD_some, Expr.pos, cx, cy, if_true]
  refine (if_neg fun h => ?_).trans ((if_neg fun h => ?_).trans rfl)
  · exact Bool.false_ne_true ((Bool.or_eq_false_iff.mpr ⟨star_f na, Bool.or_eq_false_iff.mpr ⟨star_f nb, rfl⟩⟩).symm.trans h)
  · have e : ([x, y].length != [Expr.Name x px, Expr.Name y py].length) = false := rfl
    rw [e, hn] at h
    cases h
theorem fm_lt {α β : Type} (f : α → Option β) : ∀ l : List α, (∃ x ∈ l, f x = none) → (l.filterMap f).length < l.length
  | [], h => by obtain ⟨x, hx, _⟩ := h; cases hx
  | a :: r, h => by
    have hle := List.length_filterMap_le f r
    cases e : f a with
    | none => rw [List.filterMap_cons_none e]; simp only [List.length_cons]; omega
    | some b =>
      rw [List.filterMap_cons_some e]
      obtain ⟨x, hx, hn⟩ := h
      rcases List.mem_cons.mp hx with rfl | hx
      · rw [e] at hn; cases hn
      · have := fm_lt f r ⟨x, hx, hn⟩
        simp only [List.length_cons]; omega
def cellB (sc : Scope) : Expr → Bool
  | .Name x _ => sc.names.lookup x == some .cell
  | _ => false
/-- a target that is captured is not stored the swift way -/
theorem ss_cell {ts vs : List Expr} {k k2 : Nat} {p p2 : Pos} {env : PySem.Env} (h : ts.any (cellB env.scope) = true) : swappedStores [.Tuple ts k p] (.Tuple vs k2 p2) env = pure none := by
  unfold swappedStores
  simp only [pure_bind]
  split
  · rfl
  · split
    · rfl
    · split
      · rfl
      · rename_i hn
        exfalso
        apply hn
        rw [Bool.or_eq_true]
        left
        obtain ⟨e, he, hc⟩ := List.any_eq_true.mp h
        refine bne_iff_ne.mpr (Nat.ne_of_lt (fm_lt _ ts ⟨e, he, ?_⟩))
        cases e <;> simp only [cellB] at hc <;> try (cases hc; done)
        rename_i x px
        have hc : env.kindOf x = some .cell := eq_of_beq hc
        simp only [hc]
        rfl
def okSwap (sc : Scope) : Expr → Expr → Bool
  | .Tuple ts _ _, .Tuple vs _ _ => vs.all (foldedForSure 8) || ts.any (cellB sc)
  | t, v => !isTupE v
theorem ss_swap {t v : Expr} {env : PySem.Env} (h : okSwap env.scope t v = true) : swappedStores [t] v env = pure none := by
  cases v <;> first | exact ss_none rfl | skip
  cases t <;> first | cases h | skip
  simp only [okSwap, Bool.or_eq_true] at h
  rcases h with h | h
  · exact ss_folded h
  · exact ss_cell h
end Ev

set_option Elab.async false
set_option linter.all false
set_option autoImplicit false
set_option maxRecDepth 100000
set_option maxHeartbeats 8000000
namespace Ev
open PySem L2
section
variable {X : Cx} {T : Option Addr} {fr : Bool} {pos : Pos}
/-! ### the new dicts -/
theorem lay_dic {G0 H0 G H : Hp} {ρ : Ro} {σ : Sg} {p : Addr} {i : Nat} {t : Bool} {kvs : List (D × D)} {o : HO} (R : Rep T G0 H0 ρ σ G H) (hp : H p = none) (hd : DicOk T G (upd H p o) p t kvs) : Rep T G0 H0 (ρ.set i (some (.dic t kvs))) (σ.set i (some (.ref p))) G (upd H p o) := by
  have k : Stp T G H G (upd H p o) := Stp.fresh R.sub R.tub hp
  obtain ⟨f1, f2, f3⟩ := fresh_slot (i := i) (s := .dic t kvs) R k hp
  have gp : G p = none := by
    cases q : G p with
    | none => rfl
    | some u => rw [R.sub p u q] at hp; cases hp
  exact (R.step k).setMut (s := .dic t kvs) ⟨p, rfl, gp, f1, f2, hd⟩ f3
theorem ss_dnew {i : Nat} {t : Bool} {y : Str} {py pd : Pos} (hN : X.N.Nodup) (hi : X.N[i]? = some y) (hx : L2.Loc X.env.scope y) (hf : X.fn y = true ∨ X.env.scope.names.lookup y = some .local) :
    SndS X T fr (.Assign [.Name y py] (.Dict [] [] pd) pos) (fun ρ => .ret (.nx (ρ.set i (some (.dic t []))))) := by
  cases t with
  | false => exact ⟨_, ps_set hN hi hx pe_dnewK rfl hf, fun G0 H0 ρ σ G H D R h p hp => h _ G _ (lay_dic R hp (.inl ⟨rfl, [], upd_same, .nil⟩)) (.refl G)⟩
  | true => exact ⟨_, ps_set hN hi hx pe_dnewT rfl hf, fun G0 H0 ρ σ G H D R h p hp => h _ G _ (lay_dic R hp (.inr ⟨rfl, [], upd_same, .nil⟩)) (.refl G)⟩
/-! ### d[k] = v -/
theorem sw_sub {v o k : Expr} {p : Pos} {l : Nat} {env : PySem.Env} : swapsWith v (some (.Subscript o k p)) l env = pure false := by cases v <;> rfl
theorem ss_dset {i : Nat} {x : Str} {v kx : Expr} {p1 p2 : Pos} {f fk : Ro → Out D} (hu : X.A.units + 1 < cLine) (hN : X.N[i]? = some x) (hv : Vis X.env.scope x) (h1 : (x == ("__debug__" : Str)) = false) (h2 : (x == ("__classdict__" : Str)) = false) (he : SndE X T false v f) (hk : SndE X T true kx fk) :
    SndS X T fr (.Assign [.Subscript (.Name x p1) kx p2] v pos) (fun ρ => (f ρ).bind fun y => (dicOf ρ i).bind fun kvs => (fk ρ).bind fun k => .guard (keyOk kvs.1 k && decide (kvs.2.length < lim)) (.ret (.nx (ρ.set i (some (.dic kvs.1 (dPut k y kvs.2))))))) := by
  obtain ⟨tv, pv, qv⟩ := he
  obtain ⟨tk, pk, qk⟩ := hk
  refine ⟨_, ps_dput hu (pe_var hN hv h1 h2) pk pv sw_sub, fun G0 H0 ρ σ G H D R h => ?_⟩
  rw [Out.All_bind] at h
  refine qv G0 H0 ρ σ G H _ R (h.mono fun d hd u G1 H1 k iu => ?_)
  have R1 := R.step k
  obtain ⟨t, kvs, e, hd⟩ := dicSlot_get hd
  obtain ⟨w, ev, ad, rfl, ga, h0, hT, hdic⟩ := R1.sl i _ e
  refine ⟨_, ev, ?_⟩
  rw [Out.All_bind] at hd
  refine qk G0 H0 ρ σ G1 H1 _ R1 (hd.mono fun kd hkd yk G2 H2 k2 ik => ?_)
  rw [Out.All_guard] at hkd
  obtain ⟨hg, hkd⟩ := hkd
  obtain ⟨hko, hlen⟩ := bt hg
  have R2 := R1.step k2
  obtain ⟨w2, ev2, ad2, e3, ga2, h02, hT2, hdic2⟩ := R2.sl i _ e
  subst e3
  rw [ev] at ev2
  cases ev2
  obtain ⟨o, hput, hnew⟩ := dic_put R2.sub ga2 hdic2 hko ik (Is.mono k2.gs _ _ iu.keep) (of_decide_eq_true hlen)
  exact ⟨ad, _, rfl, hput, hkd σ G2 _ (R2.change (s := .dic t kvs) (s' := .dic t (dPut kd d kvs)) e rfl ev ⟨ad, rfl, ga2, h02, hT2, hnew⟩ rfl) (k.gs.trans k2.gs)⟩
/-! ### a = d -/
theorem ss_dmov {i j : Nat} {x y : Str} {px py : Pos} (hnd : X.N.Nodup) (hi : X.N[i]? = some x) (hx : L2.Loc X.env.scope x) (hf : X.fn x = true ∨ X.env.scope.names.lookup x = some .local)
    (hN : X.N[j]? = some y) (hv : Vis X.env.scope y) (h1 : (y == ("__debug__" : Str)) = false) (h2 : (y == ("__classdict__" : Str)) = false) :
    SndS X T fr (.Assign [.Name x px] (.Name y py) pos) (fun ρ => (dicOf ρ j).bind fun kvs => .ret (.nx ((ρ.set j none).set i (some (.dic kvs.1 kvs.2))))) := by
  refine ⟨_, ps_set hnd hi hx (pe_var hN hv h1 h2) rfl hf, fun G0 H0 ρ σ G H D R h => ?_⟩
  obtain ⟨t, kvs, e, h⟩ := dicSlot_get h
  obtain ⟨w, ev, ad, rfl, ga, h0, hT, hdic⟩ := R.sl j _ e
  refine ⟨_, ev, ?_⟩
  have hjl : j < ρ.length := (List.getElem?_eq_some_iff.mp e).1
  have R1 : Rep T G0 H0 (ρ.set j none) σ G H := R.forget (by simp [R.len]) fun n s hs => by
    by_cases hn : j = n
    · subst hn
      rw [List.getElem?_set_self hjl] at hs
      cases hs
    · rw [List.getElem?_set_ne hn] at hs
      exact ⟨hs, rfl⟩
  refine h _ G H (R1.setMut (s := .dic t kvs) ⟨ad, rfl, ga, h0, hT, hdic⟩ fun n sn vn b hs hσ a1 a2 => ?_) (.refl G)
  exfalso
  by_cases hn : j = n
  · subst hn
    rw [List.getElem?_set_self hjl] at hs
    cases hs
  · rw [List.getElem?_set_ne hn] at hs
    exact hn (R.apx j n _ sn _ vn b e hs ev hσ a1 a2)
/-! ### for k in d: the dict is used up -/
theorem walkOf_keysK {G1 H1 : Hp} {a : Addr} {o : Obj} {ks : List (L2.Key × V)} {kvs : List (D × D)} (h : H1 a = some (.frz o (.dK ks))) (kv : KvF T G1 flatKey kvs ks) : WalkOf T G1 H1 (Itk a o ks) (kvs.map (·.1)) (fun H => H a = some (.frz o (.dK ks))) (fun i H x H' => H' = H ∧ ∃ k v, ks[i]? = some (k, v) ∧ x = kV k) := by
  refine ⟨⟨fun i H hi hg => ⟨hg, by rw [List.length_map] at hi; rw [kv.length]; exact hi⟩, fun H hg => ⟨hg, by rw [kv.length, List.length_map]; exact Nat.le_refl _⟩, fun i H x H' hi hg y => y⟩, h, fun j H x H' G2 hj hG y s1 s2 t => ?_⟩
  obtain ⟨rfl, k, v, e, rfl⟩ := y
  have i := keysK (kv.mono s1)
  obtain ⟨d, e2, hd⟩ := i.get' (i := j) (v := kV k) (by rw [List.getElem?_map, e]; rfl)
  exact ⟨G2, d, e2, .refl s2 t, hd⟩
theorem walkOf_keysT {G1 H1 : Hp} {a : Addr} {o : Obj} {ks : List (List L2.Key × V)} {kvs : List (D × D)} (h : H1 a = some (.frz o (.dT ks))) (kv : KvF T G1 tupKey kvs ks) : WalkOf T G1 H1 (Itkt a o ks) (kvs.map (·.1)) (fun H => H a = some (.frz o (.dT ks))) (fun i H x H' => H' = H ∧ ∃ (k : List L2.Key) (v : V) (q : Addr), ks[i]? = some (k, v) ∧ x = .ref q ∧ H q = some (.tup (k.map kV))) := by
  refine ⟨⟨fun i H hi hg => ⟨hg, by rw [List.length_map] at hi; rw [kv.length]; exact hi⟩, fun H hg => ⟨hg, by rw [kv.length, List.length_map]; exact Nat.le_refl _⟩, fun i H x H' hi hg y => y⟩, h, fun j H x H' G2 hj hG y s1 s2 t => ?_⟩
  obtain ⟨rfl, k, v, q, e, rfl, hq⟩ := y
  have key : ∀ {kvs : List (D × D)} {ks : List (List L2.Key × V)} {j : Nat}, KvF T G1 tupKey kvs ks → ks[j]? = some (k, v) → ∃ d, (kvs.map (·.1))[j]? = some d ∧ tupKey d = some k := by
    intro kvs ks j h
    induction h generalizing j with
    | nil => intro e; simp at e
    | cons h1 h2 h3 ih =>
      intro e
      cases j with
      | zero => simp at e; obtain ⟨rfl, rfl⟩ := e; exact ⟨_, rfl, h1⟩
      | succ j => exact ih (by simpa using e)
  obtain ⟨d, e2, e3⟩ := key kv e
  exact ⟨frzTups G2 H', d, e2, stp_tups s2 t, is_tup e3 (frzTups_at hq)⟩
/-- a dict is locked for good: the slot forgets it -/
theorem Rep.lock {G0 H0 G H : Hp} {ρ : Ro} {σ : Sg} {i : Nat} {a : Addr} {t : Bool} {kvs : List (D × D)} {o : HO} (R : Rep T G0 H0 ρ σ G H) (e : ρ[i]? = some (some (.dic t kvs))) (hσ : σ[i]? = some (some (.ref a))) : Rep T G0 H0 (ρ.set i none) σ G (upd H a o) := by
  obtain ⟨w, ev, ad, e2, ga, h0, hT, hdic⟩ := R.sl i _ e
  rw [hσ] at ev
  cases ev
  cases e2
  have hil : i < ρ.length := (List.getElem?_eq_some_iff.mp e).1
  have gne : ∀ b o', G b = some o' → b ≠ a := fun b o' q z => by rw [z, ga] at q; cases q
  have back : ∀ {j : Nat} {sj : Sl}, (ρ.set i none)[j]? = some (some sj) → i ≠ j ∧ ρ[j]? = some (some sj) := fun {j sj} hs => by
    by_cases hj : i = j
    · subst hj
      rw [List.getElem?_set_self hil] at hs
      cases hs
    · rw [List.getElem?_set_ne hj] at hs; exact ⟨hj, hs⟩
  have oth : ∀ {j : Nat} {sj : Sl} {vj : V}, i ≠ j → ρ[j]? = some (some sj) → σ[j]? = some (some vj) → ∀ c, AtS H sj vj c → G c = none ∧ H0 c = none ∧ upd H a o c = H c := fun {j sj vj} hj hs hv c hc => by
    obtain ⟨w, e1, e2⟩ := R.sl j sj hs
    rw [hv] at e1; cases e1
    obtain ⟨c1, c2, _⟩ := e2.mine hc
    exact ⟨c1, c2, upd_ne fun z => by subst z; exact hj (R.apx i j (.dic t kvs) sj _ _ _ e hs hσ hv rfl hc)⟩
  have old : ∀ {j : Nat} {sj : Sl} {vj : V}, i ≠ j → ρ[j]? = some (some sj) → σ[j]? = some (some vj) → ∀ c, AtS (upd H a o) sj vj c → AtS H sj vj c := fun {j sj vj} hj hs hv c hc => by
    obtain ⟨w, e1, e2⟩ := R.sl j sj hs
    rw [hv] at e1; cases e1
    exact hc.back e2 fun c hc => (oth hj hs hv c hc).2.2
  refine ⟨⟨R.st.gs, fun b u q => ?_, fun b u hb q => ?_, R.st.new, fun b hb => ?_⟩, R.t0, R.tg, by simp [R.len], fun j s hs => ?_, fun j k sj sk vj vk c h1 h2 e1 e2 a1 a2 => ?_⟩
  · rw [upd_ne (gne b u q)]; exact R.sub b u q
  · rw [upd_ne (fun z => by rw [z, h0] at q; cases q)]; exact R.st.keep b u hb q
  · obtain ⟨x, y, z, q, w⟩ := R.tub b hb
    refine ⟨x, y, z, ?_, w⟩
    rw [upd_ne (fun z => hT (by rw [← z]; exact hb))]; exact q
  · obtain ⟨hj, hs⟩ := back hs
    obtain ⟨v, e1, e2⟩ := R.sl j s hs
    exact ⟨v, e1, e2.move (.refl G) (oth hj hs e1)⟩
  · obtain ⟨n1, h1⟩ := back h1
    obtain ⟨n2, h2⟩ := back h2
    exact R.apx j k sj sk vj vk c h1 h2 e1 e2 (old n1 h1 e1 c a1) (old n2 h2 e2 c a2)
theorem unlock_step {G0 H0 G' H' : Hp} {d : Addr} {od : Obj} {u : HO} (k : Stp T G0 (upd H0 d (.frz od u)) G' H') (h0 : H0 d = none) (g0 : G0 d = none) (hT : T ≠ some d) : H' d = some (.frz od u) ∧ G' d = none ∧ Stp T G0 H0 G' (upd H' d u) := by
  have hd : H' d = some (.frz od u) := k.keep d _ hT upd_same
  have gd : G' d = none := by
    cases q : G' d with
    | none => rfl
    | some o =>
      rcases k.new d o q with z | z | ⟨xs, z⟩
      · rw [g0] at z; cases z
      · rw [upd_same] at z; cases z
      · rw [upd_same] at z; cases z
  refine ⟨hd, gd, k.gs, fun b o e => ?_, fun b o hb e => ?_, fun b o e => ?_, fun b hb => ?_⟩
  · rw [upd_ne (fun z => by rw [z, gd] at e; cases e)]; exact k.gh b o e
  · have hne : b ≠ d := fun z => by rw [z, h0] at e; cases e
    rw [upd_ne hne]
    exact k.keep b o hb (by rw [upd_ne hne]; exact e)
  · have hne : b ≠ d := fun z => by rw [z, gd] at e; cases e
    rcases k.new b o e with z | z | ⟨xs, z⟩
    · exact .inl z
    · rw [upd_ne hne] at z; exact .inr (.inl z)
    · rw [upd_ne hne] at z; exact .inr (.inr ⟨xs, z⟩)
  · obtain ⟨x, y, z, q, w⟩ := k.tub b hb
    refine ⟨x, y, z, ?_, w⟩
    rw [upd_ne (fun z => hT (by rw [← z]; exact hb))]; exact q
theorem not_frz {H0 G H : Hp} {s : Sl} {v : V} {b d : Addr} {od : Obj} {u : HO} (h : SlOk T H0 G H s v) (a : AtS H s v b) (hd : H d = some (.frz od u)) : b ≠ d := fun z => by
  subst z
  obtain ⟨_, _, _, o, q, _, q2⟩ := h.mine a
  rw [hd] at q
  cases q
  exact q2 _ _ rfl
theorem Rep.base {G0 H0 G H : Hp} {ρ : Ro} {σ : Sg} {d : Addr} {od : Obj} {u : HO} (R : Rep T G0 H0 ρ σ G H) (hd : H d = some (.frz od u)) (h0 : H0 d = none) (gd : G d = none) (hT : T ≠ some d) : Rep T G0 (upd H0 d (.frz od u)) ρ σ G H := by
  refine ⟨⟨R.st.gs, R.st.gh, fun b o hb e => ?_, fun b o e => ?_, R.st.tub⟩, fun b hb => ?_, R.tg, R.len, fun j s hs => ?_, R.apx⟩
  · by_cases hne : b = d
    · subst hne; rw [upd_same] at e; cases e; exact hd
    · rw [upd_ne hne] at e; exact R.st.keep b o hb e
  · have hne : b ≠ d := fun z => by rw [z, gd] at e; cases e
    rw [upd_ne hne]; exact R.st.new b o e
  · obtain ⟨x, y, z, q, w⟩ := R.t0 b hb
    refine ⟨x, y, z, ?_, w⟩
    rw [upd_ne (fun z => hT (by rw [← z]; exact hb))]; exact q
  · obtain ⟨v, e1, e2⟩ := R.sl j s hs
    exact ⟨v, e1, e2.move (.refl G) fun b hb => ⟨(e2.mine hb).1, by rw [upd_ne (not_frz e2 hb hd)]; exact (e2.mine hb).2.1, rfl⟩⟩
theorem Rep.unlock {G0 H0 G H : Hp} {ρ : Ro} {σ : Sg} {d : Addr} {od : Obj} {u : HO} (R : Rep T G0 (upd H0 d (.frz od u)) ρ σ G H) (h0 : H0 d = none) (g0 : G0 d = none) (hT : T ≠ some d) : Rep T G0 H0 ρ σ G (upd H d u) := by
  obtain ⟨hd, gd, k⟩ := unlock_step R.st h0 g0 hT
  refine ⟨k, fun b hb => ?_, R.tg, R.len, fun j s hs => ?_, fun i j si sj vi vj b h1 h2 e1 e2 a1 a2 => ?_⟩
  · obtain ⟨x, y, z, q, w⟩ := R.t0 b hb
    refine ⟨x, y, z, ?_, w⟩
    rw [upd_ne (fun z => hT (by rw [← z]; exact hb))] at q; exact q
  · obtain ⟨v, e1, e2⟩ := R.sl j s hs
    refine ⟨v, e1, e2.move (.refl G) fun b hb => ?_⟩
    have hne := not_frz e2 hb hd
    obtain ⟨c1, c2, _⟩ := e2.mine hb
    rw [upd_ne hne] at c2
    exact ⟨c1, c2, upd_ne hne⟩
  · obtain ⟨wi, f1, q1⟩ := R.sl i si h1
    obtain ⟨wj, f2, q2⟩ := R.sl j sj h2
    rw [e1] at f1; cases f1
    rw [e2] at f2; cases f2
    exact R.apx i j si sj vi vj b h1 h2 e1 e2 (a1.back q1 fun b a => upd_ne (not_frz q1 a hd)) (a2.back q2 fun b a => upd_ne (not_frz q2 a hd))
/-- what is wanted behind the locked loop -/
def lockD (d : Addr) (od : Obj) (u : HO) (D : Ends) : Ends := ⟨fun σ' H' => H' d = some (.frz od u) ∧ D.nx σ' (upd H' d u), fun v H' => H' d = some (.frz od u) ∧ D.rt v (upd H' d u), fun σ' H' => H' d = some (.frz od u) ∧ D.bk σ' (upd H' d u), fun σ' H' => H' d = some (.frz od u) ∧ D.ct σ' (upd H' d u)⟩
theorem EndOf.lock {G0 H0 G : Hp} {d : Addr} {od : Obj} {u : HO} {D : Ends} (h0 : H0 d = none) (g0 : G0 d = none) (hT : T ≠ some d) : ∀ {fl : Fl}, EndOf fr T G0 H0 G D fl → EndOf fr T G0 (upd H0 d (.frz od u)) G (lockD d od u D) fl
  | .nx _, h => fun σ' G' H' R s => ⟨(unlock_step R.st h0 g0 hT).1, h σ' G' _ (R.unlock h0 g0 hT) s⟩
  | .bk _, h => fun σ' G' H' R s => ⟨(unlock_step R.st h0 g0 hT).1, h σ' G' _ (R.unlock h0 g0 hT) s⟩
  | .ct _, h => fun σ' G' H' R s => ⟨(unlock_step R.st h0 g0 hT).1, h σ' G' _ (R.unlock h0 g0 hT) s⟩
  | .rt x, h => by
    cases fr with
    | false =>
      intro v G' H' k iv
      obtain ⟨hd, gd, k2⟩ := unlock_step k h0 g0 hT
      exact ⟨hd, h v G' _ k2 iv⟩
    | true =>
      obtain ⟨xs, e, h⟩ := h
      refine ⟨xs, e, fun p vs ys G' H' e2 k hp gp hH iv => ?_⟩
      obtain ⟨hd, gd, k2⟩ := unlock_step k h0 g0 hT
      have hne : p ≠ d := fun z => by rw [z, hd] at hH; cases hH
      exact ⟨hd, h p vs ys G' _ e2 k2 (by rw [upd_ne hne] at hp; exact hp) gp (by rw [upd_ne hne]; exact hH) iv⟩
theorem ss_fork {g : Tg} {tg : Expr} {i : Nat} {x : Str} {p1 : Pos} {p : List Stmt} {f : Ro → Out Fl} (hx : PassesOwn (model X.prog X.w) X.A X.env X.xe) (hc : X.calm = true) (hN : X.N[i]? = some x) (hv : Vis X.env.scope x) (h1 : (x == ("__debug__" : Str)) = false) (h2 : (x == ("__classdict__" : Str)) = false) (hg : SndG X T tg g) (hp : SndSs X T fr p f) :
    SndS X T fr (.For tg (.Name x p1) p [] pos) (fun ρ => (dicOf ρ i).bind fun kvs => forGo g f (kvs.2.map (·.1)) (ρ.set i none)) := by
  obtain ⟨t1, p1, q1⟩ := hp
  refine ⟨_, ps_lock (ps_for hx hc (pi_keys (pe_var hN hv h1 h2)) hg p1 (by intro _; rfl)), fun G0 H0 ρ σ G H D R h => ?_⟩
  obtain ⟨t, kvs, e, h⟩ := dicSlot_get h
  obtain ⟨w, ev, ad, rfl, ga, h0, hT, hdic⟩ := R.sl i _ e
  have g0 : G0 ad = none := by
    cases q : G0 ad with
    | none => rfl
    | some o => rw [R.st.gs _ _ q] at ga; cases ga
  have fin : ∀ (u : HO) (od : Obj), Rep T G0 (upd H0 ad (.frz od u)) (ρ.set i none) σ G (upd H ad (.frz od u)) := fun u od => (R.lock (o := .frz od u) e ev).base upd_same h0 ga hT
  have stay : ∀ (u : HO) (od : Obj) (ρ' : Ro) (σ' : Sg) (G' H' : Hp), Rep T G0 (upd H0 ad (.frz od u)) ρ' σ' G' H' → H' ad = some (.frz od u) := fun u od ρ' σ' G' H' R' => R'.st.keep ad _ hT upd_same
  rcases hdic with ⟨rfl, ks, e1, e2⟩ | ⟨rfl, ks, e1, e2⟩
  · refine ⟨ad, .dK ks, e1, trivial, fun od => ⟨_, ev, ad, od, rfl, .inl ⟨ks, upd_same, ?_⟩⟩⟩
    exact for_core (D := lockD ad od (.dK ks) D) q1 (walkOf_keysK upd_same e2) (fun ρ' σ' G' H' R' _ => stay _ _ _ _ _ _ R') (fin _ _) (.refl G) (Out.All.mono (fun fl hf => hf.lock h0 g0 hT) h)
  · refine ⟨ad, .dT ks, e1, trivial, fun od => ⟨_, ev, ad, od, rfl, .inr ⟨ks, upd_same, ?_⟩⟩⟩
    exact for_core (D := lockD ad od (.dT ks) D) q1 (walkOf_keysT upd_same e2) (fun ρ' σ' G' H' R' _ => stay _ _ _ _ _ _ R') (fin _ _) (.refl G) (Out.All.mono (fun fl hf => hf.lock h0 g0 hT) h)
/-! ### dict(pairs) -/
def mergeT {κ : Type} [DecidableEq κ] (kvs more : List (κ × V)) : List (κ × V) := more.foldl (fun acc kv => putK acc kv.1 kv.2) kvs
theorem length_mergeT {κ : Type} [DecidableEq κ] : ∀ (more kvs : List (κ × V)), (mergeT kvs more).length ≤ kvs.length + more.length
  | [], kvs => by simp [mergeT]
  | p :: r, kvs => by
    have h1 := length_mergeT r (putK kvs p.1 p.2)
    have h2 := length_putK kvs p.1 p.2
    simp only [mergeT, List.foldl_cons, List.length_cons] at h1 ⊢
    omega
/-- the pairs as the library tells them -/
theorem tpairs_of {pins : List (Addr × Obj)} {σ : St} {H : Hp} {s : Shared} (I : Inv X pins σ H s) : ∀ {ps : List Addr} {kvs : List (List L2.Key × V)}, Paired (fun p kv => ∃ b, SqT X.K H p [.ref b, kv.2] ∧ H b = some (.tup (kv.1.map kV))) ps kvs →
    ∃ prs : List (List L2.Key × Addr × Value), KT H kvs prs ∧ prs.length = ps.length ∧ ∀ (j : Nat) (q : List L2.Key × Addr × Value), prs[j]? = some q → ∃ b, ps[j]? = some b ∧ s.heap.IsTuple b #[.ref q.2.1, q.2.2]
  | _, _, .nil => ⟨[], .nil, rfl, fun j q e => by simp at e⟩
  | _, _, .cons (a := p) (b := kv) ⟨kb, h, hk⟩ t => by
    obtain ⟨prs, r, hl, hp⟩ := tpairs_of I t
    obtain ⟨its, rv, ht, _⟩ := I.tuple h
    obtain ⟨u, y, ei, ru, ry⟩ := vals2 rv
    subst ei
    cases (show u = Value.ref kb from ru)
    refine ⟨(kv.1, kb, y) :: prs, .cons ⟨rfl, hk, ry⟩ r, by rw [List.length_cons, List.length_cons, hl], fun j q e => ?_⟩
    cases j with
    | zero => simp at e; subst e; exact ⟨p, rfl, ht⟩
    | succ j => exact hp j q (by simpa using e)
theorem merge_kt {H : Hp} : ∀ {more : List (List L2.Key × V)} {rs : List (List L2.Key × Addr × Value)} {kvs : List (List L2.Key × V)} {xs : List (List L2.Key × Addr × Value)}, KT H more rs → KT H kvs xs → KT H (mergeT kvs more) (storedAllH xs rs)
  | _, _, _, _, .nil, h => h
  | _, _, _, xs, .cons (a := p) (b := q) ⟨e1, e2, e3⟩ t, h => by
    have h2 := KT.put h p.1 e2 e3
    have e4 : storedH xs p.1 q.2.1 q.2.2 = storedH xs q.1 q.2.1 q.2.2 := by rw [e1]
    rw [e4] at h2
    have h3 := merge_kt t h2
    exact h3
theorem call_dictT {n : Nat} (hr : Room n X.A) : CallR X (.type "dict") (fun xs H Q => ∃ (a : Addr) (ps : List Addr) (kvs : List (List L2.Key × V)), xs = [.ref a] ∧ SqL X.K H a (ps.map V.ref) ∧ Paired (fun p kv => ∃ b, SqT X.K H p [.ref b, kv.2] ∧ H b = some (.tup (kv.1.map kV))) ps kvs ∧
    ∀ p, H p = none → Q (.ref p) (upd H p (.dT (mergeT [] kvs)))) := by
  intro pins s σ H xs us Q I r q
  obtain ⟨a, ps, kvs, ex, hq, hp, q⟩ := q
  subst ex
  rw [Vals.ref1 r]
  obtain ⟨its, rv, pl, hz⟩ := I.list hq
  have ei := refs_at rv
  subst ei
  rw [List.length_map] at hz
  obtain ⟨prs, rel, hl, hpr⟩ := tpairs_of I hp
  obtain ⟨o, k0, ho, hc, hd, hdat⟩ := pl
  have hlk : kvs.length = prs.length := Paired.length rel
  have his : ∀ x ∈ prs, (tupleKind (mixKind X.prog X.w)).is s.heap x.1 x.2.1 := by
    have all : ∀ {l : List (List L2.Key × V)} {m : List (List L2.Key × Addr × Value)}, KT H l m → ∀ x ∈ m, (tupleKind (mixKind X.prog X.w)).is s.heap x.1 x.2.1 := by
      intro l m h
      induction h with
      | nil => intro x hx; cases hx
      | cons h1 h2 ih =>
        intro x hx
        rcases List.mem_cons.mp hx with rfl | hx
        · rw [← h1.1]; exact key_of I.hok h1.2.1
        · exact ih x hx
    exact all rel
  have hu := hr.un
  refine call_dict_pairsH (knd := tupleKind (mixKind X.prog X.w)) (ps := prs) (PairArg.list a (ps.map Value.ref).toArray (fun j => (ps[j]?).getD 0) (prs.map fun x => (Value.ref x.2.1, x.2.2))) hr.hd (tupleKind_room_in1 (A := X.A.in1) (by show X.A.units + 1 + 1 < cLine; omega)) ⟨⟨o, k0, ho, hc, hd, hdat⟩, ⟨by simp [hl], fun j k v e => ?_⟩⟩
    ⟨by simp, fun j k v e => ?_⟩ (fun h' hk x hx => ?_) (by simp; omega) fun h' tk hd' k => ?_
  · rw [List.getElem?_map] at e
    cases hj : prs[j]? with
    | none => rw [hj] at e; cases e
    | some z =>
      rw [hj] at e
      cases e
      obtain ⟨b, e1, e2⟩ := hpr j z hj
      exact ⟨by simp [e1], .inl (by simp only [e1, Option.getD_some]; exact e2)⟩
  · have e : (prs.map fun x => (Value.ref x.2.1, x.2.2))[j]? = some (k, v) := e
    rw [List.getElem?_map] at e
    cases hj : prs[j]? with
    | none => rw [hj] at e; cases e
    | some z =>
      rw [hj] at e
      cases e
      exact ⟨z.1, z.2.1, rfl, rfl⟩
  · obtain ⟨ob, its, m, e1, e2, e3, e4⟩ := his x hx
    exact ⟨ob, its, m, hk _ _ (Nat.ne_of_lt (Heap.lt_size e1)) (by simp) e1, e2, e3, e4⟩
  · have hm : (s.heap.objs.size == sysModules) = false := beq_eq_false_iff_ne.mpr (Nat.ne_of_gt I.big)
    have hlen : (mergeT [] kvs).length ≤ sizeLine := by
      have := length_mergeT kvs []
      simp at this
      omega
    have hk : ∀ b o, s.heap.get? b = some o → h'.get? b = some o := fun b o e => k b o (by simp) e
    obtain ⟨o', es, ep, h1, h2, h3, h4, h5, h6⟩ := hd'
    have hfr : H s.heap.objs.size = none := I.hok.fresh (Nat.le_refl _)
    refine ⟨.ref s.heap.objs.size, _, I.laid (t' := tk) (o := .dT (mergeT [] kvs)) hk (Nat.le_refl _) ⟨hlen, hm, storedAllH [] prs, (merge_kt rel .nil).keeps fun b ys e => ?_, o', es, ep, h1, h2, h3, h4, h6⟩, rfl, q _ hfr⟩
    rw [upd_ne (ne_of_none e hfr)]; exact e
theorem dpairs_K {G H : Hp} (sub : Sub G H) {P : List (D × D) → Prop} : ∀ {xs : List D} {acc : List (D × D)} {vs : List V} {aks : List (L2.Key × V)}, (dPairs false xs acc).All P → IsAll T G vs xs → KvF T G flatKey acc aks →
    ∃ (ps : List Addr) (kvs : List (L2.Key × V)) (out : List (D × D)), vs = ps.map V.ref ∧ Paired (fun p kv => SqT X.K H p [kV kv.1, kv.2]) ps kvs ∧ P out ∧ KvF T G flatKey out (mergeK aks kvs)
  | [], acc, _, aks, h, .nil, ha => ⟨[], [], acc, rfl, .nil, h, ha⟩
  | d :: r, acc, _, aks, h, .cons (v := v) i t, ha => by
    match d, i, h with
    | .tuple [k, x], i, h =>
      simp only [dPairs] at h
      rw [Out.All_guard] at h
      obtain ⟨hk, h⟩ := h
      cases i with
      | tup gp j =>
        cases j with
        | cons jk j2 =>
          cases j2 with
          | cons jx j3 =>
            cases j3
            obtain ⟨q, hq⟩ := flat_of hk
            obtain ⟨ps, kvs, out, e1, e2, e3, e4⟩ := dpairs_K sub h t (put_kv flat_injK hq jx ha)
            have ek := flat_val hq jk
            subst ek
            exact ⟨_ :: ps, (q, _) :: kvs, out, by rw [e1]; rfl, .cons (.of (sub _ _ gp)) e2, e3, e4⟩
theorem dpairs_T {G H : Hp} (sub : Sub G H) {P : List (D × D) → Prop} : ∀ {xs : List D} {acc : List (D × D)} {vs : List V} {aks : List (List L2.Key × V)}, (dPairs true xs acc).All P → IsAll T G vs xs → KvF T G tupKey acc aks →
    ∃ (ps : List Addr) (kvs : List (List L2.Key × V)) (out : List (D × D)), vs = ps.map V.ref ∧ Paired (fun p kv => ∃ b, SqT X.K H p [.ref b, kv.2] ∧ H b = some (.tup (kv.1.map kV))) ps kvs ∧ P out ∧ KvF T G tupKey out (mergeT aks kvs)
  | [], acc, _, aks, h, .nil, ha => ⟨[], [], acc, rfl, .nil, h, ha⟩
  | d :: r, acc, _, aks, h, .cons (v := v) i t, ha => by
    match d, i, h with
    | .tuple [k, x], i, h =>
      simp only [dPairs] at h
      rw [Out.All_guard] at h
      obtain ⟨hk, h⟩ := h
      cases i with
      | tup gp j =>
        cases j with
        | cons jk j2 =>
          cases j2 with
          | cons jx j3 =>
            cases j3
            have hk2 : ∃ q, tupKey k = some q := by
              cases k <;> simp only [keyOk] at hk <;> try (cases hk; done)
              exact flats_of hk
            obtain ⟨q, hq⟩ := hk2
            obtain ⟨ps, kvs, out, e1, e2, e3, e4⟩ := dpairs_T sub h t (put_kv tup_injK hq jx ha)
            obtain ⟨b, rfl, hb⟩ := tup_val hq jk
            exact ⟨_ :: ps, (q, _) :: kvs, out, by rw [e1]; rfl, .cons ⟨b, .of (sub _ _ gp), sub _ _ hb⟩ e2, e3, e4⟩
theorem ss_dof {n : Nat} {i : Nat} {t : Bool} {y : Str} {py p2 pc : Pos} {v : Expr} {f : Ro → Out D} (hr : Room n X.A) (hcalm : X.calm = true) (hg : Gl X "dict") (hm : X.mg "dict" = none) (hbt : bootBuiltins "dict" = some (.type "dict")) (hN : X.N.Nodup) (hi : X.N[i]? = some y) (hx : L2.Loc X.env.scope y) (hf : X.fn y = true ∨ X.env.scope.names.lookup y = some .local)
    (he : SndE X T false v f) (hns : notStarE v = true) :
    SndS X T fr (.Assign [.Name y py] (.Call (.Name "dict" p2) [v] [] pc) pos) (fun ρ => (f ρ).bind fun d => (asList d).bind fun xs => .guard (decide (xs.length ≤ lim)) ((dPairs t xs []).bind fun kvs => .ret (.nx (ρ.set i (some (.dic t kvs)))))) := by
  obtain ⟨te, pe, qe⟩ := he
  have rule : CallR X (.type "dict") _ := CallR.or (call_dictP hcalm) (call_dictT hr)
  refine ⟨_, ps_set hN hi hx (pe_callTy rule hg hm hbt (pa_cons pe pa_nil (starEach_cons hns)) (by decide +kernel) (by decide +kernel) (starEach_cons hns) rfl) rfl hf, fun G0 H0 ρ σ G H D R h => ?_⟩
  rw [Out.All_bind] at h
  refine qe G0 H0 ρ σ G H _ R (h.mono fun d hd u G1 H1 k iu => ?_)
  cases d <;> simp only [asList] at hd <;> try exact hd.elim
  rename_i xs
  simp only [Out.bind_ret] at hd
  rw [Out.All_guard, Out.All_bind] at hd
  obtain ⟨hl, hd⟩ := hd
  have R1 := R.step k
  obtain ⟨a, vs, rfl, ga, iv⟩ := iu.list R1.sub
  cases t with
  | false =>
    obtain ⟨ps, kvs, out, rfl, e2, e3, e4⟩ := dpairs_K (X := X) R1.sub hd iv .nil
    refine .inl ⟨a, ps, kvs, rfl, .of ga, e2, fun p hp => ?_⟩
    exact e3 _ G1 _ (lay_dic R1 hp (.inl ⟨rfl, _, upd_same, e4⟩)) k.gs
  | true =>
    obtain ⟨ps, kvs, out, rfl, e2, e3, e4⟩ := dpairs_T (X := X) R1.sub hd iv .nil
    refine .inr ⟨a, ps, kvs, rfl, .of ga, e2, fun p hp => ?_⟩
    exact e3 _ G1 _ (lay_dic R1 hp (.inr ⟨rfl, _, upd_same, e4⟩)) k.gs
/-! ### {k: v}, one pair, the key a tuple -/
theorem vv_one {x y : V} {ws : List (Value × Value)} (h : VV [(x, y)] ws) : ∃ w1 w2, ws = [(w1, w2)] ∧ RelV x w1 ∧ RelV y w2 := by
  cases h with
  | @cons a b l m r t =>
    cases t
    exact ⟨b.1, b.2, rfl, r.1, r.2⟩
def tDisp1T (tk tv : TE) : TE := fun σ H Q => ∀ p, H p = none → tPairs [(tk, tv)] σ (upd H p (.dT [])) fun ps H2 => H2 p = some (.dT []) ∧ ∃ (q : List L2.Key) (b : Addr) (y : V), ps = [(.ref b, y)] ∧ H2 b = some (.tup (q.map kV)) ∧ Q (.ref p) (upd H2 p (.dT [(q, y)]))
theorem pe_disp1T {k v : Expr} {pd : Pos} {tk tv : TE} (hu : X.A.units + 1 < cLine) (hk : PE X k tk) (hv : PE X v tv) : PE X (.Dict [some k] [v] pd) (tDisp1T tk tv) := by
  refine ⟨fun pins s σ H Q I q => ?_⟩
  have hfr := I.hok.fresh (Nat.le_refl s.heap.objs.size)
  have I1 := I.laid (a := s.heap.objs.size) (o := .dT []) (h' := s.heap.push { cls := .type "dict", data := .dict #[] }) (t' := s.toks) (fun _ _ q => Heap.get?_push_of_some _ q) (Nat.le_refl _) (dt_empty s.heap I.big)
  rw [arm_eval_Dict]
  rw [zip_pairTrees [some k] [v] X.env pd rfl rfl, dictDisplay_pairs (pairTrees [some k] [v] X.env pd) (fun z => by cases z) (show (1 : Nat) < 17 by decide)]
  have hroom : (tupleKind (mixKind X.prog X.w)).room X.A := (show X.A.units < cLine by omega)
  refine wpAny_bind (wpAny_standAt (wpAny_bind (wpAny_subDictH (knd := tupleKind (mixKind X.prog X.w)) (Q := fun d s' => wpAny (model X.prog X.w) X.A (pure (Value.ref d)) _ _ s') hroom (show (1 : Nat) ≤ 15 by decide) ?_)))
  refine thn ((pps_cons hk hv pps_nil).run pins _ σ _ _ I1 (q _ hfr)) fun ws s2 ⟨ps, H2, I2, rel, e, qq, b, y, ep, hb, fin⟩ => ?_
  subst ep
  obtain ⟨w1, w2, rfl, ra, rb⟩ := vv_one rel
  cases (show w1 = Value.ref b from ra)
  obtain ⟨z, hd, xs, rel0, dd⟩ := dt_of I2.hok e
  cases rel0
  refine ⟨[(qq, b, w2)], ⟨rfl, rfl, key_of I2.hok hb, trivial⟩, dd, fun h' tk' hm hs => wpAny_pure ⟨.ref s.heap.objs.size, _, ?_, rfl, fin⟩⟩
  obtain ⟨o', es, ep, a1, a2, a3, a4, a5, a6⟩ := hm
  refine d_write (t' := tk') I2 (by rw [e]; exact True.intro) hs ⟨o', a1⟩ ⟨by rw [sizeLine_eq]; simp, hd, [(qq, b, w2)], .cons ⟨rfl, ?_, rb⟩ .nil, o', es, ep, a1, a2, a3, a4, a6⟩
  rw [upd_ne (ne_of hb e (fun z => nomatch z))]
  exact hb
theorem laid2 {G H G2 H2 : Hp} {p : Addr} {kvs : List (List L2.Key × V)} {o : HO} (k : Stp T G (upd H p (.dT kvs)) G2 H2) (hp : H p = none) (gp : G p = none) (hT : T ≠ some p) : Stp T G H G2 (upd H2 p o) ∧ G2 p = none := by
  have g2 : G2 p = none := by
    cases q : G2 p with
    | none => rfl
    | some u =>
      rcases k.new p u q with z | z | ⟨xs, z⟩
      · rw [gp] at z; cases z
      · rw [upd_same] at z; cases z
      · rw [upd_same] at z; cases z
  refine ⟨⟨k.gs, fun b u e => ?_, fun b u hb e => ?_, fun b u e => ?_, fun b hb => ?_⟩, g2⟩
  · rw [upd_ne (fun z => by rw [z, g2] at e; cases e)]; exact k.gh b u e
  · have hne : b ≠ p := fun z => by rw [z, hp] at e; cases e
    rw [upd_ne hne]; exact k.keep b u hb (by rw [upd_ne hne]; exact e)
  · have hne : b ≠ p := fun z => by rw [z, g2] at e; cases e
    rcases k.new b u e with z | z | ⟨xs, z⟩
    · exact .inl z
    · rw [upd_ne hne] at z; exact .inr (.inl z)
    · rw [upd_ne hne] at z; exact .inr (.inr ⟨xs, z⟩)
  · obtain ⟨x, y, z, q, w⟩ := k.tub b hb
    refine ⟨x, y, z, ?_, w⟩
    rw [upd_ne (fun z => hT (by rw [← z]; exact hb))]; exact q
theorem ss_dnew1T {i : Nat} {y : Str} {py pd : Pos} {k v : Expr} {fk fv : Ro → Out D} (hu : X.A.units + 1 < cLine) (hN : X.N.Nodup) (hi : X.N[i]? = some y) (hx : L2.Loc X.env.scope y) (hf : X.fn y = true ∨ X.env.scope.names.lookup y = some .local) (hk : SndE X T false k fk) (hv : SndE X T false v fv) :
    SndS X T fr (.Assign [.Name y py] (.Dict [some k] [v] pd) pos) (fun ρ => (fk ρ).bind fun x => (fv ρ).bind fun w => .guard (keyOk true x) (.ret (.nx (ρ.set i (some (.dic true [(x, w)])))))) := by
  obtain ⟨tk, pk, qk⟩ := hk
  obtain ⟨tv, pv, qv⟩ := hv
  refine ⟨_, ps_set hN hi hx (pe_disp1T hu pk pv) rfl hf, fun G0 H0 ρ σ G H D R h p hp => ?_⟩
  rw [Out.All_bind] at h
  have R0 := lay_dic (i := i) (t := true) (kvs := []) (o := .dT []) R hp (.inr ⟨rfl, [], upd_same, .nil⟩)
  have hT : T ≠ some p := (fresh_slot (i := i) (s := .own []) R (Stp.refl R.sub R.tub) hp).2.1
  have k0 : Stp T G H G (upd H p (.dT [])) := Stp.fresh R.sub R.tub hp
  refine qk G0 H0 ρ σ G _ _ (R.step k0) (h.mono fun x hx u G1 H1 k1 iu => ?_)
  rw [Out.All_bind] at hx
  refine qv G0 H0 ρ σ G1 H1 _ ((R.step k0).step k1) (hx.mono fun w hw u2 G2 H2 k2 iu2 => ?_)
  rw [Out.All_guard] at hw
  obtain ⟨hko, hw⟩ := hw
  have hk2 : ∃ q, tupKey x = some q := by
    cases x <;> simp only [keyOk] at hko <;> try (cases hko; done)
    exact flats_of hko
  obtain ⟨q, hq⟩ := hk2
  have ix : Is T G2 u x := Is.mono k2.gs _ _ iu.keep
  obtain ⟨b, rfl, hb⟩ := tup_val hq ix
  have R2 := ((R.step k0).step k1).step k2
  have kk := k1.trans k2 k0.tub
  have gp : G p = none := by
    cases z : G p with
    | none => rfl
    | some u => rw [R.sub p u z] at hp; cases hp
  obtain ⟨k3, g2⟩ := laid2 (o := .dT [(q, u2)]) kk hp gp hT
  obtain ⟨f1, f2, f3⟩ := fresh_slot (i := i) (s := .dic true [(x, w)]) R k3 hp
  refine ⟨kk.keep p _ hT upd_same, q, b, u2, rfl, R2.sub _ _ hb, ?_⟩
  exact hw _ G2 _ ((R.step k3).setMut (s := .dic true [(x, w)]) ⟨p, rfl, g2, f1, f2, .inr ⟨rfl, [(q, u2)], upd_same, .cons hq iu2.keep .nil⟩⟩ f3) k3.gs
end
end Ev

set_option Elab.async false
set_option linter.all false
set_option autoImplicit false
set_option maxRecDepth 100000
set_option maxHeartbeats 4000000
namespace Ev
open PySem L2 PySem.Calls PyProof.Rows PyProof.V PySem.Spec
/-! ### for k, v in d.items(), the keys tuples -/
abbrev TKv := List (List L2.Key × V)
theorem frzTV {X : Cx} {pins : List (Addr × Obj)} {σ : Sg} {H : Hp} {s : Shared} {d : Addr} {o : Obj} {kvs : TKv} (I : Inv X pins σ H s) (h : H d = some (.frz o (.dT kvs))) :
    (d == sysModules) = false ∧ s.heap.get? d = some o ∧ o.ExactDict ∧ ∃ (es : Array DictEntry) (ep : Nat), o.data = .dict es ep ∧ es.size = kvs.length ∧
      ∀ (i : Nat) (k : List L2.Key) (v : V), kvs[i]? = some (k, v) → ∃ (en : DictEntry) (q : Addr), es[i]? = some en ∧ en.key = .ref q ∧ H q = some (.tup (k.map kV)) ∧ RelV v en.val := by
  obtain ⟨e0, z, hs, xs, pr, o', es, ep, ho, hx, hdt, he, _⟩ := I.hok d _ h
  rw [e0] at ho
  cases ho
  refine ⟨hs, e0, hx, es, ep, hdt, ?_, fun i k v e => ?_⟩
  · have l1 : es.size = xs.length := size_of_entries he
    have l2 : kvs.length = xs.length := Paired.length pr
    omega
  · obtain ⟨b, hb, e1, e2, e3⟩ := paired_get pr e
    have q := entry_at he i
    rw [hb] at q
    exact ⟨_, b.2.1, q, rfl, e2, e3⟩
def ItiT (d : Addr) (o : Obj) (kvs : TKv) : It :=
  ⟨fun i H => H d = some (.frz o (.dT kvs)) ∧ i < kvs.length, fun i H x H' => ∃ (T : Addr) (k : List L2.Key) (v : V) (q : Addr), kvs[i]? = some (k, v) ∧ H q = some (.tup (k.map kV)) ∧ x = .ref T ∧ H T = none ∧ H' = upd H T (.tup [.ref q, v]), fun i H => H d = some (.frz o (.dT kvs)) ∧ kvs.length ≤ i⟩
theorem turn_itemsT {P : Program} {w : World} {K : PySem.W.Frag} {d : Addr} {o : Obj} {es : Array DictEntry} {ep : Nat} {kvs : TKv} {elts : List Expr} {kk : Nat} {tpos : Pos} (it : Addr) (hod : o.data = .dict es ep) :
    Turn P w K (.Tuple elts kk tpos) (ItiT d o kvs) [it] it (fun i h => ∃ ok ov, IsItemIter h it d i kvs.length ep ok ov) where
  mem := by simp
  obj := fun i h st b hb => by
    obtain rfl : b = it := by simpa using hb
    obtain ⟨ok, ov, e⟩ := st
    exact ⟨_, e, fun v z => nomatch z⟩
  keep := fun i h h' st k => st.elim fun ok st => st.elim fun ov e => ⟨ok, ov, k it (by simp) _ e⟩
  item := by
    intro X zP zw zK hc i pins s σ H E I hf st hg
    subst zP zw zK
    obtain ⟨e1, hi⟩ := hg
    obtain ⟨hs, hgd, hx, es', ep', hdt, hsz, ent⟩ := frzTV I e1
    obtain ⟨rfl, rfl⟩ := L2.dict_ep hod hdt
    obtain ⟨⟨k, v⟩, hat⟩ : ∃ p, kvs[i]? = some p := ⟨kvs[i], List.getElem?_eq_getElem hi⟩
    obtain ⟨en, q, hen, hkey, hq, hv⟩ := ent i k v hat
    obtain ⟨hie, heq⟩ := Array.getElem?_eq_some_iff.mp hen
    obtain ⟨ok, ov, he⟩ := st
    rw [← hsz] at he
    have hil : it < s.heap.objs.size := Heap.lt_size he
    refine DT.nextI he ⟨o, hgd, hx, hod⟩ hie fun h' ho hT hz hk => ?_
    rw [heq] at ho hT
    refine ⟨_, rfl, wpAny_letOwnedTupleGo_items (s := { s with heap := h' }) ho fun h'' he' sb => ?_⟩
    have hN2 : h''.get? s.heap.objs.size = some { cls := .type "tuple", data := .seq #[en.key, en.val] } := (sb.2 _ (Nat.ne_of_gt hil)).trans hT
    rw [hkey] at hN2
    have fresh : ObjOk X.prog X.w (upd H s.heap.objs.size (.tup [.ref q, v])) h'' s.heap.objs.size (.tup [.ref q, v]) :=
      ⟨by show 2 ≤ sizeLine; decide, [.ref q, en.val], .cons rfl (.cons hv .nil), ⟨_, hN2, rfl, _, rfl⟩⟩
    have I1 : Inv X pins σ (upd H s.heap.objs.size (.tup [.ref q, v])) { s with heap := h'' } :=
      I.turnedNew (t' := s.toks) (ch := [it]) (fun b u hb e => (sb.2 b (by simpa using hb)).trans (hk b u (by simpa using hb) e)) hf (Nat.le_refl _) fresh
    refine ⟨.ref s.heap.objs.size, _, I1, rfl, ⟨_, k, v, q, hat, hq, rfl, I.hok.fresh (Nat.le_refl _), rfl⟩, ⟨en.key, en.val, by rw [← hsz]; exact he'⟩, fun b hb => ?_⟩
    obtain rfl : b = it := by simpa using hb
    rw [upd_ne (Nat.ne_of_lt hil)]
    exact (hf b (by simp)).1
  done := by
    intro X zP zw zK hc i pins s σ H E I hf st hg
    subst zP zw zK
    obtain ⟨e1, hi⟩ := hg
    obtain ⟨m0, m1, m2, m3, m4, m5⟩ := hf it (by simp)
    obtain ⟨hs, hgd, hx, es', ep', hdt, hsz, ent⟩ := frzTV I e1
    obtain ⟨rfl, rfl⟩ := L2.dict_ep hod hdt
    obtain ⟨ok, ov, he⟩ := st
    rw [← hsz] at he
    exact DT.endI (I.ok.hd hc) he ⟨o, hgd, hx, hod⟩ (by omega) fun h' eb => ⟨rfl, I.turned (t' := s.toks) (fun b u hb e => eb b u hb e) m0 m1 m3 m4 m5⟩
  self := fun A i s Q E st h => st.elim fun _ st => st.elim fun _ e => PySem.W.kcp_self e h
section
variable {X : Cx} {tg e : Expr} {td : TE} {apos cpos : Pos}
theorem pi_itemsT {elts : List Expr} {kk : Nat} {tpos : Pos} (he : PE X e td) (hbase : attributeBase e "items" X.env (eval e X.env) = eval e X.env) (hline : (apos.endLine == cpos.line) = true) :
    PI X (.Tuple elts kk tpos) (.Call (.Attribute e "items" apos) [] [] cpos) (fun σ H R => td σ H fun x H1 => ∃ d o kvs, x = .ref d ∧ H1 d = some (.frz o (.dT kvs)) ∧ R (ItiT d o kvs) H1) := by
  refine ⟨fun pins s σ H R I h => ?_⟩
  refine wpAny_Call_method (T := "dict") (id := "dict.items") hbase rfl hline F.plainAttrs_dict F.slot_dict_items F.type_dict_items (thn (he.run pins s σ H _ I h) fun u s1 ⟨x, H1, I1, rx, d, o, kvs, ex, hd, q⟩ => ?_)
  obtain rfl := ex
  cases (show u = Value.ref d from rx)
  obtain ⟨hs, hgd, hx, es, ep, hdt, hsz, _⟩ := frzTV I1 hd
  have raw : DT.Raw s1.heap d es ep := ⟨o, hgd, hx, hdt⟩
  refine ⟨raw.typeIs, (fun b z => by cases z; exact ⟨o, hgd, hx.2.1⟩), ?_⟩
  have I2 : Inv X pins σ H1 { s1 with heap := s1.heap.push { cls := .type "dict_items", data := .fields #[.ref d] } } := I1.kept (t' := s1.toks) fun b u z => Heap.get?_push_of_some _ z
  have fin : wpAny (model X.prog X.w) X.A (pyIter (.ref s1.heap.objs.size)) (PIE X pins σ (.Tuple elts kk tpos) R) X.xe { s1 with heap := s1.heap.push { cls := .type "dict_items", data := .fields #[.ref d] } } := by
    refine DT.iterI (d := d) ⟨_, Heap.get?_push_size _ rfl, rfl, rfl⟩ (raw.push _) (pi_one (tk := s1.toks) I2 _ (turn_itemsT _ hdt) ⟨.none, .none, ?_⟩ q)
    rw [← hsz]
    exact Heap.get?_push_size _ rfl
  show wpAny _ _ (callWith cpos (.builtin "dict.items") [.ref d] [] []) _ X.xe s1
  exact method_meetsIn F.slot_dict_items F.entry_dict_items rfl (PySem.evalArgs_none ⟨rfl, raw.typeIs, F.args_dict_items_1 _, _, DT.meetsItems (es := es) (ep := ep) hs, raw, fin⟩)
end
section
variable {X : Cx} {T : Option Addr} {fr : Bool} {pos : Pos}
theorem kvT_get {G1 : Hp} {k : List L2.Key} {v : V} : ∀ {kvs : List (D × D)} {ks : TKv} {j : Nat}, KvF T G1 tupKey kvs ks → ks[j]? = some (k, v) → ∃ d e, kvs[j]? = some (d, e) ∧ tupKey d = some k ∧ Is T G1 v e := by
  intro kvs ks j h
  induction h generalizing j with
  | nil => intro e; simp at e
  | cons h1 h2 h3 ih =>
    intro e
    cases j with
    | zero => simp at e; obtain ⟨rfl, rfl⟩ := e; exact ⟨_, _, rfl, h1, h2⟩
    | succ j => exact ih (by simpa using e)
theorem walkOf_itemsT {G1 H1 : Hp} {a : Addr} {o : Obj} {ks : TKv} {kvs : List (D × D)} (h : H1 a = some (.frz o (.dT ks))) (kv : KvF T G1 tupKey kvs ks) : WalkOf T G1 H1 (ItiT a o ks) (kvs.map fun p => .tuple [p.1, p.2]) (fun H => H a = some (.frz o (.dT ks)))
    (fun i H x H' => ∃ (T : Addr) (k : List L2.Key) (v : V) (q : Addr), ks[i]? = some (k, v) ∧ H q = some (.tup (k.map kV)) ∧ x = .ref T ∧ H T = none ∧ H' = upd H T (.tup [.ref q, v])) := by
  refine ⟨⟨fun i H hi hg => ⟨hg, by rw [List.length_map] at hi; rw [kv.length]; exact hi⟩, fun H hg => ⟨hg, by rw [kv.length, List.length_map]; exact Nat.le_refl _⟩, fun i H x H' hi hg y => y⟩, h, fun j H x H' G2 hj hG y s1 s2 t => ?_⟩
  obtain ⟨t0, k, v, q, e, hq, rfl, hn, hH⟩ := y
  obtain ⟨d, z, e2, e3, iz⟩ := kvT_get kv e
  have kk := stp_tups (T := T) s2 t
  have ik : Is T (frzTups G2 H) (.ref q) d := is_tup e3 (frzTups_at hq)
  obtain ⟨G3, k3, i3⟩ := pair_step kk.gh kk.tub hn hH ik (Is.mono kk.gs _ _ (Is.mono s1 _ _ iz))
  exact ⟨G3, _, by rw [List.getElem?_map, e2]; rfl, kk.trans k3 t, i3⟩
theorem ss_fori {g : Tg} {elts : List Expr} {kk : Nat} {tpos : Pos} {i : Nat} {x : Str} {p1 apos cpos : Pos} {p : List Stmt} {f : Ro → Out Fl} (hx : PassesOwn (model X.prog X.w) X.A X.env X.xe) (hc : X.calm = true) (hN : X.N[i]? = some x) (hv : Vis X.env.scope x) (h1 : (x == ("__debug__" : Str)) = false) (h2 : (x == ("__classdict__" : Str)) = false) (hl : (apos.endLine == cpos.line) = true)
    (hg : SndG X T (.Tuple elts kk tpos) g) (hp : SndSs X T fr p f) :
    SndS X T fr (.For (.Tuple elts kk tpos) (.Call (.Attribute (.Name x p1) "items" apos) [] [] cpos) p [] pos) (fun ρ => (dicOf ρ i).bind fun kvs => .guard kvs.1 (forGo g f (kvs.2.map fun p => .tuple [p.1, p.2]) (ρ.set i none))) := by
  obtain ⟨t1, p1, q1⟩ := hp
  refine ⟨_, ps_lock (ps_for hx hc (pi_itemsT (pe_var hN hv h1 h2) (by rfl) hl) hg p1 (by intro _; rfl)), fun G0 H0 ρ σ G H D R h => ?_⟩
  obtain ⟨t, kvs, e, h⟩ := dicSlot_get h
  rw [Out.All_guard] at h
  obtain ⟨et, h⟩ := h
  obtain ⟨w, ev, ad, rfl, ga, h0, hT, hdic⟩ := R.sl i _ e
  have g0 : G0 ad = none := by
    cases q : G0 ad with
    | none => rfl
    | some o => rw [R.st.gs _ _ q] at ga; cases ga
  rcases hdic with ⟨ef, ks, e1, e2⟩ | ⟨_, ks, e1, e2⟩
  · rw [ef] at et; cases et
  · refine ⟨ad, .dT ks, e1, trivial, fun od => ⟨_, ev, ad, od, ks, rfl, upd_same, ?_⟩⟩
    exact for_core (D := lockD ad od (.dT ks) D) q1 (walkOf_itemsT upd_same e2) (fun ρ' σ' G' H' R' _ => R'.st.keep ad _ hT upd_same) ((R.lock (o := .frz od (.dT ks)) e ev).base upd_same h0 ga hT) (.refl G) (Out.All.mono (fun fl hf => hf.lock h0 g0 hT) h)
/-- a, b = x, y: the first a new list -/
theorem ss_parF {i j : Nat} {x y : Str} {a b : Expr} {px py pt : Pos} {kt k2 : Nat} {pt2 : Pos} {fa fb : Ro → Out D} (hc : X.calm = true) (hN : X.N.Nodup) (hi : X.N[i]? = some x) (hj : X.N[j]? = some y) (hij : i ≠ j)
    (hx : X.env.scope.names.lookup x = some .local) (hy : X.env.scope.names.lookup y = some .local) (ha : SndF X T a (onlyL fa)) (hb : SndE X T false b fb) (na : notStarE a = true) (nb : notStarE b = true)
    (hw : swappedStores [.Tuple [.Name x px, .Name y py] kt pt] (.Tuple [a, b] k2 pt2) X.env = pure (some [x, y])) :
    SndS X T fr (.Assign [.Tuple [.Name x px, .Name y py] kt pt] (.Tuple [a, b] k2 pt2) pos) (fun ρ => (fa ρ).bind fun z => (slOf true z).bind fun sx => (fb ρ).bind fun w => (slOf false w).bind fun sy => .ret (.nx ((ρ.set i (some sx)).set j (some sy)))) := by
  obtain ⟨ta, pa, qa⟩ := ha
  obtain ⟨tb, pb, qb⟩ := hb
  refine ⟨_, ps_par hc hN hi hj hij hx hy (pa_cons pa (pa_cons pb pa_nil (starEach_cons nb)) (starEach_cons na)) hw rfl, fun G0 H0 ρ σ G H D R h => ?_⟩
  rw [Out.All_bind] at h
  refine qa G0 H0 ρ σ G H _ R (All_onlyL.mpr (h.mono fun d hd => ?_))
  cases d <;> try exact hd.elim
  rename_i xs
  refine ⟨xs, rfl, fun p vs xs' G1 H1 e k hp gp hH iv => ?_⟩
  cases e
  have hd : ((fb ρ).bind fun w => (slOf false w).bind fun sy => .ret (Fl.nx ((ρ.set i (some (.own xs))).set j (some sy)))).All _ := hd
  rw [Out.All_bind] at hd
  have R1 := R.step k
  refine qb G0 H0 ρ σ G1 H1 _ R1 (hd.mono fun d2 hd2 u2 G2 H2 k2 iu2 => ?_)
  refine ⟨.ref p, u2, rfl, ?_⟩
  have kk := k.trans k2 R.tub
  obtain ⟨f1, f2, f3⟩ := fresh_slot (i := i) (s := .own xs) R kk hp
  have g2 : G2 p = none := by
    cases q : G2 p with
    | none => rfl
    | some o =>
      rcases k2.new p o q with z | z | ⟨ys, z⟩
      · rw [gp] at z; cases z
      · rw [hH] at z; cases z
      · rw [hH] at z; cases z
  have R2 := (R.step kk).setMut (s := .own xs) ⟨p, vs, rfl, g2, f1, f2, k2.keep p _ f2 hH, iv.mono k2.gs _ _⟩ f3
  exact hd2 _ G2 H2 (R2.setVal iu2.keep) kk.gs
/-- a, b, .. = a list -/
theorem ss_unl {g : Tg} {es : List Expr} {k : Nat} {tp : Pos} {v : Expr} {f : Ro → Out D} (hc : X.calm = true) (he : SndE X T false v f) (hg : PGs X es (gGs T g)) (hl : listG g = true) (hn : (assignEach es X.env).length = lenG g) (hst : (assignEach es X.env).findIdx? (·.1) = none)
    (h1 : swapsWithSole [.Tuple es k tp] v pos.line X.env = pure false) (h2 : swappedStores [.Tuple es k tp] v X.env = pure none) (h3 : (assignEach [.Tuple es k tp] X.env).map (·.2) = [assign (.Tuple es k tp) X.env]) :
    SndS X T fr (.Assign [.Tuple es k tp] v pos) (fun ρ => (f ρ).bind fun d => (asList d).bind fun xs => (Out.ofO (asgG g (.tuple xs) ρ)).bind fun ρ1 => .ret (.nx ρ1)) := by
  obtain ⟨te, p, q⟩ := he
  refine ⟨_, ps_asg p (pg_unl hc hg hn hst) h1 h2 h3, fun G0 H0 ρ σ G H D R h => ?_⟩
  rw [Out.All_bind] at h
  refine q G0 H0 ρ σ G H _ R (h.mono fun d hd v G1 H1 kk iv => ?_)
  cases d <;> try exact hd.elim
  rename_i xs
  have hd : ((Out.ofO (asgG g (.tuple xs) ρ)).bind fun ρ1 => .ret (Fl.nx ρ1)).All _ := hd
  rw [Out.All_bind, Out.All_ofO] at hd
  obtain ⟨ρ2, e, hd⟩ := hd
  obtain ⟨a, vs, rfl, ga, ia⟩ := iv.list kk.gh
  exact ⟨a, vs, rfl, .of ga, by rw [ia.length]; exact asgG_len hl e, G0, H0, ρ, G1, xs, ρ2, R.step kk, ia, e, fun σ2 R2 l k2 => hd σ2 G1 H1 R2 kk.gs⟩
end
end Ev

set_option Elab.async false
set_option linter.all false
set_option autoImplicit false
set_option maxRecDepth 100000
set_option maxHeartbeats 8000000
namespace Ev
open PySem L2
/-! ### lists of one's own in a list of one's own: statements -/
theorem InnAll.step {T : Option Addr} {H0 G H G' H' : Hp} {as : List Addr} {xss : List (List D)} (h : InnAll T H0 G H as xss) (k : Stp T G H G' H') : InnAll T H0 G' H' as xss := h.move k.gs fun b hb => by
  obtain ⟨g, h0, hT, vs, hH⟩ := h.at hb
  refine ⟨?_, h0, (k.keep b _ hT hH).trans hH.symm⟩
  cases q : G' b with
  | none => rfl
  | some o =>
    rcases k.new b o q with z | z | ⟨ys, z⟩
    · rw [g] at z; cases z
    · rw [hH] at z; cases z
    · rw [hH] at z; cases z
structure O2 (T : Option Addr) (H0 G H : Hp) (a : Addr) (as : List Addr) (xss : List (List D)) : Prop where
  g : G a = none
  h0 : H0 a = none
  hT : T ≠ some a
  hH : H a = some (.lst (as.map V.ref))
  nd : (a :: as).Nodup
  iv : InnAll T H0 G H as xss
section
variable {T : Option Addr} {G0 H0 G H G' H' : Hp} {ρ : Ro} {σ : Sg} {a : Addr} {as : List Addr} {xss : List (List D)}
theorem O2.of {v : V} (h : SlOk T H0 G H (.own2 xss) v) : ∃ a as, v = V.ref a ∧ O2 T H0 G H a as xss := by
  obtain ⟨a, as, e, g, h0, hT, hH, nd, iv⟩ := h
  exact ⟨a, as, e, g, h0, hT, hH, nd, iv⟩
theorem O2.sl (h : O2 T H0 G H a as xss) : SlOk T H0 G H (.own2 xss) (.ref a) := ⟨a, as, rfl, h.g, h.h0, h.hT, h.hH, h.nd, h.iv⟩
theorem O2.step (h : O2 T H0 G H a as xss) (k : Stp T G H G' H') : O2 T H0 G' H' a as xss := by
  obtain ⟨g1, _, e⟩ := stp_at h.sl k a (.inl rfl)
  exact ⟨g1, h.h0, h.hT, e.trans h.hH, h.nd, h.iv.step k⟩
theorem O2.at (h : O2 T H0 G H a as xss) {b : Addr} (hb : b ∈ as) : AtS H (.own2 xss) (.ref a) b := .inr ⟨a, as, rfl, h.hH, hb⟩
theorem O2.get (h : O2 T H0 G H a as xss) {z : Int} {j : Nat} {xs : List D} (ej : L2.ixN xss.length z = some j) (ex : xss[j]? = some xs) : ∃ b vs, as[j]? = some b ∧ H b = some (.lst vs) ∧ IsAll T G vs xs ∧ L2.atI (as.map V.ref) z = some (.ref b) := by
  obtain ⟨b, vs, eb, gb, h0b, hTb, hHb, ivb⟩ := h.iv.get ex
  exact ⟨b, vs, eb, hHb, ivb, atI_of (n := xss.length) (by rw [List.length_map, h.iv.length]) ej (by rw [List.getElem?_map, eb]; rfl)⟩
/-- an inner list is changed -/
theorem Rep.poke2 (R : Rep T G0 H0 ρ σ G H) {i j : Nat} {b : Addr} {vs : List V} {xs : List D} (hi : ρ[i]? = some (some (.own2 xss))) (hσ : σ[i]? = some (some (.ref a))) (o : O2 T H0 G H a as xss) (eb : as[j]? = some b) (hv : IsAll T G vs xs) :
    Rep T G0 H0 (ρ.set i (some (.own2 (xss.set j xs)))) σ G (upd H b (.lst vs)) := by
  have hb : b ∈ as := List.mem_of_getElem? eb
  have hne : a ≠ b := fun z => by subst z; exact (List.nodup_cons.mp o.nd).1 hb
  have hH' : upd H b (.lst vs) a = some (.lst (as.map V.ref)) := (upd_ne hne).trans o.hH
  refine R.poke hi hσ (o.at hb) ⟨a, as, rfl, o.g, o.h0, o.hT, hH', o.nd, o.iv.set hv (List.nodup_cons.mp o.nd).2 eb⟩ fun c hc => .inl ?_
  rcases hc with hc | ⟨a2, as2, e, e2, hc⟩
  · exact .inl hc
  · cases e
    rw [hH'] at e2
    cases map_ref_inj (HO.lst.inj (Option.some.inj e2))
    exact o.at hc
/-- a new inner list -/
theorem Rep.grow2 (R : Rep T G0 H0 ρ σ G H) {i : Nat} {p : Addr} {G1 H1 : Hp} (k : Stp T G H G1 H1) (hp : H p = none) (gp : G1 p = none) (hp1 : H1 p = some (.lst [])) (hi : ρ[i]? = some (some (.own2 xss))) (hσ : σ[i]? = some (some (.ref a))) (o : O2 T H0 G H a as xss) :
    Rep T G0 H0 (ρ.set i (some (.own2 (xss ++ [[]])))) σ G1 (upd H1 a (.lst ((as ++ [p]).map V.ref))) := by
  have R1 := R.step k
  have o1 := o.step k
  have hT : T ≠ some p := fun z => by
    obtain ⟨_, _, _, q, _⟩ := R.tub p z
    rw [hp] at q; cases q
  have h0 : H0 p = none := by
    cases q : H0 p with
    | none => rfl
    | some u =>
      have := R.st.keep p u hT q
      rw [hp] at this; cases this
  have pa : p ≠ a := fun z => by subst z; rw [o.hH] at hp; cases hp
  have ps : p ∉ as := fun z => by
    obtain ⟨_, _, _, vs, q⟩ := o.iv.at z
    rw [hp] at q; cases q
  have nd : (a :: (as ++ [p])).Nodup := by
    have := List.nodup_cons.mp o.nd
    refine List.nodup_cons.mpr ⟨fun z => ?_, ?_⟩
    · rcases List.mem_append.mp z with z | z
      · exact this.1 z
      · exact pa (List.mem_singleton.mp z).symm
    · refine List.nodup_append.mpr ⟨this.2, List.nodup_cons.mpr ⟨fun z => (by cases z), List.nodup_nil⟩, fun x hx y hy z => ?_⟩
      rw [List.mem_singleton.mp hy] at z
      exact ps (z ▸ hx)
  have iv : InnAll T H0 G1 (upd H1 a (.lst ((as ++ [p]).map V.ref))) (as ++ [p]) (xss ++ [[]]) := by
    refine InnAll.append (o1.iv.move (.refl G1) fun b hb => ?_) (.cons gp h0 hT ((upd_ne pa).trans hp1) .nil .nil)
    obtain ⟨g, h0, _⟩ := o1.iv.at hb
    exact ⟨g, h0, upd_ne fun z => by subst z; exact (List.nodup_cons.mp o.nd).1 hb⟩
  refine R1.poke hi hσ (.inl rfl) ⟨a, as ++ [p], rfl, o1.g, o1.h0, o1.hT, upd_same, nd, iv⟩ fun c hc => ?_
  rcases hc with hc | ⟨a2, as2, e, e2, hc⟩
  · exact .inl (.inl hc)
  · cases e
    rw [upd_same] at e2
    cases map_ref_inj (HO.lst.inj (Option.some.inj e2))
    rcases List.mem_append.mp hc with z | z
    · exact .inl (o1.at z)
    · rw [List.mem_singleton.mp z]
      exact .inr fun j sj vj h1 h2 => fresh_not R k hp j sj vj h1 h2
end
section
variable {X : Cx} {T : Option Addr} {fr : Bool} {st : Stmt} {sts : List Stmt} {pos : Pos}
theorem ss_frz2 {i : Nat} {g : Ro → Out Fl} (h2 : SndSs X T fr sts g) : SndSs X T fr sts (fun ρ => ((own2Of ρ i).bind fun xss => .ret (Fl.nx (ρ.set i (some (.val (.list (xss.map PyData.list))))))).bind fun
    | .nx ρ1 => g ρ1
    | fl => .ret fl) := by
  obtain ⟨u, p2, q2⟩ := h2
  refine ⟨_, p2, fun G0 H0 ρ σ G H D R h => ?_⟩
  have h := h
  simp only [Out.bind_assoc] at h
  obtain ⟨xss, e, h⟩ := own2_get h
  obtain ⟨G', hs, R'⟩ := R.freeze2 e
  exact q2 G0 H0 _ σ G' H D R' (Out.All.mono (fun fl h => h.up hs) h)
theorem ss_app2 {i : Nat} {x : Str} {v jx : Expr} {p1 p3 apos cpos : Pos} {f fj : Ro → Out D} (hN : X.N[i]? = some x) (hv : Vis X.env.scope x) (h1 : (x == ("__debug__" : Str)) = false) (h2 : (x == ("__classdict__" : Str)) = false) (hj : SndE X T true jx fj) (hpj : plainIxB jx = true) (he : SndE X T false v f) (hns : notStarE v = true) (hl : (apos.endLine == cpos.line) = true) :
    SndS X T fr (.Expr (.Call (.Attribute (.Subscript (.Name x p1) jx p3) "append" apos) [v] [] cpos) pos) (fun ρ => (own2Of ρ i).bind fun xss => (fj ρ).bind fun k => (asInt k).bind fun z => (Out.ofO (L2.ixN xss.length z)).bind fun j => (Out.ofO xss[j]?).bind fun xs => (f ρ).bind fun d =>
      .guard (decide (xs.length < lim)) (.ret (.nx (ρ.set i (some (.own2 (xss.set j (xs ++ [d])))))))) := by
  obtain ⟨tv, pv, qv⟩ := he
  obtain ⟨tj, pj, qj⟩ := hj
  have ha : PA X [v] (tCons tv tNil) := pa_cons pv pa_nil (starEach_cons hns)
  refine ⟨_, ps_expr (pe_bm PySem.F.plainAttrs_list PySem.F.slot_list_append PySem.F.type_list_append mt_append (pe_ix ix_list (pe_var hN hv h1 h2) pj (ix_plain hpj)) ha rfl (by rw [starEach_cons hns]; rfl) hl (starEach_cons hns) rfl) rfl, fun G0 H0 ρ σ G H D R h => ?_⟩
  obtain ⟨xss, e, h⟩ := own2_get h
  obtain ⟨w, ew, q⟩ := R.sl i _ e
  obtain ⟨a, as, rfl, o⟩ := O2.of q
  refine ⟨_, ew, ?_⟩
  rw [Out.All_bind] at h
  refine qj G0 H0 ρ σ G H _ R (h.mono fun y hy yv G2 H2 k2 iy => ?_)
  obtain ⟨z, rfl, hy2⟩ := All_asInt hy
  rw [Out.All_bind, Out.All_ofO] at hy2
  obtain ⟨j, ej, hy3⟩ := hy2
  rw [Out.All_bind, Out.All_ofO] at hy3
  obtain ⟨xs, ex, hy4⟩ := hy3
  have R2 := R.step k2
  have o2 := o.step k2
  obtain ⟨b, vs, eb, hHb, ivb, hat⟩ := o2.get ej ex
  refine ⟨a, as.map V.ref, z, .ref b, rfl, iy.int, .of o2.hH, hat, .inl ⟨rfl, vs, .of hHb⟩, ?_⟩
  rw [Out.All_bind] at hy4
  refine qv G0 H0 ρ σ G2 H2 _ R2 (hy4.mono fun d hd u G3 H3 k3 iu => ?_)
  rw [Out.All_guard] at hd
  obtain ⟨hz, hd⟩ := hd
  have R3 := R2.step k3
  have o3 := o2.step k3
  obtain ⟨b3, vs3, eb3, hHb3, ivb3, _⟩ := o3.get ej ex
  rw [eb] at eb3
  cases eb3
  refine ⟨b, vs3, u, rfl, rfl, hHb3, ?_, ?_⟩
  · rw [ivb3.length]
    exact Nat.lt_of_lt_of_le (of_decide_eq_true hz) lim_le
  · exact hd σ G3 _ (R3.poke2 e ew o3 eb (ivb3.append (.cons iu.keep .nil))) (k2.gs.trans k3.gs)
theorem ss_new2 {i : Nat} {x : Str} {v : Expr} {p1 apos cpos : Pos} {f : Ro → Out D} (hN : X.N[i]? = some x) (hv : Vis X.env.scope x) (h1 : (x == ("__debug__" : Str)) = false) (h2 : (x == ("__classdict__" : Str)) = false) (he : SndF X T v f) (hf : ∀ ρ, f ρ = .ret (.list [])) (hns : notStarE v = true) (hl : (apos.endLine == cpos.line) = true) :
    SndS X T fr (.Expr (.Call (.Attribute (.Name x p1) "append" apos) [v] [] cpos) pos) (fun ρ => (own2Of ρ i).bind fun xss => .guard (decide (xss.length < lim)) (.ret (.nx (ρ.set i (some (.own2 (xss ++ [[]]))))))) := by
  obtain ⟨tv, pv, qv⟩ := he
  have ha : PA X [v] (tCons tv tNil) := pa_cons pv pa_nil (starEach_cons hns)
  refine ⟨_, ps_expr (pe_bm PySem.F.plainAttrs_list PySem.F.slot_list_append PySem.F.type_list_append mt_append (pe_var hN hv h1 h2) ha rfl (by rw [starEach_cons hns]; rfl) hl (starEach_cons hns) rfl) rfl, fun G0 H0 ρ σ G H D R h => ?_⟩
  obtain ⟨xss, e, h⟩ := own2_get h
  obtain ⟨w, ew, q⟩ := R.sl i _ e
  obtain ⟨a, as, rfl, o⟩ := O2.of q
  refine ⟨_, ew, .inl ⟨rfl, _, .of o.hH⟩, ?_⟩
  rw [Out.All_guard] at h
  obtain ⟨hz, hd⟩ := h
  refine qv G0 H0 ρ σ G H _ R ?_
  rw [hf]
  intro p vs xs' G1 H1 e1 k hp gp hH iv
  cases e1
  cases iv
  refine ⟨a, as.map V.ref, .ref p, rfl, rfl, (o.step k).hH, ?_, ?_⟩
  · rw [List.length_map, o.iv.length]
    exact Nat.lt_of_lt_of_le (of_decide_eq_true hz) lim_le
  · have := R.grow2 k hp gp hH e ew o
    rw [List.map_append] at this
    exact hd σ G1 _ this k.gs
theorem ss_popx {i : Nat} {x : Str} {p1 apos cpos : Pos} (hN : X.N[i]? = some x) (hv : Vis X.env.scope x) (h1 : (x == ("__debug__" : Str)) = false) (h2 : (x == ("__classdict__" : Str)) = false) (hl : (apos.endLine == cpos.line) = true) :
    SndS X T fr (.Expr (.Call (.Attribute (.Name x p1) "pop" apos) [] [] cpos) pos) (fun ρ => (ownOf ρ i).bind fun xs => .guard (decide (0 < xs.length)) (.ret (.nx (ρ.set i (some (.own xs.dropLast)))))) := by
  refine ⟨_, ps_expr (pe_bm0 PySem.F.plainAttrs_list PySem.F.slot_list_pop PySem.F.type_list_pop mt_pop (pe_var hN hv h1 h2) rfl hl) rfl, fun G0 H0 ρ σ G H D R h => ?_⟩
  obtain ⟨xs, e, h⟩ := own_get h
  obtain ⟨w, ew, a, vs, rfl, ga, h0, hT, hH, iv⟩ := R.sl i _ e
  rw [Out.All_guard] at h
  obtain ⟨hz, hd⟩ := h
  have hz := of_decide_eq_true hz
  obtain ⟨u, eu⟩ : ∃ u, vs[vs.length - 1]? = some u := ⟨vs[vs.length - 1]'(by rw [iv.length]; omega), List.getElem?_eq_getElem _⟩
  refine ⟨_, ew, .inl ⟨rfl, vs, .of hH⟩, a, vs, u, rfl, rfl, hH, eu, ?_⟩
  exact hd σ G _ (R.change (s := .own xs) (s' := .own xs.dropLast) (o := .lst vs.dropLast) e rfl ew ⟨a, vs.dropLast, rfl, ga, h0, hT, upd_same, dropLast_is iv⟩ rfl) (.refl G)
end
end Ev

set_option Elab.async false
set_option linter.all false
set_option autoImplicit false
set_option maxRecDepth 100000
set_option maxHeartbeats 8000000
namespace Ev
open PySem L2
/-! ### a comprehension of new lists; stores into an inner list; two names at once -/
def noName : Expr → Bool
  | .Name .. => false
  | _ => true
/-- a target that is no name is not stored the swift way -/
theorem ss_noName {ts : List Expr} {v : Expr} {k : Nat} {p : Pos} {env : PySem.Env} (h : ts.any noName = true) : swappedStores [.Tuple ts k p] v env = pure none := by
  cases v <;> first | rfl | skip
  unfold swappedStores
  simp only [pure_bind]
  split
  · rfl
  · split
    · rfl
    · split
      · rfl
      · rename_i hn
        exfalso
        apply hn
        rw [Bool.or_eq_true]
        left
        obtain ⟨e, he, hc⟩ := List.any_eq_true.mp h
        refine bne_iff_ne.mpr (Nat.ne_of_lt (fm_lt _ ts ⟨e, he, ?_⟩))
        cases e <;> first | rfl | cases hc
section
variable {X : Cx} {T : Option Addr} {fr : Bool} {st : Stmt} {sts : List Stmt} {pos : Pos}
theorem ss_swp2 {k i : Nat} {y x : Str} {py p1 p2 p3 pt : Pos} {kt : Nat} {v jx ix : Expr} {f fj fi : Ro → Out D} (hc : X.calm = true) (hy : SndG X T (.Name y py) (.nm k)) (hN : X.N[i]? = some x) (hv : Vis X.env.scope x) (h1 : (x == ("__debug__" : Str)) = false) (h2 : (x == ("__classdict__" : Str)) = false)
    (he : SndE X T false v f) (hj : SndE X T true jx fj) (hpj : plainIxB jx = true) (hi : SndE X T true ix fi) (hpi : plainIxB ix = true) (hv1 : compB v = false) :
    SndS X T fr (.Assign [.Tuple [.Name y py, .Subscript (.Subscript (.Name x p1) jx p2) ix p3] kt pt] v pos) (fun ρ => (f ρ).bind fun
      | .tuple [d1, d2] => swpIn i d2 (ρ.set k (some (.val d1))) fj fi
      | _ => .bad) := by
  obtain ⟨tv, pv, qv⟩ := he
  obtain ⟨tj, pj, qj⟩ := hj
  obtain ⟨ti, pi, qi⟩ := hi
  have hst : assignEach [.Name y py, .Subscript (.Subscript (.Name x p1) jx p2) ix p3] X.env = [(false, assign (.Name y py) X.env), (false, assign (.Subscript (.Subscript (.Name x p1) jx p2) ix p3) X.env)] := by
    rw [ae_cons rfl, ae_cons rfl]; rfl
  refine ⟨_, ps_asg pv (pg_tup (n := 2) hc (pgs_cons hy (pgs_cons (pg_sub (pe_ix ix_list (pe_var hN hv h1 h2) pj (ix_plain hpj)) pi set_list (by intro _; cases ix <;> first | rfl | cases hpi)) pgs_nil (by rw [ae_cons rfl]; rfl)) (by rw [ae_cons rfl]; rfl)) (by rw [hst]; rfl) (by rw [hst]; rfl)) (sw_tup (.inl hv1)) (ss_noName rfl) rfl, fun G0 H0 ρ σ G H D R h => ?_⟩
  rw [Out.All_bind] at h
  refine qv G0 H0 ρ σ G H _ R (h.mono fun d hd u G1 H1 kk iu => ?_)
  match d, hd with
  | .tuple [d1, d2], hd =>
    have R1 := R.step kk
    obtain ⟨b, ws, rfl, gb, iw⟩ := iu.tup
    cases iw with
    | cons i1 i2 =>
      cases i2 with
      | cons i2 i3 =>
        cases i3
        refine ⟨b, _, rfl, .of (R1.sub _ _ gb), rfl, _, _, rfl, G0, H0, ρ, G1, d1, _, R1, i1, rfl, fun σ2 R2 l2 s2 => ?_⟩
        refine ⟨_, _, rfl, ?_⟩
        have hd : (swpIn i d2 (ρ.set k (some (.val d1))) fj fi).All _ := hd
        unfold swpIn at hd
        obtain ⟨xss, e, hd⟩ := own2_get hd
        obtain ⟨w, ew, q⟩ := R2.sl i _ e
        obtain ⟨a, as, rfl, o⟩ := O2.of q
        refine ⟨_, ew, ?_⟩
        rw [Out.All_bind] at hd
        refine qj G0 H0 _ σ2 G1 H1 _ R2 (hd.mono fun y hy yv G3 H3 k3 iy => ?_)
        obtain ⟨z, rfl, hy2⟩ := All_asInt hy
        rw [Out.All_bind, Out.All_ofO] at hy2
        obtain ⟨j, ej, hy3⟩ := hy2
        rw [Out.All_bind, Out.All_ofO] at hy3
        obtain ⟨xs, ex, hy4⟩ := hy3
        have R3 := R2.step k3
        have o3 := o.step k3
        obtain ⟨c, vs, eb, hHb, ivb, hat⟩ := o3.get ej ex
        refine ⟨a, as.map V.ref, z, .ref c, rfl, iy.int, .of o3.hH, hat, ?_⟩
        rw [Out.All_bind] at hy4
        refine qi G0 H0 _ σ2 G3 H3 _ R3 (hy4.mono fun m hm mv G4 H4 k4 im => ?_)
        obtain ⟨z2, rfl, hm2⟩ := All_asInt hm
        rw [Out.All_bind, Out.All_ofO] at hm2
        obtain ⟨n, en, hm3⟩ := hm2
        have R4 := R3.step k4
        have o4 := o3.step k4
        obtain ⟨c4, vs4, eb4, hHb4, ivb4, _⟩ := o4.get ej ex
        rw [eb] at eb4
        cases eb4
        refine ⟨c, vs4, z2, n, rfl, im.int, hHb4, by rw [ivb4.length]; exact en, ?_⟩
        exact ⟨rfl, hm3 σ2 G4 _ (R4.poke2 e ew o4 eb (ivb4.set n (Is.mono (k3.gs.trans k4.gs) _ _ i2))) (kk.gs.trans (k3.gs.trans k4.gs))⟩
/-- x, y = a, [] -/
theorem ss_par0 {i j : Nat} {x y : Str} {a b : Expr} {px py pt : Pos} {kt k2 : Nat} {pt2 : Pos} {fa fb : Ro → Out D} (hc : X.calm = true) (hN : X.N.Nodup) (hi : X.N[i]? = some x) (hj : X.N[j]? = some y) (hij : i ≠ j)
    (hx : X.env.scope.names.lookup x = some .local) (hy : X.env.scope.names.lookup y = some .local) (ha : SndE X T false a fa) (hb : SndF X T b fb) (hf : ∀ ρ, fb ρ = .ret (.list [])) (na : notStarE a = true) (nb : notStarE b = true)
    (hw : swappedStores [.Tuple [.Name x px, .Name y py] kt pt] (.Tuple [a, b] k2 pt2) X.env = pure (some [x, y])) :
    SndS X T fr (.Assign [.Tuple [.Name x px, .Name y py] kt pt] (.Tuple [a, b] k2 pt2) pos) (fun ρ => (fa ρ).bind fun z => .ret (.nx ((ρ.set i (some (.val z))).set j (some (.own2 []))))) := by
  obtain ⟨ta, pa, qa⟩ := ha
  obtain ⟨tb, pb, qb⟩ := hb
  refine ⟨_, ps_par hc hN hi hj hij hx hy (pa_cons pa (pa_cons pb pa_nil (starEach_cons nb)) (starEach_cons na)) hw rfl, fun G0 H0 ρ σ G H D R h => ?_⟩
  rw [Out.All_bind] at h
  refine qa G0 H0 ρ σ G H _ R (h.mono fun d hd u G1 H1 k iu => ?_)
  refine qb G0 H0 ρ σ G1 H1 _ (R.step k) ?_
  rw [hf]
  intro p vs xs' G2 H2 e k2 hp gp hH iv
  cases e
  cases iv
  refine ⟨u, .ref p, rfl, ?_⟩
  have R1 := (R.step k).setVal (i := i) iu.keep
  obtain ⟨f1, f2, _⟩ := fresh_slot (i := j) (s := .own []) R1 k2 hp
  refine hd _ G2 H2 ((R1.step k2).setMut (s := .own2 []) ⟨p, [], rfl, gp, f1, f2, hH, List.nodup_cons.mpr ⟨fun z => (by cases z), List.nodup_nil⟩, .nil⟩ fun n sn vn c h1 h2 a1 a2 => ?_) (k.gs.trans k2.gs)
  have hcp : c = p := by
    rcases a1 with a1 | ⟨a', as, e, e2, hm⟩
    · exact (V.ref.inj a1).symm
    · cases e
      rw [hH] at e2
      cases map_ref_inj (as := []) (HO.lst.inj (Option.some.inj e2))
      cases hm
  subst hcp
  exact absurd a2 (fresh_not R1 k2 hp n sn vn h1 h2)
/-- x, y = {k: v}, b -/
theorem ss_pdl {i j : Nat} {x y : Str} {kx vx b : Expr} {px py pt pd : Pos} {kt k2 : Nat} {pt2 : Pos} {fk fv fb : Ro → Out D} (hu : X.A.units + 1 < cLine) (hc : X.calm = true) (hN : X.N.Nodup) (hi : X.N[i]? = some x) (hj : X.N[j]? = some y) (hij : i ≠ j)
    (hx : X.env.scope.names.lookup x = some .local) (hy : X.env.scope.names.lookup y = some .local) (hk : SndE X T false kx fk) (hv : SndE X T false vx fv) (hb : SndE X T false b fb) (nb : notStarE b = true)
    (hw : swappedStores [.Tuple [.Name x px, .Name y py] kt pt] (.Tuple [.Dict [some kx] [vx] pd, b] k2 pt2) X.env = pure (some [x, y])) :
    SndS X T fr (.Assign [.Tuple [.Name x px, .Name y py] kt pt] (.Tuple [.Dict [some kx] [vx] pd, b] k2 pt2) pos) (fun ρ => (fk ρ).bind fun q => (fv ρ).bind fun w => .guard (keyOk true q) ((fb ρ).bind fun z => .ret (.nx ((ρ.set i (some (.dic true [(q, w)]))).set j (some (.val z)))))) := by
  obtain ⟨tk, pk, qk⟩ := hk
  obtain ⟨tv, pv, qv⟩ := hv
  obtain ⟨tb, pb, qb⟩ := hb
  refine ⟨_, ps_par hc hN hi hj hij hx hy (pa_cons (pe_disp1T hu pk pv) (pa_cons pb pa_nil (starEach_cons nb)) (starEach_cons rfl)) hw rfl, fun G0 H0 ρ σ G H D R h p hp => ?_⟩
  rw [Out.All_bind] at h
  have hT : T ≠ some p := (fresh_slot (i := i) (s := .own []) R (Stp.refl R.sub R.tub) hp).2.1
  have k0 : Stp T G H G (upd H p (.dT [])) := Stp.fresh R.sub R.tub hp
  refine qk G0 H0 ρ σ G _ _ (R.step k0) (h.mono fun q hq u G1 H1 k1 iu => ?_)
  rw [Out.All_bind] at hq
  refine qv G0 H0 ρ σ G1 H1 _ ((R.step k0).step k1) (hq.mono fun w hw u2 G2 H2 k2 iu2 => ?_)
  rw [Out.All_guard] at hw
  obtain ⟨hko, hw⟩ := hw
  have hk2 : ∃ z, tupKey q = some z := by
    cases q <;> simp only [keyOk] at hko <;> try (cases hko; done)
    exact flats_of hko
  obtain ⟨z, hz⟩ := hk2
  have ix : Is T G2 u q := Is.mono k2.gs _ _ iu.keep
  obtain ⟨b, rfl, hb⟩ := tup_val hz ix
  have R2 := ((R.step k0).step k1).step k2
  have kk := k1.trans k2 k0.tub
  have gp : G p = none := by
    cases e : G p with
    | none => rfl
    | some u => rw [R.sub p u e] at hp; cases hp
  obtain ⟨k3, g2⟩ := laid2 (o := .dT [(z, u2)]) kk hp gp hT
  refine ⟨kk.keep p _ hT upd_same, z, b, u2, rfl, R2.sub _ _ hb, ?_⟩
  have R3 := R.step k3
  rw [Out.All_bind] at hw
  refine qb G0 H0 ρ σ G2 _ _ R3 (hw.mono fun d hd u3 G4 H4 k4 iu3 => ?_)
  refine ⟨.ref p, u3, rfl, ?_⟩
  have k34 := k3.trans k4 R.tub
  obtain ⟨f1, f2, f3⟩ := fresh_slot (i := i) (s := .dic true [(q, w)]) R k34 hp
  have hH4 : H4 p = some (.dT [(z, u2)]) := k4.keep p _ hT upd_same
  have g4 : G4 p = none := by
    cases e : G4 p with
    | none => rfl
    | some o =>
      rcases k4.new p o e with y | y | ⟨ys, y⟩
      · rw [g2] at y; cases y
      · rw [upd_same] at y; cases y
      · rw [upd_same] at y; cases y
  have R4 := (R.step k34).setMut (s := .dic true [(q, w)]) ⟨p, rfl, g4, f1, f2, .inr ⟨rfl, [(z, u2)], hH4, .cons hz (Is.mono k4.gs _ _ iu2.keep) .nil⟩⟩ f3
  exact hd _ G4 H4 (R4.setVal iu3.keep) k34.gs
/-! ### x = [list(e) for g in it] -/
def tF (T : Option Addr) (f : Ro → Out D) : TE := fun σ H Q => ∃ (G0 H0 : Hp) (ρ : Ro) (G : Hp), Rep T G0 H0 ρ σ G H ∧ (f ρ).All (PostF T G H Q)
theorem SndF.pe {ast : Expr} {f : Ro → Out D} (h : SndF X T ast f) : PE X ast (tF T f) := by
  obtain ⟨t, p, q⟩ := h
  exact ⟨fun pins s σ H Q I ⟨G0, H0, ρ, G, R, h⟩ => p.run pins s σ H Q I (q G0 H0 ρ σ G H Q R h)⟩
/-- new lists in a new list -/
def PostN (T : Option Addr) (G H : Hp) (Q : VK) (xss : List (List D)) : Prop := ∀ (p : Addr) (as : List Addr) (G' H' : Hp), Stp T G H G' H' → H p = none → G' p = none → H' p = some (.lst (as.map V.ref)) → (p :: as).Nodup → (∀ b ∈ as, H b = none) →
  InnAll T (fun _ => none) G' H' as xss → Q (.ref p) H'
theorem PostN.trans {G H G' H' : Hp} {Q : VK} {xss : List (List D)} (h : PostN T G H Q xss) (k : Stp T G H G' H') (t : TubOk T H) : PostN T G' H' Q xss := fun p as G2 H2 k2 hp gp hH nd hb iv => h p as G2 H2 (k.trans k2 t) (k.back t hp) gp hH nd (fun b m => k.back t (hb b m)) iv
def lcTurnF (own : List Nat) (g : Tg) (fe : Ro → Out D) (ρ : Ro) : D → Out (List D) := fun d => (Out.ofO (asgG g d (wipeR ρ own))).bind fun ρ2 => (fe ρ2).bind asList
theorem lcl2_reads {fi fe : Ro → Out D} {g : Tg} {own : List Nat} {σ : Sg} {H : Hp} {Q : VK} {G0 H0 G : Hp} {ρ : Ro} (hin : g.inside own = true) (R : Rep T G0 H0 ρ σ G H)
    (h : ((fi ρ).bind fun x => (itemsD x).bind fun xs => .guard (decide (xs.length ≤ lim)) (lcl2Go (lcTurnF own g fe ρ) xs [])).All (PostN T G H Q)) :
    tLc (tI T true fi) (gG T g) (tT T yes) (tF T (onlyL fe)) own σ H Q := by
  rw [Out.All_bind] at h
  refine ⟨G0, H0, ρ, G, R, h.mono fun d hd => ?_⟩
  obtain ⟨xs, ex, hd⟩ := All_items hd
  rw [Out.All_guard] at hd
  obtain ⟨hlen, hd⟩ := hd
  have hlen := of_decide_eq_true hlen
  refine ⟨xs, ex, fun J Gd Y G1 H1 k1 W S Da hD => ?_⟩
  have R1 := R.step k1
  have gD : G1 Da = none := by
    cases e : G1 Da with
    | none => rfl
    | some u => rw [k1.gh Da u e] at hD; cases hD
  have tD : T ≠ some Da := fun z => by
    obtain ⟨_, _, _, q, _⟩ := R1.tub Da z
    rw [hD] at q; cases q
  refine lc_it W.w (fun i H => ∃ (G : Hp) (as : List Addr) (acc : List (List D)), Stp T G1 H1 G H ∧ H Da = some (.lst (as.map V.ref)) ∧ G Da = none ∧ acc.length ≤ i ∧ (Da :: as).Nodup ∧ (∀ b ∈ as, H1 b = none) ∧ InnAll T (fun _ => none) G H as acc ∧ (lcl2Go (lcTurnF own g fe ρ) (xs.drop i) acc).All (PostN T G1 H1 Q)) ?_ ?_ ?_ ?_
  · exact ⟨G1, [], [], Stp.fresh R1.sub R1.tub hD, upd_same, gD, Nat.le_refl _, List.nodup_cons.mpr ⟨fun z => (by cases z), List.nodup_nil⟩, fun b hb => (by cases hb), .nil, Out.All.mono (fun d h => h.trans k1 R.tub) hd⟩
  · rintro i H hi ⟨G, as, acc, k, _⟩
    exact S H k.keep
  · rintro i x H H' hi ⟨G, as, acc, k, hH, hG, ha, nd, hb, iv, h⟩ y
    obtain ⟨G3, d, e, k3, id⟩ := W.item i H x H' G hi (S H k.keep) y k.gs k.gh k.tub
    have kk := k.trans k3 R1.tub
    have hx : xs.drop i = d :: xs.drop (i + 1) := by
      obtain ⟨hi', rfl⟩ := List.getElem?_eq_some_iff.mp e
      exact List.drop_eq_getElem_cons hi'
    rw [hx] at h
    simp only [lcl2Go] at h
    unfold lcTurnF at h
    rw [Out.All_bind, Out.All_bind, Out.All_ofO] at h
    obtain ⟨ρ2, e2, h⟩ := h
    have Rw := (R1.step kk).wipe own
    refine ⟨G0, H0, wipeR ρ own, G3, d, ρ2, Rw, id, e2, fun σ2 R2 l2 s2 => ?_⟩
    have hsame : L2.wipe σ2 own = L2.wipe σ own := wipe_same l2 fun j hj => s2 j fun hm => hj (by
      have := List.all_eq_true.mp hin j hm
      exact of_decide_eq_true this)
    obtain ⟨a3, b3⟩ := stay_at tD k3 hH hG
    refine ⟨hsame, G0, H0, ρ2, G3, R2, All_tst.mpr ⟨true, rfl, fun b' G4 H4 eb k4 => ?_⟩⟩
    cases eb
    rw [if_pos rfl]
    obtain ⟨a4, b4⟩ := stay_at tD k4 a3 b3
    rw [Out.All_bind] at h
    refine ⟨G0, H0, ρ2, G4, R2.step k4, All_onlyL.mpr (h.mono fun v hv => ?_)⟩
    cases v <;> simp only [asList] at hv <;> try exact hv.elim
    rename_i zs
    refine ⟨zs, rfl, fun p vs zs' G5 H5 ez k5 hp gp hH5 ivz => ?_⟩
    cases ez
    obtain ⟨a5, b5⟩ := stay_at tD k5 a4 b4
    have k14 := kk.trans k4 R1.tub
    have k15 := k14.trans k5 R1.tub
    have iv5 := ((iv.step k3).step k4).step k5
    have pD : p ≠ Da := fun z => by subst z; rw [a4] at hp; cases hp
    have ps : p ∉ as := fun z => by
      obtain ⟨_, _, _, us, q⟩ := ((iv.step k3).step k4).at z
      rw [hp] at q; cases q
    have hp1 : H1 p = none := k14.back R1.tub hp
    have pT : T ≠ some p := fun z => by
      obtain ⟨_, _, _, q, _⟩ := R1.tub p z
      rw [hp1] at q; cases q
    have nd2 := List.nodup_cons.mp nd
    refine ⟨as.map V.ref, a5, ?_, ?_⟩
    · rw [List.length_map, iv.length]
      exact Nat.lt_of_lt_of_le (show acc.length < lim by omega) lim_le
    · refine ⟨G5, as ++ [p], acc ++ [zs], put_at k15 hD b5 tD, by rw [List.map_append]; exact upd_same, b5, by simp; omega, ?_, ?_, ?_, hv⟩
      · refine List.nodup_cons.mpr ⟨fun z => ?_, List.nodup_append.mpr ⟨nd2.2, List.nodup_cons.mpr ⟨fun z => (by cases z), List.nodup_nil⟩, fun x hx y hy z => ?_⟩⟩
        · rcases List.mem_append.mp z with z | z
          · exact nd2.1 z
          · exact pD (List.mem_singleton.mp z).symm
        · rw [List.mem_singleton.mp hy] at z
          exact ps (z ▸ hx)
      · intro b m
        rcases List.mem_append.mp m with m | m
        · exact hb b m
        · rw [List.mem_singleton.mp m]; exact hp1
      · refine InnAll.append (iv5.move (.refl G5) fun b m => ?_) (.cons gp rfl pT ((upd_ne pD).trans hH5) ivz .nil)
        obtain ⟨g, h0, _⟩ := iv5.at m
        exact ⟨g, h0, upd_ne fun z => by subst z; exact nd2.1 m⟩
  · rintro H ⟨G, as, acc, k, hH, hG, ha, nd, hb, iv, h⟩
    rw [List.drop_length] at h
    exact h Da as G H k hD hG hH nd hb iv
theorem ss_setN {i : Nat} {st : Stmt} {te : TE} {f : Ro → Out (List (List D))} (p : PS X st (tAsg te (gName i))) (q : ∀ (G0 H0 : Hp) (ρ : Ro) (σ : Sg) (G H : Hp) (Q : VK), Rep T G0 H0 ρ σ G H → (f ρ).All (PostN T G H Q) → te σ H Q) :
    SndS X T fr st (fun ρ => (f ρ).bind fun xss => .ret (.nx (ρ.set i (some (.own2 xss))))) := by
  refine ⟨_, p, fun G0 H0 ρ σ G H D R h => ?_⟩
  rw [Out.All_bind] at h
  refine q G0 H0 ρ σ G H _ R (h.mono fun xss hd p as G1 H1 k hp gp hH nd hb iv => ?_)
  have old : ∀ b, H b = none → H0 b = none ∧ T ≠ some b := fun b hb => by
    obtain ⟨f1, f2, _⟩ := fresh_slot (i := i) (s := .own []) R k hb
    exact ⟨f1, f2⟩
  refine hd _ G1 H1 ((R.step k).setMut (s := .own2 xss) ⟨p, as, rfl, gp, (old p hp).1, (old p hp).2, hH, nd, iv.move (.refl G1) fun b m => ⟨(iv.at m).1, (old b (hb b m)).1, rfl⟩⟩ fun n sn vn c h1 h2 a1 a2 => ?_) k.gs
  have hc : H c = none := by
    rcases a1 with a1 | ⟨a', as', e, e2, hm⟩
    · rw [← V.ref.inj a1]; exact hp
    · cases e
      rw [hH] at e2
      cases map_ref_inj (HO.lst.inj (Option.some.inj e2))
      exact hb c hm
  exact absurd a2 (fresh_not R k hc n sn vn h1 h2)
end
end Ev

set_option Elab.async false
set_option linter.all false
set_option autoImplicit false
set_option maxRecDepth 100000
set_option maxHeartbeats 8000000
namespace Ev
open PySem L2
inductive Ns where
  | s (st : Stmt)
  | l (sts : List Stmt)
def lclB (S : Sx) (x : Str) : Bool := match S.sc.names.lookup x with
  | some .local => true
  | _ => false
/-- name = value -/
def setB (C : Ck) (S : Sx) (i : Nat) (y : Str) (py : Pos) : Expr → Bool
  | .ListComp _ _ scope p => decide (C.N[i]? = some y) && (lclB S y && ((py.line == p.line) && !(scope.names.any fun (n, k) => n == y && (k == .local || k == .cell))))
  | .SetComp .. => false
  | .DictComp .. => false
  | _ => decide (C.N[i]? = some y) && locB S y
/-- name = [..], the name captured -/
def setCB (C : Ck) (S : Sx) (i : Nat) (y : Str) : Bool := decide (C.N[i]? = some y) && (match S.sc.names.lookup y with | some .cell => S.fn y | _ => false)
def isFrz : S → Option Nat
  | .frz i => some i
  | _ => none
def isFrz2 : S → Option Nat
  | .frz2 i => some i
  | _ => none
def isWip : S → Option (List Nat)
  | .wip vs => some vs
  | _ => none
def tgtB : Expr → Bool
  | .Tuple .. => true
  | _ => false
def valB : Expr → Bool
  | .Tuple vs _ _ => vs.all (foldedForSure 8)
  | _ => true
def chkS (C : Ck) (S : Sx) : Ev.S → Ns → Bool
  | .nil, m => match m with
    | .l [] => true
    | _ => false
  | .seq s r, m => match m with
    | .l sts => (match isFrz s with
      | some _ => chkS C S r (.l sts)
      | none => (match isWip s with
        | some _ => chkS C S r (.l sts)
        | none => (match isFrz2 s with
          | some _ => chkS C S r (.l sts)
          | none => (match sts with
            | st :: more => chkS C S s (.s st) && chkS C S r (.l more)
            | [] => false))))
    | _ => false
  | .asg g e, m => match m with
    | .s (.Assign [t] v _) => (match g, t with
      | .nm i, .Name y py => setB C S i y py v && chk C e S (.e v)
      | g, t => tgtB t && (chkG C S g t && (!compB v && (okSwap S.sc t v && chk C e S (.e v)))))
    | _ => false
  | .unl g e, m => match m with
    | .s (.Assign [.Tuple es k tp] v _) => !isTupE v && (listG g && (chkGs C S g es && chk C e S (.e v)))
    | _ => false
  | .own i e, m => match m with
    | .s (.Assign [.Name y py] v _) => setB C S i y py v && (frE e && chk C e S (.e v))
    | _ => false
  | .par i j oi oj a b, m => match m with
    | .s (.Assign [.Tuple [.Name x px, .Name y py] _ _] (.Tuple [v, w] _ _) _) => (!oi || frE a) && (!oj && (decide (C.N[i]? = some x) && (decide (C.N[j]? = some y) && (decide (i ≠ j) && (lclB S x && (lclB S y && (!(y == x) && ((py.line == px.line) &&
        (notStarE v && (notStarE w && (!([v, w].all (foldedForSure 8)) && (!([v, w].all (constantsAlone 8)) && ((S.sc.kind == .function) && (chk C a S (.e v) && chk C b S (.e w)))))))))))))))
    | _ => false
  | .app i e, m => match m with
    | .s (.Expr (.Call (.Attribute (.Name x _) m apos) [v] [] cpos) _) => decide (m = "append") && (nmB C S i x && (notStarE v && ((apos.endLine == cpos.line) && chk C e S (.e v))))
    | _ => false
  | .pop g i, m => match m with
    | .s (.Assign [t] (.Call (.Attribute (.Name x _) m apos) [] [] cpos) _) => decide (m = "pop") && (nmB C S i x && ((apos.endLine == cpos.line) && (notStarE t && chkG C S g t)))
    | _ => false
  | .setix i ix e, m => match m with
    | .s (.Assign [.Subscript (.Name x _) y _] v _) => nmB C S i x && (plainIxB y && (chk C e S (.e v) && chk C ix S (.e y)))
    | _ => false
  | .ife c a b, m => match m with
    | .s (.If x p q _) => chk C c S (.e x) && (chkS C S a (.l p) && chkS C S b (.l q))
    | _ => false
  | .for_ g it b, m => match m with
    | .s (.For tg iter body [] _) => notSetE iter && (chkG C S g tg && (chk C it S (.i tg iter) && chkS C S b (.l body)))
    | _ => false
  | .whl c b, m => match m with
    | .s (.While x body [] _) => chk C c S (.e x) && chkS C S b (.l body)
    | _ => false
  | .ret e, m => match m with
    | .s (.Return (some x) _) => (!C.fr || frE e) && chk C e S (.e x)
    | _ => false
  | .expr e, m => match m with
    | .s (.Expr x _) => !compB x && chk C e S (.e x)
    | _ => false
  | .brk, m => match m with
    | .s (.Break _) => true
    | _ => false
  | .cnt, m => match m with
    | .s (.Continue _) => true
    | _ => false
  | .pass, m => match m with
    | .s (.Pass _) => true
    | _ => false
  | .raise, m => match m with
    | .s (.Raise ..) => true
    | _ => false
  | .frz .., _ => false
  | .frz2 .., _ => false
  | .lcl2 i own g it e, m => match m with
    | .s (.Assign [.Name y py] (.ListComp elt [⟨tg, iter, [], z⟩] scope p) _) => (setB C S i y py (.ListComp elt [⟨tg, iter, [], z⟩] scope p) || setCB C S i y) && (frE e && chk C (.lc own g it (.con (.bool true)) e) S (.e (.ListComp elt [⟨tg, iter, [], z⟩] scope p)))
    | _ => false
  | .app2 i jx e, m => match m with
    | .s (.Expr (.Call (.Attribute (.Subscript (.Name x _) j _) m apos) [v] [] cpos) _) => decide (m = "append") && (nmB C S i x && (plainIxB j && (notStarE v && ((apos.endLine == cpos.line) && (chk C jx S (.e j) && chk C e S (.e v))))))
    | _ => false
  | .new2 i, m => match m with
    | .s (.Expr (.Call (.Attribute (.Name x _) m apos) [.List [] _] [] cpos) _) => decide (m = "append") && (nmB C S i x && (apos.endLine == cpos.line))
    | _ => false
  | .swp2 k i jx ix e, m => match m with
    | .s (.Assign [.Tuple [.Name y q, .Subscript (.Subscript (.Name x _) j _) l _] _ _] v _) => chkG C S (.nm k) (.Name y q) && (nmB C S i x && (plainIxB j && (plainIxB l && (!compB v && (chk C e S (.e v) && (chk C jx S (.e j) && chk C ix S (.e l)))))))
    | _ => false
  | .par0 i j a, m => match m with
    | .s (.Assign [.Tuple [.Name x px, .Name y py] _ _] (.Tuple [v, .List [] pl] _ _) _) => decide (C.N[i]? = some x) && (decide (C.N[j]? = some y) && (decide (i ≠ j) && (lclB S x && (lclB S y && (!(y == x) && ((py.line == px.line) &&
        (notStarE v && (!([v, .List [] pl].all (foldedForSure 8)) && (!([v, .List [] pl].all (constantsAlone 8)) && ((S.sc.kind == .function) && chk C a S (.e v)))))))))))
    | _ => false
  | .pdl i j k v b, m => match m with
    | .s (.Assign [.Tuple [.Name x px, .Name y py] _ _] (.Tuple [.Dict [some kx] [vx] pd, w] _ _) _) => decide (C.N[i]? = some x) && (decide (C.N[j]? = some y) && (decide (i ≠ j) && (lclB S x && (lclB S y && (!(y == x) && ((py.line == px.line) &&
        (notStarE w && (!([.Dict [some kx] [vx] pd, w].all (foldedForSure 8)) && (!([.Dict [some kx] [vx] pd, w].all (constantsAlone 8)) && ((S.sc.kind == .function) && (chk C k S (.e kx) && (chk C v S (.e vx) && chk C b S (.e w)))))))))))))
    | _ => false
  | .popx i, m => match m with
    | .s (.Expr (.Call (.Attribute (.Name x _) m apos) [] [] cpos) _) => decide (m = "pop") && (nmB C S i x && (apos.endLine == cpos.line))
    | _ => false
  | .wip .., _ => false
  | .tset i j e, m => match m with
    | .s (.Assign [.Subscript (.Name x _) (.Constant (.int z) _ _) _] v _) => decide (z = (j : Int)) && (nmB C S i x && chk C e S (.e v))
    | _ => false
  | .tdvm i j g e, m => match m with
    | .s (.Assign [.Tuple [.Subscript (.Name x _) (.Constant (.int z) _ _) _, t] _ _] v _) => decide (z = (j : Int)) && (nmB C S i x && (notStarE t && (chkG C S g t && (!compB v && (!isTupE v && chk C e S (.e v))))))
    | _ => false
  | .fori g i b, m => match m with
    | .s (.For (.Tuple es k tp) (.Call (.Attribute (.Name x _) nm apos) [] [] cpos) body [] _) => decide (nm = "items") && (nmB C S i x && ((apos.endLine == cpos.line) && (chkG C S g (.Tuple es k tp) && chkS C S b (.l body))))
    | _ => false
  | .dnew i _, m => match m with
    | .s (.Assign [.Name y _] (.Dict [] [] _) _) => decide (C.N[i]? = some y) && locB S y
    | _ => false
  | .dnew1 i t k v, m => match m with
    | .s (.Assign [.Name y _] (.Dict [some a] [b] _) _) => t && (decide (C.N[i]? = some y) && (locB S y && (chk C k S (.e a) && chk C v S (.e b))))
    | _ => false
  | .dof i _ e, m => match m with
    | .s (.Assign [.Name y _] (.Call (.Name f _) [v] [] _) _) => isB S "dict" f && (decide (C.N[i]? = some y) && (locB S y && (notStarE v && chk C e S (.e v))))
    | _ => false
  | .dset i k v, m => match m with
    | .s (.Assign [.Subscript (.Name x _) a _] b _) => nmB C S i x && (chk C k S (.e a) && chk C v S (.e b))
    | _ => false
  | .dmov i j, m => match m with
    | .s (.Assign [.Name x _] (.Name y _) _) => decide (C.N[i]? = some x) && (locB S x && nmB C S j y)
    | _ => false
  | .fork g i b, m => match m with
    | .s (.For tg (.Name x _) body [] _) => nmB C S i x && (chkG C S g tg && chkS C S b (.l body))
    | _ => false
section
variable {C : Ck} {n : Nat} {S : Sx} {X : Cx} {T : Option Addr} {pos : Pos}
theorem Gd.lcl (g : Gd C n S X) {x : Str} (h : lclB S x = true) : X.env.scope.names.lookup x = some .local := by
  rw [g.sc]
  unfold lclB at h
  split at h
  · assumption
  · cases h
theorem set_of {i : Nat} {y : Str} {py : Pos} {v : Expr} {f : Ro → Out D} (g : Gd C n S X) (h : setB C S i y py v = true) (hc : compB v = false) (he : SndE X T false v f) : SetE X T i (.Assign [.Name y py] v pos) f := by
  have h' : (decide (C.N[i]? = some y) && locB S y) = true := by cases v <;> first | exact h | cases hc
  obtain ⟨h1, h2⟩ := bt h'
  obtain ⟨l1, l2⟩ := g.loc h2
  obtain ⟨te, p, q⟩ := he
  exact ⟨te, ps_set g.nd (by rw [g.hN]; exact of_decide_eq_true h1) l1 p (sw_plain hc) l2, q⟩
theorem set_ofF {i : Nat} {y : Str} {py : Pos} {v : Expr} {f : Ro → Out D} (g : Gd C n S X) (h : setB C S i y py v = true) (hc : compB v = false) (he : SndF X T v f) : SetF X T i (.Assign [.Name y py] v pos) f := by
  have h' : (decide (C.N[i]? = some y) && locB S y) = true := by cases v <;> first | exact h | cases hc
  obtain ⟨h1, h2⟩ := bt h'
  obtain ⟨l1, l2⟩ := g.loc h2
  obtain ⟨te, p, q⟩ := he
  exact ⟨te, ps_set g.nd (by rw [g.hN]; exact of_decide_eq_true h1) l1 p (sw_plain hc) l2, q⟩
theorem kfun (g : Gd C n S X) (h : (S.sc.kind == .function) = true) : X.env.scope.kind = .function := by
  rw [g.sc]
  exact eq_of_beq h
/-- name = [.. for ..] -/
theorem set_lc {i : Nat} {y : Str} {py : Pos} {e : E} {elt : Expr} {gs : List Comprehension} {scope : Scope} {p : Pos} (g : Gd C n S X) (hk : X.env.scope.kind = .function) (h : setB C S i y py (.ListComp elt gs scope p) = true) (he : chk C e S (.e (.ListComp elt gs scope p)) = true) :
    SetF X T i (.Assign [.Name y py] (.ListComp elt gs scope p) pos) (ev (Γof C n) false e) := by
  obtain ⟨q1, q2, q34⟩ := bt3 h
  obtain ⟨q3, q4⟩ := bt q34
  have hsw : swapsWith (.ListComp elt gs scope p) (some (.Name y py)) pos.line X.env = pure true := sw_true hk (g.lcl q2) q3 (not_t q4)
  cases e <;> simp only [chk, Nd.x] at he <;> try (cases he; done)
  case lc2 own own2 gg it gg2 it2 et =>
    split at he
    · rename_i y' tg iter z tg1 iter1 z1 scope' pos' e
      cases e
      obtain ⟨a1, a2, he⟩ := bt3 he
      obtain ⟨a3, a4, he⟩ := bt3 he
      obtain ⟨a5, a6, he⟩ := bt3 he
      obtain ⟨a7, a8, he⟩ := bt3 he
      obtain ⟨a9, a10, he⟩ := bt3 he
      obtain ⟨a11, a12, a13⟩ := bt3 he
      cases of_decide_eq_true a1
      cases of_decide_eq_true a2
      have hi := sound (T := T) it g a5
      have hown : (own.map fun i => (((C.N[i]?).getD "", i) : Str × Nat)).map (·.2) = own := by
        rw [List.map_map]
        exact List.map_id _
      have hi1 : ∀ (s : Shared) (H : Hp) (cc : Addr) (cl : List (Str × Addr)) (fp : List Addr), SndI (X.blk s H scope (compEnvC scope cl cc X.env) fp) T false tg1 iter1 (ev (Γof C n) false it2) := fun s H cc cl fp => by
        have q := sound (T := T) it2 (g.blk s H scope cl cc fp) a12
        exact q false
      have hel : ∀ (s : Shared) (H : Hp) (cc : Addr) (cl : List (Str × Addr)) (fp : List Addr), SndE (X.blk s H scope (compEnvC scope cl cc X.env) fp) T false elt (ev (Γof C n) false et) := fun s H cc cl fp => by
        have he := sound (T := T) et (g.blk s H scope cl cc fp) a13
        exact he.e false
      refine ⟨_, ps_setLc2 (i := i) (pos := p) (spos := pos) (vs1 := own2) g.calm g.nd (by rw [g.hN]; exact of_decide_eq_true q1) (g.lcl q2) hsw (hi true).pi (own := own.map fun i => ((C.N[i]?).getD "", i)) (by rw [g.hN, g.sc]; exact blkOk_by a6) (by rw [hown]; exact fun i hi => of_decide_eq_true (List.all_eq_true.mp a11 i hi))
        (fun s H cc cl fp => chkG_ok (T := T) (g.blk s H scope cl cc fp) gg tg a7) (fun _ _ _ _ _ => pts_yes (T := T)) (fun s H cc cl fp => (hi1 s H cc cl fp).pi) (fun s H cc cl fp => chkG_ok (T := T) (g.blk s H scope cl cc fp) gg2 tg1 a9) (fun _ _ _ _ _ => pts_yes (T := T)) (fun s H cc cl fp => (hel s H cc cl fp).pe) (folded_of a3 _) (fun env => folded_of a4 env),
        fun G0 H0 ρ σ G H Q R h => ?_⟩
      rw [hown]
      exact lc2_reads a8 a10 R h
    · cases he
  rename_i own gg it c et
  split at he
  · rename_i y' tg iter ifs z scope' pos' e
    cases e
    obtain ⟨h1, h2, h3⟩ := bt3 he
    obtain ⟨h3, h4, h5⟩ := bt3 h3
    obtain ⟨h5, h6, h7⟩ := bt3 h5
    cases of_decide_eq_true h1
    have hi := sound (T := T) it g h3
    have hown : (own.map fun i => (((C.N[i]?).getD "", i) : Str × Nat)).map (·.2) = own := by
      rw [List.map_map]
      exact List.map_id _
    obtain ⟨h8, h9⟩ := bt h7
    have ht : ∀ (s : Shared) (H : Hp) (cc : Addr) (cl : List (Str × Addr)) (fp : List Addr), PTs (X.blk s H scope (compEnvC scope cl cc X.env) fp) ifs (tT T (ev (Γof C n) true c)) := fun s H cc cl fp => by
      split at h8
      · rw [yes_of h8]; exact pts_yes
      · have hc := sound (T := T) c (g.blk s H scope cl cc fp) h8
        exact pts_one hc.t.pt
      · cases h8
    have he : ∀ (s : Shared) (H : Hp) (cc : Addr) (cl : List (Str × Addr)) (fp : List Addr), SndE (X.blk s H scope (compEnvC scope cl cc X.env) fp) T false elt (ev (Γof C n) false et) := fun s H cc cl fp => by
      have he := sound (T := T) et (g.blk s H scope cl cc fp) h9
      exact he.e false
    have hin : gg.inside ((own.map fun i => (((C.N[i]?).getD "", i) : Str × Nat)).map (·.2)) = true := by rw [hown]; exact h6
    refine ⟨_, ps_setLc (i := i) (pos := p) (spos := pos) g.calm g.nd (by rw [g.hN]; exact of_decide_eq_true q1) (g.lcl q2) hsw (hi true).pi (own := own.map fun i => ((C.N[i]?).getD "", i)) (by rw [g.hN, g.sc]; exact blkOk_by h4) (fun s H cc cl fp => chkG_ok (T := T) (g.blk s H scope cl cc fp) gg tg h5) ht (fun s H cc cl fp => (he s H cc cl fp).pe) (folded_of h2 _), fun G0 H0 ρ σ G H Q R h => ?_⟩
    refine lc_reads hin R ?_
    rw [hown]
    exact h
  · cases he
theorem SetF.only {i : Nat} {st : Stmt} {f : Ro → Out D} (h : SetF X T i st f) : SetF X T i st (onlyL f) := by
  obtain ⟨te, p, q⟩ := h
  exact ⟨te, p, fun G0 H0 ρ σ G H Q R h => q G0 H0 ρ σ G H Q R ((All_onlyL.mp h).mono fun d ⟨xs, e, hd⟩ => by rw [e]; exact hd)⟩
theorem set_any {i : Nat} {y : Str} {py : Pos} {e : E} {v : Expr} (g : Gd C n S X) (hk : X.env.scope.kind = .function) (h : setB C S i y py v = true) (he : chk C e S (.e v) = true) : SetE X T i (.Assign [.Name y py] v pos) (ev (Γof C n) false e) := by
  have hs := sound (T := T) e g he
  cases hc : compB v with
  | false => exact set_of g h hc (hs.e false)
  | true =>
    cases v <;> simp only [compB] at hc <;> try (cases hc; done)
    · exact (set_lc g hk h he).e
    · cases h
    · cases h
theorem set_anyF {i : Nat} {y : Str} {py : Pos} {e : E} {v : Expr} (g : Gd C n S X) (hk : X.env.scope.kind = .function) (h : setB C S i y py v = true) (hf : frE e = true) (he : chk C e S (.e v) = true) : SetF X T i (.Assign [.Name y py] v pos) (onlyL (ev (Γof C n) false e)) := by
  have hs := sound (T := T) e g he
  cases hc : compB v with
  | false => exact set_ofF g h hc (hs.f hf)
  | true =>
    cases v <;> simp only [compB] at hc <;> try (cases hc; done)
    · exact (set_lc g hk h he).only
    · cases h
    · cases h
def SndM (X : Cx) (T : Option Addr) (fr : Bool) (f : Ro → Out Fl) : Ns → Prop
  | .s st => SndS X T fr st f
  | .l sts => SndSs X T fr sts f
theorem ae_one {t : Expr} {env : PySem.Env} (h : notStarE t = true) : (assignEach [t] env).map (·.2) = [assign t env] := by rw [ae_cons h]; rfl
theorem boot_dict' : bootBuiltins ("dict" : Str) = some (.type "dict") := by decide +kernel
theorem frz_of {s : Ev.S} {i : Nat} (h : isFrz s = some i) : s = .frz i := by
  cases s <;> simp only [isFrz] at h <;> cases h
  rfl
theorem frz2_of {s : Ev.S} {i : Nat} (h : isFrz2 s = some i) : s = .frz2 i := by
  cases s <;> simp only [isFrz2] at h <;> cases h
  rfl
theorem sd_nilL (g : Gd C n S X) {pl : Pos} : SndF X T (.List [] pl) (onlyL (ev (Γof C n) false (.lst .nil))) := by
  have h : SE X T (Γof C n) (.lst .nil) (.List [] pl) := sound (T := T) (.lst .nil) (nd := .e (.List [] pl)) g (by simp only [chk, Nd.x])
  exact h.f rfl
theorem nilL_eq {Γ : Env} (ρ : Ro) : onlyL (ev Γ false (.lst .nil)) ρ = .ret (.list []) := by
  unfold onlyL
  simp only [ev]
  rfl
theorem sw_cell {v : Expr} {py : Pos} {y : Str} {l : Nat} {env : PySem.Env} (hy : env.scope.names.lookup y = some .cell) : swapsWith v (some (.Name y py)) l env = pure false := by
  have ky : env.kindOf y = some .cell := hy
  cases v <;> first | rfl | skip
  all_goals
    unfold swapsWith
    have hc : (some NameKind.cell == some NameKind.local) = false := rfl
    simp only [ky, hc, Bool.and_false, Bool.false_and]
theorem sn_lcl2 {i : Nat} {y : Str} {py : Pos} {own : List Nat} {gg : Tg} {it et : E} {elt tg iter : Expr} {z : Int} {scope : Scope} {p : Pos} (g : Gd C n S X) (hk : X.env.scope.kind = .function) (h : (setB C S i y py (.ListComp elt [⟨tg, iter, [], z⟩] scope p) || setCB C S i y) = true) (hf : frE et = true)
    (he : chk C (.lc own gg it (.con (.bool true)) et) S (.e (.ListComp elt [⟨tg, iter, [], z⟩] scope p)) = true) {fr : Bool} :
    SndS X T fr (.Assign [.Name y py] (.ListComp elt [⟨tg, iter, [], z⟩] scope p) pos) (fun ρ => ((ev (Γof C n) true it ρ).bind fun x => (itemsD x).bind fun xs => .guard (decide (xs.length ≤ lim)) (lcl2Go (fun d => (Out.ofO (asgG gg d (wipeR ρ own))).bind fun ρ2 => (ev (Γof C n) false et ρ2).bind asList) xs [])).bind fun xss => .ret (.nx (ρ.set i (some (.own2 xss))))) := by
  simp only [chk, Nd.x] at he
  obtain ⟨h1, h2, h3⟩ := bt3 he
  obtain ⟨h3, h4, h5⟩ := bt3 h3
  obtain ⟨h5, h6, h7⟩ := bt3 h5
  cases of_decide_eq_true h1
  have hi := sound (T := T) it g h3
  have hown : (own.map fun i => (((C.N[i]?).getD "", i) : Str × Nat)).map (·.2) = own := by
    rw [List.map_map]
    exact List.map_id _
  obtain ⟨h8, h9⟩ := bt h7
  have hel : ∀ (s : Shared) (H : Hp) (cc : Addr) (cl : List (Str × Addr)) (fp : List Addr), PE (X.blk s H scope (compEnvC scope cl cc X.env) fp) elt (tF T (onlyL (ev (Γof C n) false et))) := fun s H cc cl fp => by
    have he := sound (T := T) et (g.blk s H scope cl cc fp) h9
    exact (he.f hf).pe
  rcases Bool.or_eq_true_iff.mp h with h | h
  · obtain ⟨q1, q2, q34⟩ := bt3 h
    obtain ⟨q3, q4⟩ := bt q34
    have hsw : swapsWith (.ListComp elt [⟨tg, iter, [], 0⟩] scope p) (some (.Name y py)) pos.line X.env = pure true := sw_true hk (g.lcl q2) q3 (not_t q4)
    refine ss_setN (ps_setLc (i := i) (pos := p) (spos := pos) g.calm g.nd (by rw [g.hN]; exact of_decide_eq_true q1) (g.lcl q2) hsw (hi true).pi (own := own.map fun i => ((C.N[i]?).getD "", i)) (by rw [g.hN, g.sc]; exact blkOk_by h4) (fun s H cc cl fp => chkG_ok (T := T) (g.blk s H scope cl cc fp) gg tg h5) (fun _ _ _ _ _ => pts_yes (T := T)) hel (folded_of h2 _)) fun G0 H0 ρ σ G H Q R h => ?_
    rw [hown]
    exact lcl2_reads h6 R h
  · obtain ⟨c1, c2⟩ := bt h
    have hcell : S.sc.names.lookup y = some .cell ∧ S.fn y = true := by
      split at c2
      · exact ⟨by assumption, c2⟩
      · cases c2
    obtain ⟨l1, l2⟩ := g.loc (x := y) (by unfold locB; rw [hcell.1]; exact hcell.2)
    refine ss_setN (ps_set g.nd (by rw [g.hN]; exact of_decide_eq_true c1) l1 (pe_lc g.calm g.nd (hi true).pi (own := own.map fun i => ((C.N[i]?).getD "", i)) (by rw [g.hN, g.sc]; exact blkOk_by h4) (fun s H cc cl fp => chkG_ok (T := T) (g.blk s H scope cl cc fp) gg tg h5) (fun _ _ _ _ _ => pts_yes (T := T)) hel (folded_of h2 _)) (sw_cell (by rw [g.sc]; exact hcell.1)) l2) fun G0 H0 ρ σ G H Q R h => ?_
    rw [hown]
    exact lcl2_reads h6 R h
theorem wip_of {s : Ev.S} {vs : List Nat} (h : isWip s = some vs) : s = .wip vs := by
  cases s <;> simp only [isWip] at h <;> cases h
  rfl
theorem nk_false {α : Prop} (h : false = true) : α := by cases h
theorem soundS (hx : PassesOwn (model X.prog X.w) X.A X.env X.xe) (hk : X.env.scope.kind = .function) (W : Nat) (g : Gd C n S X) : ∀ (s : Ev.S) {m : Ns}, chkS C S s m = true → SndM X T C.fr (ex (Γof C n) W s) m
  | .nil, m, h => by
    simp only [chkS] at h
    split at h
    · exact ss_nil
    · cases h
  | .seq s r, m, h => by
    simp only [chkS] at h
    split at h
    · rename_i sts
      split at h
      · rename_i i e
        have hr := soundS hx hk W g r h
        rw [frz_of e]
        exact ss_frz hr
      · split at h
        · rename_i vs e
          have hr := soundS hx hk W g r h
          rw [wip_of e]
          exact ss_wip hr
        · split at h
          · rename_i i e
            have hr := soundS hx hk W g r h
            rw [frz2_of e]
            exact ss_frz2 hr
          · cases sts with
            | nil => cases h
            | cons st more =>
              obtain ⟨h1, h2⟩ := bt h
              have hs := soundS hx hk W g s h1
              have hr := soundS hx hk W g r h2
              exact ss_cons hs hr
    · cases h
  | .frz i, m, h => by simp only [chkS] at h; cases h
  | .wip vs, m, h => by simp only [chkS] at h; cases h
  | .frz2 i, m, h => by simp only [chkS] at h; cases h
  | .lcl2 i own gg it e, m, h => by
    simp only [chkS] at h
    split at h
    · obtain ⟨h1, h2, h3⟩ := bt3 h
      exact sn_lcl2 g hk h1 h2 h3
    · cases h
  | .app2 i jx e, m, h => by
    simp only [chkS] at h
    split at h
    · obtain ⟨h1, h2, h3⟩ := bt3 h
      obtain ⟨h3, h4, h5⟩ := bt3 h3
      obtain ⟨h5, h6, h7⟩ := bt3 h5
      obtain ⟨l1, l2, l3, l4⟩ := g.nm h2
      cases of_decide_eq_true h1
      have hj := sound (T := T) jx g h6
      have he := sound (T := T) e g h7
      exact ss_app2 l1 l2 l3 l4 (hj.e true) h3 (he.e false) h4 h5
    · cases h
  | .new2 i, m, h => by
    simp only [chkS] at h
    split at h
    · obtain ⟨h1, h2, h3⟩ := bt3 h
      obtain ⟨l1, l2, l3, l4⟩ := g.nm h2
      cases of_decide_eq_true h1
      exact ss_new2 l1 l2 l3 l4 (sd_nilL g) nilL_eq rfl h3
    · cases h
  | .swp2 k i jx ix e, m, h => by
    simp only [chkS] at h
    split at h
    · obtain ⟨h1, h2, h3⟩ := bt3 h
      obtain ⟨h3, h4, h5⟩ := bt3 h3
      obtain ⟨h5, h6, h7⟩ := bt3 h5
      obtain ⟨h7, h8⟩ := bt h7
      obtain ⟨l1, l2, l3, l4⟩ := g.nm h2
      have he := sound (T := T) e g h6
      have hj := sound (T := T) jx g h7
      have hi := sound (T := T) ix g h8
      exact ss_swp2 g.calm (chkG_ok g (.nm k) _ h1) l1 l2 l3 l4 (he.e false) (hj.e true) h3 (hi.e true) h4 (not_t h5)
    · cases h
  | .par0 i j a, m, h => by
    simp only [chkS] at h
    split at h
    · obtain ⟨a3, a4, h⟩ := bt3 h
      obtain ⟨a5, a6, h⟩ := bt3 h
      obtain ⟨a7, a8, h⟩ := bt3 h
      obtain ⟨a9, a10, h⟩ := bt3 h
      obtain ⟨a12, a13, h⟩ := bt3 h
      obtain ⟨a14, a15⟩ := bt h
      have ha := sound (T := T) a g a15
      have kx := g.lcl a6
      have ky := g.lcl a7
      exact ss_par0 g.calm g.nd (by rw [g.hN]; exact of_decide_eq_true a3) (by rw [g.hN]; exact of_decide_eq_true a4) (of_decide_eq_true a5) kx ky (ha.e false) (sd_nilL g) nilL_eq a10 rfl
        (ss_two (kfun g a14) kx ky (not_t a8) a9 a10 rfl (not_t a12) (not_t a13))
    · cases h
  | .pdl i j k v b, m, h => by
    simp only [chkS] at h
    split at h
    · obtain ⟨a3, a4, h⟩ := bt3 h
      obtain ⟨a5, a6, h⟩ := bt3 h
      obtain ⟨a7, a8, h⟩ := bt3 h
      obtain ⟨a9, a10, h⟩ := bt3 h
      obtain ⟨a12, a13, h⟩ := bt3 h
      obtain ⟨a14, a15, h⟩ := bt3 h
      obtain ⟨a16, a17⟩ := bt h
      have hk' := sound (T := T) k g a15
      have hv := sound (T := T) v g a16
      have hb := sound (T := T) b g a17
      have kx := g.lcl a6
      have ky := g.lcl a7
      exact ss_pdl g.u1 g.calm g.nd (by rw [g.hN]; exact of_decide_eq_true a3) (by rw [g.hN]; exact of_decide_eq_true a4) (of_decide_eq_true a5) kx ky (hk'.e false) (hv.e false) (hb.e false) a10
        (ss_two (kfun g a14) kx ky (not_t a8) a9 rfl a10 (not_t a12) (not_t a13))
    · cases h
  | .popx i, m, h => by
    simp only [chkS] at h
    split at h
    · obtain ⟨h1, h2, h3⟩ := bt3 h
      obtain ⟨l1, l2, l3, l4⟩ := g.nm h2
      cases of_decide_eq_true h1
      exact ss_popx l1 l2 l3 l4 h3
    · cases h
  | .asg gg e, m, h => by
    simp only [chkS] at h
    split at h
    · rename_i t v pos
      split at h
      · rename_i i y py
        obtain ⟨h1, h2⟩ := bt h
        exact ss_setE (set_any g hk h1 h2)
      · obtain ⟨h1, h2, h3⟩ := bt3 h
        obtain ⟨h3, h4, h5⟩ := bt3 h3
        have he := sound (T := T) e g h5
        have ht : ∀ y p, t ≠ .Name y p := fun y p e => by subst e; cases h1
        have hns : notStarE t = true := by cases t <;> first | rfl | cases h1
        have hsw : swappedStores [t] v X.env = pure none := ss_swap (by rw [g.sc]; exact h4)
        exact ss_asg (he.e false) (chkG_ok g _ t h2) (sw_tup (.inr ht)) hsw (ae_one hns)
    · cases h
  | .unl gg e, m, h => by
    simp only [chkS] at h
    split at h
    · rename_i es k tp v pos
      obtain ⟨h1, h2, h5⟩ := bt3 h
      obtain ⟨h3, h4⟩ := bt h5
      have he := sound (T := T) e g h4
      obtain ⟨l1, l2⟩ := lenG_of (env := X.env) h3
      have hsw : swappedStores [.Tuple es k tp] v X.env = pure none := by
        cases v <;> first | exact ss_none rfl | cases h1
      exact ss_unl g.calm (he.e false) (chkGs_ok g _ _ h3) h2 l1 l2 (sw_tup (.inr fun y p e => by cases e)) hsw (ae_one rfl)
    · cases h
  | .own i e, m, h => by
    simp only [chkS] at h
    split at h
    · obtain ⟨h1, h2, h3⟩ := bt3 h
      exact ss_setF (set_anyF g hk h1 h2 h3)
    · cases h
  | .par i j oi oj a b, m, h => by
    simp only [chkS] at h
    split at h
    · obtain ⟨a1, a2, h⟩ := bt3 h
      obtain ⟨a3, a4, h⟩ := bt3 h
      obtain ⟨a5, a6, h⟩ := bt3 h
      obtain ⟨a7, a8, h⟩ := bt3 h
      obtain ⟨a9, a10, h⟩ := bt3 h
      obtain ⟨a11, a12, h⟩ := bt3 h
      obtain ⟨a13, a14, h⟩ := bt3 h
      obtain ⟨a15, a16⟩ := bt h
      cases not_t a2
      have ha := sound (T := T) a g a15
      have hb := sound (T := T) b g a16
      have kx := g.lcl a6
      have ky := g.lcl a7
      cases oi with
      | true =>
        exact ss_parF g.calm g.nd (by rw [g.hN]; exact of_decide_eq_true a3) (by rw [g.hN]; exact of_decide_eq_true a4) (of_decide_eq_true a5) kx ky (ha.f a1) (hb.e false) a10 a11
          (ss_two (kfun g a14) kx ky (not_t a8) a9 a10 a11 (not_t a12) (not_t a13))
      | false =>
      exact ss_par g.calm g.nd (by rw [g.hN]; exact of_decide_eq_true a3) (by rw [g.hN]; exact of_decide_eq_true a4) (of_decide_eq_true a5) kx ky (ha.e false) (hb.e false) a10 a11
        (ss_two (kfun g a14) kx ky (not_t a8) a9 a10 a11 (not_t a12) (not_t a13))
    · cases h
  | .app i e, m, h => by
    simp only [chkS] at h
    split at h
    · obtain ⟨h1, h2, h3⟩ := bt3 h
      obtain ⟨h3, h4, h5⟩ := bt3 h3
      obtain ⟨l1, l2, l3, l4⟩ := g.nm h2
      cases of_decide_eq_true h1
      have he := sound (T := T) e g h5
      exact ss_app l1 l2 l3 l4 (he.e false) h3 h4
    · cases h
  | .pop gg i, m, h => by
    simp only [chkS] at h
    split at h
    · obtain ⟨h1, h2, h3⟩ := bt3 h
      obtain ⟨h3, h4, h5⟩ := bt3 h3
      obtain ⟨l1, l2, l3, l4⟩ := g.nm h2
      cases of_decide_eq_true h1
      exact ss_pop l1 l2 l3 l4 (chkG_ok g _ _ h5) h3 (ae_one h4)
    · cases h
  | .setix i ix e, m, h => by
    simp only [chkS] at h
    split at h
    · obtain ⟨h1, h2, h3⟩ := bt3 h
      obtain ⟨h4, h5⟩ := bt h3
      obtain ⟨l1, l2, l3, l4⟩ := g.nm h1
      have he := sound (T := T) e g h4
      have hi := sound (T := T) ix g h5
      exact ss_setix l1 l2 l3 l4 (he.e false) (hi.e true) h2 (sw_tup (.inr fun y p e => by cases e))
    · cases h
  | .tset i j e, m, h => by
    simp only [chkS] at h
    split at h
    · obtain ⟨h1, h2, h3⟩ := bt3 h
      obtain ⟨l1, l2, l3, l4⟩ := g.nm h2
      cases of_decide_eq_true h1
      have he := sound (T := T) e g h3
      exact ss_tset l1 l2 l3 l4 (he.e false)
    · cases h
  | .tdvm i j gg e, m, h => by
    simp only [chkS] at h
    split at h
    · obtain ⟨h1, h2, h3⟩ := bt3 h
      obtain ⟨h3, h4, h5⟩ := bt3 h3
      obtain ⟨h5, h6, h7⟩ := bt3 h5
      obtain ⟨l1, l2, l3, l4⟩ := g.nm h2
      cases of_decide_eq_true h1
      have he := sound (T := T) e g h7
      exact ss_tdvm g.calm l1 l2 l3 l4 (he.e false) (chkG_ok g _ _ h4) h3 (not_t h5) (not_t h6)
    · cases h
  | .dnew i t, m, h => by
    simp only [chkS] at h
    split at h
    · obtain ⟨h1, h2⟩ := bt h
      obtain ⟨l1, l2⟩ := g.loc h2
      exact ss_dnew g.nd (by rw [g.hN]; exact of_decide_eq_true h1) l1 l2
    · cases h
  | .dnew1 i t k v, m, h => by
    simp only [chkS] at h
    split at h
    · obtain ⟨h0, h1, h2⟩ := bt3 h
      obtain ⟨h2, h3, h4⟩ := bt3 h2
      obtain ⟨l1, l2⟩ := g.loc h2
      have hk' := sound (T := T) k g h3
      have hv := sound (T := T) v g h4
      subst h0
      exact ss_dnew1T g.u1 g.nd (by rw [g.hN]; exact of_decide_eq_true h1) l1 l2 (hk'.e false) (hv.e false)
    · cases h
  | .dof i t e, m, h => by
    simp only [chkS] at h
    split at h
    · obtain ⟨h0, h1, h2⟩ := bt3 h
      obtain ⟨h2, h3, h4⟩ := bt3 h2
      obtain ⟨l1, l2⟩ := g.loc h2
      obtain ⟨h5, h6⟩ := g.isB h0
      subst h5
      have he := sound (T := T) e g h4
      exact ss_dof g.room g.calm h6 (g.mg (by decide +kernel)) boot_dict' g.nd (by rw [g.hN]; exact of_decide_eq_true h1) l1 l2 (he.e false) h3
    · cases h
  | .fork gg i b, m, h => by
    simp only [chkS] at h
    split at h
    · obtain ⟨h1, h2, h3⟩ := bt3 h
      obtain ⟨l1, l2, l3, l4⟩ := g.nm h1
      have hb := soundS hx hk W g b h3
      exact ss_fork hx g.calm l1 l2 l3 l4 (chkG_ok g _ _ h2) hb
    · cases h
  | .fori gg i b, m, h => by
    simp only [chkS] at h
    split at h
    · obtain ⟨h0, h1, h4⟩ := bt3 h
      obtain ⟨h5, h2, h3⟩ := bt3 h4
      obtain ⟨l1, l2, l3, l4⟩ := g.nm h1
      rw [of_decide_eq_true h0]
      have hb := soundS hx hk W g b h3
      exact ss_fori hx g.calm l1 l2 l3 l4 h5 (chkG_ok g _ _ h2) hb
    · cases h
  | .dset i k v, m, h => by
    simp only [chkS] at h
    split at h
    · obtain ⟨h1, h2, h3⟩ := bt3 h
      obtain ⟨l1, l2, l3, l4⟩ := g.nm h1
      have hk' := sound (T := T) k g h2
      have hv := sound (T := T) v g h3
      exact ss_dset g.u1 l1 l2 l3 l4 (hv.e false) (hk'.e true)
    · cases h
  | .dmov i j, m, h => by
    simp only [chkS] at h
    split at h
    · obtain ⟨h1, h2, h3⟩ := bt3 h
      obtain ⟨l1, l2⟩ := g.loc h2
      obtain ⟨m1, m2, m3, m4⟩ := g.nm h3
      exact ss_dmov g.nd (by rw [g.hN]; exact of_decide_eq_true h1) l1 l2 m1 m2 m3 m4
    · cases h
  | .ife c a b, m, h => by
    simp only [chkS] at h
    split at h
    · obtain ⟨h1, h2, h3⟩ := bt3 h
      have hc := sound (T := T) c g h1
      have ha := soundS hx hk W g a h2
      have hb := soundS hx hk W g b h3
      exact ss_if hc.t ha hb
    · cases h
  | .for_ gg it b, m, h => by
    simp only [chkS] at h
    split at h
    · obtain ⟨h1, h2, h3⟩ := bt3 h
      obtain ⟨h3, h4⟩ := bt h3
      have hi := sound (T := T) it g h3
      have hb := soundS hx hk W g b h4
      exact ss_for hx g.calm (hi false) (chkG_ok g _ _ h2) hb (folded_of h1 _)
    · cases h
  | .whl c b, m, h => by
    simp only [chkS] at h
    split at h
    · obtain ⟨h1, h2⟩ := bt h
      have hc := sound (T := T) c g h1
      have hb := soundS hx hk W g b h2
      exact ss_while hx hc.t hb
    · cases h
  | .ret e, m, h => by
    simp only [chkS] at h
    split at h
    · obtain ⟨h1, h2⟩ := bt h
      have he := sound (T := T) e g h2
      cases hf : C.fr with
      | false => exact ss_ret (he.e false)
      | true =>
        rw [hf] at h1
        exact ss_retF (he.f h1)
    · cases h
  | .expr e, m, h => by
    simp only [chkS] at h
    split at h
    · obtain ⟨h1, h2⟩ := bt h
      have he := sound (T := T) e g h2
      exact ss_expr (he.e false) (sw_plain (not_t h1))
    · cases h
  | .brk, m, h => by
    simp only [chkS] at h
    split at h
    · exact ss_brk
    · cases h
  | .cnt, m, h => by
    simp only [chkS] at h
    split at h
    · exact ss_cnt
    · cases h
  | .pass, m, h => by
    simp only [chkS] at h
    split at h
    · exact ss_pass
    · cases h
  | .raise, m, h => by
    simp only [chkS] at h
    split at h
    · exact ss_never
    · cases h
end
end Ev

set_option Elab.async false
set_option linter.all false
set_option autoImplicit false
set_option maxRecDepth 100000
set_option maxHeartbeats 8000000
namespace Ev
open PySem L2
open C8 (Def fnArgs fnBody fnScope scC fnScope_by)
open PyProof.Rows (envOfC)
section
variable {P : Program} {w : World} {K : PySem.W.Frag} {mg : Str → Option Value} {base : Heap}
theorem start_get {N : List Str} {ds : List D} {i : Nat} {s : Sl} (h : (startR N ds)[i]? = some (some s)) : ∃ d, ds[i]? = some d ∧ s = .val d := by
  unfold startR at h
  by_cases hi : i < ds.length
  · rw [List.getElem?_append_left (by simpa using hi), List.getElem?_map] at h
    cases e : ds[i]? with
    | none => rw [e] at h; cases h
    | some d => rw [e] at h; cases h; exact ⟨d, rfl, rfl⟩
  · rw [List.getElem?_append_right (by simpa using hi), List.getElem?_replicate] at h
    split at h <;> cases h
theorem start_slot {N : List Str} {vs : List V} {i : Nat} {v : V} (h : vs[i]? = some v) : (L2.start N vs)[i]? = some (some v) := by
  unfold L2.start
  have hi : i < vs.length := (List.getElem?_eq_some_iff.mp h).1
  rw [List.getElem?_append_left (by simpa using hi), List.getElem?_map, h]
  rfl
/-- at the entry the parameters hold data -/
theorem rep_start {T : Option Addr} {N ps : List Str} {H G : Hp} {vs : List V} {ds : List D} (sub : Sub G H) (tb : TubOk T H) (tg : ∀ a, T = some a → G a = none) (i : IsAll T G vs ds) : Rep T G H (startR N ds) (L2.start N vs) G H := by
  refine ⟨.refl sub tb, tb, tg, ?_, fun j s e => ?_, fun j k sj sk vj vk b e1 e2 _ _ a1 _ => ?_⟩
  · unfold startR L2.start
    rw [List.length_append, List.length_append, List.length_map, List.length_map, List.length_replicate, List.length_replicate, i.length]
  · obtain ⟨d, e1, rfl⟩ := start_get e
    obtain ⟨v, e2, iv⟩ := i.get e1
    exact ⟨v, start_slot e2, iv⟩
  · obtain ⟨d, _, rfl⟩ := start_get e1
    exact a1.elim
/-- a def, by the answers of its body -/
def bodyF (fr : Bool) (N ps : List Str) (fb : Ro → Out Fl) (ds : List D) : Out D := .guard (decide (ds.length = ps.length)) ((fb (startR N ds)).bind (retB fr))
/-- a def whose answer is a new list -/
structure FnN (fr : Bool) (P : Program) (w : World) (K : PySem.W.Frag) (mg : Str → Option Value) (base : Heap) (n : Nat) (f : Addr) (fd : FuncData) (ps : List Str) (F : List D → Out D) : Prop where
  len : ∀ ds (P : D → Prop), (F ds).All P → ds.length = ps.length
  run : ∀ (T : Option Addr) (A : Around) (outer : List PySem.Env) (s : Shared) (H G : Hp) (args : Args) (us : List Value) (vs : List V) (ds : List D) (Q : VK), Room n A → A.guards = some [] → Env0 P w K mg base A outer s H →
    BindsTo s fd args (ps.zip us) → Vals vs us → Sub G H → TubOk T H → (∀ a, T = some a → G a = none) → IsAll T G vs ds → (F ds).All (EndR fr T G H Q) →
    codeAny (model P w) A (.call (.ref f) args) (CR CX0 outer P w H s Q E0) s
theorem FnN.l {n : Nat} {f : Addr} {fd : FuncData} {ps : List Str} {F : List D → Out D} (h : FnN true P w K mg base n f fd ps F) : FnL P w K mg base n f fd ps F := ⟨h.len, h.run⟩
theorem FnN.g {n : Nat} {f : Addr} {fd : FuncData} {ps : List Str} {F : List D → Out D} (h : FnN false P w K mg base n f fd ps F) : FnG P w K mg base n f fd ps F :=
  ⟨h.len, fun T A outer s H G args us vs ds Q hr hg e0 hbt rv sub tb tg is q => h.run T A outer s H G args us vs ds Q hr hg e0 hbt rv sub tb tg is (q.mono fun d hd v G' H' k iv => hd v G' H' k (.inl iv))⟩
theorem fn_n {x qual : Str} {st : Stmt} {f : Addr} {fd : FuncData} {N ps : List Str} {k : Nat} {fr : Bool} {fb : Ro → Out Fl} (F : C8.Fun K x qual st f fd) (SC : FnScope N ps (fnScope st))
    (hb : ∀ (T : Option Addr) (cdv : Value) (A : Around) (outer : List PySem.Env) (s : Shared) (H : Hp), Room k (A.deeper (envOfC qual (fnScope st) s.heap.objs.size f cdv)) → A.guards = some [] →
      SndSs (cxOf CX0 P w K mg base N qual (fnScope st) f cdv A outer s H E0).nox T fr (fnBody st) fb) : FnN fr P w K mg base (k + 1) f fd ps (bodyF fr N ps fb) := by
  obtain ⟨oc, od, dV, kV, doc, pm, an, cdv, ct, osl, rfl, lk, hcd⟩ := F.ex
  refine ⟨fun ds Q h => ?_, fun T A outer s H G args us vs ds Q hr hg e0 hbt rv sub tb tg is h => ?_⟩
  · unfold bodyF at h
    rw [Out.All_guard] at h
    exact of_decide_eq_true h.1
  · unfold bodyF at h
    rw [Out.All_guard] at h
    obtain ⟨hl0, h⟩ := h
    have hlen : vs.length = ps.length := by rw [is.length]; exact of_decide_eq_true hl0
    have kin : K.In s.heap := e0.mod.kin.keeps fun b o z => (e0.bs b o z).1
    have hnames : ∀ q ∈ ps.zip us, (fnScope st).names.lookup q.1 = some .local ∨ ((fnScope st).names.lookup q.1 = some .cell ∧ ((cellsFrom (s.heap.objs.size + 1) (fnScope st).names []).lookup q.1).isSome = true) := by
      rintro ⟨nm, vv⟩ hq
      exact (SC.par nm (List.of_mem_zip hq).1).imp id fun z => ⟨z, PySem.W.cellsFrom_some _ _ _ (.inl z)⟩
    refine codeAny_call_function hr.depth (kin _ _ lk) rfl SC.co SC.gen rfl (PySem.W.codeRec_of kin hcd) (hbt _ _ _ _ ?_)
    refine wpAny_newFunctionEnv_cells SC.kind hnames fun env henv s1 inC => ?_
    subst henv
    refine ⟨(e0.mod.nolimit.keeps fun b o z => (e0.bs b o z).1).keeps inC.toInCall.keep, codeAny_func ?_⟩
    obtain ⟨t, ht, hq⟩ := hb T cdv A outer s H (hr.deeper _) hg
    have I : Inv (cxOf CX0 P w K mg base N qual (fnScope st) f cdv A outer s H E0) [] (L2.start N vs) H s1 := inv_start SC hr.hd e0 hlen rv inC
    have R := rep_start (N := N) (ps := ps) sub tb tg is
    rw [Out.All_bind] at h
    have hD : t { nx := fun _ H' => Q .non H', rt := Q } (L2.start N vs) H := hq G H _ _ G H _ R (h.mono fun fl hf => by
      cases fr with
      | false =>
        cases fl with
        | nx ρ' => exact fun σ' G' H' R' _ => hf .non G' H' R'.st .non
        | rt d => exact hf
        | bk ρ' => exact hf.elim
        | ct ρ' => exact hf.elim
      | true =>
        cases fl with
        | nx ρ' => exact hf.elim
        | rt d =>
          cases d <;> first | exact hf | exact hf.elim
        | bk ρ' => exact hf.elim
        | ct ρ' => exact hf.elim)
    refine wpAny_mono (ht.nox.run [] s1 _ H _ I hD) (fun fl s' hs => ?_) fun e s' z => z
    cases fl with
    | ret u =>
      obtain ⟨v, σ', H', J, rv', q⟩ := hs
      exact ⟨v, H', J.os, J.bare, J.base, J.hok, rv', q⟩
    | next =>
      obtain ⟨σ', H', J, q⟩ := hs
      exact ⟨.non, H', J.os, J.bare, J.base, J.hok, rfl, q⟩
    | brk =>
      obtain ⟨_, _, _, q⟩ := hs
      exact q.elim
    | cont =>
      obtain ⟨_, _, _, q⟩ := hs
      exact q.elim
theorem fn_bad {f : Addr} {fd : FuncData} {ps : List Str} {k : Nat} : FnG P w K mg base k f fd ps (fun _ => .bad) := ⟨fun ds Q h => h.elim, fun T A outer s H G args us vs ds Q hr hg e0 hbt rv sub tb tg is h => h.elim⟩
/-- what a law's table of defs is asked -/
structure RowOk (P : Program) (w : World) (K : PySem.W.Frag) (mg : Str → Option Value) (base : Heap) (τ : Tab) (kws : List (Nat × Nat × List Str × List Nat)) (f : Nat) (F : Fd) : Prop where
  ex : ∃ (st : Stmt) (a : Addr) (fd : FuncData), Def K mg F.name st a fd ∧ Binds K fd F.ps [] ∧ (∀ m ks perm, (f, m, ks, perm) ∈ kws → KwB K fd F.ps m ks perm) ∧
    (f ≠ τ.dip → scC F.N F.ps (fnScope st) = true ∧ chkS ⟨τ, F.N, kws, false⟩ ⟨fnScope st, true, fnScope st⟩ F.body (.l (fnBody st)) = true ∧ (f ∈ τ.news → chkS ⟨τ, F.N, kws, true⟩ ⟨fnScope st, true, fnScope st⟩ F.body (.l (fnBody st)) = true)) ∧ (f = τ.dip → ∀ k, FnG P w K mg base (k + 1) a fd F.ps dipD)
structure TabOk (P : Program) (w : World) (K : PySem.W.Frag) (mg : Str → Option Value) (base : Heap) (τ : Tab) (kws : List (Nat × Nat × List Str × List Nat)) : Prop where
  blt : ∀ x ∈ bltNames, mg x = none
  glob : ∀ x d, τ.glob x = some d → ∃ u v, mg x = some u ∧ RelV v u ∧ ∀ T G, Is T G v d
  rows : ∀ f F, τ.fns[f]? = some F → RowOk P w K mg base τ kws f F
  xc : XcOk P K mg τ.xc
theorem FnG.weaken {f : Addr} {fd : FuncData} {ps : List Str} {k : Nat} {Fn Fn' : List D → Out D} (h : FnG P w K mg base k f fd ps Fn) (e : ∀ ds P, (Fn' ds).All P → (Fn ds).All P) : FnG P w K mg base k f fd ps Fn' :=
  ⟨fun ds Q q => h.len ds Q (e ds Q q), fun T A outer s H G args us vs ds Q hr hg e0 hbt rv sub tb tg is q => h.run T A outer s H G args us vs ds Q hr hg e0 hbt rv sub tb tg is (e ds _ q)⟩
theorem fnG_congr {f : Addr} {fd : FuncData} {ps : List Str} {k : Nat} {Fn Fn' : List D → Out D} (h : FnG P w K mg base k f fd ps Fn) (e : Fn = Fn') : FnG P w K mg base k f fd ps Fn' := e ▸ h
theorem tab_fns {τ : Tab} {kws : List (Nat × Nat × List Str × List Nat)} (t : TabOk P w K mg base τ kws) : ∀ (n : Nat),
    (∀ (f : Nat) (F : Fd), τ.fns[f]? = some F → ∃ a fd, FnG P w K mg base n a fd F.ps (callT τ n f) ∧ mg F.name = some (.ref a) ∧ PySem.W.keepIn K (.ref a) = true ∧ Binds K fd F.ps [] ∧ ∀ m ks perm, (f, m, ks, perm) ∈ kws → KwB K fd F.ps m ks perm) ∧
    (∀ (f : Nat) (F : Fd), τ.fns[f]? = some F → f ∈ τ.news → ∃ a fd, FnL P w K mg base n a fd F.ps (callB τ n true f) ∧ mg F.name = some (.ref a) ∧ PySem.W.keepIn K (.ref a) = true ∧ Binds K fd F.ps [])
  | 0 => by
    refine ⟨fun f F h => ?_, fun f F h hn => ?_⟩
    · obtain ⟨st, a, fd, hd, hb, hk, _, _⟩ := (t.rows f F h).ex
      exact ⟨a, fd, fn_bad, hd.mgf, hd.kp, hb, hk⟩
    · obtain ⟨st, a, fd, hd, hb, hk, _, _⟩ := (t.rows f F h).ex
      exact ⟨a, fd, ⟨fun ds Q h => h.elim, fun T A outer s H G args us vs ds Q hr hg e0 hbt rv sub tb tg is h => h.elim⟩, hd.mgf, hd.kp, hb⟩
  | n + 1 => by
    obtain ⟨ih1, ih2⟩ := tab_fns t n
    have body : ∀ (fr : Bool) (f : Nat) (F : Fd) (st : Stmt) (a : Addr) (fd : FuncData), Def K mg F.name st a fd → scC F.N F.ps (fnScope st) = true → chkS ⟨τ, F.N, kws, fr⟩ ⟨fnScope st, true, fnScope st⟩ F.body (.l (fnBody st)) = true →
        FnN fr P w K mg base (n + 1) a fd F.ps (bodyF fr F.N F.ps (ex ⟨callB τ n false, callB τ n true, τ.glob⟩ τ.W F.body)) := fun fr f F st a fd hd h1 h2 => by
      have SC := fnScope_by h1
      refine fn_n (fr := fr) (fb := ex ⟨callB τ n false, callB τ n true, τ.glob⟩ τ.W F.body) hd.fn SC fun T cdv A outer s H hr hg => ?_
      have g : Gd ⟨τ, F.N, kws, fr⟩ n ⟨fnScope st, true, fnScope st⟩ (cxOf CX0 P w K mg base F.N F.name (fnScope st) a cdv A outer s H E0).nox :=
        ⟨rfl, SC.nd, rfl, hr, hg, rfl, fun _ _ => rfl, t.blt, t.glob, ih1, ih2, t.xc⟩
      exact soundS PassesOwn.never SC.kind τ.W g F.body h2
    refine ⟨fun f F h => ?_, fun f F h hn => ?_⟩
    · obtain ⟨st, a, fd, hd, hb, hk, hc, hp⟩ := (t.rows f F h).ex
      refine ⟨a, fd, ?_, hd.mgf, hd.kp, hb, hk⟩
      by_cases e : f = τ.dip
      · refine fnG_congr (hp e n) (funext fun ds => ?_)
        simp only [callB, if_pos e]
      · obtain ⟨h1, h2, _⟩ := hc e
        refine fnG_congr (body false f F st a fd hd h1 h2).g (funext fun ds => ?_)
        simp only [callB, if_neg e, h]
        rfl
    · obtain ⟨st, a, fd, hd, hb, hk, hc, hp⟩ := (t.rows f F h).ex
      refine ⟨a, fd, ?_, hd.mgf, hd.kp, hb⟩
      by_cases e : f = τ.dip
      · have : callB τ (n + 1) true f = fun _ => Out.bad := funext fun ds => by simp only [callB, if_pos e]
        rw [this]
        exact ⟨fun ds Q h => h.elim, fun T A outer s H G args us vs ds Q hr hg e0 hbt rv sub tb tg is h => h.elim⟩
      · obtain ⟨h1, _, h2⟩ := hc e
        have : callB τ (n + 1) true f = bodyF true F.N F.ps (ex ⟨callB τ n false, callB τ n true, τ.glob⟩ τ.W F.body) := funext fun ds => by
          simp only [callB, if_neg e, h, hn, decide_true]
          rfl
        rw [this]
        exact (body true f F st a fd hd h1 (h2 hn)).l
end
end Ev

set_option Elab.async false
set_option linter.all false
set_option autoImplicit false
set_option maxRecDepth 100000
set_option maxHeartbeats 4000000
namespace Ev
open PySem L2
/-! ### equations that fire on known arguments alone -/
section
variable {α : Type} {P : α → Prop}
theorem All_any {f : Int → Out α} : (Out.any f).All P ↔ ∀ z, (f z).All P := Iff.rfl
theorem All_pick {n : Nat} {f : Nat → Out α} : (Out.pick n f).All P ↔ ∀ i, i < n → (f i).All P := Iff.rfl
theorem slot_0 {s : Sl} {ρ : Ro} : slot (some s :: ρ) 0 = .ret s := rfl
theorem slot_s {s : Option Sl} {ρ : Ro} {i : Nat} : slot (s :: ρ) (i + 1) = slot ρ i := by simp [slot]
theorem val_val (d : D) : (match (Sl.val d) with | .val d => Out.ret d | _ => .bad) = .ret d := rfl
theorem b_add (i j : Int) : binD .add (.int i) (.int j) = .ret (.int (i + j)) := rfl
theorem b_sub (i j : Int) : binD .sub (.int i) (.int j) = .ret (.int (i - j)) := rfl
theorem b_mul (i j : Int) : binD .mul (.int i) (.int j) = .guard (mulOk i j) (.ret (.int (i * j))) := rfl
theorem b_fdiv (i j : Int) : binD .fdiv (.int i) (.int j) = .guard (divOk j) (.ret (.int (i / j))) := rfl
theorem b_mod (i j : Int) : binD .mod (.int i) (.int j) = .guard (decide (0 < j)) (.ret (.int (i % j))) := rfl
theorem b_addL (xs ys : List D) : binD .add (.list xs) (.list ys) = .guard (decide (xs.length + ys.length ≤ lim)) (.ret (.list (xs ++ ys))) := rfl
theorem b_addT (xs ys : List D) : binD .add (.tuple xs) (.tuple ys) = .guard (decide (xs.length + ys.length ≤ lim)) (.ret (.tuple (xs ++ ys))) := rfl
theorem b_pow (i j : Int) : binD .pow (.int i) (.int j) = .guard (decide (0 ≤ j) && (decide (j ≤ 1000000) && decide (i.natAbs < 2 ^ 64))) (.ret (.int (i ^ j.toNat))) := rfl
theorem m_lt (i j : Int) : cmpD .lt (.int i) (.int j) = .ret (.bool (decide (i < j))) := rfl
theorem m_le (i j : Int) : cmpD .le (.int i) (.int j) = .ret (.bool (decide (i ≤ j))) := rfl
theorem m_gt (i j : Int) : cmpD .gt (.int i) (.int j) = .ret (.bool (decide (j < i))) := rfl
theorem m_ge (i j : Int) : cmpD .ge (.int i) (.int j) = .ret (.bool (decide (j ≤ i))) := rfl
theorem t_int (i : Int) : bltD .int [.int i] = .ret (.int i) := rfl
theorem t_abs (i : Int) : bltD .abs [.int i] = .ret (.int (if i < 0 then -i else i)) := rfl
theorem t_lenL (xs : List D) : bltD .len [.list xs] = .ret (.int xs.length) := rfl
theorem t_lenT (xs : List D) : bltD .len [.tuple xs] = .ret (.int xs.length) := rfl
theorem t_max (i j : Int) : bltD .max [.int i, .int j] = .ret (.int (if j > i then j else i)) := rfl
theorem t_min (i j : Int) : bltD .min [.int i, .int j] = .ret (.int (if j < i then j else i)) := rfl
theorem t_divmod (i j : Int) : bltD .divmod [.int i, .int j] = .guard (decide (0 < j) && decide (j < 1073741824)) (.ret (.tuple [.int (i / j), .int (i % j)])) := rfl
theorem c_cons (x : D) (xs : List D) : consD x (.tuple xs) = .ret (.tuple (x :: xs)) := rfl
theorem c_unt (xs : List D) : unTup (.tuple xs) = .ret xs := rfl
theorem c_asI (i : Int) : asInt (.int i) = .ret i := rfl
theorem c_asB (b : Bool) : asBool (.bool b) = .ret b := rfl
theorem c_itL (xs : List D) : itemsD (.list xs) = .ret xs := rfl
theorem c_itT (xs : List D) : itemsD (.tuple xs) = .ret xs := rfl
theorem v_of {ρ : Ro} {i : Nat} {d : D} (h : slot ρ i = .ret (.val d)) : valOf ρ i = .ret d := by unfold valOf; rw [h]; rfl
theorem v_0 {d : D} {ρ : Ro} : valOf (some (.val d) :: ρ) 0 = .ret d := rfl
theorem v_s {s : Option Sl} {ρ : Ro} {i : Nat} : valOf (s :: ρ) (i + 1) = valOf ρ i := by unfold valOf; rw [slot_s]
theorem tub_0 {ρ : Ro} : tubOf (some (.val (.dict [])) :: ρ) 0 = .ret () := rfl
theorem tub_s {s : Option Sl} {ρ : Ro} {i : Nat} : tubOf (s :: ρ) (i + 1) = tubOf ρ i := by unfold tubOf; rw [slot_s]
theorem g_nm {i : Nat} {d : D} {ρ : Ro} : asgG (.nm i) d ρ = some (ρ.set i (some (.val d))) := rfl
theorem smallI_lt {z : Int} (h1 : -18446744073709551616 < z) (h2 : z < 18446744073709551616) : smallI z = true := by
  unfold smallI
  exact decide_eq_true (by omega)
theorem mulOk_r {i j : Int} (h : smallI j = true) : mulOk i j = true := by unfold mulOk; rw [h]; cases smallI i <;> rfl
theorem mulOk_l {i j : Int} (h : smallI i = true) : mulOk i j = true := by unfold mulOk; rw [h]; rfl
end
end Ev

set_option Elab.async false
set_option linter.all false
set_option autoImplicit false
set_option maxRecDepth 100000
set_option maxHeartbeats 4000000
namespace Ev
open PySem L2
open PyProof.Rows
open C8 (Def Fun fnArgs fnBody fnScope)
/-! ### the law is called -/
/-- ahead of the law's call nothing is tracked but the script -/
def soloH (a : Addr) (o : Obj) (ns : List Int) : Hp := fun b => if b = a then some (.frz o (.lst (ns.map V.int))) else none
theorem soloH_at {a : Addr} {o : Obj} {ns : List Int} : soloH a o ns a = some (.frz o (.lst (ns.map V.int))) := if_pos rfl
theorem soloH_ne {a b : Addr} {o : Obj} {ns : List Int} (h : b ≠ a) : soloH a o ns b = none := if_neg h
theorem soloH_some {a b : Addr} {o : Obj} {ns : List Int} {u : HO} (h : soloH a o ns b = some u) : b = a ∧ u = .frz o (.lst (ns.map V.int)) := by
  by_cases e : b = a
  · subst e; rw [soloH_at] at h; cases h; exact ⟨rfl, rfl⟩
  · rw [soloH_ne e] at h; cases h
abbrev lstObj (vs : List Value) : Obj := { cls := .type "list", data := .seq vs.toArray }
section
variable {P : Program} {w : World} {K : PySem.W.Frag} {mg mb : Str → Option Value} {k : Nat} {fa a : Addr} {x : Str} {Fn : List D → Out D} {s₁ : Shared} {vs : List Value} {ns : List Int}
theorem call_g (hK : K.In s₁.heap) (h1 : s₁.heap.Ns mainGlobals mg) (h2 : s₁.heap.Ns builtinsNs mb) (h3 : ∀ x : Str, x ≠ "__name__" → mb x = bootBuiltins x) (h4 : s₁.heap.NoLimit) (h5 : s₁.gens = #[])
    (ho : s₁.heap.get? a = some (lstObj vs)) (hi : IntsAre vs ns) (hl : ns.length ≤ sizeLine) (hr : Room k callerA) (hno : K.lookup a = none)
    (F : ∀ base : Heap, K.In base → base.Ns mainGlobals mg → ∃ fd, Binds K fd [x] [] ∧ FnG P w K mg base k fa fd [x] Fn) (hF : (Fn [scr ns]).All fun d => d = .bool true) :
    codeAny (model P w) callerA (.call (.ref fa) ⟨[.ref a], []⟩) (fun r s' => r = .ok (.ret (.bool true)) ∧ OldK s₁.heap s'.heap ∧ s'.os = s₁.os ∧ AllBare s'.gens) s₁ := by
  have rv := L2.vals_ints hi
  have ob : ∀ {b : Addr} {o : Obj} {es : Array DictEntry} {ep : Nat}, s₁.heap.get? b = some o → o.data = .dict es ep → b ≠ a := fun e d z => by
    subst z
    rw [ho] at e
    cases e
    cases d
  have seen : ∀ {b : Addr} {o : Obj}, s₁.heap.get? b = some o → b ≠ a → (hidT s₁.heap (soloH a (lstObj vs) ns)).get? b = some o := fun e n => hidT_get e (soloH_ne n)
  have nsK : ∀ {b : Addr} {m : Str → Option Value}, s₁.heap.Ns b m → (hidT s₁.heap (soloH a (lstObj vs) ns)).Ns b m := fun ⟨o, es, ep, e, d, r⟩ => ⟨o, es, ep, seen e (ob e d), d, r⟩
  have inK : K.In (hidT s₁.heap (soloH a (lstObj vs) ns)) := fun b o e => seen (hK b o e) fun z => by
    subst z
    rw [hno] at e
    cases e
  have hM : Mod K mg (hidT s₁.heap (soloH a (lstObj vs) ns)) := ⟨inK, nsK h1, ⟨mb, nsK h2, h3⟩, let ⟨mc, z1, z2⟩ := h4; ⟨mc, nsK z1, z2⟩⟩
  have hok : HOk P w (soloH a (lstObj vs) ns) s₁.heap := fun b u e => by
    obtain ⟨rfl, rfl⟩ := soloH_some e
    exact ⟨ho, by rw [List.length_map]; exact hl, vs, _, rv, ho⟩
  have e0 : Env0 P w K mg (hidT s₁.heap (soloH a (lstObj vs) ns)) callerA [] s₁ (soloH a (lstObj vs) ns) := ⟨rfl, hM, fun b o e => of_hidT e, Nat.le_of_eq (hidT_size _ _), trivial, fun b hb => absurd (show b ∈ ([] : List Addr) from hb) (by simp), hok, .of_eq h5⟩
  obtain ⟨fd, hb, fn⟩ := F _ inK (nsK h1)
  have hbt : BindsTo s₁ fd ⟨[.ref a], []⟩ ([x].zip [.ref a]) := hb s₁ [.ref a] hK rfl
  have is : IsAll none (soloH a (lstObj vs) ns) [.ref a] [scr ns] := .cons (.scr soloH_at) .nil
  refine codeAny_mono (fn.run none callerA [] s₁ (soloH a (lstObj vs) ns) (soloH a (lstObj vs) ns) ⟨[.ref a], []⟩ [.ref a] [.ref a] [scr ns] (fun v _ => v = .bl true) hr rfl e0 hbt (.cons rfl .nil) (.refl _) (fun _ z => by cases z) (fun _ z => by cases z) is
    (hF.mono fun d hd v G' H' _ i => by
      subst hd
      rcases i with i | ⟨z, _⟩
      · cases i; rfl
      · cases z)) fun r s' h => ?_
  cases r with
  | error e => exact False.elim h
  | ok fl =>
    cases fl with
    | next => exact False.elim h
    | brk => exact False.elim h
    | cont => exact False.elim h
    | ret u =>
      obtain ⟨v, H', os, bare, un, hok', r', q⟩ := h
      obtain rfl : v = .bl true := q
      obtain rfl : u = Value.bool true := r'
      refine ⟨rfl, OldK.of_keep fun b o e => ?_, os, bare⟩
      by_cases hb : b = a
      · subst hb
        rw [ho] at e
        cases e
        exact (hok' _ _ (un.frzs _ _ _ soloH_at)).1
      · exact un.keep b o e (soloH_ne hb) (by intro z; exact absurd (show b ∈ ([] : List Addr) from z) (by simp)) (by simp)
end
theorem notLst_of {K : PySem.W.Frag} (h : (K.all fun p => notLst p.2) = true) {a : Addr} {o : Obj} (e : K.lookup a = some o) : notLst o = true := by
  have : (a, o) ∈ K := by
    clear h
    induction K with
    | nil => cases e
    | cons p r ih =>
      obtain ⟨b, u⟩ := p
      rw [List.lookup_cons] at e
      split at e
      · rename_i q
        cases e
        rw [eq_of_beq q]
        exact List.mem_cons_self
      · exact List.mem_cons_of_mem _ (ih e)
  exact List.all_eq_true.mp h _ this
/-- the goal behind the head -/
theorem walk_g {l : PySem.W.OpenLaw} {n k : Nat} {q : Program} {loose : List Str} {XP : (Str → Option Value) → Heap → Prop} {YP : World → Heap → Prop} {d : DefRec} {K : Params → PySem.W.Frag} {x : Str} {Fn : List D → Out D}
    (hn : l.most = some n) (hn2 : n ≤ sizeLine) (hdf : d.params.defaults = []) (hr : Room k callerA)
    (hY : ∀ (w : World) (h : Heap), YP w h → (K w.params).In h) (hno : ∀ p : Params, ((K p).all fun z => notLst z.2) = true)
    (F : ∀ (w : World) (mg : Str → Option Value) (fa : Addr) (h : Heap), (K w.params).In h → h.Ns mainGlobals mg → mg d.name = some (.ref fa) →
      ∀ base : Heap, (K w.params).In base → base.Ns mainGlobals mg → ∃ fd, Binds (K w.params) fd [x] [] ∧ FnG l.prog w (K w.params) mg base k fa fd [x] Fn)
    (hF : ∀ ns : List Int, ns.length ≤ n → (Fn [scr ns]).All fun d => d = .bool true) :
    PySem.W.WalkO q loose XP YP l.row.toRowW d [] (fun f vs => PySem.call f vs) := by
  refine Att.attach_call hn hdf fun w s₀ s₁ mg mb fa o pm cd doc a vs ns G Y ho hd hcd hmg hobj hints hlen hg => ?_
  have KX := hY w _ Y
  refine call_g KX G.T.g G.T.b G.T.builtins G.T.nolimit hg hobj hints (Nat.le_trans hlen hn2) hr ?_ (F w mg fa _ KX G.T.g hmg) (hF ns hlen)
  cases e : (K w.params).lookup a with
  | none => rfl
  | some u =>
    have := notLst_of (hno w.params) e
    have q := KX a u e
    rw [hobj] at q
    cases q
    cases this
/-- the def that draws -/
theorem xcNone {P : Program} {K : PySem.W.Frag} {mg : Str → Option Value} : XcOk P K mg {} :=
  { mks := fun _ _ _ _ h => (List.not_mem_nil h).elim, mk0s := fun _ _ h => (List.not_mem_nil h).elim, isxs := fun _ _ _ h => (List.not_mem_nil h).elim, xats := fun _ _ h => (List.not_mem_nil h).elim }
def tau0 : Tab := ⟨[], 0, [], fun _ => none, 100, {}⟩
theorem dip_row {P : Program} {w : World} {K : PySem.W.Frag} {mg : Str → Option Value} {base : Heap} {st : Stmt} {f : Addr} {fd : FuncData} {F : Fd} {k : Nat} (Df : Def K mg F.name st f fd) (hb : ∀ x ∈ bltNames, mg x = none)
    (h : (C8.scC F.N F.ps (fnScope st) && chkS ⟨tau0, F.N, [], false⟩ ⟨fnScope st, true, fnScope st⟩ F.body (.l (fnBody st))) = true)
    (hw : ∀ (Γ : Ev.Env) (W : Nat) (ds : List D) (P : D → Prop), (dipD ds).All P → (bodyF false F.N F.ps (ex Γ W F.body) ds).All P) : FnG P w K mg base (k + 1) f fd F.ps dipD := by
  rw [Bool.and_eq_true] at h
  have SC := C8.fnScope_by h.1
  refine FnG.weaken (FnN.g (fn_n (fr := false) (fb := ex (Γof ⟨tau0, F.N, [], false⟩ k) 100 F.body) Df.fn SC fun T cdv A outer s H hr hg => ?_)) (hw _ _)
  have g : Gd ⟨tau0, F.N, [], false⟩ k ⟨fnScope st, true, fnScope st⟩ (cxOf C8.CX0 P w K mg base F.N F.name (fnScope st) f cdv A outer s H C8.E0).nox :=
    ⟨rfl, SC.nd, rfl, hr, hg, rfl, fun _ _ => rfl, hb, (fun _ _ h => by cases h), (fun f F h => by cases h), (fun f F h => by cases h), xcNone⟩
  exact soundS PassesOwn.never SC.kind 100 g F.body h.2
theorem lookup_mem {α : Type} {x : Str} {d : α} : ∀ {l : List (Str × α)}, l.lookup x = some d → (x, d) ∈ l
  | [], h => by cases h
  | (b, u) :: r, h => by
    rw [List.lookup_cons] at h
    split at h
    · rename_i q
      cases h
      rw [eq_of_beq q]
      exact List.mem_cons_self
    · exact List.mem_cons_of_mem _ (lookup_mem h)
/-- a def's row, from the facts of the top -/
theorem def_mk {K : PySem.W.Frag} {h : Heap} {mg : Str → Option Value} {x : Str} {st : Stmt} {f : Addr} {oc kV doc pm cdv ct : Value} {od an : Option Addr} {osl : Array (Option Value)} (X : K.In h) (G : h.Ns mainGlobals mg)
    (e : PySem.W.nsIn K mainGlobals x = some (some (.ref f))) (l : K.lookup f = some ⟨oc, od, .func (PySem.W.fnOf x x (fnArgs st) (fnBody st) (fnScope st) .none kV doc pm an cdv ct), osl⟩) (c : PySem.W.codeIn K cdv x = true) (kp : PySem.W.keepIn K (.ref f) = true) :
    ∃ fd, Def K mg x st f fd ∧ fd.defaults = .none := ⟨_, ⟨⟨_, _, _, _, _, _, _, _, _, _, rfl, l, c⟩, PySem.W.mg_of X G e, kp⟩, rfl⟩
end Ev

set_option Elab.async false
set_option linter.all false
set_option maxRecDepth 100000
set_option maxHeartbeats 4000000
namespace Ev
open PySem L2
/-! ### proved answers, kept -/
mutual
theorem sameD_is : ∀ {a b : D}, sameD a b = true → a = b
  | .none, b, h => by cases b <;> first | rfl | (simp only [sameD] at h; cases h)
  | .bool x, b, h => by
    cases b <;> simp only [sameD] at h <;> first | (cases h; done) | skip
    rw [eq_of_beq h]
  | .int x, b, h => by
    cases b <;> simp only [sameD] at h <;> first | (cases h; done) | skip
    rw [of_decide_eq_true h]
  | .str x, b, h => by
    cases b <;> simp only [sameD] at h <;> first | (cases h; done) | skip
    rw [of_decide_eq_true h]
  | .list xs, b, h => by
    cases b <;> simp only [sameD] at h <;> first | (cases h; done) | skip
    rw [sameL_is h]
  | .tuple xs, b, h => by
    cases b <;> simp only [sameD] at h <;> first | (cases h; done) | skip
    rw [sameL_is h]
  | .dict xs, b, h => by cases b <;> simp only [sameD] at h <;> cases h
theorem sameL_is : ∀ {a b : List D}, sameL a b = true → a = b
  | [], b, h => by cases b <;> first | rfl | (simp only [sameL] at h; cases h)
  | x :: xs, b, h => by
    cases b with
    | nil => simp only [sameL] at h; cases h
    | cons y ys =>
      simp only [sameL, Bool.and_eq_true] at h
      rw [sameD_is h.1, sameL_is h.2]
end
def retIs (o : Out D) (d : D) : Bool := match o with
  | .ret x => sameD x d
  | _ => false
theorem retIs_eq {o : Out D} {d : D} (h : retIs o d = true) : o = .ret d := by
  cases o <;> simp only [retIs] at h <;> first | (cases h; done) | skip
  rw [sameD_is h]
abbrev Ent := List D × D
/-- a table of answers, by the def's number -/
abbrev Mem := List (Nat × List Ent)
def entOk (τ : Tab) (n f : Nat) (e : Ent) : Bool := retIs (callT τ n f e.1) e.2
def lookA (ds : List D) : List Ent → Option D
  | [] => none
  | (a, d) :: r => if sameL a ds = true then some d else lookA ds r
def lookM (f : Nat) (ds : List D) : Mem → Option D
  | [] => none
  | (g, es) :: r => if g = f then lookA ds es else lookM f ds r
def memC (τ : Tab) (m : Mem) (n f : Nat) (ds : List D) : Out D := match lookM f ds m with
  | some d => .ret d
  | none => callT τ n f ds
def MemOk (τ : Tab) (n : Nat) (m : Mem) : Prop := ∀ p ∈ m, ∀ e ∈ p.2, callT τ n p.1 e.1 = .ret e.2
theorem lookA_ok {ds : List D} {d : D} : ∀ {es : List Ent}, lookA ds es = some d → (ds, d) ∈ es
  | [], h => by cases h
  | (a, b) :: r, h => by
    unfold lookA at h
    split at h
    · rename_i q
      cases h
      rw [sameL_is q]
      exact List.mem_cons_self
    · exact List.mem_cons_of_mem _ (lookA_ok h)
theorem lookM_ok {f : Nat} {ds : List D} {d : D} : ∀ {m : Mem}, lookM f ds m = some d → ∃ p ∈ m, p.1 = f ∧ (ds, d) ∈ p.2
  | [], h => by cases h
  | (g, es) :: r, h => by
    unfold lookM at h
    split at h
    · rename_i q
      exact ⟨_, List.mem_cons_self, q, lookA_ok h⟩
    · obtain ⟨p, h1, h2⟩ := lookM_ok h
      exact ⟨p, List.mem_cons_of_mem _ h1, h2⟩
theorem memC_eq {τ : Tab} {m : Mem} {n : Nat} (h : MemOk τ n m) : memC τ m n = callT τ n := by
  funext f ds
  unfold memC
  split
  · rename_i d e
    obtain ⟨p, h1, rfl, h2⟩ := lookM_ok e
    exact (h p h1 _ h2).symm
  · rfl
theorem MemOk.nil {τ : Tab} {n : Nat} : MemOk τ n [] := fun _ h => by cases h
theorem MemOk.cons {τ : Tab} {n f : Nat} {es : List Ent} {m : Mem} (h : (es.all (entOk τ n f)) = true) (t : MemOk τ n m) : MemOk τ n ((f, es) :: m) := fun p hp => by
  rcases List.mem_cons.mp hp with rfl | hp
  · exact fun e he => retIs_eq (List.all_eq_true.mp h e he)
  · exact t p hp
/-- answers got with the help of other answers -/
def entM (τ : Tab) (m : Mem) (n f : Nat) (e : Ent) : Bool := match τ.fns[f]? with
  | some F => decide (f ≠ τ.dip) && (decide (e.1.length = F.ps.length) && retIs ((ex ⟨memC τ m n, callB τ n true, τ.glob⟩ τ.W F.body (startR F.N e.1)).bind retOf) e.2)
  | none => false
theorem entM_ok {τ : Tab} {m : Mem} {n f : Nat} (h : MemOk τ n m) {e : Ent} (q : entM τ m n f e = true) : entOk τ (n + 1) f e = true := by
  unfold entM at q
  split at q
  · rename_i F hF
    simp only [Bool.and_eq_true, decide_eq_true_eq] at q
    obtain ⟨q1, q2, q3⟩ := q
    rw [memC_eq h] at q3
    unfold entOk callT callB
    rw [if_neg q1]
    simp only [hF, q2, Bool.not_false, Bool.true_or, Out.guard_true, decide_true]
    exact q3
  · cases q
theorem MemOk.consM {τ : Tab} {n f : Nat} {es : List Ent} {m m2 : Mem} (h : MemOk τ n m2) (q : (es.all (entM τ m2 n f)) = true) (t : MemOk τ (n + 1) m) : MemOk τ (n + 1) ((f, es) :: m) :=
  .cons (List.all_eq_true.mpr fun e he => entM_ok h (List.all_eq_true.mp q e he)) t
end Ev

set_option Elab.async false
set_option linter.all false
set_option autoImplicit false
set_option maxRecDepth 100000
set_option maxHeartbeats 4000000
namespace Ev
open PySem L2
/-! ### for the laws' own ends -/
theorem All_seq {Γ : Env} {W : Nat} {s r : S} {ρ : Ro} {P : Fl → Prop} : (ex Γ W (.seq s r) ρ).All P ↔ (ex Γ W s ρ).All fun fl => match fl with
    | .nx ρ1 => (ex Γ W r ρ1).All P
    | fl => P fl := by
  simp only [ex]
  rw [Out.All_bind]
  constructor
  · exact fun h => h.mono fun fl q => by cases fl <;> exact q
  · exact fun h => h.mono fun fl q => by cases fl <;> exact q
theorem seq_nx {Γ : Env} {W : Nat} {s r : S} {ρ : Ro} {P : Fl → Prop} {R : Ro → Prop} (h : (ex Γ W s ρ).All fun fl => ∃ ρ1, fl = .nx ρ1 ∧ R ρ1) (k : ∀ ρ1, R ρ1 → (ex Γ W r ρ1).All P) : (ex Γ W (.seq s r) ρ).All P := by
  rw [All_seq]
  refine h.mono fun fl q => ?_
  obtain ⟨ρ1, rfl, hr⟩ := q
  exact k ρ1 hr
theorem forGo_inv {g : Tg} {body : Ro → Out Fl} {R : Ro → Prop} : ∀ (xs : List D) (ρ : Ro), (∀ x ∈ xs, ∀ ρ, R ρ → ∃ ρ1, asgG g x ρ = some ρ1 ∧ (body ρ1).All fun fl => ∃ ρ2, fl = .nx ρ2 ∧ R ρ2) → R ρ → (forGo g body xs ρ).All fun fl => ∃ ρ2, fl = .nx ρ2 ∧ R ρ2
  | [], ρ, _, h => ⟨ρ, rfl, h⟩
  | x :: r, ρ, hb, h => by
    obtain ⟨ρ1, e, hx⟩ := hb x List.mem_cons_self ρ h
    simp only [forGo]
    rw [Out.All_bind, e, Out.ofO_some, Out.All_ret, Out.All_bind]
    refine hx.mono fun fl q => ?_
    obtain ⟨ρ2, rfl, h2⟩ := q
    exact forGo_inv r ρ2 (fun y hy => hb y (List.mem_cons_of_mem _ hy)) h2
theorem for_eq {Γ : Env} {W : Nat} {g : Tg} {it : E} {b : S} {ρ : Ro} {xs : List D} {d : D} (h : ev Γ false it ρ = .ret d) (hi : itemsD d = .ret xs) : ex Γ W (.for_ g it b) ρ = forGo g (ex Γ W b) xs ρ := by
  simp only [ex]
  rw [h, Out.bind_ret, hi, Out.bind_ret]
theorem wip_nx {Γ : Env} {W : Nat} {vs : List Nat} {r : S} {ρ : Ro} {P : Fl → Prop} (h : (ex Γ W r (wipeR ρ vs)).All P) : (ex Γ W (.seq (.wip vs) r) ρ).All P := by
  simp only [ex]
  rw [Out.bind_ret]
  exact h
theorem rng_eq {Γ : Env} {r : Bool} {n : Int} {ρ : Ro} (h : small62 n = true) : ev Γ r (.rng1 (.con (.int n))) ρ = .ret (.list (rngL 0 n.toNat)) := by
  simp only [ev]
  rw [Out.bind_ret, c_asI, Out.bind_ret, h]
  rfl
theorem lc_true {turn : D → Out (Option D)} : ∀ (xs : List D) (n : Nat), (∀ x ∈ xs, (turn x).All fun o => o = some (.bool true)) → (lcGo turn xs (List.replicate n (.bool true))).All fun d => ∃ m, d = .list (List.replicate m (.bool true))
  | [], n, _ => ⟨n, by rw [List.reverse_replicate]⟩
  | x :: r, n, h => by
    simp only [lcGo]
    rw [Out.All_bind]
    refine (h x List.mem_cons_self).mono fun o e => ?_
    subst e
    exact lc_true r (n + 1) fun y hy => h y (List.mem_cons_of_mem _ hy)
theorem bls_true : ∀ m : Nat, blsOf (List.replicate m (PyData.bool true)) = some (List.replicate m true)
  | 0 => rfl
  | m + 1 => by rw [List.replicate_succ, blsOf, bls_true m, List.replicate_succ]; rfl
theorem all_true (m : Nat) : bltD .all [.list (List.replicate m (.bool true))] = .ret (.bool true) := by
  show (Out.ofO (blsOf _)).bind _ = _
  rw [bls_true, Out.ofO_some, Out.bind_ret]
  congr 2
  rw [List.all_eq_true]
  exact fun b hb => (List.mem_replicate.mp hb).2
theorem t_lenS (ns : List Int) : bltD .len [scr ns] = .ret (.int ns.length) := by
  show Out.ret (PyData.int ((ns.map PyData.int).length : Nat)) = _
  rw [List.length_map]
theorem x_idxS (ns : List Int) (i : Int) : ixD (scr ns) (.int i) = .ofO (L2.atI (ns.map PyData.int) i) := rfl
theorem at_int {ns : List Int} {k : Nat} (h : k < ns.length) : ∃ c, L2.atI (ns.map PyData.int) (k : Int) = some (.int c) := by
  refine ⟨ns[k], ?_⟩
  unfold L2.atI L2.ixN
  simp [h]
theorem slS (ns : List Int) (lo hi : Option Int) : slD (scr ns) lo hi = .ret (.list ((cutD ns lo hi).map PyData.int)) := by
  show Out.ret (PyData.list (cutD (ns.map PyData.int) lo hi)) = _
  unfold cutD
  rw [List.length_map, ← List.map_drop, ← List.map_take]
theorem cut_len {α : Type} (xs : List α) (lo hi : Option Int) : (cutD xs lo hi).length ≤ xs.length := by
  unfold cutD
  rw [List.length_take, List.length_drop]
  omega
theorem mem_rngL : ∀ (n : Nat) (lo : Int) (d : D), d ∈ rngL lo n → ∃ k : Nat, k < n ∧ d = .int (lo + k)
  | 0, lo, d, h => by cases h
  | n + 1, lo, d, h => by
    rcases List.mem_cons.mp h with rfl | h
    · exact ⟨0, by omega, by simp⟩
    · obtain ⟨k, h1, rfl⟩ := mem_rngL n (lo + 1) d h
      exact ⟨k + 1, by omega, by congr 1; omega⟩
/-! ### the same with a structure: terms of this type are never unfolded -/
structure Al {α : Type} (P : α → Prop) (o : Out α) : Prop where
  h : o.All P
def NxR (R : Ro → Prop) (fl : Fl) : Prop := ∃ ρ, fl = .nx ρ ∧ R ρ
theorem Al.mono {α : Type} {P Q : α → Prop} {o : Out α} (k : ∀ a, P a → Q a) (h : Al P o) : Al Q o := ⟨h.h.mono k⟩
theorem Al.seq {Γ : Env} {W : Nat} {s r : S} {ρ : Ro} {P : Fl → Prop} (R : Ro → Prop) (h : Al (NxR R) (ex Γ W s ρ)) (k : ∀ ρ1, R ρ1 → Al P (ex Γ W r ρ1)) : Al P (ex Γ W (.seq s r) ρ) :=
  ⟨seq_nx (R := R) h.h fun ρ1 q => (k ρ1 q).h⟩
theorem Al.wip {Γ : Env} {W : Nat} {vs : List Nat} {r : S} {ρ : Ro} {P : Fl → Prop} (ρ1 : Ro) (e : wipeR ρ vs = ρ1) (h : Al P (ex Γ W r ρ1)) : Al P (ex Γ W (.seq (.wip vs) r) ρ) := by
  subst e
  exact ⟨wip_nx h.h⟩
theorem Al.rng {Γ : Env} {W i : Nat} {n : Int} {b : S} {ρ : Ro} {R : Ro → Prop} (hn : small62 n = true) (h0 : R ρ) (hb : ∀ x ρ, R ρ → Al (NxR R) (ex Γ W b (ρ.set i (some (.val x))))) :
    Al (NxR R) (ex Γ W (.for_ (.nm i) (.rng1 (.con (.int n))) b) ρ) := by
  constructor
  rw [for_eq (rng_eq hn) rfl]
  exact forGo_inv _ _ (fun x _ ρ q => ⟨_, g_nm, (hb x ρ q).h⟩) h0
theorem Al.asg {Γ : Env} {W i : Nat} {e : E} {ρ : Ro} {Q : D → Prop} (h : Al Q (ev Γ false e ρ)) : Al (NxR fun ρ1 => ∃ d, Q d ∧ ρ1 = ρ.set i (some (.val d))) (ex Γ W (.asg (.nm i) e) ρ) := by
  constructor
  simp only [ex]
  rw [Out.All_bind]
  refine h.h.mono fun d q => ?_
  rw [g_nm, Out.ofO_some, Out.bind_ret, Out.All_ret]
  exact ⟨_, rfl, d, q, rfl⟩
theorem Al.call {Γ : Env} {r : Bool} {f : Nat} {a : E} {ρ : Ro} {ds : List D} {Q : D → Prop} (ha : ev Γ false a ρ = .ret (.tuple ds)) (h : Al Q (Γ.call f ds)) : Al Q (ev Γ r (.call f a) ρ) := by
  constructor
  simp only [ev]
  rw [ha, Out.bind_ret, c_unt, Out.bind_ret]
  exact h.h
theorem Al.pick {n : Nat} {o : Out D} (h : o = .pick n fun i => .ret (.int i)) : Al (fun d => ∃ i : Nat, i < n ∧ d = .int i) o := by
  subst h
  exact ⟨fun i hi => ⟨i, hi, rfl⟩⟩
end Ev

set_option Elab.async false
set_option linter.all false
set_option autoImplicit false
set_option maxRecDepth 100000
set_option maxHeartbeats 4000000
namespace Ev
open PySem L2 Exn
/-! ### own exceptions: one look at the written part -/
theorem Bk.fb : ∀ b : Bk, ExcBaseFacts b.B b.nw b.i b.bm
  | .val => F.excBase_ValueError
  | .look => F.excBase_LookupError
  | .arith => F.excBase_ArithmeticError
theorem Bk.kf : ∀ b : Bk, PySem.W.KxsFacts b.B b.i
  | .val => PySem.W.kxs_ValueError
  | .look => PySem.W.kxs_LookupError
  | .arith => PySem.W.kxs_ArithmeticError
theorem Bk.sf : ∀ b : Bk, StoreFacts b.B b.bm "object.__setattr__" "object"
  | .val => F.store_ValueError
  | .look => F.store_LookupError
  | .arith => F.store_ArithmeticError
theorem and2 {a b : Bool} (h : (a && b) = true) : a = true ∧ b = true := Bool.and_eq_true_iff.mp h
theorem iniBody_ok {par fld : Str} {b : List Stmt} (h : iniBody par fld b = true) : iniB par fld b := by
  unfold iniBody at h
  split at h
  · obtain ⟨h1, h⟩ := and2 h
    obtain ⟨h2, h⟩ := and2 h
    obtain ⟨h3, h⟩ := and2 h
    obtain ⟨h4, h⟩ := and2 h
    obtain ⟨h5, h⟩ := and2 h
    obtain ⟨h6, h7⟩ := and2 h
    cases of_decide_eq_true h1
    cases of_decide_eq_true h2
    cases of_decide_eq_true h3
    cases of_decide_eq_true h4
    cases of_decide_eq_true h5
    cases of_decide_eq_true h6
    exact ⟨_, _, _, _, _, _, _, _, _, _, h7, rfl⟩
  · cases h
theorem ini_binds {par qual : Str} {prm : Arguments} {body : List Stmt} {sc : Scope} {kV doc pm cdv ct : Value} {an : Option Addr} {cc : Addr} (h : iniArgs par prm = true) (hp : parOk par = true) (s : Shared) (e : Addr) (u : Value) :
    BindsTo s (PySem.W.ksFn "__init__" qual prm body sc .none kV doc pm an cdv ct cc) ⟨[.ref e, u], []⟩ [("self", .ref e), (par, u)] ∧ BindsTo s (PySem.W.ksFn "__init__" qual prm body sc .none kV doc pm an cdv ct cc) ⟨[.ref e], [(par, u)]⟩ [("self", .ref e), (par, u)] := by
  unfold iniArgs at h
  split at h
  · obtain ⟨h1, h2⟩ := and2 h
    cases of_decide_eq_true h1
    cases of_decide_eq_true h2
    unfold parOk at hp
    rw [Bool.or_eq_true, Bool.or_eq_true, decide_eq_true_eq, decide_eq_true_eq, decide_eq_true_eq] at hp
    rcases hp with rfl | rfl | rfl
    · exact ⟨.of_eq rfl, .of_eq rfl⟩
    · exact ⟨.of_eq rfl, .of_eq rfl⟩
    · exact ⟨.of_eq rfl, .of_eq rfl⟩
  · cases h
theorem bodyC_ok {par fld : Str} : ∀ {fb : FuncBody}, bodyC par fld fb = true → ∃ b, fb = .stmts b ∧ iniB par fld b
  | .stmts b, h => ⟨b, rfl, iniBody_ok h⟩
  | .expr _, h => by cases h
theorem cellC_ok {K : PySem.W.Frag} {C cc : Addr} (h : cellC K C cc = true) : ∃ (cl : Value) (cld : Option Addr) (csl : Array (Option Value)), K.lookup cc = some ⟨cl, cld, .cell (some (.ref C)), csl⟩ := by
  unfold cellC at h
  split at h
  · rename_i cl cld D csl lcc
    cases of_decide_eq_true h
    exact ⟨cl, cld, csl, lcc⟩
  · cases h
theorem closC_ok {K : PySem.W.Frag} {C : Addr} : ∀ {l : List (Str × Addr)}, closC K C l = true → ∃ cc, l = [(("__class__" : Str), cc)] ∧ ∃ (cl : Value) (cld : Option Addr) (csl : Array (Option Value)), K.lookup cc = some ⟨cl, cld, .cell (some (.ref C)), csl⟩
  | [], h => by cases h
  | [(x, cc)], h => by
    obtain ⟨h1, h2⟩ := and2 (show (decide (x = "__class__") && cellC K C cc) = true from h)
    cases of_decide_eq_true h1
    exact ⟨cc, rfl, cellC_ok h2⟩
  | _ :: _ :: _, h => by cases h
theorem fileC_ok {P : Program} {K : PySem.W.Frag} {cda : Addr} (h : fileC P K cda = true) : ∃ (ccl : Value) (cdd : Option Addr) (vs : Array Value) (ccs : Array (Option Value)) (file : Str) (tf : Tok), K.lookup cda = some ⟨ccl, cdd, .fields vs, ccs⟩ ∧ vs[2]? = some (.str file tf) ∧ ((P.main.file : Str) == file) = true := by
  unfold fileC at h
  split at h
  · rename_i ccl cdd vs ccs lcd
    split at h
    · rename_i f tf hvs
      exact ⟨ccl, cdd, vs, ccs, f, tf, lcd, hvs, h⟩
    · cases h
  · cases h
theorem codeC_ok {P : Program} {K : PySem.W.Frag} {q : Str} {v : Value} (h : codeC P K q v = true) : ∃ cda, v = .ref cda ∧ PySem.W.codeIn K (.ref cda) q = true ∧ fileC P K cda = true := by
  unfold codeC at h
  split at h
  · rename_i cda
    exact ⟨cda, rfl, (and2 h).1, (and2 h).2⟩
  · cases h
theorem argsC_ok {par : Str} {prm : Arguments} (h : iniArgs par prm = true) : ∃ ar : Arg, (prm.posonlyargs ++ prm.args).head? = some ar ∧ ar.arg = "self" := by
  unfold iniArgs at h
  split at h
  · exact ⟨_, rfl, of_decide_eq_true (and2 h).1⟩
  · cases h
theorem mkC_ok {P : Program} {K : PySem.W.Frag} {m : Xm} (opq : PySem.W.nsIn K cStatics "thirdparty.any" = some none) (top : (P.main.scope.names.lookup ("super" : Str)).isSome = false) (h : mkC P K m = true) :
    PySem.W.nsIn K mainGlobals m.name = some (some (.ref m.C)) ∧ ∃ fd, MkFacts P K m.C m.fI m.b.B m.b.nw m.b.i m.b.bm m.par m.fld fd := by
  unfold mkC at h
  obtain ⟨h1, h⟩ := and2 h
  obtain ⟨h2, h⟩ := and2 h
  obtain ⟨h3, h⟩ := and2 h
  obtain ⟨h4, h⟩ := and2 h
  obtain ⟨h5, h⟩ := and2 h
  obtain ⟨h6, h⟩ := and2 h
  obtain ⟨h7, h⟩ := and2 h
  obtain ⟨h8, h⟩ := and2 h
  obtain ⟨h9, h⟩ := and2 h
  obtain ⟨h10, h⟩ := and2 h
  obtain ⟨h11, h⟩ := and2 h
  obtain ⟨h12, h⟩ := and2 h
  obtain ⟨h13, h⟩ := and2 h
  refine ⟨of_decide_eq_true h1, ?_⟩
  unfold iniC at h
  split at h
  · rename_i oc od fd osl lk
    obtain ⟨name, qual, prm, body, sc, gl, clo, dV, kV, doc, pm, an, cdv, ct, bl⟩ := fd
    dsimp only at h
    obtain ⟨g1, h⟩ := and2 h
    obtain ⟨g2, h⟩ := and2 h
    obtain ⟨g3, h⟩ := and2 h
    obtain ⟨g4, h⟩ := and2 h
    obtain ⟨g5, h⟩ := and2 h
    obtain ⟨g6, h⟩ := and2 h
    obtain ⟨g7, h⟩ := and2 h
    obtain ⟨g8, g9⟩ := and2 h
    cases of_decide_eq_true g1
    cases of_decide_eq_true g2
    cases of_decide_eq_true g3
    cases of_decide_eq_true g4
    obtain ⟨b, rfl, hb⟩ := bodyC_ok g6
    obtain ⟨cc, rfl, cl, cld, csl, lcc⟩ := closC_ok g8
    obtain ⟨cda, rfl, c1, c2⟩ := codeC_ok g9
    obtain ⟨ccl, cdd, vs, ccs, f, tf, lcd, hvs, c3⟩ := fileC_ok c2
    refine ⟨PySem.W.ksFn "__init__" qual prm b sc .none kV doc pm an (.ref cda) ct cc, ⟨m.b.fb, m.b.kf, m.b.sf, h2, h3, of_decide_eq_true h4, h5, of_decide_eq_true h6, of_decide_eq_true h7, of_decide_eq_true h8, opq, of_decide_eq_true h9, top, ?_⟩, h10, of_decide_eq_true h11, of_decide_eq_true h12, ?_, ?_⟩
    · exact ⟨oc, od, qual, prm, b, sc, .none, kV, doc, pm, an, cda, ct, cc, osl, rfl, lk, c1, ⟨ccl, cdd, vs, ccs, f, tf, lcd, hvs, c3⟩, ⟨cl, cld, csl, lcc⟩, hb, g7, argsC_ok g5⟩
    · exact fun s e u => (ini_binds g5 h13 s e u).1
    · exact fun s e u => (ini_binds g5 h13 s e u).2
  · cases h
theorem mk0C_ok {K : PySem.W.Frag} {m : Xz} (h : mk0C K m = true) : PySem.W.nsIn K mainGlobals m.name = some (some (.ref m.C)) ∧ Mk0Facts K m.C m.b.B m.b.nw m.b.i m.b.bm := by
  unfold mk0C at h
  obtain ⟨h1, h⟩ := and2 h
  obtain ⟨h2, h⟩ := and2 h
  obtain ⟨h3, h4⟩ := and2 h
  exact ⟨of_decide_eq_true h1, m.b.fb, h2, h3, of_decide_eq_true h4⟩
theorem excC_ok {K : PySem.W.Frag} {D : Nat} (h : excC K D = true) : ExcC K D := by
  unfold excC at h
  obtain ⟨h1, h⟩ := and2 h
  obtain ⟨h2, h⟩ := and2 h
  obtain ⟨h3, h⟩ := and2 h
  obtain ⟨h4, h⟩ := and2 h
  obtain ⟨h5, h⟩ := and2 h
  obtain ⟨h6, h⟩ := and2 h
  obtain ⟨h7, h8⟩ := and2 h
  exact ⟨of_decide_eq_true h1, of_decide_eq_true h2, of_decide_eq_true h3, h4, of_decide_eq_true h5, of_decide_eq_true h6, of_decide_eq_true h7, of_decide_eq_true h8⟩
theorem bk_boot : ∀ b : Bk, bootBuiltins (bkName b) = some (.type b.B)
  | .val => PyProof.Rows.Boot.«ValueError»
  | .look => PyProof.Rows.Boot.«LookupError»
  | .arith => PyProof.Rows.Boot.«ArithmeticError»
theorem saysC_ok {K : PySem.W.Frag} {cv : Value} {b : Bool} {c : Nat} (h : saysC K cv b c = true) : PySem.W.kitOne K (.ref c) cv = some b := by
  unfold saysC at h
  split at h
  · rename_i a e
    rw [e, eq_of_beq h]
  · cases h
def Xl.xc (l : Xl) : Xc := { mks := l.ms.map fun m => (m.name, m.C, m.par, m.fld), mk0s := l.zs.map fun m => (m.name, m.C), isxs := l.qs.map fun m => (m.x, m.yes, m.no), xats := l.fs }
theorem xc_ok {P : Program} {K : PySem.W.Frag} {h : Heap} {mg : Str → Option Value} {l : Xl} (X : K.In h) (G : h.Ns mainGlobals mg) (sup : PySem.W.nsIn K mainGlobals "super" = some none) (opq : PySem.W.nsIn K cStatics "thirdparty.any" = some none)
    (top : (P.main.scope.names.lookup ("super" : Str)).isSome = false) (h1 : l.ms.all (mkC P K) = true) (h2 : l.zs.all (mk0C K) = true) (h3 : l.all.all (excC K) = true) (h4 : l.qs.all (isxC K l.all) = true) (h5 : l.fs.all (xatC K l.all) = true) : XcOk P K mg l.xc := by
  have hE : ∀ c, l.all.contains c = true → ExcC K c := fun c hc => excC_ok (List.all_eq_true.mp h3 c (List.contains_iff_mem.mp hc))
  refine ⟨fun x C par fld hm => ?_, fun x C hm => ?_, fun x yes no hm => ?_, fun f cs hm c hc => ?_⟩
  · obtain ⟨m, hi, e⟩ := List.mem_map.mp hm
    cases e
    obtain ⟨a, fd, F⟩ := mkC_ok opq top (List.all_eq_true.mp h1 m hi)
    exact ⟨PySem.W.mg_of X G a, PySem.W.mg_none_of X G sup, _, _, _, _, _, fd, F⟩
  · obtain ⟨m, hi, e⟩ := List.mem_map.mp hm
    cases e
    obtain ⟨a, F⟩ := mk0C_ok (List.all_eq_true.mp h2 m hi)
    exact ⟨PySem.W.mg_of X G a, _, _, _, _, F⟩
  · obtain ⟨m, hi, e⟩ := List.mem_map.mp hm
    cases e
    have q := List.all_eq_true.mp h4 m hi
    unfold isxC at q
    obtain ⟨q1, q⟩ := and2 q
    obtain ⟨q2, q3⟩ := and2 q
    refine ⟨m.cv, ?_, fun c hc => ?_, fun c hc => ?_⟩
    · unfold nameC at q1
      unfold Xi.cv
      split at q1
      · rename_i k e
        exact .inl ⟨k, rfl, PySem.W.mg_of X G (of_decide_eq_true q1)⟩
      · rename_i e
        obtain ⟨n1, n2⟩ := and2 q1
        have n1 := of_decide_eq_true n1
        refine .inr ⟨m.b.B, rfl, PySem.W.mg_none_of X G (of_decide_eq_true n2), by rw [n1]; exact bk_boot m.b, ?_⟩
        rw [n1]
        cases m.b <;> decide
    · obtain ⟨r1, r2⟩ := and2 (List.all_eq_true.mp q2 c hc)
      exact ⟨hE c r1, saysC_ok r2⟩
    · obtain ⟨r1, r2⟩ := and2 (List.all_eq_true.mp q3 c hc)
      exact ⟨hE c r1, saysC_ok r2⟩
  · have q := List.all_eq_true.mp h5 (f, cs) hm
    obtain ⟨r1, r2⟩ := and2 (List.all_eq_true.mp q c hc)
    have E := hE c r1
    exact ⟨⟨E.hg, E.hk, E.hs, E.hd⟩, of_decide_eq_true r2⟩
end Ev

set_option Elab.async false
set_option linter.all false
set_option autoImplicit false
set_option maxRecDepth 100000
set_option maxHeartbeats 4000000
namespace Ev
open PySem L2 PyProof.Rows
open C8 (Def Fun fnArgs fnBody fnScope)
/-! ### the top, run once in the kernel; what it leaves is asked by a Hook -/
section
variable {ck : PySem.W.Frag → Bool} {fn : List He.DefD} {K : PySem.W.Frag} {h : Heap} {mg : Str → Option Value}
theorem SaysX.look (c : SaysX ck fn K) : ck K = true := (He.ba (show (ck K && fn.all fun d => d.ok K) = true from congrArg (fun z : AlX => z.1) c)).1
theorem SaysX.def_ (X : K.In h) (G : h.Ns mainGlobals mg) (c : SaysX ck fn K) (i : Nat) {x : Str} {st : Stmt} (e : fn[i]? = some (topD x st)) (g : (He.Fa.glo x).ok K = true) : ∃ fd, Def K mg x st (He.ga K x) fd ∧ fd.defaults = .none := by
  have c2 := (He.ba (show (ck K && fn.all fun d => d.ok K) = true from congrArg (fun z : AlX => z.1) c)).2
  have em : fn.map (fun d => He.fnW K d.at_) = fn.map He.DefD.val := congrArg (fun z : AlX => z.2) c
  have e2 : (fn.map fun d => He.fnW K d.at_)[i]? = (fn.map He.DefD.val)[i]? := by rw [em]
  rw [List.getElem?_map, List.getElem?_map, e] at e2
  obtain ⟨fd, F⟩ := He.DefD.funD (Option.some.inj e2) (List.all_eq_true.mp c2 _ (List.mem_of_getElem? e))
  obtain ⟨oc, od, dV, kV, doc, pm, an, cdv, ct, osl, rfl, lk, cd, df, _⟩ := F.ex
  refine ⟨_, ⟨⟨oc, od, dV, kV, doc, pm, an, cdv, ct, osl, rfl, lk, cd⟩, He.glo_ok X G g, F.kp⟩, ?_⟩
  rcases df with ⟨_, z⟩ | ⟨z, _⟩
  · exact z
  · exact absurd rfl z
end
theorem still_lst {K : PySem.W.Frag} (h : (K.all fun p => stillO p.2) = true) : (K.all fun p => notLst p.2) = true := by
  rw [List.all_eq_true] at h ⊢
  intro p hp
  exact (He.ba (h p hp)).1
/-- the goal behind such a head -/
theorem walk_x {l : PySem.W.OpenLaw} {n k m : Nat} {ck : PySem.W.Frag → Bool} {fn : List He.DefD} {q : Program} {loose : List Str} {XP : (Str → Option Value) → Heap → Prop} {d : DefRec} {x : Str} {Fn : List D → Out D}
    (hn : l.most = some n) (hn2 : n ≤ sizeLine) (hdf : d.params.defaults = []) (hr : Room k callerA)
    (F : ∀ (w : World) (K : PySem.W.Frag) (mg : Str → Option Value) (fa : Addr) (h : Heap), K.In h → SaysX ck fn K → h.Ns mainGlobals mg → mg d.name = some (.ref fa) →
      ∀ base : Heap, K.In base → base.Ns mainGlobals mg → ∃ fd, Binds K fd [x] [] ∧ FnG l.prog w K mg base k fa fd [x] Fn)
    (hF : ∀ ns : List Int, ns.length ≤ n → (Fn [scr ns]).All fun d => d = .bool true) :
    PySem.W.WalkO q loose XP (hookX m ck fn).says l.row.toRowW d [] (fun f vs => PySem.call f vs) := by
  refine Att.attach_call hn hdf fun w s₀ s₁ mg mb fa o pm cd doc a vs ns G Y ho hd hcd hmg hobj hints hlen hg => ?_
  obtain ⟨K, KX, st, c⟩ := Y
  refine call_g KX G.T.g G.T.b G.T.builtins G.T.nolimit hg hobj hints (Nat.le_trans hlen hn2) hr ?_ (F w K mg fa _ KX c G.T.g hmg) (hF ns hlen)
  cases e : K.lookup a with
  | none => rfl
  | some u =>
    have := notLst_of (still_lst st) e
    have q := KX a u e
    rw [hobj] at q
    cases q
    cases this
section
variable {P : Program} {K : PySem.W.Frag} {h : Heap} {mg : Str → Option Value}
theorem ckL_n {ns : List Str} {is_ : List (Str × Int)} {ss : List (Str × Str)} (c : ckL ns is_ ss K = true) : ∀ x ∈ ns, (He.Fa.glo x).ok K = true := fun x hx => List.all_eq_true.mp (He.ba c).1 x hx
theorem ckL_b (X : K.In h) (G : h.Ns mainGlobals mg) {ns : List Str} {is_ : List (Str × Int)} {ss : List (Str × Str)} (c : ckL ns is_ ss K = true) : ∀ x ∈ bltNames, mg x = none := fun x hx => He.free_ok X G (List.all_eq_true.mp (He.ba (He.ba (He.ba c).2).2).2 x hx)
theorem ckL_i (X : K.In h) (G : h.Ns mainGlobals mg) {ns : List Str} {is_ : List (Str × Int)} {ss : List (Str × Str)} (c : ckL ns is_ ss K = true) : ∀ p ∈ is_, ∃ t, mg p.1 = some (.int p.2 t) := fun p hp => He.int_ok X G (List.all_eq_true.mp (He.ba (He.ba c).2).1 p hp)
theorem ckL_s (X : K.In h) (G : h.Ns mainGlobals mg) {ns : List Str} {is_ : List (Str × Int)} {ss : List (Str × Str)} (c : ckL ns is_ ss K = true) : ∀ p ∈ ss, ∃ t, mg p.1 = some (.str p.2 t) := fun p hp => He.str_ok X G (List.all_eq_true.mp (He.ba (He.ba (He.ba c).2).2).1 p hp)
/-- the module's constants -/
def globD (nis : List (Str × Int)) (nss : List (Str × Str)) (x : Str) : Option D := match nis.lookup x with
  | some i => some (.int i)
  | none => (nss.lookup x).map PyData.str
theorem glob_ok (X : K.In h) (G : h.Ns mainGlobals mg) {ns : List Str} {is_ : List (Str × Int)} {ss : List (Str × Str)} (c : ckL ns is_ ss K = true) {x : Str} {d : D} (e : globD is_ ss x = some d) : ∃ u v, mg x = some u ∧ RelV v u ∧ ∀ T G, Is T G v d := by
  unfold globD at e
  split at e
  · rename_i i q
    cases e
    obtain ⟨t, m⟩ := ckL_i X G c _ (lookup_mem q)
    exact ⟨_, .int i, m, ⟨t, rfl⟩, fun _ _ => .int i⟩
  · cases q : ss.lookup x with
    | none => rw [q] at e; cases e
    | some z =>
      rw [q] at e
      cases e
      obtain ⟨t, m⟩ := ckL_s X G c _ (lookup_mem q)
      exact ⟨_, .str z, m, ⟨t, rfl⟩, fun _ _ => .str z⟩
theorem ckX_ok (X : K.In h) (G : h.Ns mainGlobals mg) {xl : Xl} (tp : (P.main.scope.names.lookup ("super" : Str)).isSome = false) (c : ckX P xl K = true) : XcOk P K mg xl.xc := by
  unfold ckX at c
  obtain ⟨c1, c⟩ := He.ba c
  obtain ⟨c2, c⟩ := He.ba c
  obtain ⟨c3, c⟩ := He.ba c
  obtain ⟨c4, c⟩ := He.ba c
  obtain ⟨c5, c⟩ := He.ba c
  obtain ⟨c6, c7⟩ := He.ba c
  exact xc_ok X G (of_decide_eq_true c1) (of_decide_eq_true c2) tp c3 c4 c5 c6 c7
end
end Ev

set_option Elab.async false
set_option linter.all false
set_option maxRecDepth 100000
set_option maxHeartbeats 4000000
namespace K01
open PySem L2 Ev
open C8 (fnBody fnScope scC)
/-! ### the text by places, its defs as Ev reads them -/
def d_law_wrong_values : Fd := ⟨"_law_wrong_values", [], ["found"],
  (.seq (.asg (.nm 0) (.lst (.cons (.mkx "InvalidWord" 46 "given" "given" false (.con (.str "a"))) (.cons (.mkx "InvalidLetter" 67 "given" "given" true (.con (.str "a"))) (.cons (.mkx "InvalidShape" 88 "given" "given" false (.con (.str "a"))) (.cons (.mkx "InvalidRows" 109 "given" "given" true (.con (.str "a"))) (.cons (.mkx "InvalidRow" 130 "given" "given" false (.con (.str "a"))) .nil))))))) (.seq (.asg (.nm 0) (.bin .add (.var 0) (.lst (.cons (.mkx "InvalidHoles" 151 "given" "given" true (.con (.str "a"))) (.cons (.mkx "InvalidPair" 172 "given" "given" false (.con (.str "a"))) (.cons (.mkx "InvalidArray" 193 "given" "given" true (.con (.str "a"))) (.cons (.mkx "InvalidPlace" 214 "given" "given" false (.con (.str "a"))) .nil))))))) (.seq (.asg (.nm 0) (.bin .add (.var 0) (.lst (.cons (.mkx "InvalidNumber" 235 "given" "given" true (.con (.str "a"))) (.cons (.mkx "InvalidAmounts" 256 "given" "given" false (.con (.str "a"))) (.cons (.mkx "InvalidGrowth" 277 "given" "given" true (.con (.str "a"))) (.cons (.mkx "InvalidBasis" 298 "given" "given" false (.con (.str "a"))) .nil))))))) (.seq (.asg (.nm 0) (.bin .add (.var 0) (.lst (.cons (.mkx "InvalidTerms" 319 "given" "given" true (.con (.str "a"))) (.cons (.mkx "InvalidHive" 340 "given" "given" false (.con (.str "a"))) (.cons (.mkx "InvalidHidden" 382 "given" "given" true (.con (.str "a"))) (.cons (.mkx "InvalidText" 403 "given" "given" false (.con (.str "a"))) .nil))))))) (.seq (.asg (.nm 0) (.bin .add (.var 0) (.lst (.cons (.mkx "InvalidName" 424 "given" "given" true (.con (.str "a"))) (.cons (.mkx "InvalidClaim" 445 "given" "given" false (.con (.str "a"))) (.cons (.mkx "InvalidIndex" 466 "given" "given" true (.con (.str "a"))) (.cons (.mkx "InvalidLine" 487 "given" "given" false (.con (.str "a"))) .nil))))))) (.seq (.ret (.bin .add (.var 0) (.lst (.cons (.mkx "NotATable" 508 "given" "given" true (.con (.str "a"))) (.cons (.mkx "NotASkew" 529 "given" "given" false (.con (.str "a"))) (.cons (.mkx "NotAMixture" 550 "given" "given" true (.con (.str "a"))) (.cons (.mkx "InvalidPattern" 361 "given" "given" false (.con (.str "a"))) .nil))))))) .nil))))))⟩
def d_law_kinds : Fd := ⟨"_law_kinds", ["e"], ["e", "found"],
  (.seq (.asg (.nm 1) (.lst (.cons (.isx "WrongValue" [46, 67, 88, 109, 130, 151, 172, 193, 214, 235, 256, 277, 298, 319, 340, 361, 382, 403, 424, 445, 466, 487, 508, 529, 550, 571, 592] [626, 647, 672, 684, 696, 708, 720, 732, 753, 765, 786] (.var 0)) (.cons (.isx "WrongName" [626, 647] [46, 67, 88, 109, 130, 151, 172, 193, 214, 235, 256, 277, 298, 319, 340, 361, 382, 403, 424, 445, 466, 487, 508, 529, 550, 571, 592, 672, 684, 696, 708, 720, 732, 753, 765, 786] (.var 0)) (.cons (.isx "NoAnswer" [672, 684, 696, 708, 720, 732, 753, 765, 786] [46, 67, 88, 109, 130, 151, 172, 193, 214, 235, 256, 277, 298, 319, 340, 361, 382, 403, 424, 445, 466, 487, 508, 529, 550, 571, 592, 626, 647] (.var 0)) .nil))))) (.seq (.ret (.bin .add (.var 1) (.lst (.cons (.isx "ValueError" [46, 67, 88, 109, 130, 151, 172, 193, 214, 235, 256, 277, 298, 319, 340, 361, 382, 403, 424, 445, 466, 487, 508, 529, 550, 571, 592] [626, 647, 672, 684, 696, 708, 720, 732, 753, 765, 786] (.var 0)) (.cons (.isx "LookupError" [626, 647] [46, 67, 88, 109, 130, 151, 172, 193, 214, 235, 256, 277, 298, 319, 340, 361, 382, 403, 424, 445, 466, 487, 508, 529, 550, 571, 592, 672, 684, 696, 708, 720, 732, 753, 765, 786] (.var 0)) (.cons (.isx "ArithmeticError" [672, 684, 696, 708, 720, 732, 753, 765, 786] [46, 67, 88, 109, 130, 151, 172, 193, 214, 235, 256, 277, 298, 319, 340, 361, 382, 403, 424, 445, 466, 487, 508, 529, 550, 571, 592, 626, 647] (.var 0)) .nil)))))) .nil))⟩
def d_law_own : Fd := ⟨"_law_own", ["e"], ["e", "found", "at"],
  (.seq (.own 1 (.lst (.cons (.isx "InvalidWord" [46] [67, 88, 109, 130, 151, 172, 193, 214, 235, 256, 277, 298, 319, 340, 361, 382, 403, 424, 445, 466, 487, 508, 529, 550, 571, 592, 626, 647, 672, 684, 696, 708, 720, 732, 753, 765, 786] (.var 0)) (.cons (.isx "InvalidLetter" [67] [46, 88, 109, 130, 151, 172, 193, 214, 235, 256, 277, 298, 319, 340, 361, 382, 403, 424, 445, 466, 487, 508, 529, 550, 571, 592, 626, 647, 672, 684, 696, 708, 720, 732, 753, 765, 786] (.var 0)) (.cons (.isx "InvalidShape" [88] [46, 67, 109, 130, 151, 172, 193, 214, 235, 256, 277, 298, 319, 340, 361, 382, 403, 424, 445, 466, 487, 508, 529, 550, 571, 592, 626, 647, 672, 684, 696, 708, 720, 732, 753, 765, 786] (.var 0)) .nil))))) (.seq (.own 1 (.bin .add (.pk 1) (.lst (.cons (.isx "InvalidRows" [109] [46, 67, 88, 130, 151, 172, 193, 214, 235, 256, 277, 298, 319, 340, 361, 382, 403, 424, 445, 466, 487, 508, 529, 550, 571, 592, 626, 647, 672, 684, 696, 708, 720, 732, 753, 765, 786] (.var 0)) (.cons (.isx "InvalidRow" [130] [46, 67, 88, 109, 151, 172, 193, 214, 235, 256, 277, 298, 319, 340, 361, 382, 403, 424, 445, 466, 487, 508, 529, 550, 571, 592, 626, 647, 672, 684, 696, 708, 720, 732, 753, 765, 786] (.var 0)) (.cons (.isx "InvalidHoles" [151] [46, 67, 88, 109, 130, 172, 193, 214, 235, 256, 277, 298, 319, 340, 361, 382, 403, 424, 445, 466, 487, 508, 529, 550, 571, 592, 626, 647, 672, 684, 696, 708, 720, 732, 753, 765, 786] (.var 0)) .nil)))))) (.seq (.own 1 (.bin .add (.pk 1) (.lst (.cons (.isx "InvalidPair" [172] [46, 67, 88, 109, 130, 151, 193, 214, 235, 256, 277, 298, 319, 340, 361, 382, 403, 424, 445, 466, 487, 508, 529, 550, 571, 592, 626, 647, 672, 684, 696, 708, 720, 732, 753, 765, 786] (.var 0)) (.cons (.isx "InvalidArray" [193] [46, 67, 88, 109, 130, 151, 172, 214, 235, 256, 277, 298, 319, 340, 361, 382, 403, 424, 445, 466, 487, 508, 529, 550, 571, 592, 626, 647, 672, 684, 696, 708, 720, 732, 753, 765, 786] (.var 0)) (.cons (.isx "InvalidPlace" [214] [46, 67, 88, 109, 130, 151, 172, 193, 235, 256, 277, 298, 319, 340, 361, 382, 403, 424, 445, 466, 487, 508, 529, 550, 571, 592, 626, 647, 672, 684, 696, 708, 720, 732, 753, 765, 786] (.var 0)) .nil)))))) (.seq (.own 1 (.bin .add (.pk 1) (.lst (.cons (.isx "InvalidNumber" [235] [46, 67, 88, 109, 130, 151, 172, 193, 214, 256, 277, 298, 319, 340, 361, 382, 403, 424, 445, 466, 487, 508, 529, 550, 571, 592, 626, 647, 672, 684, 696, 708, 720, 732, 753, 765, 786] (.var 0)) (.cons (.isx "InvalidAmounts" [256] [46, 67, 88, 109, 130, 151, 172, 193, 214, 235, 277, 298, 319, 340, 361, 382, 403, 424, 445, 466, 487, 508, 529, 550, 571, 592, 626, 647, 672, 684, 696, 708, 720, 732, 753, 765, 786] (.var 0)) (.cons (.isx "InvalidGrowth" [277] [46, 67, 88, 109, 130, 151, 172, 193, 214, 235, 256, 298, 319, 340, 361, 382, 403, 424, 445, 466, 487, 508, 529, 550, 571, 592, 626, 647, 672, 684, 696, 708, 720, 732, 753, 765, 786] (.var 0)) .nil)))))) (.seq (.own 1 (.bin .add (.pk 1) (.lst (.cons (.isx "InvalidBasis" [298] [46, 67, 88, 109, 130, 151, 172, 193, 214, 235, 256, 277, 319, 340, 361, 382, 403, 424, 445, 466, 487, 508, 529, 550, 571, 592, 626, 647, 672, 684, 696, 708, 720, 732, 753, 765, 786] (.var 0)) (.cons (.isx "InvalidTerms" [319] [46, 67, 88, 109, 130, 151, 172, 193, 214, 235, 256, 277, 298, 340, 361, 382, 403, 424, 445, 466, 487, 508, 529, 550, 571, 592, 626, 647, 672, 684, 696, 708, 720, 732, 753, 765, 786] (.var 0)) (.cons (.isx "InvalidHive" [340] [46, 67, 88, 109, 130, 151, 172, 193, 214, 235, 256, 277, 298, 319, 361, 382, 403, 424, 445, 466, 487, 508, 529, 550, 571, 592, 626, 647, 672, 684, 696, 708, 720, 732, 753, 765, 786] (.var 0)) .nil)))))) (.seq (.own 1 (.bin .add (.pk 1) (.lst (.cons (.isx "InvalidHidden" [382] [46, 67, 88, 109, 130, 151, 172, 193, 214, 235, 256, 277, 298, 319, 340, 361, 403, 424, 445, 466, 487, 508, 529, 550, 571, 592, 626, 647, 672, 684, 696, 708, 720, 732, 753, 765, 786] (.var 0)) (.cons (.isx "InvalidText" [403] [46, 67, 88, 109, 130, 151, 172, 193, 214, 235, 256, 277, 298, 319, 340, 361, 382, 424, 445, 466, 487, 508, 529, 550, 571, 592, 626, 647, 672, 684, 696, 708, 720, 732, 753, 765, 786] (.var 0)) (.cons (.isx "InvalidName" [424] [46, 67, 88, 109, 130, 151, 172, 193, 214, 235, 256, 277, 298, 319, 340, 361, 382, 403, 445, 466, 487, 508, 529, 550, 571, 592, 626, 647, 672, 684, 696, 708, 720, 732, 753, 765, 786] (.var 0)) .nil)))))) (.seq (.own 1 (.bin .add (.pk 1) (.lst (.cons (.isx "InvalidClaim" [445] [46, 67, 88, 109, 130, 151, 172, 193, 214, 235, 256, 277, 298, 319, 340, 361, 382, 403, 424, 466, 487, 508, 529, 550, 571, 592, 626, 647, 672, 684, 696, 708, 720, 732, 753, 765, 786] (.var 0)) (.cons (.isx "InvalidIndex" [466] [46, 67, 88, 109, 130, 151, 172, 193, 214, 235, 256, 277, 298, 319, 340, 361, 382, 403, 424, 445, 487, 508, 529, 550, 571, 592, 626, 647, 672, 684, 696, 708, 720, 732, 753, 765, 786] (.var 0)) (.cons (.isx "InvalidLine" [487] [46, 67, 88, 109, 130, 151, 172, 193, 214, 235, 256, 277, 298, 319, 340, 361, 382, 403, 424, 445, 466, 508, 529, 550, 571, 592, 626, 647, 672, 684, 696, 708, 720, 732, 753, 765, 786] (.var 0)) .nil)))))) (.seq (.own 1 (.bin .add (.pk 1) (.lst (.cons (.isx "NotATable" [508] [46, 67, 88, 109, 130, 151, 172, 193, 214, 235, 256, 277, 298, 319, 340, 361, 382, 403, 424, 445, 466, 487, 529, 550, 571, 592, 626, 647, 672, 684, 696, 708, 720, 732, 753, 765, 786] (.var 0)) (.cons (.isx "NotASkew" [529] [46, 67, 88, 109, 130, 151, 172, 193, 214, 235, 256, 277, 298, 319, 340, 361, 382, 403, 424, 445, 466, 487, 508, 550, 571, 592, 626, 647, 672, 684, 696, 708, 720, 732, 753, 765, 786] (.var 0)) (.cons (.isx "NotAMixture" [550] [46, 67, 88, 109, 130, 151, 172, 193, 214, 235, 256, 277, 298, 319, 340, 361, 382, 403, 424, 445, 466, 487, 508, 529, 571, 592, 626, 647, 672, 684, 696, 708, 720, 732, 753, 765, 786] (.var 0)) (.cons (.isx "InvalidPattern" [361] [46, 67, 88, 109, 130, 151, 172, 193, 214, 235, 256, 277, 298, 319, 340, 382, 403, 424, 445, 466, 487, 508, 529, 550, 571, 592, 626, 647, 672, 684, 696, 708, 720, 732, 753, 765, 786] (.var 0)) .nil))))))) (.seq (.own 1 (.bin .add (.pk 1) (.lst (.cons (.isx "InvalidDeeds" [571] [46, 67, 88, 109, 130, 151, 172, 193, 214, 235, 256, 277, 298, 319, 340, 361, 382, 403, 424, 445, 466, 487, 508, 529, 550, 592, 626, 647, 672, 684, 696, 708, 720, 732, 753, 765, 786] (.var 0)) (.cons (.isx "InvalidLog" [592] [46, 67, 88, 109, 130, 151, 172, 193, 214, 235, 256, 277, 298, 319, 340, 361, 382, 403, 424, 445, 466, 487, 508, 529, 550, 571, 626, 647, 672, 684, 696, 708, 720, 732, 753, 765, 786] (.var 0)) (.cons (.isx "UnknownName" [626] [46, 67, 88, 109, 130, 151, 172, 193, 214, 235, 256, 277, 298, 319, 340, 361, 382, 403, 424, 445, 466, 487, 508, 529, 550, 571, 592, 647, 672, 684, 696, 708, 720, 732, 753, 765, 786] (.var 0)) .nil)))))) (.seq (.own 1 (.bin .add (.pk 1) (.lst (.cons (.isx "InUse" [647] [46, 67, 88, 109, 130, 151, 172, 193, 214, 235, 256, 277, 298, 319, 340, 361, 382, 403, 424, 445, 466, 487, 508, 529, 550, 571, 592, 626, 672, 684, 696, 708, 720, 732, 753, 765, 786] (.var 0)) (.cons (.isx "NotStandard" [672] [46, 67, 88, 109, 130, 151, 172, 193, 214, 235, 256, 277, 298, 319, 340, 361, 382, 403, 424, 445, 466, 487, 508, 529, 550, 571, 592, 626, 647, 684, 696, 708, 720, 732, 753, 765, 786] (.var 0)) (.cons (.isx "NotInside" [684] [46, 67, 88, 109, 130, 151, 172, 193, 214, 235, 256, 277, 298, 319, 340, 361, 382, 403, 424, 445, 466, 487, 508, 529, 550, 571, 592, 626, 647, 672, 696, 708, 720, 732, 753, 765, 786] (.var 0)) .nil)))))) (.seq (.own 1 (.bin .add (.pk 1) (.lst (.cons (.isx "UnlikeSizes" [696] [46, 67, 88, 109, 130, 151, 172, 193, 214, 235, 256, 277, 298, 319, 340, 361, 382, 403, 424, 445, 466, 487, 508, 529, 550, 571, 592, 626, 647, 672, 684, 708, 720, 732, 753, 765, 786] (.var 0)) (.cons (.isx "UnlikeShapes" [708] [46, 67, 88, 109, 130, 151, 172, 193, 214, 235, 256, 277, 298, 319, 340, 361, 382, 403, 424, 445, 466, 487, 508, 529, 550, 571, 592, 626, 647, 672, 684, 696, 720, 732, 753, 765, 786] (.var 0)) (.cons (.isx "NoMove" [720] [46, 67, 88, 109, 130, 151, 172, 193, 214, 235, 256, 277, 298, 319, 340, 361, 382, 403, 424, 445, 466, 487, 508, 529, 550, 571, 592, 626, 647, 672, 684, 696, 708, 732, 753, 765, 786] (.var 0)) .nil)))))) (.seq (.own 1 (.bin .add (.pk 1) (.lst (.cons (.isx "NotReduced" [732] [46, 67, 88, 109, 130, 151, 172, 193, 214, 235, 256, 277, 298, 319, 340, 361, 382, 403, 424, 445, 466, 487, 508, 529, 550, 571, 592, 626, 647, 672, 684, 696, 708, 720, 753, 765, 786] (.var 0)) (.cons (.isx "TooMany" [753] [46, 67, 88, 109, 130, 151, 172, 193, 214, 235, 256, 277, 298, 319, 340, 361, 382, 403, 424, 445, 466, 487, 508, 529, 550, 571, 592, 626, 647, 672, 684, 696, 708, 720, 732, 765, 786] (.var 0)) (.cons (.isx "NothingToUndo" [765] [46, 67, 88, 109, 130, 151, 172, 193, 214, 235, 256, 277, 298, 319, 340, 361, 382, 403, 424, 445, 466, 487, 508, 529, 550, 571, 592, 626, 647, 672, 684, 696, 708, 720, 732, 753, 786] (.var 0)) .nil)))))) (.seq (.app 1 (.isx "Broken" [786] [46, 67, 88, 109, 130, 151, 172, 193, 214, 235, 256, 277, 298, 319, 340, 361, 382, 403, 424, 445, 466, 487, 508, 529, 550, 571, 592, 626, 647, 672, 684, 696, 708, 720, 732, 753, 765] (.var 0))) (.seq (.ret (.lc [2] (.nm 2) (.rng1 (.con (.int 38))) (.idx (.pk 1) (.var 2)) (.var 2))) .nil))))))))))))))⟩
def d_law : Fd := ⟨"law", ["script"], ["script", "told", "every", "bases", "e", "at"],
  (.seq (.asg (.nm 1) (.lst (.cons (.glb "MOST_LETTER") (.cons (.glb "MOST_LONG") (.cons (.glb "MOST_HOLES") (.cons (.glb "MOST_BOXES") (.cons (.glb "MOST_DEGREE") (.cons (.glb "MOST_ROWS") (.cons (.glb "MOST_MOVED") (.cons (.glb "MOST_LISTED") .nil)))))))))) (.seq (.ife (.cmp .ne (.var 1) (.lst (.cons (.con (.int 12)) (.cons (.con (.int 12)) (.cons (.con (.int 66)) (.cons (.con (.int 40)) (.cons (.con (.int 8)) (.cons (.con (.int 4)) (.cons (.con (.int 9)) (.cons (.con (.int 2000)) .nil)))))))))) (.seq (.ret (.con (.bool false))) .nil) .nil) (.seq (.asg (.nm 2) (.bin .add (.call 0 .nil) (.lst (.cons (.mkx "InvalidDeeds" 571 "index" "index" false (.con .none)) (.cons (.mkx "InvalidLog" 592 "index" "index" true (.con (.int 4))) (.cons (.mkx "UnknownName" 626 "given" "given" false (.lst .nil)) (.cons (.mkx "InUse" 647 "index" "index" true (.con (.int 3))) .nil))))))) (.seq (.asg (.nm 2) (.bin .add (.var 2) (.lst (.cons (.mk0 "NotStandard" 672) (.cons (.mk0 "NotInside" 684) (.cons (.mk0 "UnlikeSizes" 696) (.cons (.mk0 "UnlikeShapes" 708) (.cons (.mk0 "NoMove" 720) (.cons (.mk0 "NotReduced" 732) .nil))))))))) (.seq (.asg (.nm 2) (.bin .add (.var 2) (.lst (.cons (.mkx "TooMany" 753 "limit" "limit" true (.con (.int 8))) (.cons (.mk0 "NothingToUndo" 765) (.cons (.mkx "Broken" 786 "index" "index" true (.con (.int 6))) .nil)))))) (.seq (.ife (.cmp .ne (.lc [4] (.nm 4) (.var 2) (.con (.bool true)) (.call 2 (.cons (.var 4) .nil))) (.lc [5] (.nm 5) (.rng1 (.con (.int 38))) (.con (.bool true)) (.lst (.cons (.var 5) .nil)))) (.seq (.ret (.con (.bool false))) .nil) .nil) (.seq (.asg (.nm 3) (.lc [4] (.nm 4) (.var 2) (.con (.bool true)) (.call 1 (.cons (.var 4) .nil)))) (.seq (.ife (.repEq true (.slc (.var 3) .nil (.con (.int 27))) (.lc [5] (.nm 5) (.rng1 (.con (.int 27))) (.con (.bool true)) (.lst (.cons (.con (.bool true)) (.cons (.con (.bool false)) (.cons (.con (.bool false)) (.cons (.con (.bool true)) (.cons (.con (.bool false)) (.cons (.con (.bool false)) .nil))))))))) (.seq (.ret (.con (.bool false))) .nil) .nil) (.seq (.ife (.repEq true (.slc (.var 3) (.con (.int 27)) (.con (.int 29))) (.lc [5] (.nm 5) (.rng1 (.con (.int 2))) (.con (.bool true)) (.lst (.cons (.con (.bool false)) (.cons (.con (.bool true)) (.cons (.con (.bool false)) (.cons (.con (.bool false)) (.cons (.con (.bool true)) (.cons (.con (.bool false)) .nil))))))))) (.seq (.ret (.con (.bool false))) .nil) .nil) (.seq (.ife (.repEq true (.slc (.var 3) (.con (.int 29)) .nil) (.lc [5] (.nm 5) (.rng1 (.con (.int 9))) (.con (.bool true)) (.lst (.cons (.con (.bool false)) (.cons (.con (.bool false)) (.cons (.con (.bool true)) (.cons (.con (.bool false)) (.cons (.con (.bool false)) (.cons (.con (.bool true)) .nil))))))))) (.seq (.ret (.con (.bool false))) .nil) .nil) (.seq (.ife (.or (.cmp .ne (.lc [4] (.nm 4) (.slc (.var 2) .nil (.con (.int 25))) (.con (.bool true)) (.xat "given" [46, 67, 88, 109, 130, 151, 172, 193, 214, 235, 256, 277, 298, 319, 340, 361, 382, 403, 424, 445, 466, 487, 508, 529, 550, 626] (.var 4))) (.lc [5] (.nm 5) (.rng1 (.con (.int 25))) (.con (.bool true)) (.con (.str "a")))) (.isn true (.xat "index" [571, 592, 647, 786] (.idx (.var 2) (.con (.int 25)))))) (.seq (.ret (.con (.bool false))) .nil) .nil) (.seq (.ret (.repEq false (.lst (.cons (.xat "index" [571, 592, 647, 786] (.idx (.var 2) (.con (.int 26)))) (.cons (.xat "given" [46, 67, 88, 109, 130, 151, 172, 193, 214, 235, 256, 277, 298, 319, 340, 361, 382, 403, 424, 445, 466, 487, 508, 529, 550, 626] (.idx (.var 2) (.con (.int 27)))) (.cons (.xat "index" [571, 592, 647, 786] (.idx (.var 2) (.con (.int 28)))) (.cons (.xat "limit" [753] (.idx (.var 2) (.con (.int 35)))) (.cons (.xat "index" [571, 592, 647, 786] (.idx (.var 2) (.con (.int 37)))) .nil)))))) (.lst (.cons (.con (.int 4)) (.cons (.lst .nil) (.cons (.con (.int 3)) (.cons (.con (.int 8)) (.cons (.con (.int 6)) .nil)))))))) .nil))))))))))))⟩
def fns : List Fd := [d_law_wrong_values, d_law_kinds, d_law_own, d_law]
def kws : List (Nat × Nat × List Str × List Nat) := []
def globs : List (Str × D) := [("MOST_LETTER", .int 12), ("MOST_LONG", .int 12), ("MOST_HOLES", .int 66), ("MOST_BOXES", .int 40), ("MOST_DEGREE", .int 8), ("MOST_ROWS", .int 4), ("MOST_MOVED", .int 9), ("MOST_LISTED", .int 2000)]
def xc : Xc := xl.xc
def τ : Tab := ⟨fns, 4, [], fun x => globs.lookup x, 100000, xc⟩
theorem c_law_wrong_values : (scC d_law_wrong_values.N d_law_wrong_values.ps (fnScope (top 51)) && chkS ⟨τ, d_law_wrong_values.N, kws, false⟩ ⟨fnScope (top 51), true, fnScope (top 51)⟩ d_law_wrong_values.body (.l (fnBody (top 51)))) = true := by decide +kernel
theorem c_law_kinds : (scC d_law_kinds.N d_law_kinds.ps (fnScope (top 52)) && chkS ⟨τ, d_law_kinds.N, kws, false⟩ ⟨fnScope (top 52), true, fnScope (top 52)⟩ d_law_kinds.body (.l (fnBody (top 52)))) = true := by decide +kernel
theorem c_law_own : (scC d_law_own.N d_law_own.ps (fnScope (top 53)) && chkS ⟨τ, d_law_own.N, kws, false⟩ ⟨fnScope (top 53), true, fnScope (top 53)⟩ d_law_own.body (.l (fnBody (top 53)))) = true := by decide +kernel
theorem c_law : (scC d_law.N d_law.ps (fnScope (top 54)) && chkS ⟨τ, d_law.N, kws, false⟩ ⟨fnScope (top 54), true, fnScope (top 54)⟩ d_law.body (.l (fnBody (top 54)))) = true := by decide +kernel
end K01

set_option Elab.async false
set_option linter.all false
set_option maxRecDepth 1000000
set_option maxHeartbeats 0
namespace K01
open PySem L2 Ev
theorem law_is (ns : List Int) : callT τ 3 3 [scr ns] = .ret (.bool true) := by kernel_rfl
theorem law_true : ∀ ns : List Int, ns.length ≤ 63 → (callT τ 3 3 [scr ns]).All fun d => d = .bool true := fun ns _ => by
  rw [law_is]
  exact rfl
end K01

set_option Elab.async false
set_option linter.all false
set_option maxRecDepth 100000
set_option maxHeartbeats 0
namespace K01
open PySem L2 Ev
section
variable {P : Program} {w : World} {K : PySem.W.Frag} {mg : Str → Option Value} {base : Heap}
theorem r_law_wrong_values {f : Addr} {fd : FuncData} (Df : C8.Def K mg "_law_wrong_values" (top 51) f fd) (df : fd.defaults = .none) : RowOk P w K mg base τ kws 0 d_law_wrong_values := by
  refine ⟨top 51, f, fd, Df, Df.fn.binds df ?_, ?_, ?_, ?_⟩
  · exact fun _ _ _ _ _ _ us hl => match us, hl with | [], _ => rfl
  · intro m ks perm h
    simp [kws] at h
  · have h := c_law_wrong_values
    rw [Bool.and_eq_true] at h
    exact fun _ => ⟨h.1, h.2, fun h => absurd h (by decide)⟩
  · exact fun h => absurd h (by decide)
theorem r_law_kinds {f : Addr} {fd : FuncData} (Df : C8.Def K mg "_law_kinds" (top 52) f fd) (df : fd.defaults = .none) : RowOk P w K mg base τ kws 1 d_law_kinds := by
  refine ⟨top 52, f, fd, Df, Df.fn.binds df ?_, ?_, ?_, ?_⟩
  · exact fun _ _ _ _ _ _ us hl => match us, hl with | [_], _ => rfl
  · intro m ks perm h
    simp [kws] at h
  · have h := c_law_kinds
    rw [Bool.and_eq_true] at h
    exact fun _ => ⟨h.1, h.2, fun h => absurd h (by decide)⟩
  · exact fun h => absurd h (by decide)
theorem r_law_own {f : Addr} {fd : FuncData} (Df : C8.Def K mg "_law_own" (top 53) f fd) (df : fd.defaults = .none) : RowOk P w K mg base τ kws 2 d_law_own := by
  refine ⟨top 53, f, fd, Df, Df.fn.binds df ?_, ?_, ?_, ?_⟩
  · exact fun _ _ _ _ _ _ us hl => match us, hl with | [_], _ => rfl
  · intro m ks perm h
    simp [kws] at h
  · have h := c_law_own
    rw [Bool.and_eq_true] at h
    exact fun _ => ⟨h.1, h.2, fun h => absurd h (by decide)⟩
  · exact fun h => absurd h (by decide)
theorem r_law {f : Addr} {fd : FuncData} (Df : C8.Def K mg "law" (top 54) f fd) (df : fd.defaults = .none) : RowOk P w K mg base τ kws 3 d_law := by
  refine ⟨top 54, f, fd, Df, Df.fn.binds df ?_, ?_, ?_, ?_⟩
  · exact fun _ _ _ _ _ _ us hl => match us, hl with | [_], _ => rfl
  · intro m ks perm h
    simp [kws] at h
  · have h := c_law
    rw [Bool.and_eq_true] at h
    exact fun _ => ⟨h.1, h.2, fun h => absurd h (by decide)⟩
  · exact fun h => absurd h (by decide)
end
section
variable {w : World} {K : PySem.W.Frag} {mg : Str → Option Value} {base : Heap}
theorem tab_ok {h : Heap} (X : K.In h) (G : h.Ns mainGlobals mg) (c : SaysX ck fnsD K) : TabOk Pq w K mg base τ kws := by
  obtain ⟨c1, c2⟩ := He.ba c.look
  have hb := ckL_b X G c1
  obtain ⟨fd0, D0, q0⟩ := c.def_ X G 0 (x := "_law_wrong_values") (st := top 51) rfl (ckL_n c1 _ (by simp [names, names0]))
  obtain ⟨fd1, D1, q1⟩ := c.def_ X G 1 (x := "_law_kinds") (st := top 52) rfl (ckL_n c1 _ (by simp [names, names0]))
  obtain ⟨fd2, D2, q2⟩ := c.def_ X G 2 (x := "_law_own") (st := top 53) rfl (ckL_n c1 _ (by simp [names, names0]))
  obtain ⟨fd3, D3, q3⟩ := c.def_ X G 3 (x := "law") (st := top 54) rfl (ckL_n c1 _ (by simp [names, names0]))
  refine ⟨hb, fun x d h => ?_, fun f F h => ?_, ckX_ok X G rfl c2⟩
  · have h := lookup_mem (l := globs) h
    simp [globs] at h
    rcases h with ⟨rfl, rfl⟩ | ⟨rfl, rfl⟩ | ⟨rfl, rfl⟩ | ⟨rfl, rfl⟩ | ⟨rfl, rfl⟩ | ⟨rfl, rfl⟩ | ⟨rfl, rfl⟩ | ⟨rfl, rfl⟩
    · obtain ⟨t, m⟩ := ckL_i X G c1 ("MOST_LETTER", 12) (by simp [ints_]); exact ⟨_, .int 12, m, ⟨t, rfl⟩, fun _ _ => .int _⟩
    · obtain ⟨t, m⟩ := ckL_i X G c1 ("MOST_LONG", 12) (by simp [ints_]); exact ⟨_, .int 12, m, ⟨t, rfl⟩, fun _ _ => .int _⟩
    · obtain ⟨t, m⟩ := ckL_i X G c1 ("MOST_HOLES", 66) (by simp [ints_]); exact ⟨_, .int 66, m, ⟨t, rfl⟩, fun _ _ => .int _⟩
    · obtain ⟨t, m⟩ := ckL_i X G c1 ("MOST_BOXES", 40) (by simp [ints_]); exact ⟨_, .int 40, m, ⟨t, rfl⟩, fun _ _ => .int _⟩
    · obtain ⟨t, m⟩ := ckL_i X G c1 ("MOST_DEGREE", 8) (by simp [ints_]); exact ⟨_, .int 8, m, ⟨t, rfl⟩, fun _ _ => .int _⟩
    · obtain ⟨t, m⟩ := ckL_i X G c1 ("MOST_ROWS", 4) (by simp [ints_]); exact ⟨_, .int 4, m, ⟨t, rfl⟩, fun _ _ => .int _⟩
    · obtain ⟨t, m⟩ := ckL_i X G c1 ("MOST_MOVED", 9) (by simp [ints_]); exact ⟨_, .int 9, m, ⟨t, rfl⟩, fun _ _ => .int _⟩
    · obtain ⟨t, m⟩ := ckL_i X G c1 ("MOST_LISTED", 2000) (by simp [ints_]); exact ⟨_, .int 2000, m, ⟨t, rfl⟩, fun _ _ => .int _⟩
  match f, h with
  | 0, h => cases h; exact r_law_wrong_values D0 q0
  | 1, h => cases h; exact r_law_kinds D1 q1
  | 2, h => cases h; exact r_law_own D2 q2
  | 3, h => cases h; exact r_law D3 q3
  | n + 4, h => cases h
theorem law_g {h : Heap} {fa : Addr} (X : K.In h) (G : h.Ns mainGlobals mg) (hfa : mg "law" = some (.ref fa)) (c : SaysX ck fnsD K) : ∃ fd, Binds K fd ["script"] [] ∧ FnG Pq w K mg base 3 fa fd ["script"] (callT τ 3 3) := by
  have t : TabOk Pq w K mg base τ kws := tab_ok X G c
  obtain ⟨a, fd, q1, q2, _, q4, _⟩ := (tab_fns t 3).1 3 d_law rfl
  rw [show d_law.name = "law" from rfl, hfa] at q2
  cases q2
  exact ⟨fd, q4, q1⟩
end
end K01
open PySem PySem.W PySem.Calls PyProof.Rows
theorem PySem.Challenge.cw_shapelore_k01_constants_and_errors_holds : PySem.Challenge.rw_shapelore_k01_constants_and_errors.Holds := by
  w_on; o_law
  refine HandSHeadRun.head_any (r := OpenLaw.row PySem.Challenge.rw_shapelore_k01_constants_and_errors) (q := view (OpenLaw.row PySem.Challenge.rw_shapelore_k01_constants_and_errors).prog [54]) (H := K01.hk) (ob := K01.ob) (M := 20000) (loose := K01.loose) (d := HandSHeadRun.topDef (OpenLaw.row PySem.Challenge.rw_shapelore_k01_constants_and_errors).prog 54) (kwd := []) K01.ob_eq
    (by kernel_rfl) (fun s => by kernel_rfl) K01.run (by kernel_rfl) (by kernel_rfl) (by kernel_rfl) (by rfl) (by first | assumption | decide +kernel) (by decide +kernel) ⟨rfl, rfl, rfl, rfl, rfl, by decide +kernel⟩ ?hw ?hc
  case hw => w_witness2
  case hc =>
    refine Ev.walk_x (l := PySem.Challenge.rw_shapelore_k01_constants_and_errors) (n := 63) (k := 3) (x := "script") (Fn := Ev.callT K01.τ 3 3) (ck := K01.ck) (fn := K01.fnsD) (m := 5) rfl (by decide) (by kernel_rfl) ⟨rfl, by decide, by decide⟩ ?F @K01.law_true
    intro w K mg fa h KX c G hmg0 base KB GB
    have hmg : mg ("law" : PySem.Str) = some (.ref fa) := by
      have e : (HandSHeadRun.topDef (OpenLaw.row PySem.Challenge.rw_shapelore_k01_constants_and_errors).prog 54).name = ("law" : PySem.Str) := by kernel_rfl
      rw [← e]
      exact hmg0
    exact K01.law_g KX G hmg c

