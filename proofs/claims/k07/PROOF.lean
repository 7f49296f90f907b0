import PyProof.Rows.All
import Wide.All
import OpenK.AllK
import Wide.FinOn
import KE.KExcPX
import KE.KExcSuper
import KE.KExcMake
import KE.KSuper
import KE.KIsAll
import KE.KTryMore
import KE.KExcIs
import HandS.Codes
import HandS.Head0
import HandS.Head1
import HandS.Head2
import HandS.HeadHook1
import HandS.HeadHook2
import PySem.Challenge.RW_shapelore_k07_shapes_refused
import HandS.ForMost
import HandS.Walk
import HandS.TupAny
import HandS.TupMul
import HandS.Deep
import HandS.Wide
import HandS.Star
import HandS.Style
import HandS.IsInst
import HandS.Zip
import KE.SortData
import HandS.Sort
import KE.GoesMore
import PyProof.EnumMake
import KE.DataFind
import HandS.ExcInit
import HandS.ExcSuper
import HandS.ExcField
import HandS.ExcIs
import HandS.Lambda
import HandS.HotCalls
import HandS.Flt
import HandS.Conv
import HandS.TupLen
import HandS.WordsDict
import HandS.DictTup
import KE.KDictKeyed
import KE.KDictDisplayH
import HandS.NoneIn
import HandS.ExcValue
import HandS.Ends
set_option Elab.async false
set_option linter.all false
set_option autoImplicit false
set_option maxRecDepth 100000
set_option maxHeartbeats 4000000
namespace Exn
open PySem PySem.W PyProof.Rows
open Builtin
open ObjectAttr
/-- a look at such an __init__'s scope -/
def iniS (par : Str) (sc : Scope) : Bool :=
  decide (sc.kind = .function) && !sc.isCoroutine && !sc.isGenerator && sc.names.all (fun y => !decide (y.2 = .cell)) && decide (sc.names.lookup ("super" : Str) = some .globalImplicit) && decide (sc.names.lookup ("__class__" : Str) = some .free) &&
    decide (sc.names.lookup ("self" : Str) = some .local) && decide (sc.names.lookup par = some .local) && !decide (par = "self") && !(par == ("__debug__" : Str))
end Exn
namespace Ev
open PySem L2 PyProof.Rows Exn
open C8 (Def Fun fnArgs fnBody fnScope)
def bltNames : List Str := ["len", "sum", "max", "min", "all", "any", "tuple", "list", "sorted", "abs", "int", "divmod", "str", "bool", "dict", "isinstance", "repr", "range", "enumerate", "zip"]
abbrev tabObj0 : Obj := { cls := .none, data := .fields #[] }
def notLst (o : Obj) : Bool := match o.data with
  | .seq .. => (match o.cls with | .type n => !(n == "list") | _ => true)
  | _ => true
inductive Bk where
  | val | look | arith
def Bk.B : Bk → String
  | .val => "ValueError"
  | .look => "LookupError"
  | .arith => "ArithmeticError"
def Bk.nw : Bk → String
  | .val => "ValueError.__new__"
  | .look => "LookupError.__new__"
  | .arith => "ArithmeticError.__new__"
def Bk.i : Bk → String
  | .val => "ValueError.__init__"
  | .look => "LookupError.__init__"
  | .arith => "ArithmeticError.__init__"
def Bk.bm (b : Bk) : List Value := [.type b.B, .type "Exception", .type "BaseException", .type "object"]
def iniBody (par fld : Str) : List Stmt → Bool
  | [.Expr (.Call (.Attribute (.Call (.Name s0 _) [] [] _) m p2) [.Name x _] [] p4) _, .Assign [.Attribute (.Name s1 _) f _] (.Name y _) _] =>
    decide (s0 = "super") && (decide (m = "__init__") && (decide (x = par) && (decide (s1 = "self") && (decide (f = fld) && (decide (y = par) && (p2.endLine == p4.line))))))
  | _ => false
def iniArgs (par : Str) : Arguments → Bool
  | ⟨[], [⟨a, _, _⟩, ⟨b, _, _⟩], none, [], [], none, []⟩ => decide (a = "self") && decide (b = par)
  | _ => false
def parOk (par : Str) : Bool := decide (par = "given") || (decide (par = "index") || decide (par = "limit"))
def fileC (P : Program) (K : PySem.W.Frag) (cda : Addr) : Bool := match K.lookup cda with
  | some ⟨_, _, .fields vs, _⟩ => (match (vs[2]? : Option Value) with
    | some (Value.str f _) => ((P.main.file : Str) == f)
    | _ => false)
  | _ => false
def cellC (K : PySem.W.Frag) (C cc : Addr) : Bool := match K.lookup cc with
  | some ⟨_, _, .cell (some (.ref D)), _⟩ => decide (D = C)
  | _ => false
def bodyC (par fld : Str) : FuncBody → Bool
  | .stmts b => iniBody par fld b
  | _ => false
def closC (K : PySem.W.Frag) (C : Addr) : List (Str × Addr) → Bool
  | [(x, cc)] => decide (x = "__class__") && cellC K C cc
  | _ => false
def codeC (P : Program) (K : PySem.W.Frag) (q : Str) : Value → Bool
  | .ref cda => PySem.W.codeIn K (.ref cda) q && fileC P K cda
  | _ => false
def iniC (P : Program) (K : PySem.W.Frag) (C fI : Addr) (par fld : Str) : Bool := match K.lookup fI with
  | some ⟨_, _, .func fd, _⟩ => decide (fd.name = "__init__") && (decide (fd.globals = mainGlobals) && (decide (fd.builtins = builtinsNs) && (decide (fd.defaults = .none) && (iniArgs par fd.params && (bodyC par fld fd.body && (iniS par fd.scope && (closC K C fd.closure && codeC P K fd.qualname fd.code)))))))
  | _ => false
structure Xm where
  name : Str
  C : Nat
  par : Str
  fld : Str
  fI : Nat
  b : Bk
def mkC (P : Program) (K : PySem.W.Frag) (m : Xm) : Bool :=
  decide (PySem.W.nsIn K mainGlobals m.name = some (some (.ref m.C))) && (PySem.W.excInitIn K m.C m.b.bm m.b.nw && (PySem.W.excOver K m.C m.b.bm && (decide (PySem.W.takerIn K m.C m.fld = some none) && (PySem.W.hasDictIn K m.C &&
    (decide (PySem.W.findIn K (.ref m.C) "__setattr__" = some (some (.builtin "object.__setattr__"))) && (decide (PySem.W.subIn K (.ref m.C) (.type m.b.B) = some true) && (decide (PySem.W.ks_superIn K m.C m.C "__init__" = some (some (.builtin m.b.i))) &&
    (decide (PySem.W.mroIn K m.C (.ref m.C) = some true) && (PySem.W.keepIn K (.ref m.C) && (decide (PySem.W.findIn K (.ref m.C) "__init__" = some (some (.ref m.fI))) && (decide (PySem.W.typeIn K (.ref m.fI) = some (.type "function")) && (parOk m.par && iniC P K m.C m.fI m.par m.fld))))))))))))
structure Xz where
  name : Str
  C : Nat
  b : Bk
def mk0C (K : PySem.W.Frag) (m : Xz) : Bool :=
  decide (PySem.W.nsIn K mainGlobals m.name = some (some (.ref m.C))) && (PySem.W.excInitIn K m.C m.b.bm m.b.nw && (PySem.W.keepIn K (.ref m.C) && decide (PySem.W.findIn K (.ref m.C) "__init__" = some (some (.builtin m.b.i)))))
def excC (K : PySem.W.Frag) (D : Nat) : Bool :=
  decide (PySem.W.findIn K (.ref D) "__getattribute__" = some (some (.builtin "BaseException.__getattribute__"))) && (decide (PySem.W.findIn K (.ref D) "__getattr__" = some none) && (decide (PySem.W.subIn K (.ref D) (.type "BaseException") = some true) &&
    (PySem.W.hasDictIn K D && (decide (PySem.W.findIn K (.ref D) "__class__" = some (some (.builtin "object.__class__"))) && (decide (PySem.W.specialIn K (.builtin "object.__class__") "__get__" = some (some (.builtin "getset_descriptor.__get__"))) &&
    (decide (PySem.W.takesIn K (.builtin "object.__class__") = some true) && decide (PySem.W.mroIn K D (.type "object") = some true)))))))
/-- a name asked of isinstance: an own class, or a class of Python's own -/
structure Xi where
  x : Str
  own : Option Nat
  b : Bk
  yes : List Nat
  no : List Nat
def Xi.cv (m : Xi) : Value := match m.own with
  | some k => .ref k
  | none => .type m.b.B
def bkName (b : Bk) : Str := match b with
  | .val => "ValueError"
  | .look => "LookupError"
  | .arith => "ArithmeticError"
def nameC (K : PySem.W.Frag) (m : Xi) : Bool := match m.own with
  | some k => decide (PySem.W.nsIn K mainGlobals m.x = some (some (.ref k)))
  | none => decide (m.x = bkName m.b) && decide (PySem.W.nsIn K mainGlobals m.x = some none)
def saysC (K : PySem.W.Frag) (cv : Value) (b : Bool) (c : Nat) : Bool := match PySem.W.kitOne K (.ref c) cv with
  | some a => a == b
  | none => false
def isxC (K : PySem.W.Frag) (all : List Nat) (m : Xi) : Bool := nameC K m && (m.yes.all (fun c => all.contains c && saysC K m.cv true c) && m.no.all (fun c => all.contains c && saysC K m.cv false c))
def xatC (K : PySem.W.Frag) (all : List Nat) (p : Str × List Nat) : Bool := p.2.all fun c => all.contains c && decide (PySem.W.findIn K (.ref c) p.1 = some none)
structure Xl where
  ms : List Xm
  zs : List Xz
  qs : List Xi
  fs : List (Str × List Nat)
  all : List Nat
  ts : List (List Str × List Nat) := []
/-- a class that is raised -/
def rsC (K : PySem.W.Frag) (C : Nat) : Bool := decide (PySem.W.subIn K (.ref C) (.type "BaseException") = some true) && decide (PySem.W.typeIn K (.ref C) = some (.type "type"))
/-- a tuple of classes behind 'except' -/
def gvI (K : PySem.W.Frag) (x : Str) : Option Value := match PySem.W.nsIn K mainGlobals x with
  | some (some v) => some v
  | _ => none
def tryC (K : PySem.W.Frag) (p : List Str × List Nat) : Bool := match p.1.mapM (gvI K) with
  | some cs => p.2.all fun C => decide (PySem.W.exmAny K (.ref C) cs = some true)
  | none => false
/-- not a list, not a table of code objects -/
def stillO (o : Obj) : Bool := notLst o && (match o with
  | ⟨.none, _, .fields _, _⟩ => false
  | _ => true)
def asX (g : Addr → Option Obj) (n : Nat) : List Addr := (He.asD g n ++ [cStatics]).filter fun a => match g a with
  | some o => stillO o
  | none => false
abbrev AlX : Type := Bool × List He.FnW
def obsX (ck : PySem.W.Frag → Bool) (fn : List He.DefD) (K : PySem.W.Frag) : AlX := (ck K && fn.all fun d => d.ok K, fn.map fun d => He.fnW K d.at_)
def valX (fn : List He.DefD) : AlX := (true, fn.map He.DefD.val)
def SaysX (ck : PySem.W.Frag → Bool) (fn : List He.DefD) (K : PySem.W.Frag) : Prop := obsX ck fn K = valX fn
/-- an empty table of code objects -/
def tab0B : Option Obj → Bool
  | some ⟨.none, none, .fields vs, sl⟩ => vs.isEmpty && sl.isEmpty
  | _ => false
theorem tab0_ok {o : Option Obj} (h : tab0B o = true) : o = some tabObj0 := by
  unfold tab0B at h
  split at h
  · obtain ⟨h1, h2⟩ := He.ba h
    rw [Array.isEmpty_iff] at h1 h2
    rw [h1, h2]
  · cases h
/-- makers of lambdas: the def's name, its code object, its table -/
abbrev Lt : Type := List (Str × Nat × Nat)
def obsXG (n : Nat) (ck : PySem.W.Frag → Bool) (fn : List He.DefD) (lt : Lt) (g : Addr → Option Obj) : AlX × Bool := (obsX ck fn (He.frG g (asX g n)), lt.all fun p => tab0B (g p.2.2))
theorem still_all {g : Addr → Option Obj} {n : Nat} : ((He.frG g (asX g n)).all fun p => stillO p.2) = true := by
  rw [List.all_eq_true]
  rintro ⟨a, o⟩ hm
  unfold He.frG at hm
  obtain ⟨b, hb, e⟩ := List.mem_filterMap.mp hm
  unfold asX at hb
  have h2 := (List.mem_filter.mp hb).2
  cases q : g b with
  | none => rw [q] at e; cases e
  | some u =>
    rw [q] at e h2
    cases e
    exact h2
def hookX (n : Nat) (ck : PySem.W.Frag → Bool) (fn : List He.DefD) (lt : Lt) : PySem.W.Hook where
  α := AlX × Bool
  obs := fun s => obsXG n ck fn lt s.heap.get?
  val := fun _ => (valX fn, true)
  says := fun _ h => ∃ K : PySem.W.Frag, K.In h ∧ (K.all fun p => stillO p.2) = true ∧ SaysX ck fn K ∧ ∀ p ∈ lt, h.get? p.2.2 = some tabObj0
  of := fun _ _ e => ⟨_, He.frG_in, still_all, congrArg (fun z : AlX × Bool => z.1) e, fun p hp => tab0_ok (List.all_eq_true.mp (congrArg (fun z : AlX × Bool => z.2) e) p hp)⟩
  keeps := fun _ _ _ ⟨K, hK, c, d, t⟩ k => ⟨K, PySem.W.Frag.In.keeps hK k, c, d, fun p hp => k _ _ (t p hp)⟩
theorem obsXG_eq {n : Nat} {ck : PySem.W.Frag → Bool} {fn : List He.DefD} {lt : Lt} {g : Addr → Option Obj} {s : Shared} (h : ∀ a, g a = s.heap.get? a) : obsXG n ck fn lt g = (hookX n ck fn lt).obs s := by
  have e : g = s.heap.get? := funext h
  rw [e] <;> rfl
/-- a def of the top -/
def topD (x : Str) (st : Stmt) : He.DefD := ⟨(x, none), x, x, fnArgs st, fnBody st, fnScope st, [], []⟩
/-- what every law asks: its defs' names, constants, Python's own names -/
def ckL (names : List Str) (nis : List (Str × Int)) (nss : List (Str × Str)) (K : PySem.W.Frag) : Bool :=
  (names.all fun x => (He.Fa.glo x).ok K) && ((nis.all fun p => (He.Fa.int p.1 p.2).ok K) && ((nss.all fun p => (He.Fa.str p.1 p.2).ok K) && bltNames.all fun x => (He.Fa.free x).ok K))
/-- the makers of lambdas, looked at -/
def codC (K : PySem.W.Frag) (x : Str) (c : Nat) : Bool := match K.lookup (He.ga K x) with
  | some ⟨_, _, .func fd, _⟩ => decide (fd.code = .ref c)
  | _ => false
def ckT (lt : Lt) (K : PySem.W.Frag) : Bool := lt.all fun p => PySem.W.codeHdIn K p.2.1 p.2.2 && codC K p.1 p.2.1
/-- own exceptions, asked too -/
def ckX (P : Program) (xl : Xl) (K : PySem.W.Frag) : Bool :=
  decide (PySem.W.nsIn K mainGlobals "super" = some none) && (decide (PySem.W.nsIn K cStatics "thirdparty.any" = some none) && (xl.ms.all (mkC P K) && (xl.zs.all (mk0C K) && (xl.all.all (excC K) && (xl.qs.all (isxC K xl.all) && (xl.fs.all (xatC K xl.all) && ((xl.ms.map (·.C) ++ xl.zs.map (·.C)).all (rsC K) && xl.ts.all (tryC K))))))))
end Ev

set_option Elab.async false
set_option linter.all false
set_option maxRecDepth 1000000
set_option maxHeartbeats 0
namespace K07
open PySem L2 Ev
open C8 (fnBody fnScope scC)
def top (i : Nat) : Stmt := PySem.Challenge.pw_shapelore_k07_shapes_refused.main.body.getD i (.Pass ⟨0, 0, 0, 0⟩)
def xl : Xl := { ms := [⟨"InvalidShape", 67, "given", "given", 64, .val⟩, ⟨"InvalidNumber", 130, "given", "given", 127, .val⟩, ⟨"InvalidRow", 88, "given", "given", 85, .val⟩, ⟨"TooMany", 201, "limit", "limit", 198, .arith⟩, ⟨"InvalidPlace", 109, "given", "given", 106, .val⟩], zs := [⟨"UnlikeSizes", 168, .arith⟩], qs := [⟨"InvalidRow", some 88, .val, [88], [46, 67, 109, 130, 168, 180, 201]⟩, ⟨"InvalidNumber", some 130, .val, [130], [46, 67, 88, 109, 168, 180, 201]⟩, ⟨"InvalidShape", some 67, .val, [67], [46, 88, 109, 130, 168, 180, 201]⟩, ⟨"UnlikeSizes", some 168, .val, [168], [46, 67, 88, 109, 130, 180, 201]⟩, ⟨"InvalidWord", some 46, .val, [46], [67, 88, 109, 130, 168, 180, 201]⟩, ⟨"InvalidPlace", some 109, .val, [109], [46, 67, 88, 130, 168, 180, 201]⟩, ⟨"NoMove", some 180, .val, [180], [46, 67, 88, 109, 130, 168, 201]⟩, ⟨"TooMany", some 201, .val, [201], [46, 67, 88, 109, 130, 168, 180]⟩, ⟨"NoAnswer", some 155, .val, [168, 180, 201], [46, 67, 88, 109, 130]⟩, ⟨"WrongValue", some 24, .val, [46, 67, 88, 109, 130], [168, 180, 201]⟩, ⟨"ArithmeticError", none, .arith, [168, 180, 201], [46, 67, 88, 109, 130]⟩, ⟨"ValueError", none, .val, [46, 67, 88, 109, 130], [168, 180, 201]⟩, ⟨"WrongName", some 142, .val, [], [46, 67, 88, 109, 130, 168, 180, 201]⟩], fs := [("limit", [201]), ("given", [46, 67, 88, 109, 130])], all := [46, 67, 88, 109, 130, 168, 180, 201], ts := [(["WrongValue", "WrongName", "NoAnswer"], [46, 67, 88, 109, 130, 168, 180, 201])] }
def lt : Lt := [("_law_lone_right", 464, 460), ("_law_rows_right", 471, 467), ("_law_full_right", 478, 474)]
def names0 : List Str := ["is_number", "is_shape", "check_shape", "trimmed", "flipped_of", "corners_of", "outers_of", "more_of", "less_of", "is_held", "all_shapes", "strips_on", "columns_on", "sums_along", "lighter_at", "lowered_to"]
def names1 : List Str := ["check_sizes", "shapes_of", "flipped", "holds", "corner_rows", "outer_rows", "with_box", "without_box", "heavier", "steps_down", "first_lighter", "check_strip", "with_strips", "with_columns", "hook_of", "hook"]
def names2 : List Str := ["_law_tub", "_law_dip", "_law_of", "_law_form", "_law_sort", "_law_caught", "_law_odd", "_law_lone_right", "_law_rows_right", "_law_full_right", "_law_right", "law"]
def names : List Str := names0 ++ names1 ++ names2
def fnsD0 : List He.DefD := [topD "is_number" (top 16), topD "is_shape" (top 17), topD "check_shape" (top 18), topD "trimmed" (top 19), topD "flipped_of" (top 20), topD "corners_of" (top 21), topD "outers_of" (top 22), topD "more_of" (top 23), topD "less_of" (top 24), topD "is_held" (top 25), topD "all_shapes" (top 26), topD "strips_on" (top 27), topD "columns_on" (top 28), topD "sums_along" (top 29), topD "lighter_at" (top 30), topD "lowered_to" (top 31)]
def fnsD1 : List He.DefD := [topD "check_sizes" (top 32), topD "shapes_of" (top 33), topD "flipped" (top 34), topD "holds" (top 35), topD "corner_rows" (top 36), topD "outer_rows" (top 37), topD "with_box" (top 38), topD "without_box" (top 39), topD "heavier" (top 40), topD "steps_down" (top 41), topD "first_lighter" (top 42), topD "check_strip" (top 43), topD "with_strips" (top 44), topD "with_columns" (top 45), topD "hook_of" (top 46), topD "hook" (top 47)]
def fnsD2 : List He.DefD := [topD "_law_tub" (top 49), topD "_law_dip" (top 50), topD "_law_of" (top 51), topD "_law_form" (top 52), topD "_law_sort" (top 53), topD "_law_caught" (top 54), topD "_law_odd" (top 55), topD "_law_lone_right" (top 56), topD "_law_rows_right" (top 57), topD "_law_full_right" (top 58), topD "_law_right" (top 59), topD "law" (top 60)]
def fnsD : List He.DefD := fnsD0 ++ fnsD1 ++ fnsD2
def ints_ : List (Str × Int) := [("MOST_LONG", 12), ("MOST_BOXES", 40), ("MOST_DEGREE", 8)]
def strs_ : List (Str × Str) := []
abbrev Pq : Program := PySem.Challenge.pw_shapelore_k07_shapes_refused
def ck (K : PySem.W.Frag) : Bool := ckL names ints_ strs_ K && (ckT lt K && ckX Pq xl K)
/-! ### the top, run -/
def loose0 : List Str := ["WrongValue", "InvalidWord", "InvalidShape", "InvalidRow", "InvalidPlace", "InvalidNumber", "WrongName", "NoAnswer", "UnlikeSizes", "NoMove", "TooMany", "MOST_LONG", "MOST_BOXES", "MOST_DEGREE", "is_number", "is_shape"]
def loose1 : List Str := ["check_shape", "trimmed", "flipped_of", "corners_of", "outers_of", "more_of", "less_of", "is_held", "all_shapes", "strips_on", "columns_on", "sums_along", "lighter_at", "lowered_to", "check_sizes", "shapes_of"]
def loose2 : List Str := ["flipped", "holds", "corner_rows", "outer_rows", "with_box", "without_box", "heavier", "steps_down", "first_lighter", "check_strip", "with_strips", "with_columns", "hook_of", "hook", "_law_tub", "_law_dip"]
def loose3 : List Str := ["_law_of", "_law_form", "_law_sort", "_law_caught", "_law_odd", "_law_lone_right", "_law_rows_right", "_law_full_right", "_law_right"]
def loose : List Str := loose0 ++ loose1 ++ loose2 ++ loose3
abbrev Rr : PySem.W.OpenRow := PySem.W.OpenLaw.row PySem.Challenge.rw_shapelore_k07_shapes_refused
abbrev hk : PySem.W.Hook := hookX 5 ck fnsD lt
def ob (s : PySem.W.SharedT) : AlX × Bool := obsXG 5 ck fnsD lt (HandSHeadRun.getT s)
theorem ob_eq (s : PySem.W.SharedT) : ob s = hk.obs s.abs := obsXG_eq (HandSHeadRun.getT_eq s)
theorem run (w : World) : HandSHeadRun.RunEq Rr (PySem.W.view Rr.prog [60]) hk ob 4200 loose w := by
  intro os
  kernel_rfl
end K07

set_option Elab.async false
set_option linter.all false
set_option maxRecDepth 100000
/-! Ev: a small language of our own for the pure part of Python, its evaluator over data. -/
namespace Ev
open PySem

abbrev D := PyData

/-- outcomes: a value; a choice below n; an error of kind k with what it keeps; nothing said -/
inductive Out (α : Type) where
  | ret (a : α)
  | pick (n : Nat) (f : Nat → Out α)
  | any (f : Int → Out α)
  | exc (k : Nat) (d : D)
  | bad
namespace Out
variable {α β : Type}
def bind : Out α → (α → Out β) → Out β
  | .ret a, f => f a
  | .pick n g, f => .pick n fun i => (g i).bind f
  | .any g, f => .any fun i => (g i).bind f
  | .exc k d, _ => .exc k d
  | .bad, _ => .bad
def All (P : α → Prop) : Out α → Prop
  | .ret a => P a
  | .pick n f => ∀ i, i < n → (f i).All P
  | .any f => ∀ i, (f i).All P
  | .exc .. => False
  | .bad => False
@[simp] theorem bind_ret (a : α) (f : α → Out β) : (Out.ret a).bind f = f a := rfl
@[simp] theorem bind_bad (f : α → Out β) : (Out.bad : Out α).bind f = .bad := rfl
@[simp] theorem bind_exc (k : Nat) (d : D) (f : α → Out β) : (Out.exc k d : Out α).bind f = .exc k d := rfl
@[simp] theorem All_ret {P : α → Prop} {a : α} : (Out.ret a).All P ↔ P a := Iff.rfl
@[simp] theorem All_bad {P : α → Prop} : (Out.bad : Out α).All P ↔ False := Iff.rfl
theorem All_bind {P : β → Prop} {f : α → Out β} : ∀ {t : Out α}, (t.bind f).All P ↔ t.All fun a => (f a).All P
  | .ret a => Iff.rfl
  | .pick n g => by
    show (∀ i, i < n → ((g i).bind f).All P) ↔ ∀ i, i < n → (g i).All _
    exact ⟨fun h i hi => All_bind.mp (h i hi), fun h i hi => All_bind.mpr (h i hi)⟩
  | .any g => by
    show (∀ i, ((g i).bind f).All P) ↔ ∀ i, (g i).All _
    exact ⟨fun h i => All_bind.mp (h i), fun h i => All_bind.mpr (h i)⟩
  | .exc .. => Iff.rfl
  | .bad => Iff.rfl
theorem All.mono {P Q : α → Prop} (h : ∀ a, P a → Q a) : ∀ {t : Out α}, t.All P → t.All Q
  | .ret a, q => h a q
  | .pick n g, q => fun i hi => All.mono h (q i hi)
  | .any g, q => fun i => All.mono h (q i)
  | .exc .., q => q
  | .bad, q => q
theorem bind_assoc {γ : Type} {f : α → Out β} {g : β → Out γ} : ∀ {t : Out α}, (t.bind f).bind g = t.bind fun a => (f a).bind g
  | .ret a => rfl
  | .pick n h => by
    show Out.pick n (fun i => ((h i).bind f).bind g) = Out.pick n (fun i => (h i).bind fun a => (f a).bind g)
    congr 1
    funext i
    exact bind_assoc
  | .any h => by
    show Out.any (fun i => ((h i).bind f).bind g) = Out.any (fun i => (h i).bind fun a => (f a).bind g)
    congr 1
    funext i
    exact bind_assoc
  | .exc .. => rfl
  | .bad => rfl
def ofO : Option α → Out α
  | some a => .ret a
  | none => .bad
def guard (b : Bool) (t : Out α) : Out α := match b with
  | true => t
  | false => .bad
@[simp] theorem guard_true (t : Out α) : guard true t = t := rfl
@[simp] theorem ofO_some (a : α) : ofO (some a) = .ret a := rfl
theorem All_guard {P : α → Prop} {b : Bool} {t : Out α} : (guard b t).All P ↔ b = true ∧ t.All P := by
  cases b
  · exact ⟨fun h => h.elim, fun h => by cases h.1⟩
  · exact ⟨fun h => ⟨rfl, h⟩, fun h => h.2⟩
theorem All_ofO {P : α → Prop} {o : Option α} : (ofO o).All P ↔ ∃ a, o = some a ∧ P a := by
  cases o with
  | none => exact ⟨fun h => h.elim, fun ⟨a, h, _⟩ => by cases h⟩
  | some a => exact ⟨fun h => ⟨a, rfl, h⟩, fun ⟨b, h, q⟩ => by cases h; exact q⟩
end Out

/-- the law's script: a list that stays as it is -/
abbrev scr (ns : List Int) : D := .dict [(.none, .list (ns.map PyData.int))]
/-- what a slot holds: a value; a list that this slot alone owns; a dict of its own -/
inductive Sl where
  | val (d : D)
  | own (xs : List D)
  | dic (t : Bool) (kvs : List (D × D))
  | own2 (xss : List (List D))
  | act
abbrev Ro := List (Option Sl)


inductive Bop where
  | add | sub | mul | fdiv | mod | pow
  deriving DecidableEq
inductive Cop where
  | eq | ne | lt | le | gt | ge | inn | nin
  deriving DecidableEq
inductive Ty where
  | int | bool | tup | str | lst | dict
  deriving DecidableEq
inductive Blt where
  | len | sum | max | min | all | any | tuple | list | sorted | abs | int | divmod
  deriving DecidableEq

/-- targets: a name's slot; a tuple of targets, as a list -/
inductive Tg where
  | nm (i : Nat)
  | nil
  | cons (g gs : Tg)

/-- expressions; lists of them (nil, cons, star); what is walked (rng, enum, zip, items, keys) -/
inductive E where
  | con (d : D)
  | glb (x : Str)
  | var (i : Nat)
  | pk (i : Nat)
  | bin (o : Bop) (a b : E)
  | neg (a : E) | not (a : E) | and (a b : E) | or (a b : E)
  | cmp (o : Cop) (a b : E)
  | chain (o p : Cop) (a b c : E)
  | isn (g : Bool) (a : E)
  | ist (g : Bool) (a : E) (b : Bool)
  | ite (c a b : E)
  | nil | cons (a b : E) | star (a b : E)
  | tup (a : E) | lst (a : E)
  | idx (a b : E) | slc (a lo hi : E) | rev (a : E)
  | call (f : Nat) (a : E)
  | callk (f m k : Nat) (perm : List Nat) (a b : E)
  | blt (b : Blt) (a : E)
  | isi (t : Ty) (a : E)
  | repEq (g : Bool) (a b : E)
  | lc (own : List Nat) (g : Tg) (it c elt : E)
  | lc2 (own own2 : List Nat) (g : Tg) (it : E) (g2 : Tg) (it2 elt : E)
  | rng1 (a : E) | rng2 (a b : E) | rng3 (a b c : E) | enum (a : E) | zip (a b : E)
  | din (g : Bool) (k : E) (i : Nat) | dget (i : Nat) (k : E) | dgetd (i : Nat) (k z : E) | dlen (i : Nat)
  | dsort (i : Nat)
  | tix (i j : Nat)
  | drw (fr ft : Nat) (a : E)
  | row (i : Nat) (e : E) | rows (i : Nat) | lrng (a b : E)
  | mkx (x : Str) (C : Nat) (par fld : Str) (kw : Bool) (a : E) | mk0 (x : Str) (C : Nat) | isx (x : Str) (yes no : List Nat) (a : E) | xat (f : Str) (cs : List Nat) (a : E)
  | repr (a : E) | lidx (a b : E) | lcnt (a b : E)
  | fld (x : Str) (C : Nat) (a : E) | prp (x : Str) (C : Nat) (f : Nat) (a : E) | meth (x : Str) (C : Nat) (f : Nat) (a b : E) | stat (x y : Str) (C : Nat) (f : Nat) (a : E) | new (x : Str) (C : Nat) (f : Nat) (fs : List Str) (m k : Nat) (perm : List Nat) (a b : E)
  | oeq (g : Bool) (C : Nat) (f : Nat) (a b : E) | isc (x : Str) (C : Nat) (a : E)
  | xpure (a : E) | xcall (f : Nat) (a : E) | xcallk (f m k : Nat) (perm : List Nat) (a b : E) | xact (i : Nat) | xnew (x : Str) (C : Nat) (f : Nat) (fs : List Str) (m k : Nat) (perm : List Nat) (a b : E) | xmeth (x : Str) (C : Nat) (f : Nat) (a b : E)
  | lam (g : Nat) (dfl : Bool) (a : E)

/-- statements, blocks as lists (nil, seq) -/
inductive S where
  | nil
  | seq (s r : S)
  | frz (i : Nat)
  | frz2 (i : Nat)
  | wip (vs : List Nat)
  | asg (g : Tg) (e : E)
  | unl (g : Tg) (e : E)
  | own (i : Nat) (e : E)
  | par (i j : Nat) (oi oj : Bool) (a b : E)
  | app (i : Nat) (e : E)
  | pop (g : Tg) (i : Nat)
  | setix (i : Nat) (ix e : E)
  | tset (i j : Nat) (e : E) | tdvm (i j : Nat) (g : Tg) (e : E)
  | dnew (i : Nat) (t : Bool) | dnew1 (i : Nat) (t : Bool) (k v : E)
  | dof (i : Nat) (t : Bool) (e : E)
  | fork (g : Tg) (i : Nat) (b : S) | fori (g : Tg) (i : Nat) (b : S)
  | dset (i : Nat) (k v : E)
  | dmov (i j : Nat)
  | lcl2 (i : Nat) (own : List Nat) (g : Tg) (it e : E)
  | app2 (i : Nat) (jx e : E) | new2 (i : Nat) | swp2 (k i : Nat) (jx ix e : E)
  | par0 (i j : Nat) (a : E) | pdl (i j : Nat) (k v b : E) | popx (i : Nat)
  | ife (c : E) (a b : S)
  | for_ (g : Tg) (it : E) (b : S)
  | whl (c : E) (b : S)
  | ret (e : E)
  | expr (e : E)
  | brk | cnt | pass
  | raise
  | rs1 (x : Str) (C : Nat) (par fld : Str) (a : E) | rs0 (x : Str) (C : Nat)
  | xex (e : E) | xas (g : Tg) (e : E) | xrt (e : E)
  | tryx (xs : List Str) (yes : List Nat) (i : Nat) (b s : S)
  | insl (i : Nat) (k e : E) | fset (i : Nat) (fs : List Str) (e : E)
inductive Fl where
  | nx (ρ : Ro) | rt (d : D) | bk (ρ : Ro) | ct (ρ : Ro) | xc (d : D) (ρ : Ro)

def lim : Nat := 1000000

def intsOf : List D → Option (List Int)
  | [] => some []
  | .int i :: r => (intsOf r).map (i :: ·)
  | _ => none
def blsOf : List D → Option (List Bool)
  | [] => some []
  | .bool b :: r => (blsOf r).map (b :: ·)
  | _ => none

def smallI (i : Int) : Bool := decide (i.natAbs < 18446744073709551616)
def mulOk (i j : Int) : Bool := smallI i || (smallI j || decide (i.natAbs.log2 + j.natAbs.log2 < 1000000))
def divOk (j : Int) : Bool := decide (0 < j) && decide (j.natAbs.log2 < 9000)
def repD (xs : List D) (k : Int) : List D := (List.replicate k.toNat xs).flatten
def binD : Bop → D → D → Out D
  | .add, .int i, .int j => .ret (.int (i + j))
  | .add, .tuple xs, .tuple ys => .guard (decide (xs.length + ys.length ≤ lim)) (.ret (.tuple (xs ++ ys)))
  | .add, .list xs, .list ys => .guard (decide (xs.length + ys.length ≤ lim)) (.ret (.list (xs ++ ys)))
  | .sub, .int i, .int j => .ret (.int (i - j))
  | .mul, .int i, .int j => .guard (mulOk i j) (.ret (.int (i * j)))
  | .mul, .list xs, .int k => .guard (decide (xs.length ≤ 1000) && (decide (-1000 ≤ k) && decide (k ≤ 1000))) (.ret (.list (repD xs k)))
  | .mul, .tuple xs, .int k => .guard (decide (0 < xs.length) && (decide (xs.length ≤ 1000) && (decide (1 ≤ k) && decide (k ≤ 1000)))) (.ret (.tuple (repD xs k)))
  | .fdiv, .int i, .int j => .guard (divOk j) (.ret (.int (i / j)))
  | .mod, .int i, .int j => .guard (decide (0 < j)) (.ret (.int (i % j)))
  | .pow, .int i, .int j => .guard (decide (0 ≤ j) && (decide (j ≤ 1000000) && decide (i.natAbs < 2 ^ 64))) (.ret (.int (i ^ j.toNat)))
  | _, _, _ => .bad
def anyEq (x : D) (xs : List D) : Bool := xs.any fun z => PyData.eqv z x
def cmpD : Cop → D → D → Out D
  | .lt, .int i, .int j => .ret (.bool (decide (i < j)))
  | .le, .int i, .int j => .ret (.bool (decide (i ≤ j)))
  | .gt, .int i, .int j => .ret (.bool (decide (j < i)))
  | .ge, .int i, .int j => .ret (.bool (decide (j ≤ i)))
  | .eq, x, y => .guard (SeqAt.shaped x && SeqAt.shaped y) (.ret (.bool (PyData.eqv x y)))
  | .ne, x, y => .guard (SeqAt.shaped x && SeqAt.shaped y) (.ret (.bool (!PyData.eqv x y)))
  | .inn, x, .list ys => .guard (SeqAt.shaped x && SeqAt.shaped (.list ys)) (.ret (.bool (anyEq x ys)))
  | .nin, x, .list ys => .guard (SeqAt.shaped x && SeqAt.shaped (.list ys)) (.ret (.bool (!anyEq x ys)))
  | .inn, x, .tuple ys => .guard (SeqAt.shaped x && SeqAt.shaped (.list ys)) (.ret (.bool (anyEq x ys)))
  | .nin, x, .tuple ys => .guard (SeqAt.shaped x && SeqAt.shaped (.list ys)) (.ret (.bool (!anyEq x ys)))
  | _, _, _ => .bad
def ixD : D → D → Out D
  | .list xs, .int i => .ofO (L2.atI xs i)
  | .tuple xs, .int i => .ofO (L2.atI xs i)
  | .dict [(.none, .list xs)], .int i => .ofO (L2.atI xs i)
  | _, _ => .bad
def cutD {α : Type} (xs : List α) (lo hi : Option Int) : List α := (xs.drop (HT.sIx xs.length 0 lo)).take (HT.sIx xs.length xs.length hi - HT.sIx xs.length 0 lo)
def slD : D → Option Int → Option Int → Out D
  | .list xs, lo, hi => .ret (.list (cutD xs lo hi))
  | .tuple xs, lo, hi => .ret (.tuple (cutD xs lo hi))
  | .dict [(.none, .list xs)], lo, hi => .ret (.list (cutD xs lo hi))
  | _, _, _ => .bad
def revD : D → Out D
  | .tuple xs => .ret (.tuple xs.reverse)
  | .list xs => .ret (.list xs.reverse)
  | _ => .bad
def itemsD : D → Out (List D)
  | .list xs => .ret xs
  | .tuple xs => .ret xs
  | .dict [(.none, .list xs)] => .ret xs
  | _ => .bad
def asBool : D → Out Bool
  | .bool b => .ret b
  | _ => .bad
def isTy : Ty → D → Bool
  | .int, .int _ => true
  | .int, .bool _ => true
  | .bool, .bool _ => true
  | .tup, .tuple _ => true
  | .str, .str _ => true
  | .lst, .list _ => true
  | .dict, .dict [(.bool false, .list _)] => true
  | _, _ => false
def notDict : D → Bool
  | .dict _ => false
  | _ => true
def maxI : List Int → Int → Int
  | [], m => m
  | x :: r, m => maxI r (if m < x then x else m)
def minI : List Int → Int → Int
  | [], m => m
  | x :: r, m => minI r (if x < m then x else m)
def dataLe : D → D → Bool := PySem.W.dataLe false id
def alikeAll : List D → Bool
  | [] => true
  | d :: r => (d :: r).all fun e => (d :: r).all fun f => PySem.W.alike e f
def sortOk (xs : List D) : Bool := decide (xs.length ≤ lim) && (PyData.canLayAll0 xs && ((xs.all fun d => xs.all fun e => PySem.W.alike d e) && (xs.all (fun d => decide (d.depth ≤ 64)) &&
  (decide (xs.length ≤ 1) || (xs.all (fun d => match d with | .tuple (_ :: _) => true | _ => false) || xs.all fun d => match d with | .none => false | .tuple _ => false | _ => true)))))
def insB {α : Type} (le : α → α → Bool) (x : α) : List α → List α
  | [] => [x]
  | y :: r => if le x y = true then x :: y :: r else y :: insB le x r
def isort {α : Type} (le : α → α → Bool) : List α → List α
  | [] => []
  | x :: r => insB le x (isort le r)
def sortD (xs : List D) : Out D := .guard (sortOk xs) (.ret (.list (isort dataLe xs)))
def bltD : Blt → List D → Out D
  | .len, [.list xs] => .ret (.int xs.length)
  | .len, [.tuple xs] => .ret (.int xs.length)
  | .len, [.dict [(.none, .list xs)]] => .ret (.int xs.length)
  | .sum, [.list xs] => (Out.ofO (intsOf xs)).bind fun ns => .ret (.int ns.sum)
  | .sum, [.tuple xs] => (Out.ofO (intsOf xs)).bind fun ns => .ret (.int ns.sum)
  | .max, [.int i, .int j] => .ret (.int (if j > i then j else i))
  | .min, [.int i, .int j] => .ret (.int (if j < i then j else i))
  | .min, [.int i, .int j, .int k] => .ret (.int (if k < (if j < i then j else i) then k else (if j < i then j else i)))
  | .max, [.list (.int i :: xs)] => (Out.ofO (intsOf xs)).bind fun ns => .ret (.int (maxI ns i))
  | .min, [.list (.int i :: xs)] => (Out.ofO (intsOf xs)).bind fun ns => .ret (.int (minI ns i))
  | .all, [.list xs] => (Out.ofO (blsOf xs)).bind fun bs => .ret (.bool (bs.all id))
  | .any, [.list xs] => (Out.ofO (blsOf xs)).bind fun bs => .ret (.bool (bs.any id))
  | .tuple, [.list xs] => .ret (.tuple xs)
  | .tuple, [.tuple xs] => .ret (.tuple xs)
  | .list, [.list xs] => .ret (.list xs)
  | .list, [.tuple xs] => .ret (.list xs)
  | .sorted, [.list xs] => sortD xs
  | .abs, [.int i] => .ret (.int (if i < 0 then -i else i))
  | .int, [.int i] => .ret (.int i)
  | .divmod, [.int i, .int j] => .guard (decide (0 < j) && decide (j < 1073741824)) (.ret (.tuple [.int (i / j), .int (i % j)]))
  | _, _ => .bad

def rngL (lo : Int) : Nat → List D
  | 0 => []
  | n + 1 => .int lo :: rngL (lo + 1) n
def small62 (i : Int) : Bool := decide (-(2 ^ 62) ≤ i) && decide (i < 2 ^ 62)
def rngC (lo c : Int) : Nat → List D
  | 0 => []
  | n + 1 => .int lo :: rngC (lo + c) c n
def enumL (k : Int) : List D → List D
  | [] => []
  | x :: r => .tuple [.int k, x] :: enumL (k + 1) r
def zipL : List D → List D → List D
  | x :: r, y :: q => .tuple [x, y] :: zipL r q
  | _, _ => []

def zipD : D → D → Out D
  | .list xs, .list ys => .ret (.list (zipL xs ys))
  | .tuple xs, .tuple ys => .ret (.list (zipL xs ys))
  | .list xs, .tuple ys => .ret (.list (zipL xs ys))
  | _, _ => .bad
/-- a target takes a value -/
def asgG : Tg → D → Ro → Option Ro
  | .nm i, d, ρ => some (ρ.set i (some (.val d)))
  | .nil, .tuple [], ρ => some ρ
  | .cons g gs, .tuple (x :: xs), ρ => (asgG g x ρ).bind fun ρ1 => asgG gs (.tuple xs) ρ1
  | _, _, _ => none
def wipeR (ρ : Ro) : List Nat → Ro
  | [] => ρ
  | v :: vs => (wipeR ρ vs).set v none

/-- a comprehension's walk -/
def lcGo (turn : D → Out (Option D)) : List D → List D → Out D
  | [], acc => .ret (.list acc.reverse)
  | x :: r, acc => (turn x).bind fun
    | some y => lcGo turn r (y :: acc)
    | none => lcGo turn r acc
/-- with two clauses -/
def lcOut (turn : D → List D → Out (List D)) : List D → List D → Out D
  | [], acc => .ret (.list acc.reverse)
  | x :: r, acc => (turn x acc).bind fun acc' => lcOut turn r acc'
def lcIn (turn : D → Out D) : List D → List D → Out (List D)
  | [], acc => .ret acc
  | x :: r, acc => (turn x).bind fun y => lcIn turn r (y :: acc)

def slot (ρ : Ro) (i : Nat) : Out Sl := .ofO ((ρ[i]?).bind id)
def valOf (ρ : Ro) (i : Nat) : Out D := (slot ρ i).bind fun
  | .val d => .ret d
  | _ => .bad
def peekOf (ρ : Ro) (i : Nat) : Out D := (slot ρ i).bind fun
  | .val d => .ret d
  | .own xs => .ret (.list xs)
  | _ => .bad
/-- the drawing list's second number is small -/
def tubB (y : Int) : Bool := decide (0 ≤ y) && decide (y < 4294967296)
def tixV (j : Nat) (z : Int) : Int := if j = 1 then z % 4294967296 else z
def tsOk (j : Nat) (v : Int) : Bool := decide (j ≠ 1) || tubB v
def own2Of (ρ : Ro) (i : Nat) : Out (List (List D)) := (slot ρ i).bind fun
  | .own2 xss => .ret xss
  | _ => .bad
def dicOf (ρ : Ro) (i : Nat) : Out (Bool × List (D × D)) := (slot ρ i).bind fun
  | .dic t kvs => .ret (t, kvs)
  | _ => .bad
def tubOf (ρ : Ro) (i : Nat) : Out Unit := (slot ρ i).bind fun
  | .val (.dict []) => .ret ()
  | _ => .bad
def consD (x : D) : D → Out D
  | .tuple xs => .ret (.tuple (x :: xs))
  | _ => .bad
def appD (xs : List D) : D → Out D
  | .tuple ys => .ret (.tuple (xs ++ ys))
  | _ => .bad
def unTup : D → Out (List D)
  | .tuple xs => .ret xs
  | _ => .bad
def permD (xs : List D) : List Nat → Option (List D)
  | [] => some []
  | k :: r => (xs[k]?).bind fun x => (permD xs r).map (x :: ·)
def asInt : D → Out Int
  | .int i => .ret i
  | _ => .bad
def isNilE : E → Bool
  | .nil => true
  | _ => false
def partE : Bool → Out D → Out (Option Int)
  | true, _ => .ret none
  | false, t => t.bind fun d => (asInt d).bind fun i => .ret (some i)
mutual
/-- the same data, sign by sign -/
def sameD : D → D → Bool
  | .none, .none => true
  | .bool a, .bool b => a == b
  | .int a, .int b => decide (a = b)
  | .str a, .str b => decide (a = b)
  | .list xs, .list ys => sameL xs ys
  | .tuple xs, .tuple ys => sameL xs ys
  | _, _ => false
def sameL : List D → List D → Bool
  | [], [] => true
  | x :: xs, y :: ys => sameD x y && sameL xs ys
  | _, _ => false
end
mutual
/-- a bound of the written form's length, where it can be written -/
def wtD : D → Option Nat
  | .none => some 4
  | .bool _ => some 5
  | .int i => if i.natAbs.log2 < 1920 then some 2000 else none
  | .str x => if x.cps.all (· < 0x110000) then some (10 * x.length + 2) else none
  | .list xs => (wtL xs).map (· + 2)
  | .tuple xs => (wtL xs).map (· + 3)
  | .dict _ => none
def wtL : List D → Option Nat
  | [] => some 0
  | x :: xs => (wtD x).bind fun a => (wtL xs).map fun b => a + b + 2
end
def isSeqD : D → Bool
  | .list _ => true
  | .tuple _ => true
  | _ => false
def repOk (x : D) : Bool := isSeqD x && (decide (x.depth ≤ 64) && (match wtD x with | some n => decide (n ≤ 16000000) | none => false))

/-- the same, looked at fast where both are ints, or tuples of ints -/
def intEq : Int → Int → Bool
  | .ofNat m, .ofNat n => Nat.beq m n
  | .negSucc m, .negSucc n => Nat.beq m n
  | _, _ => false
def flatEq : List D → List D → Bool
  | [], ys => (match ys with
    | [] => true
    | _ => false)
  | x :: xs, ys => (match ys with
    | [] => false
    | y :: ys => (match (match x with
      | .int a => (match y with
        | .int b => intEq a b
        | _ => false)
      | x => sameD x y) with
      | true => flatEq xs ys
      | false => false))
def keyEq (x y : D) : Bool := match x with
  | .tuple xs => (match y with
    | .tuple ys => flatEq xs ys
    | _ => false)
  | .int a => (match y with
    | .int b => intEq a b
    | _ => false)
  | x => sameD x y
theorem intEq_eq : ∀ a b : Int, intEq a b = decide (a = b)
  | .ofNat m, .ofNat n => by
    simp only [intEq]
    by_cases h : m = n
    · subst h; simp
    · have : (Int.ofNat m = Int.ofNat n) = False := eq_false fun e => h (Int.ofNat.inj e)
      simp only [this, decide_false]
      exact Bool.eq_false_iff.mpr fun e => h (Nat.eq_of_beq_eq_true e)
  | .negSucc m, .negSucc n => by
    simp only [intEq]
    by_cases h : m = n
    · subst h; simp
    · have : (Int.negSucc m = Int.negSucc n) = False := eq_false fun e => h (Int.negSucc.inj e)
      simp only [this, decide_false]
      exact Bool.eq_false_iff.mpr fun e => h (Nat.eq_of_beq_eq_true e)
  | .ofNat m, .negSucc n => by simp [intEq]
  | .negSucc m, .ofNat n => by simp [intEq]
theorem flatEq_eq : ∀ xs ys : List D, flatEq xs ys = sameL xs ys
  | [], [] => rfl
  | [], _ :: _ => rfl
  | _ :: _, [] => by simp [flatEq, sameL]
  | x :: xs, y :: ys => by
    have ih := flatEq_eq xs ys
    simp only [flatEq, sameL, ih]
    cases x <;> cases y <;> simp only [sameD, intEq_eq] <;> (try rfl) <;> (split <;> simp_all)
theorem keyEq_eq (x y : D) : keyEq x y = sameD x y := by
  cases x <;> cases y <;> simp only [keyEq, sameD, intEq_eq, flatEq_eq]
/-- keys of dicts: ints, texts; tuples of these -/
def flatOk : D → Bool
  | .int _ => true
  | .str _ => true
  | _ => false
def keyOk : Bool → D → Bool
  | false, d => flatOk d
  | true, .tuple xs => xs.all flatOk
  | true, _ => false
def dLook (k : D) : List (D × D) → Option D
  | [] => none
  | (a, b) :: r => (match keyEq a k with
    | true => some b
    | false => dLook k r)
def dPut (k v : D) (kvs : List (D × D)) : List (D × D) := match dLook k kvs with
  | some _ => kvs.map fun p => if keyEq p.1 k = true then (p.1, v) else p
  | none => kvs ++ [(k, v)]

/-- what a field of an own exception may hold -/
def atomD : D → Bool
  | .none => true
  | .int _ => true
  | .str _ => true
  | .list [] => true
  | _ => false
/-- an own exception: its class, its field -/
abbrev xcD (C : Nat) (f : Str) (d : D) : D := .dict [(.int C, .tuple [.str f, d])]
abbrev xc0 (C : Nat) : D := .dict [(.int C, .none)]
def isxV (yes no : List Nat) (c : Int) : Out D := match yes.any fun n => decide ((n : Int) = c) with
  | true => .ret (.bool true)
  | false => .guard (no.any fun n => decide ((n : Int) = c)) (.ret (.bool false))
def isxD (yes no : List Nat) : D → Out D
  | .dict [(.int c, .none)] => isxV yes no c
  | .dict [(.int c, .tuple [.str _, _])] => isxV yes no c
  | _ => .bad
def xatD (f : Str) (cs : List Nat) : D → Out D
  | .dict [(.int c, .tuple [.str g, d])] => .guard (cs.any (fun n => decide ((n : Int) = c)) && decide (g = f)) (.ret d)
  | _ => .bad
/-- the tables: defs by number, the module's constants -/
structure Env where
  call : Nat → List D → Out D
  calln : Nat → List D → Out D
  glob : Str → Option D
  callx : Nat → List D → Out D
  lam : Nat → Out D → Out D
  act : Out D
/-- what a lambda sees: the slots that hold data -/
def valS : Option Sl → Option Sl
  | some (.val d) => some (.val d)
  | _ => none
def valR (ρ : Ro) : Ro := ρ.map valS
/-- a dict of ints that stays as it is -/
abbrev dkD (l : List (Int × Int)) : D := .dict [(.bool false, .list (l.map fun p => .tuple [.int p.1, .int p.2]))]
/-- an instance: its class, its fields -/
abbrev insD (C : Nat) (fs : List Str) (ds : List D) : D := .dict [(.str "", .tuple [.int C, .list (fs.map PyData.str), .tuple ds])]
/-- an empty dict -/
def dk0B : D → Bool
  | .dict [(.bool false, .list [])] => true
  | _ => false
/-- the place of a value in a list; how often it is there -/
def ixOf (p : D → Bool) : List D → Nat → Option Nat
  | [], _ => none
  | x :: r, k => match p x with
    | true => some k
    | false => ixOf p r (k + 1)
def asLst : D → Out (List D)
  | .list xs => .ret xs
  | _ => .bad
def lidxD (xs : List D) (d : D) : Out D := .guard (SeqAt.shaped (.list xs) && SeqAt.shaped d) ((Out.ofO (ixOf (fun z => PyData.eqv z d) xs 0)).bind fun k => .ret (.int (k : Nat)))
def lcntD (xs : List D) (d : D) : Out D := .guard ((PyData.canLayAll0 xs && d.canLay0) && (PyData.plainAll xs && (d.plain && decide (d.depth ≤ 60)))) (.ret (.int ((xs.countP fun z => PyData.eqv z d : Nat) : Int)))
/-- the written form -/
def pairD : D → D × D
  | .tuple [k, v] => (k, v)
  | d => (d, d)
def reprT : D → Str
  | .none => "None"
  | .bool b => if b then "True" else "False"
  | .int i => toString i
  | .str x => PySem.reprText x
  | .dict _ => "{}"
  | d => d.shown
def reprOk : D → Bool
  | .none => true
  | .bool _ => true
  | .int i => decide (i.natAbs.log2 < 1920)
  | .str x => x.cps.all (· < 0x110000) && decide (x.length ≤ 1000000)
  | .dict [(.bool false, .list ps)] => ps.isEmpty
  | .dict _ => false
  | d => repOk d
def reprD (d : D) : Out D := .guard (reprOk d) (.ret (.str (reprT d)))
def iscD (C : Nat) : D → Out D
  | .dict [(.str _, .tuple [.int c, .list _, .tuple _])] => .ret (.bool (decide ((C : Int) = c)))
  | .dict [(.bool false, .list _)] => .ret (.bool false)
  | .dict _ => .bad
  | _ => .ret (.bool false)
def okIsi : D → Bool
  | .dict [(.bool false, .list _)] => true
  | .dict _ => false
  | _ => true
/-- an instance behind its making -/
def newD (C : Nat) (fs : List Str) : D → Out D
  | .tuple [.tuple ds] => .guard (decide (fs.length = ds.length)) (.ret (insD C fs ds))
  | _ => .bad
def newX (C : Nat) (fs : List Str) : D → Out D
  | .tuple [.tuple ds] => .guard (decide (fs.length = ds.length)) (.ret (.tuple [insD C fs ds]))
  | .dict [(.int c, .none)] => .ret (.dict [(.int c, .none)])
  | .dict [(.int c, .tuple [.str f, d])] => .ret (.dict [(.int c, .tuple [.str f, d])])
  | _ => .bad
def fldL (x : Str) : List D → List D → Option D
  | .str y :: fs, d :: ds => match decide (x = y) with
    | true => some d
    | false => fldL x fs ds
  | _, _ => none
def fldD (x : Str) (C : Nat) : D → Out D
  | .dict [(.str _, .tuple [.int c, .list fs, .tuple ds])] => .guard (decide ((C : Int) = c)) (.ofO (fldL x fs ds))
  | _ => .bad
/-- what an outcome with exceptions is: an only item; an exception itself -/
def unX (ρ : Ro) (k : D → Out Fl) : D → Out Fl
  | .tuple [d] => k d
  | .dict [(.int c, .none)] => .ret (.xc (.dict [(.int c, .none)]) ρ)
  | .dict [(.int c, .tuple [.str f, d])] => .ret (.xc (.dict [(.int c, .tuple [.str f, d])]) ρ)
  | _ => .bad

def ev (Γ : Env) : Bool → E → Ro → Out D
  | _, .con d, _ => .ret d
  | _, .glb x, _ => .ofO (Γ.glob x)
  | _, .var i, ρ => valOf ρ i
  | r, .pk i, ρ => .guard r (peekOf ρ i)
  | _, .bin o a b, ρ => (ev Γ true a ρ).bind fun x => (ev Γ true b ρ).bind fun y => binD o x y
  | _, .neg a, ρ => (ev Γ true a ρ).bind fun x => (asInt x).bind fun i => .ret (.int (-i))
  | _, .not a, ρ => (ev Γ true a ρ).bind fun x => (asBool x).bind fun b => .ret (.bool (!b))
  | _, .and a b, ρ => (ev Γ true a ρ).bind fun x => (asBool x).bind fun
    | true => (ev Γ true b ρ).bind fun y => (asBool y).bind fun c => .ret (.bool c)
    | false => .ret (.bool false)
  | _, .or a b, ρ => (ev Γ true a ρ).bind fun x => (asBool x).bind fun
    | true => .ret (.bool true)
    | false => (ev Γ true b ρ).bind fun y => (asBool y).bind fun c => .ret (.bool c)
  | _, .cmp o a b, ρ => (ev Γ true a ρ).bind fun x => (ev Γ true b ρ).bind fun y => cmpD o x y
  | _, .chain o p a b c, ρ => (ev Γ true a ρ).bind fun x => (ev Γ true b ρ).bind fun y => (cmpD o x y).bind fun z => (asBool z).bind fun
    | true => (ev Γ true c ρ).bind fun w => cmpD p y w
    | false => .ret (.bool false)
  | _, .isn g a, ρ => (ev Γ true a ρ).bind fun x => .ret (.bool (match x with | .none => !g | _ => g))
  | _, .ist g a b, ρ => (ev Γ true a ρ).bind fun x => (asBool x).bind fun c => .ret (.bool (if c = b then !g else g))
  | r, .ite c a b, ρ => (ev Γ true c ρ).bind fun x => (asBool x).bind fun
    | true => ev Γ r a ρ
    | false => ev Γ r b ρ
  | _, .nil, _ => .ret (.tuple [])
  | r, .cons a b, ρ => (ev Γ r a ρ).bind fun x => (ev Γ r b ρ).bind fun y => consD x y
  | r, .star a b, ρ => (ev Γ true a ρ).bind fun x => (itemsD x).bind fun xs => (ev Γ r b ρ).bind fun y => appD xs y
  | _, .tup a, ρ => (ev Γ false a ρ).bind fun x => (unTup x).bind fun xs => .guard (decide (xs.length ≤ lim)) (.ret (.tuple xs))
  | _, .lst a, ρ => (ev Γ false a ρ).bind fun x => (unTup x).bind fun xs => .guard (decide (xs.length ≤ lim)) (.ret (.list xs))
  | _, .idx a b, ρ => (ev Γ true a ρ).bind fun x => (ev Γ true b ρ).bind fun y => ixD x y
  | _, .slc a lo hi, ρ => (ev Γ true a ρ).bind fun x => (partE (isNilE lo) (ev Γ true lo ρ)).bind fun l => (partE (isNilE hi) (ev Γ true hi ρ)).bind fun h => slD x l h
  | _, .rev a, ρ => (ev Γ true a ρ).bind revD
  | _, .call f a, ρ => (ev Γ false a ρ).bind fun x => (unTup x).bind fun xs => Γ.call f xs
  | _, .callk f m k p a b, ρ => (ev Γ false a ρ).bind fun x => (unTup x).bind fun xs => (ev Γ false b ρ).bind fun y => (unTup y).bind fun ys => .guard (decide (xs.length = m) && decide (ys.length = k)) ((Out.ofO (permD (xs ++ ys) p)).bind fun zs => Γ.call f zs)
  | _, .blt b a, ρ => (ev Γ true a ρ).bind fun x => (unTup x).bind fun xs => bltD b xs
  | _, .isi t a, ρ => (ev Γ true a ρ).bind fun x => .guard (okIsi x) (.ret (.bool (isTy t x)))
  | _, .repEq g a b, ρ => (ev Γ true a ρ).bind fun x => .guard (repOk x) <| (ev Γ true b ρ).bind fun y =>
      .guard (sameD x y) (.ret (.bool (!g)))
  | _, .lc own g it c elt, ρ => (ev Γ true it ρ).bind fun x => (itemsD x).bind fun xs => .guard (decide (xs.length ≤ lim)) <|
      lcGo (fun d => (Out.ofO (asgG g d (wipeR ρ own))).bind fun ρ2 => (ev Γ true c ρ2).bind fun t => (asBool t).bind fun
        | true => (ev Γ false elt ρ2).bind fun y => .ret (some y)
        | false => .ret none) xs []
  | _, .lc2 own own2 g it g2 it2 elt, ρ => (ev Γ true it ρ).bind fun x => (itemsD x).bind fun xs =>
      lcOut (fun d acc => (Out.ofO (asgG g d (wipeR ρ own))).bind fun ρ2 => (ev Γ false it2 ρ2).bind fun x2 => (itemsD x2).bind fun xs2 =>
        .guard (decide (acc.length + xs2.length ≤ lim)) <| lcIn (fun d2 => (Out.ofO (asgG g2 d2 (wipeR ρ2 own2))).bind fun ρ3 => ev Γ false elt ρ3) xs2 acc) xs []
  | _, .rng1 a, ρ => (ev Γ true a ρ).bind fun x => (asInt x).bind fun i => .guard (small62 i) (.ret (.list (rngL 0 i.toNat)))
  | _, .rng2 a b, ρ => (ev Γ true a ρ).bind fun x => (ev Γ true b ρ).bind fun y => (asInt x).bind fun i => (asInt y).bind fun j =>
      .guard (small62 i && small62 j) (.ret (.list (rngL i (j - i).toNat)))
  | _, .rng3 a b c, ρ => (ev Γ true a ρ).bind fun x => (ev Γ true b ρ).bind fun y => (ev Γ true c ρ).bind fun z => (asInt x).bind fun i => (asInt y).bind fun j => (asInt z).bind fun k =>
      .guard (decide (k = -1) && (small62 i && small62 j)) (.ret (.list (rngC i (-1) (i - j).toNat)))
  | r, .enum a, ρ => (ev Γ r a ρ).bind fun x => (itemsD x).bind fun xs => .ret (.list (enumL 0 xs))
  | r, .zip a b, ρ => (ev Γ r a ρ).bind fun x => (ev Γ r b ρ).bind fun y => zipD x y
  | _, .din g k i, ρ => (ev Γ true k ρ).bind fun x => (dicOf ρ i).bind fun kvs => .guard (keyOk kvs.1 x) (.ret (.bool (if (dLook x kvs.2).isSome then !g else g)))
  | _, .dget i k, ρ => (dicOf ρ i).bind fun kvs => (ev Γ true k ρ).bind fun x => .guard (keyOk kvs.1 x) (.ofO (dLook x kvs.2))
  | _, .dgetd i k z, ρ => (dicOf ρ i).bind fun kvs => (ev Γ true k ρ).bind fun x => (ev Γ false z ρ).bind fun w => .guard (keyOk kvs.1 x) (.ret ((dLook x kvs.2).getD w))
  | _, .dlen i, ρ => (dicOf ρ i).bind fun kvs => .ret (.int kvs.2.length)
  | _, .dsort i, ρ => (dicOf ρ i).bind fun kvs => sortD (kvs.2.map (·.1))
  | _, .drw fr ft a, ρ => (ev Γ false a ρ).bind fun x => (unTup x).bind fun xs => (Γ.calln ft xs).bind fun
    | .list [.int _, .int y, .int _] => .guard (tubB y) ((Γ.call fr [.dict []]).bind fun r => (asBool r).bind fun b => .ret (.bool b))
    | _ => .bad
  | r, .row i e, ρ => .guard r ((own2Of ρ i).bind fun xss => (ev Γ true e ρ).bind fun k => (asInt k).bind fun z => (Out.ofO (L2.ixN xss.length z)).bind fun j => (Out.ofO xss[j]?).bind fun xs => .ret (.list xs))
  | _, .rows i, ρ => (own2Of ρ i).bind fun xss => .ret (.int xss.length)
  | _, .lrng a b, ρ => (ev Γ true a ρ).bind fun x => (ev Γ true b ρ).bind fun y => (asInt x).bind fun i => (asInt y).bind fun j =>
      .guard (small62 i && (small62 j && decide ((j - i).toNat ≤ lim))) (.ret (.list (rngL i (j - i).toNat)))
  | _, .mkx _ C _ fld _ a, ρ => (ev Γ false a ρ).bind fun d => .guard (atomD d) (.ret (xcD C fld d))
  | _, .mk0 _ C, _ => .ret (xc0 C)
  | _, .isx _ yes no a, ρ => (ev Γ true a ρ).bind (isxD yes no)
  | _, .xat f cs a, ρ => (ev Γ true a ρ).bind (xatD f cs)
  | _, .repr a, ρ => (ev Γ true a ρ).bind reprD
  | _, .lidx a b, ρ => (ev Γ true a ρ).bind fun x => (asLst x).bind fun xs => (ev Γ true b ρ).bind fun y => lidxD xs y
  | _, .lcnt a b, ρ => (ev Γ true a ρ).bind fun x => (asLst x).bind fun xs => (ev Γ true b ρ).bind fun y => lcntD xs y
  | _, .fld x C a, ρ => (ev Γ true a ρ).bind (fldD x C)
  | _, .prp _ _ f a, ρ => (ev Γ false a ρ).bind fun x => Γ.call f [x]
  | _, .meth _ _ f a b, ρ => (ev Γ false a ρ).bind fun x => (ev Γ false b ρ).bind fun y => (unTup y).bind fun ys => Γ.call f (x :: ys)
  | _, .stat _ _ _ f a, ρ => (ev Γ false a ρ).bind fun x => (unTup x).bind fun xs => Γ.call f xs
  | _, .new _ C f fs m k p a b, ρ => (ev Γ false a ρ).bind fun x => (unTup x).bind fun xs => (ev Γ false b ρ).bind fun y => (unTup y).bind fun ys => .guard (decide (xs.length = m) && decide (ys.length = k)) ((Out.ofO (permD (xs ++ ys) p)).bind fun zs => (Γ.callx f (.none :: zs)).bind (newD C fs))
  | _, .oeq g _ f a b, ρ => (ev Γ false a ρ).bind fun x => (ev Γ false b ρ).bind fun y => (Γ.call f [x, y]).bind fun z => (asBool z).bind fun c => .ret (.bool (if g then !c else c))
  | _, .isc _ C a, ρ => (ev Γ true a ρ).bind (iscD C)
  | _, .xpure a, ρ => (ev Γ false a ρ).bind fun d => .ret (.tuple [d])
  | _, .xcall f a, ρ => (ev Γ false a ρ).bind fun x => (unTup x).bind fun xs => Γ.callx f xs
  | _, .xcallk f m k p a b, ρ => (ev Γ false a ρ).bind fun x => (unTup x).bind fun xs => (ev Γ false b ρ).bind fun y => (unTup y).bind fun ys => .guard (decide (xs.length = m) && decide (ys.length = k)) ((Out.ofO (permD (xs ++ ys) p)).bind fun zs => Γ.callx f zs)
  | _, .xact i, ρ => (slot ρ i).bind fun
    | .act => Γ.act
    | _ => .bad
  | _, .xnew _ C f fs m k p a b, ρ => (ev Γ false a ρ).bind fun x => (unTup x).bind fun xs => (ev Γ false b ρ).bind fun y => (unTup y).bind fun ys => .guard (decide (xs.length = m) && decide (ys.length = k)) ((Out.ofO (permD (xs ++ ys) p)).bind fun zs => (Γ.callx f (.none :: zs)).bind (newX C fs))
  | _, .xmeth _ _ f a b, ρ => (ev Γ false a ρ).bind fun x => (ev Γ false b ρ).bind fun y => (unTup y).bind fun ys => Γ.callx f (x :: ys)
  | _, .lam g _ a, ρ => Γ.lam g (ev Γ false a (valR ρ))
  | _, .tix i j, ρ => (tubOf ρ i).bind fun _ => .guard (decide (j < 3)) (.any fun z => .ret (.int (tixV j z)))

/-- a for's walk -/
def forGo (g : Tg) (body : Ro → Out Fl) : List D → Ro → Out Fl
  | [], ρ => .ret (.nx ρ)
  | x :: r, ρ => (Out.ofO (asgG g x ρ)).bind fun ρ1 => (body ρ1).bind fun
    | .nx ρ2 => forGo g body r ρ2
    | .ct ρ2 => forGo g body r ρ2
    | .bk ρ2 => .ret (.nx ρ2)
    | .rt d => .ret (.rt d)
    | .xc d ρ2 => .ret (.xc d ρ2)
def whlGo (test : Ro → Out D) (body : Ro → Out Fl) : Nat → Ro → Out Fl
  | 0, _ => .bad
  | w + 1, ρ => (test ρ).bind fun x => (asBool x).bind fun
    | false => .ret (.nx ρ)
    | true => (body ρ).bind fun
      | .nx ρ2 => whlGo test body w ρ2
      | .ct ρ2 => whlGo test body w ρ2
      | .bk ρ2 => .ret (.nx ρ2)
      | .rt d => .ret (.rt d)
      | .xc d ρ2 => .ret (.xc d ρ2)
/-- nothing raised -/
def noX : Fl → Out Fl
  | .xc _ _ => .bad
  | f => .ret f
def ownOf (ρ : Ro) (i : Nat) : Out (List D) := (slot ρ i).bind fun
  | .own xs => .ret xs
  | _ => .bad
def asList : D → Out (List D)
  | .list xs => .ret xs
  | _ => .bad
def slOf (own : Bool) (d : D) : Out Sl := match own with
  | false => .ret (.val d)
  | true => (asList d).bind fun xs => .ret (.own xs)
def dPairs (t : Bool) : List D → List (D × D) → Out (List (D × D))
  | [], acc => .ret acc
  | .tuple [k, v] :: r, acc => .guard (keyOk t k) (dPairs t r (dPut k v acc))
  | _, _ => .bad

def lcl2Go (turn : D → Out (List D)) : List D → List (List D) → Out (List (List D))
  | [], acc => .ret acc
  | x :: r, acc => (turn x).bind fun y => lcl2Go turn r (acc ++ [y])
def swpIn (i : Nat) (d : D) (ρ : Ro) (fj fi : Ro → Out D) : Out Fl := (own2Of ρ i).bind fun xss => (fj ρ).bind fun k => (asInt k).bind fun z => (Out.ofO (L2.ixN xss.length z)).bind fun j => (Out.ofO xss[j]?).bind fun xs =>
  (fi ρ).bind fun m => (asInt m).bind fun y => (Out.ofO (L2.ixN xs.length y)).bind fun p => .ret (.nx (ρ.set i (some (.own2 (xss.set j (xs.set p d))))))
def ex (Γ : Env) (W : Nat) : S → Ro → Out Fl
  | .nil, ρ => .ret (.nx ρ)
  | .seq s r, ρ => (ex Γ W s ρ).bind fun
    | .nx ρ1 => ex Γ W r ρ1
    | f => .ret f
  | .frz i, ρ => (ownOf ρ i).bind fun xs => .ret (.nx (ρ.set i (some (.val (.list xs)))))
  | .frz2 i, ρ => (own2Of ρ i).bind fun xss => .ret (.nx (ρ.set i (some (.val (.list (xss.map PyData.list))))))
  | .wip vs, ρ => .ret (.nx (wipeR ρ vs))
  | .lcl2 i own g it e, ρ => ((ev Γ true it ρ).bind fun x => (itemsD x).bind fun xs => .guard (decide (xs.length ≤ lim)) (lcl2Go (fun d => (Out.ofO (asgG g d (wipeR ρ own))).bind fun ρ2 => (ev Γ false e ρ2).bind asList) xs [])).bind fun xss => .ret (.nx (ρ.set i (some (.own2 xss))))
  | .app2 i jx e, ρ => (own2Of ρ i).bind fun xss => (ev Γ true jx ρ).bind fun k => (asInt k).bind fun z => (Out.ofO (L2.ixN xss.length z)).bind fun j => (Out.ofO xss[j]?).bind fun xs => (ev Γ false e ρ).bind fun d =>
      .guard (decide (xs.length < lim)) (.ret (.nx (ρ.set i (some (.own2 (xss.set j (xs ++ [d])))))))
  | .new2 i, ρ => (own2Of ρ i).bind fun xss => .guard (decide (xss.length < lim)) (.ret (.nx (ρ.set i (some (.own2 (xss ++ [[]]))))))
  | .swp2 k i jx ix e, ρ => (ev Γ false e ρ).bind fun
    | .tuple [d1, d2] => swpIn i d2 (ρ.set k (some (.val d1))) (ev Γ true jx) (ev Γ true ix)
    | _ => .bad
  | .par0 i j a, ρ => (ev Γ false a ρ).bind fun x => .ret (.nx ((ρ.set i (some (.val x))).set j (some (.own2 []))))
  | .pdl i j k v b, ρ => (ev Γ false k ρ).bind fun x => (ev Γ false v ρ).bind fun w => .guard (keyOk true x) ((ev Γ false b ρ).bind fun y => .ret (.nx ((ρ.set i (some (.dic true [(x, w)]))).set j (some (.val y)))))
  | .popx i, ρ => (ownOf ρ i).bind fun xs => .guard (decide (0 < xs.length)) (.ret (.nx (ρ.set i (some (.own xs.dropLast)))))
  | .asg g e, ρ => (ev Γ false e ρ).bind fun d => (Out.ofO (asgG g d ρ)).bind fun ρ1 => .ret (.nx ρ1)
  | .unl g e, ρ => (ev Γ false e ρ).bind fun d => (asList d).bind fun xs => (Out.ofO (asgG g (.tuple xs) ρ)).bind fun ρ1 => .ret (.nx ρ1)
  | .own i e, ρ => (ev Γ false e ρ).bind fun d => (asList d).bind fun xs => .ret (.nx (ρ.set i (some (.own xs))))
  | .par i j oi oj a b, ρ => (ev Γ false a ρ).bind fun x => (slOf oi x).bind fun sx => (ev Γ false b ρ).bind fun y => (slOf oj y).bind fun sy => .ret (.nx ((ρ.set i (some sx)).set j (some sy)))
  | .app i e, ρ => (ownOf ρ i).bind fun xs => (ev Γ false e ρ).bind fun d => .guard (decide (xs.length < lim)) (.ret (.nx (ρ.set i (some (.own (xs ++ [d]))))))
  | .pop g i, ρ => (ownOf ρ i).bind fun xs => (Out.ofO xs.getLast?).bind fun d => (Out.ofO (asgG g d (ρ.set i (some (.own xs.dropLast))))).bind fun ρ1 => .ret (.nx ρ1)
  | .setix i ix e, ρ => (ev Γ false e ρ).bind fun d => (ownOf ρ i).bind fun xs => (ev Γ true ix ρ).bind fun k => (asInt k).bind fun z => (Out.ofO (L2.ixN xs.length z)).bind fun j => .ret (.nx (ρ.set i (some (.own (xs.set j d)))))
  | .tset i j e, ρ => (ev Γ false e ρ).bind fun d => (asInt d).bind fun v => (tubOf ρ i).bind fun _ => .guard (decide (j < 3) && tsOk j v) (.ret (.nx ρ))
  | .tdvm i j g e, ρ => (ev Γ false e ρ).bind fun
    | .tuple [.int v, d] => (tubOf ρ i).bind fun _ => .guard (decide (j < 3) && tsOk j v) ((Out.ofO (asgG g d ρ)).bind fun ρ1 => .ret (.nx ρ1))
    | _ => .bad
  | .dnew i t, ρ => .ret (.nx (ρ.set i (some (.dic t []))))
  | .dnew1 i t k v, ρ => (ev Γ false k ρ).bind fun x => (ev Γ false v ρ).bind fun y => .guard (keyOk t x) (.ret (.nx (ρ.set i (some (.dic t [(x, y)])))))
  | .dof i t e, ρ => (ev Γ false e ρ).bind fun d => (asList d).bind fun xs => .guard (decide (xs.length ≤ lim)) ((dPairs t xs []).bind fun kvs => .ret (.nx (ρ.set i (some (.dic t kvs)))))
  | .dset i k v, ρ => (ev Γ false v ρ).bind fun y => (dicOf ρ i).bind fun kvs => (ev Γ true k ρ).bind fun x => .guard (keyOk kvs.1 x && decide (kvs.2.length < lim)) (.ret (.nx (ρ.set i (some (.dic kvs.1 (dPut x y kvs.2))))))
  | .dmov i j, ρ => (dicOf ρ j).bind fun kvs => .ret (.nx ((ρ.set j none).set i (some (.dic kvs.1 kvs.2))))
  | .fork g i b, ρ => (dicOf ρ i).bind fun kvs => (forGo g (ex Γ W b) (kvs.2.map (·.1)) (ρ.set i none)).bind noX
  | .fori g i b, ρ => (dicOf ρ i).bind fun kvs => .guard kvs.1 ((forGo g (ex Γ W b) (kvs.2.map fun p => .tuple [p.1, p.2]) (ρ.set i none)).bind noX)
  | .ife c a b, ρ => (ev Γ true c ρ).bind fun x => (asBool x).bind fun
    | true => ex Γ W a ρ
    | false => ex Γ W b ρ
  | .for_ g it b, ρ => (ev Γ false it ρ).bind fun x => (itemsD x).bind fun xs => forGo g (ex Γ W b) xs ρ
  | .whl c b, ρ => whlGo (ev Γ true c) (ex Γ W b) W ρ
  | .ret e, ρ => (ev Γ false e ρ).bind fun d => .ret (.rt d)
  | .expr e, ρ => (ev Γ false e ρ).bind fun _ => .ret (.nx ρ)
  | .brk, ρ => .ret (.bk ρ)
  | .cnt, ρ => .ret (.ct ρ)
  | .pass, ρ => .ret (.nx ρ)
  | .raise, _ => .bad
  | .rs1 _ C _ fl a, ρ => (ev Γ false a ρ).bind fun d => .ret (.xc (xcD C fl d) ρ)
  | .rs0 _ C, ρ => .ret (.xc (xc0 C) ρ)
  | .xex e, ρ => (ev Γ false e ρ).bind (unX ρ fun _ => .ret (.nx ρ))
  | .xas g e, ρ => (ev Γ false e ρ).bind (unX ρ fun d => (Out.ofO (asgG g d ρ)).bind fun ρ1 => .ret (.nx ρ1))
  | .xrt e, ρ => (ev Γ false e ρ).bind (unX ρ fun d => .ret (.rt d))
  | .tryx _ yes i b s, ρ => (ex Γ W b ρ).bind fun
    | .xc d ρ1 => (isxD yes [] d).bind fun _ => (ex Γ W s (ρ1.set i (some (.val d)))).bind fun
      | .nx ρ2 => .ret (.nx (ρ2.set i none))
      | .rt d => .ret (.rt d)
      | _ => .bad
    | f => .ret f
  | .insl i k e, ρ => (ownOf ρ i).bind fun xs => (ev Γ true k ρ).bind fun z => (asInt z).bind fun j => (ev Γ false e ρ).bind fun d =>
      .guard (decide (0 ≤ j) && (decide (j ≤ xs.length) && decide (xs.length < lim))) (.ret (.nx (ρ.set i (some (.own (xs.take j.toNat ++ d :: xs.drop j.toNat))))))
  | .fset i fs e, ρ => (ev Γ false e ρ).bind fun x => (unTup x).bind fun ds => .ret (.rt (.tuple ds))

/-- own exceptions: classes called (name, class, parameter, field; or without any), names asked of isinstance, fields read -/
structure Xc where
  mks : List (Str × Nat × Str × Str) := []
  mk0s : List (Str × Nat) := []
  isxs : List (Str × List Nat × List Nat) := []
  xats : List (Str × List Nat) := []
  trys : List (List Str × List Nat) := []
/-- a def: its name, its parameters, all its names by slot, its body -/
structure Fd where
  name : Str
  ps : List Str
  N : List Str
  body : S
def startR (N : List Str) (ds : List D) : Ro := ds.map (fun d => some (.val d)) ++ List.replicate (N.length - ds.length) none
def retOf : Fl → Out D
  | .rt d => .ret d
  | .nx _ => .ret .none
  | _ => .bad
/-- a list, newly made -/
def retF : Fl → Out D
  | .rt (.list xs) => .ret (.list xs)
  | _ => .bad
/-- with what may be raised -/
def retX : Fl → Out D
  | .rt d => .ret (.tuple [d])
  | .nx _ => .ret (.tuple [.none])
  | .xc d _ => .ret d
  | _ => .bad
/-- how a def is asked: for its answer; for a new list; for what it may raise too; handed a lambda -/
inductive Md where
  | val | new | exc | act
def retM : Md → Fl → Out D
  | .val => retOf
  | .new => retF
  | .exc => retX
  | .act => retOf
def startM (N : List Str) (ds : List D) : Md → Ro
  | .act => some .act :: List.replicate (N.length - 1) none
  | _ => startR N ds
/-- the defs, by number; dip: the one that draws; news: those whose answer may be asked for as a new list; hots: those called where an exception is handled; lams: those that are handed a lambda -/
structure Tab where
  fns : List Fd
  dip : Nat
  news : List Nat
  glob : Str → Option D
  W : Nat
  xc : Xc
  excs : List Nat
  hots : List Nat
  lams : List Nat
  tabs : List (Nat × Str)
  lms : List Nat
def dipD : List D → Out D
  | [.dict [], .int n] => .guard (decide (0 < n) && decide (n < 1073741824)) (.pick n.toNat fun i => .ret (.int i))
  | _ => .bad
def modB (τ : Tab) (f : Nat) : Md → Bool
  | .val => true
  | .new => decide (f ∈ τ.news)
  | .exc => decide (f ∈ τ.excs)
  | .act => decide (f ∈ τ.lams)
def dipM (ds : List D) : Md → Out D
  | .val => dipD ds
  | _ => .bad
def callB (τ : Tab) : Nat → Md → Nat → List D → Out D → Out D
  | 0, _, _, _, _ => .bad
  | n + 1, m, f, ds, a => if f = τ.dip then dipM ds m else match τ.fns[f]? with
    | none => .bad
    | some F => .guard (modB τ f m) (.guard (decide (ds.length = F.ps.length)) ((ex ⟨fun f ds => callB τ n .val f ds .bad, fun f ds => callB τ n .new f ds .bad, τ.glob, fun f ds => callB τ n .exc f ds .bad, fun g a => callB τ n .act g [.none] a, a⟩ τ.W F.body (startM F.N ds m)).bind (retM m)))
abbrev callT (τ : Tab) (n f : Nat) (ds : List D) : Out D := callB τ n .val f ds .bad
/-- what a def's body leans on -/
def gam (τ : Tab) (n : Nat) (a : Out D) : Env := ⟨fun f ds => callB τ n .val f ds .bad, fun f ds => callB τ n .new f ds .bad, τ.glob, fun f ds => callB τ n .exc f ds .bad, fun g a => callB τ n .act g [.none] a, a⟩
end Ev

set_option Elab.async false
set_option linter.all false
set_option maxRecDepth 100000
set_option maxHeartbeats 4000000
namespace Exn
open PySem PySem.W PyProof.Rows
open Builtin
open ObjectAttr
/-! ### own exceptions, made: the heap's view -/
section
variable {prog : Program} {w : World} {A : Around} {R : Result → Shared → Prop} {E : Value → Shared → Prop}
variable {hp : Heap} {t : Nat} {os : OsState} {g : Array GenState} {d : Drawn}
/-- self.name = v where the exception has no dict yet -/
theorem store1 {K : W.Frag} {B : String} {bmB : List Value} {name : Str} {tk : Tok} {v : Value} {x C t0 : Addr} (SF : StoreFacts B bmB "object.__setattr__" "object") (X : K.In hp) (hx : hp.get? x = some (PX.excO C t0)) (hov : excOver K C bmB = true) (ht : takerIn K C name = some none) (hh : hasDictIn K C = true)
    (hq : ∀ h' tk' dx, (∀ b o, b ≠ x → hp.get? b = some o → h'.get? b = some o) → hp.objs.size ≤ dx → dx ≠ x → h'.get? x = some { PX.excO C t0 with dict := some dx } → h'.Ns1 dx (fun y => if y = name then some v else none) → R (.ok (.ret .none)) ⟨h', g, d, tk', os⟩) :
    codeAny (model prog w) A (.call (.builtin "object.__setattr__") ⟨[Value.ref x, Value.str name tk, v], []⟩) R ⟨hp, g, d, t, os⟩ := by
  refine osa_openX (od := none) SF X ⟨hx, rfl, rfl, trivial⟩ hov ht fun b => ?_
  obtain ⟨cd, hc, hd'⟩ := any_some hh
  have hne : x ≠ hp.objs.size := Nat.ne_of_lt (Heap.lt_size hx)
  have hcls : W.Looks (model prog w) hp (classData C) cd := W.looks_clsIn X hc
  obtain ⟨c1, c2, c3, c4, c5, hd, c7, c8, c9, c10, c11⟩ := cd
  dsimp only at hd'
  subst hd'
  unfold storeInOwnDict ownDictForStores
  repeat (first | (with_reducible refine hcls.at ?_) | (with_reducible refine PX.store_in_new ?_ ?_) | (with_reducible refine wpAny_loadPart_at hx ?_) | wp_step)
  · exact ⟨_, #[], _, (Heap.get?_update_ne _ _ _ _ hne.symm).trans (Heap.get?_push_at rfl rfl), rfl, fun e he => absurd he (by simp), fun _ => rfl⟩
  · intro h' tk' n1 n2
    have up : (hp.push { cls := .type "dict", data := .dict #[] }).get? x = some (PX.excO C t0) := Heap.get?_push_of_some _ hx
    refine hq h' tk' hp.objs.size (fun b o hb ho => ?_) (Nat.le_refl _) hne.symm ?_ n1
    · exact (n2.2 b (Nat.ne_of_lt (Heap.lt_size ho))).trans ((Heap.get?_update_ne _ _ _ _ hb).trans (Heap.get?_push_of_some _ ho))
    · exact (n2.2 x hne).trans (Heap.get?_update_self _ up rfl)
/-- the bound __init__ of the base, called -/
theorem call_mw {B i newId : String} {bmB : List Value} {nm q : Str} {C N u e t0 : Addr} {bs bm : List Value} {hdct : Bool} {sn : List Str} {sub : List Value} {ab : Bool} {col : Option Bool} {dd : Option Addr} {k0 k1 k2 k3 k5 : Option Value} {rest : List Value} {Q : Value → Shared → Prop}
    (FB : ExcBaseFacts B newId i bmB) (hC : hp.get? C = some (excClassObj nm q C N bs bm hdct sn sub ab col dd k0 k1 k2 k3 k5 newId)) (he : hp.get? e = some (PX.excO C t0)) (hu : hp.get? u = some (kxs_mw i e)) (hz : rest.length ≤ sizeLine)
    (hq : ∀ h' t1, (∀ b o, b ≠ e → hp.get? b = some o → h'.get? b = some o) → h'.get? e = some (PX.excO C t1) → Q .none ⟨h', g, d, t, os⟩) :
    wpAny (model prog w) A (call (.ref u) rest) Q E ⟨hp, g, d, t, os⟩ := by
  refine wpAny_call (codeAny_of_tree (?_ : wpAny _ _ _ _ _ _))
  show wpAny _ A.in1 (callAny (.ref u) ⟨rest, []⟩) _ _ _
  simp only [callAny]
  refine wpAny_bind (wpAny_load hu ?_)
  have c1 : (Value.type "method-wrapper" == Value.type "method" || Value.type "method-wrapper" == Value.type "builtin_function_or_method" || Value.type "method-wrapper" == Value.type "method-wrapper") = true := by decide
  simp only [kxs_mw, c1, if_true]
  refine KFB.if_so (by decide) ?_
  refine wpAny_bind (check_bound_init FB.toExcCallFacts hC he rfl ?_)
  refine wpAny_bind (wpAny_pure (wpAny_pure (?_ : _ ∧ _)))
  refine ⟨plainId_quiet FB.init.plain _, codeAny_builtin FB.initEntry ?_⟩
  exact exc_init_tree (cls := .ref C) (t0 := t0) (dv := none) (c2 := .none) (c3 := .none) (b4 := .bool false) he hz fun h' k1 k2 _ => hq h' _ k1 k2

/-- super().__init__(par); self.fld = par -/
def iniB (par fld : Str) (b : List Stmt) : Prop := ∃ p0 p1 p2 p3 p4 p5 p6 p7 p8 p9 : Pos,
  (p2.endLine == p4.line) = true ∧ b = [.Expr (.Call (.Attribute (.Call (.Name "super" p0) [] [] p1) "__init__" p2) [.Name par p3] [] p4) p5, .Assign [.Attribute (.Name "self" p6) fld p7] (.Name par p8) p9]

theorem ev_super {par : Str} {p0 p1 p2 p3 p4 : Pos} {env : Env} (hl : (p2.endLine == p4.line) = true) : eval (.Call (.Attribute (.Call (.Name "super" p0) [] [] p1) "__init__" p2) [.Name par p3] [] p4) env = (do
    let ov ← attributeBase (.Call (.Name "super" p0) [] [] p1) "__init__" env (eval (.Call (.Name "super" p0) [] [] p1) env)
    standAt p2.atName
    let (f, first) ← holding [ov] (getMethod ov "__init__" (do return (← importBound (.Call (.Name "super" p0) [] [] p1) env).getD true))
    callWith p4 f first (backTo p4 (starEach [.Name par p3] env)) []) := by
  have hp : methodCallPos true (.Call (.Name "super" p0) [] [] p1) env p2 p4 = pure p4 := by unfold methodCallPos; simp [hl]
  rw [arm_eval_Call]
  congr 1
  funext ov
  congr 1
  funext u
  show methodCall _ _ _ _ _ _ _ _ _ = _
  unfold methodCall
  show (holding [ov] (calleeOf true _ _ _ _) >>= _) = _
  congr 1
  funext z
  obtain ⟨f, first⟩ := z
  show (methodCallPos true _ _ _ _ >>= _) = _
  rw [hp]
  rfl
/-- what is known of a class whose __init__ is such a def -/
structure IniFacts (prog : Program) (K : W.Frag) (C fI : Addr) (B newId i : String) (bmB : List Value) (par fld : Str) (fd : FuncData) : Prop where
  FB : ExcBaseFacts B newId i bmB
  KF : KxsFacts B i
  SF : StoreFacts B bmB "object.__setattr__" "object"
  q : excInitIn K C bmB newId = true
  ov : excOver K C bmB = true
  tk : takerIn K C fld = some none
  hd : hasDictIn K C = true
  sa : findIn K (.ref C) "__setattr__" = some (some (.builtin "object.__setattr__"))
  sub : subIn K (.ref C) (.type B) = some true
  sup : ks_superIn K C C "__init__" = some (some (.builtin i))
  opq : nsIn K cStatics "thirdparty.any" = some none
  mself : mroIn K C (.ref C) = some true
  top : (prog.main.scope.names.lookup ("super" : Str)).isSome = false
  fn : ∃ (oc : Value) (od : Option Addr) (qual : Str) (prm : Arguments) (body : List Stmt) (sc : Scope) (dV kV doc pm : Value) (an : Option Addr) (cda : Addr) (ct : Value) (cc : Addr) (osl : Array (Option Value)),
    fd = ksFn "__init__" qual prm body sc dV kV doc pm an (.ref cda) ct cc ∧ K.lookup fI = some ⟨oc, od, .func fd, osl⟩ ∧ codeIn K (.ref cda) qual = true ∧
    (∃ (ccl : Value) (cdd : Option Addr) (vs : Array Value) (ccs : Array (Option Value)) (file : Str) (tf : Tok), K.lookup cda = some ⟨ccl, cdd, .fields vs, ccs⟩ ∧ vs[2]? = some (.str file tf) ∧ ((prog.main.file : Str) == file) = true) ∧
    (∃ (cl : Value) (cld : Option Addr) (csl : Array (Option Value)), K.lookup cc = some ⟨cl, cld, .cell (some (.ref C)), csl⟩) ∧
    iniB par fld body ∧ iniS par sc = true ∧ (∃ ar : Arg, (prm.posonlyargs ++ prm.args).head? = some ar ∧ ar.arg = "self")

theorem init_run {K : W.Frag} {C fI x t0 : Addr} {B newId i : String} {bmB : List Value} {par fld : Str} {fd : FuncData} {mg mb : Str → Option Value} {v : Value} {args : Args}
    (I : IniFacts prog K C fI B newId i bmB par fld fd) (hroom : A.depth < recursionLimit) (X : K.In hp) (NL : hp.NoLimit) (G : hp.Ns mainGlobals mg) (hmg : mg "super" = none) (Bt : hp.Ns builtinsNs mb) (hmb : mb "super" = some (.type "super"))
    (hxK : K.lookup x = none) (hx : hp.get? x = some (PX.excO C t0)) (hb : BindsTo ⟨hp, g, d, t, os⟩ fd args [("self", .ref x), (par, v)])
    (hq : ∀ h' tk' dx t1, (∀ b o, b ≠ x → hp.get? b = some o → h'.get? b = some o) → hp.objs.size ≤ dx → dx ≠ x → h'.get? x = some { PX.excO C t1 with dict := some dx } → h'.Ns1 dx (fun y => if y = fld then some v else none) → R (.ok (.ret .none)) ⟨h', g, d, tk', os⟩) :
    codeAny (model prog w) A (.call (.ref fI) args) R ⟨hp, g, d, t, os⟩ := by
  obtain ⟨oc, od, qual, prm, body, sc, dV, kV, doc, pm, an, cda, ct, cc, osl, rfl, lk, hcd, ⟨ccl, cdd, vs, ccs, file, tf, lcd, hvs, hfile⟩, ⟨cl, cld, csl, lcc⟩, ⟨p0, p1, p2, p3, p4, p5, p6, p7, p8, p9, hline, rfl⟩, hS, ⟨ar, har, hself⟩⟩ := I.fn
  unfold iniS at hS
  simp only [Bool.and_eq_true, Bool.not_eq_true', decide_eq_true_eq, decide_eq_false_iff_not, List.all_eq_true] at hS
  obtain ⟨⟨⟨⟨⟨⟨⟨⟨⟨h1, h2⟩, h3⟩, h4⟩, h5⟩, h6⟩, h7⟩, h8⟩, h9⟩, h10⟩ := hS
  refine ks_codeAny_call_defAt (fd := ksFn "__init__" qual prm _ sc dV kV doc pm an (.ref cda) ct cc) (binds := [("self", .ref x), (par, v)]) hroom (X _ _ lk) rfl NL (codeRec_of X hcd) rfl hb h4 (fun y hy => ?_) (fun h₀ hns hk => ?_) h2 h3 h1
  · rcases List.mem_cons.mp hy with rfl | hy'
    · exact h7
    · cases List.mem_singleton.mp hy'
      exact h8
  have X0 : K.In h₀ := X.keeps hk
  have hx0 := hk _ _ hx
  obtain ⟨nmC, NC, qnC, bsC, bmC, hdct, snC, subC, abC, colC, ddC, k0, k1, k2, k3, k5, hC, hT⟩ := excInit_of X0 I.q
  obtain ⟨cdC, hcC, _⟩ := any_some I.hd
  have hCC : ∃ oC, h₀.get? C = some oC ∧ oC.data = .cls cdC := by
    have hcC' := hcC
    unfold clsIn at hcC'
    split at hcC'
    · rename_i c dd cd' sl ho
      cases hcC'
      exact ⟨_, X0 _ _ ho, rfl⟩
    · cases hcC'
  obtain ⟨oC, hC1, hC2⟩ := hCC
  have hxC : x ≠ C := fun z => by
    rw [z, hC1] at hx0
    cases hx0
    cases hC2
  have hcode : callEnv (ksFn "__init__" qual prm [.Expr (.Call (.Attribute (.Call (.Name "super" p0) [] [] p1) "__init__" p2) [.Name par p3] [] p4) p5, .Assign [.Attribute (.Name "self" p6) fld p7] (.Name par p8) p9] sc dV kV doc pm an (.ref cda) ct cc) hp.objs.size fI = ksEnv qual sc hp.objs.size fI (.ref cda) cc := rfl
  rw [hcode]
  have hin : interactive (ksEnv qual sc hp.objs.size fI (.ref cda) cc) = false := by
    show (sc.kind == .module && _) = false
    rw [h1]
    rfl
  refine ks_wpAt_execs_cons (ks_wpAt_Expr_any (ks_wpAt_MethodCall ?_ (ev_super hline)) hin rfl)
  refine ks_wpAt_super_base (env := ksEnv qual sc hp.objs.size fI (.ref cda) cc) h5 h6 rfl rfl (X0 _ _ lk) rfl har rfl (X0 _ _ lcd) rfl hvs hfile I.top ?_
  refine ks_loadName_global h1 h5 (Calls.loadGlobal_builtin (G.keeps hk) hmg (Bt.keeps hk) hmb ⟨rfl, ?_⟩)
  refine wpAny_loadName_free h1 h6 rfl ⟨_, X0 _ _ lcc, rfl⟩ ?_
  rw [hself]
  have hs1 : ([(("self" : Str), Value.ref x), (par, v)].reverse).lookup ("self" : Str) = some (.ref x) := by
    have e : (("self" : Str) == par) = false := by simpa using Ne.symm h9
    show List.lookup ("self" : Str) [(par, v), (("self" : Str), Value.ref x)] = _
    simp [List.lookup, e]
  have hs2 : ([(("self" : Str), Value.ref x), (par, v)].reverse).lookup par = some v := by
    show List.lookup par [(par, v), (("self" : Str), Value.ref x)] = _
    simp [List.lookup]
  refine wpAny_loadName_local h1 h7 hns hs1 ?_
  refine ks_wpAny_isType_cls hC1 hC2 ⟨rfl, ?_⟩
  refine ks_wpAny_call_super hC1 hC2 hx0 rfl (fun c e => by cases e) (looks_mroIn X0 I.mself) (fun ha ea ka => ?_)
  have Xa : K.In ha := X0.keeps ka
  have mro : W.Looks (model prog w) ha (mroOf (.ref C)) cdC.mro := (looks_clsIn Xa hcC).andThen .now
  have hm : alongIn K "__init__" ((cdC.mro.dropWhile (· != .ref C)).drop 1) = some (some (.builtin i)) := by
    have z := I.sup
    unfold ks_superIn at z
    rw [hcC] at z
    exact z
  have II : InstAt ha x (PX.excO C t0) C none := ⟨ka _ _ hx0, rfl, rfl, trivial⟩
  have hIn : W.Looks (model prog w) ha (isInstance (.ref x) (.type B)) true := II.type.andThen (looks_subIn Xa I.sub)
  refine kxs_getMethod I.KF ea (looks_opaque Xa I.opq) mro rfl Xa hm hIn hxC rfl ?_
  have kb : ∀ b o, ha.get? b = some o → (ha.push (kxs_mw i x)).get? b = some o := fun b o e => Heap.get?_push_of_some _ e
  refine kxs_callWith (i := i) (x := x) rfl (Calls.evalArgs_plain (PyProof.Rows.args_cons (ESX.ldL (env := ksEnv qual sc hp.objs.size fI (.ref cda) cc) (v := v) ((hns.keeps ka).keeps kb) hs2 (args_nil ?_) h1 h8 h10) rfl))
  refine ⟨Heap.get?_push_at rfl rfl, ?_⟩
  refine call_mw I.FB (kb _ _ (ka _ _ hC)) (kb _ _ (ka _ _ hx0)) (Heap.get?_push_at rfl rfl) (by rw [sizeLine_eq]; exact Nat.le_of_ble_eq_true rfl) (fun hc t1 kc hxc => ?_)
  obtain ⟨oL, es, ep, hL, rL⟩ := hns
  have hxl : x < hp.objs.size := Heap.lt_size hx
  have hLx : hp.objs.size ≠ x := (Nat.ne_of_lt hxl).symm
  have kall : ∀ b o, b ≠ x → h₀.get? b = some o → hc.get? b = some o := fun b o hb e => kc b o hb (kb _ _ (ka _ _ e))
  have hLc := kall _ _ hLx hL
  have nsC : hc.Ns hp.objs.size (fun y => ([(("self" : Str), Value.ref x), (par, v)].reverse).lookup y) := ⟨oL, es, ep, hLc, rL⟩
  have Xc : K.In hc := fun a o e => kall a o (fun z => by rw [z, hxK] at e; cases e) (X0 a o e)
  refine ks_wpAt_execs_cons (wpAt_of_wpAny (plainObj_wpAny_Assign_Attribute (ESX.ldL (env := ksEnv qual sc hp.objs.size fI (.ref cda) cc) (v := v) nsC hs2 (ESX.ldL (env := ksEnv qual sc hp.objs.size fI (.ref cda) cc) (v := .ref x) nsC hs1 (W.set_plain Xc (od := none) ⟨hxc, rfl, rfl, trivial⟩ I.sa (store1 I.SF Xc hxc I.ov I.tk I.hd fun h' tk' dx k1 k2 k3 k4 k5 => ?_)) h1 h7) h1 h8 h10) rfl))
  show _root_.PySem.wpAt _ _ _ (execs [] _) _ _ _
  rw [execs_nil]
  refine wpAt_of_wpAny (wpAny_pure ?_)
  exact hq h' _ dx t1 (fun b o hb e => k1 b o hb (kall b o hb (hk _ _ e))) (Nat.le_trans (Nat.le_of_lt (Heap.lt_size hLc)) k2) k3 k4 k5
end
end Exn

set_option Elab.async false
set_option linter.all false
set_option maxRecDepth 100000
set_option maxHeartbeats 4000000
namespace Exn
open PySem PySem.W
open PX (excO)
/-! ### a class called with its one argument by name -/
section
variable {M : Model} {A : Around} {E : Value → Shared → Prop} {hp : Heap} {gs : Array GenState} {dr : Drawn} {tk : Nat} {os : OsState}
variable {nm qn : Str} {C nsA : Addr} {bs mr bmB : List Value} {hdct : Bool} {sn : List Str} {sub : List Value} {ab : Bool} {col : Option Bool} {dd : Option Addr} {s0 s1 s2 s3 s5 : Option Value} {B newId initId : String} {kn : Str} {kv : Value}
theorem look_new (FB : ExcBaseFacts B newId initId bmB) (same : ∀ Y : String, mr.contains (.type Y) = bmB.contains (.type Y)) {Q : Unit → Shared → Prop}
    (hC : hp.get? C = some (excClassObj nm qn C nsA bs mr hdct sn sub ab col dd s0 s1 s2 s3 s5 newId)) (hq : Q () ⟨hp, gs, dr, tk, os⟩) : wpAny M A (checkBuiltinCall newId ⟨[.ref C], [(kn, kv)]⟩) Q E ⟨hp, gs, dr, tk, os⟩ := by
  have isB : (Value.ref C :: mr).contains (.type B) = true := by rw [List.contains_cons, same, FB.hasB, Bool.or_true]
  have st := FB.noStar
  simp only [checkBuiltinCall, FB.newRow, FB.newSplit, FB.newKind]
  repeat (first | (refine wpAny_isSubtype_exc hC ?_; rw [isB]) | refine wpAny_madeBy_exc hC ?_ | refine wpAny_staticBase_exc hC ?_ | refine wpAny_loadPart_at hC ?_ | simp only [bne_self_eq_false, Bool.false_eq_true, if_false] | wp_step)
  exact hq
theorem look_call {Q : Unit → Shared → Prop} (hC : hp.get? C = some (excClassObj nm qn C nsA bs mr hdct sn sub ab col dd s0 s1 s2 s3 s5 newId))
    (hq : Q () ⟨hp, gs, dr, tk, os⟩) : wpAny M A (checkBuiltinCall "type.__call__" ⟨[.ref C], [(kn, kv)]⟩) Q E ⟨hp, gs, dr, tk, os⟩ := by
  have sb := tc_sub
  have ty : (⟨hp, gs, dr, tk, os⟩ : Shared).TypeIs (.ref C) "type" := ⟨_, hC, rfl⟩
  simp only [checkBuiltinCall, tc_split, tc_kind]
  repeat (any_goals (first | with_reducible refine wpAny_loadPart_at hC ?_ | assumption | with_reducible refine wpAny_map ?_ | with_reducible refine wpAny_onRaise ?_ | wp_step))
end
section
variable {prog : Program} {w : World} {A : Around} {E : Value → Shared → Prop} {R : Result → Shared → Prop} {hp : Heap} {gs : Array GenState} {dr : Drawn} {tk : Nat} {os : OsState}
variable {nm qn : Str} {C nsA : Addr} {bs mr bmB : List Value} {hdct : Bool} {sn : List Str} {sub : List Value} {ab : Bool} {col : Option Bool} {dd : Option Addr} {s0 s1 s2 s3 s5 : Option Value} {B newId initId : String} {kn : Str} {kv : Value}
abbrev noArgs : Obj := { cls := .type "tuple", data := .seq #[] }
theorem new_kw (FB : ExcBaseFacts B newId initId bmB) (same : ∀ Y : String, mr.contains (.type Y) = bmB.contains (.type Y))
    (hC : hp.get? C = some (excClassObj nm qn C nsA bs mr hdct sn sub ab col dd s0 s1 s2 s3 s5 newId)) (hq : R (.ok (.ret (.ref (hp.objs.size + 1)))) ⟨(hp.push noArgs).push (excO C hp.objs.size), gs, dr, tk, os⟩) :
    codeAny (model prog w) A (.builtin newId ⟨[.ref C], [(kn, kv)]⟩) R ⟨hp, gs, dr, tk, os⟩ := by
  have isB : (Value.ref C :: mr).contains (.type B) = true := by rw [List.contains_cons, same, FB.hasB, Bool.or_true]
  have noN : (Value.ref C :: mr).contains (.type "NameError") = false := by rw [List.contains_cons, same, FB.noName]; rfl
  have noA : (Value.ref C :: mr).contains (.type "AttributeError") = false := by rw [List.contains_cons, same, FB.noAttr]; rfl
  have en := FB.ends
  refine codeAny_builtinAt FB.entry ?_
  (unfold Builtin.«BaseException.__new__»)
  refine wpAt_bind ?_
  (show wpAt _ _ _ (stack >>= _) _ _ _)
  refine wpAt_bind (wpAt_stack fun here under => wpAt_of_wpAny ?_)
  wp_walk
  refine wpAt_of_wpAny ?_
  rw [FB.owner]
  repeat (first | (with_reducible refine wpAny_isSubtype_exc hC ?_; first | rw [isB] | rw [noN] | rw [noA]) | with_reducible refine wpAny_loadPart_at hC ?_ | with_reducible refine wpAny_madeHere_exc FB.canon hC ?_ | wp_step)
  show R _ _
  rw [Heap.size_push]
  exact hq
theorem type_call_kw (FB : ExcBaseFacts B newId initId bmB) (same : ∀ Y : String, mr.contains (.type Y) = bmB.contains (.type Y)) {fI : Addr} {Q : Fin → Shared → Prop}
    (hC : hp.get? C = some (excClassObj nm qn C nsA bs mr hdct sn sub ab col dd s0 s1 s2 s3 s5 newId)) (li : W.Looks (model prog w) hp (typeLookup (.ref C) "__init__") (some (.ref fI)))
    (lb : ∀ z, W.Looks (model prog w) hp (bindSpecial (.ref fI) z) (.ref fI, [z]))
    (hq : codeAny (model prog w) A (.call (.ref fI) ⟨[.ref (hp.objs.size + 1)], [(kn, kv)]⟩) (fun r s' => match r with | .ok (.ret u) => u = .none ∧ Q (.done (.ret (.ref (hp.objs.size + 1)))) s' | .ok _ => False | .error e => E e s')
      ⟨(hp.push noArgs).push (excO C hp.objs.size), gs, dr, tk, os⟩) : wpAny (model prog w) A (Builtin.«type.__call__» ⟨[.ref C], [(kn, kv)]⟩) Q E ⟨hp, gs, dr, tk, os⟩ := by
  repeat (first | with_reducible refine wpAny_madeBy_exc hC ?_ | with_reducible refine wpAny_loadPart_at hC ?_ | wp_step)
  refine codeAny_call_builtin_code (Code.quiet_builtin _ FB.quiet) (look_new FB same hC (new_kw FB same hC ?_))
  show wpAny _ _ _ _ _ _
  have up : ∀ b o, hp.get? b = some o → ((hp.push noArgs).push (excO C hp.objs.size)).get? b = some o := fun b o z => Heap.get?_push_of_some _ (Heap.get?_push_of_some _ z)
  have hCu := up _ _ hC
  have at1 : ((hp.push noArgs).push (excO C hp.objs.size)).get? (hp.objs.size + 1) = some (excO C hp.objs.size) := by heap_get
  have inC : (Value.ref C :: mr).contains (.ref C) = true := by simp
  have liu := li.keeps up
  have lbu := (lb (.ref (hp.objs.size + 1))).keeps up
  unfold isInstance
  repeat (first | (with_reducible refine wpAny_isSubtype_exc hCu ?_; rw [inC]) | with_reducible refine wpAny_loadPart_at at1 ?_ | wp_step)
  show wpAny _ _ (typeLookup (Value.ref C) _) _ _ _
  refine liu.at (wpAny_holding (wpAny_bind (lbu.at (wpAny_bind (wpAny_call (codeAny_mono hq fun r s' z => ?_))))))
  cases r with
  | error e => exact z
  | ok fl =>
    cases fl with
    | ret u =>
      obtain ⟨rfl, z'⟩ := z
      first
        | exact wpAny_pure (wpAny_pure z')
        | (wp_walk; exact z')
        | (wp_walk; done)
    | next => exact z.elim
    | brk => exact z.elim
    | cont => exact z.elim
theorem call_kw (FB : ExcBaseFacts B newId initId bmB) (same : ∀ Y : String, mr.contains (.type Y) = bmB.contains (.type Y)) {fI : Addr}
    (hC : hp.get? C = some (excClassObj nm qn C nsA bs mr hdct sn sub ab col dd s0 s1 s2 s3 s5 newId)) (li : W.Looks (model prog w) hp (typeLookup (.ref C) "__init__") (some (.ref fI)))
    (lb : ∀ z, W.Looks (model prog w) hp (bindSpecial (.ref fI) z) (.ref fI, [z]))
    (hq : codeAny (model prog w) (A.under (.builtin "type.__call__" ⟨[.ref C], [(kn, kv)]⟩)) (.call (.ref fI) ⟨[.ref (hp.objs.size + 1)], [(kn, kv)]⟩) (W.InitBack (hp.objs.size + 1) R) ⟨(hp.push noArgs).push (excO C hp.objs.size), gs, dr, tk, os⟩) :
    codeAny (model prog w) A (.call (.ref C) ⟨[], [(kn, kv)]⟩) R ⟨hp, gs, dr, tk, os⟩ := by
  have a1 := tc_lookup
  have a2 := tc_bind (.ref C)
  have ty : (⟨hp, gs, dr, tk, os⟩ : Shared).TypeIs (.ref C) "type" := ⟨_, hC, rfl⟩
  refine codeAny_of_tree ?_
  show wpAny _ _ (callAny (Value.ref C) _) _ _ _
  repeat (any_goals (first | with_reducible refine wpAny_loadPart_at hC ?_ | assumption | wp_step))
  refine ⟨rfl, codeAny_call_builtin_at (Code.quiet_builtin _ (by decide +kernel)) entry_typeCall (look_call hC (type_call_kw FB same hC li lb ?_))⟩
  exact codeAny_mono hq fun r s' z => by rcases r with e | (u | _ | _ | _) <;> exact z
end
end Exn

set_option Elab.async false
set_option linter.all false
set_option maxRecDepth 100000
set_option maxHeartbeats 4000000
namespace Exn
open PySem L2 PyProof.Rows
/-! ### own exceptions made, as rules -/
/-- what is known of a class that is called -/
structure MkFacts (prog : Program) (K : PySem.W.Frag) (C fI : Addr) (B newId i : String) (bmB : List Value) (par fld : Str) (fd : FuncData) : Prop where
  ini : IniFacts prog K C fI B newId i bmB par fld fd
  kC : PySem.W.keepIn K (Value.ref C) = true
  iC : PySem.W.findIn K (.ref C) "__init__" = some (some (.ref fI))
  tI : PySem.W.typeIn K (.ref fI) = some (.type "function")
  bp : ∀ (s : Shared) (e : Addr) (u : Value), BindsTo s fd ⟨[.ref e, u], []⟩ [("self", .ref e), (par, u)]
  bk : ∀ (s : Shared) (e : Addr) (u : Value), BindsTo s fd ⟨[.ref e], [(par, u)]⟩ [("self", .ref e), (par, u)]
/-- the ground on which a class is called -/
structure Ground (K : PySem.W.Frag) (mg : Str → Option Value) (h : Heap) : Prop where
  kin : K.In h
  nl : h.NoLimit
  gl : h.Ns mainGlobals mg
  sup : mg "super" = none
  bl : ∃ mb : Str → Option Value, h.Ns builtinsNs mb ∧ mb "super" = some (.type "super")
  up : ∀ a, h.objs.size ≤ a → K.lookup a = none
theorem Ground.keeps {K : PySem.W.Frag} {mg : Str → Option Value} {h h' : Heap} (g : Ground K mg h) (k : ∀ b o, h.get? b = some o → h'.get? b = some o) (hs : ∀ a, h'.objs.size ≤ a → h.objs.size ≤ a) : Ground K mg h' :=
  ⟨g.kin.keeps k, g.nl.keeps k, g.gl.keeps k, g.sup, let ⟨mb, b1, b2⟩ := g.bl; ⟨mb, b1.keeps k, b2⟩, fun a ha => g.up a (hs a ha)⟩
section
variable {prog : Program} {w : World} {A : Around} {R : Result → Shared → Prop} {hp : Heap} {gs : Array GenState} {dr : Drawn} {tk : Nat} {os : OsState} {K : PySem.W.Frag} {mg : Str → Option Value} {C fI : Addr} {B newId i : String} {bmB : List Value} {par fld : Str} {fd : FuncData} {u : Value}
/-- the end of a class's call -/
def Made (R : Result → Shared → Prop) (hp : Heap) (gs : Array GenState) (dr : Drawn) (os : OsState) (C : Addr) (fld : Str) (u : Value) : Prop :=
  ∀ (h' : Heap) (tk' : Nat) (a dx t1 : Addr), (∀ b o, hp.get? b = some o → h'.get? b = some o) → hp.objs.size ≤ a → hp.objs.size ≤ dx → dx ≠ a →
    h'.get? a = some { PX.excO C t1 with dict := some dx } → h'.Ns1 dx (fun y => if y = fld then some u else none) → R (.ok (.ret (.ref a))) ⟨h', gs, dr, tk', os⟩
theorem make_pos (F : MkFacts prog K C fI B newId i bmB par fld fd) (Gr : Ground K mg hp) (room : A.depth + 1 < recursionLimit) (q : Made R hp gs dr os C fld u) :
    codeAny (model prog w) A (.call (.ref C) ⟨[u], []⟩) R ⟨hp, gs, dr, tk, os⟩ := by
  obtain ⟨nm, N, qn, bs, bm, hdct, sn, sub, ab, col, dd, k0, k1, k2, k3, k5, hC, hT⟩ := PySem.W.excInit_of Gr.kin F.ini.q
  obtain ⟨mb, b1, b2⟩ := Gr.bl
  have up : ∀ b o, hp.get? b = some o → ((hp.push (PySem.W.kdv_tup [u])).push (PX.excO C hp.objs.size)).get? b = some o := fun b o e => Heap.get?_push_of_some _ (Heap.get?_push_of_some _ e)
  have at1 : ((hp.push (PySem.W.kdv_tup [u])).push (PX.excO C hp.objs.size)).get? (hp.objs.size + 1) = some (PX.excO C hp.objs.size) := by heap_get
  have sz : ((hp.push (PySem.W.kdv_tup [u])).push (PX.excO C hp.objs.size)).objs.size = hp.objs.size + 2 := by rw [Heap.size_push, Heap.size_push]
  have nK : K.lookup (hp.objs.size + 1) = none := Gr.up _ (Nat.le_succ _)
  refine PX.call_own F.ini.FB hT hC (PySem.W.looks_findIn Gr.kin F.iC) (fun self => PySem.W.bind_fn Gr.kin self F.tI) (by show 1 ≤ sizeLine; rw [sizeLine_eq]; omega) ?_
  refine init_run F.ini (by rw [make_depth]; exact room) (Gr.kin.keeps up) (Gr.nl.keeps up) (Gr.gl.keeps up) Gr.sup (b1.keeps up) b2 nK at1 (F.bp _ _ _) fun h' tk' dx t1 c1 c2 c3 c4 c5 => ⟨rfl, ?_⟩
  exact q h' tk' _ dx t1 (fun b o e => c1 b o (Nat.ne_of_lt (Nat.lt_succ_of_lt (Heap.lt_size e))) (up b o e)) (Nat.le_succ _) (by omega) c3 c4 c5
theorem make_kw (F : MkFacts prog K C fI B newId i bmB par fld fd) (Gr : Ground K mg hp) (room : A.depth + 1 < recursionLimit) (q : Made R hp gs dr os C fld u) :
    codeAny (model prog w) A (.call (.ref C) ⟨[], [(par, u)]⟩) R ⟨hp, gs, dr, tk, os⟩ := by
  obtain ⟨nm, N, qn, bs, bm, hdct, sn, sub, ab, col, dd, k0, k1, k2, k3, k5, hC, hT⟩ := PySem.W.excInit_of Gr.kin F.ini.q
  obtain ⟨mb, b1, b2⟩ := Gr.bl
  have up : ∀ b o, hp.get? b = some o → ((hp.push noArgs).push (PX.excO C hp.objs.size)).get? b = some o := fun b o e => Heap.get?_push_of_some _ (Heap.get?_push_of_some _ e)
  have at1 : ((hp.push noArgs).push (PX.excO C hp.objs.size)).get? (hp.objs.size + 1) = some (PX.excO C hp.objs.size) := by heap_get
  have sz : ((hp.push noArgs).push (PX.excO C hp.objs.size)).objs.size = hp.objs.size + 2 := by rw [Heap.size_push, Heap.size_push]
  have nK : K.lookup (hp.objs.size + 1) = none := Gr.up _ (Nat.le_succ _)
  refine call_kw F.ini.FB hT hC (PySem.W.looks_findIn Gr.kin F.iC) (fun self => PySem.W.bind_fn Gr.kin self F.tI) ?_
  refine init_run F.ini (by rw [make_depth]; exact room) (Gr.kin.keeps up) (Gr.nl.keeps up) (Gr.gl.keeps up) Gr.sup (b1.keeps up) b2 nK at1 (F.bk _ _ _) fun h' tk' dx t1 c1 c2 c3 c4 c5 => ⟨rfl, ?_⟩
  exact q h' tk' _ dx t1 (fun b o e => c1 b o (Nat.ne_of_lt (Nat.lt_succ_of_lt (Heap.lt_size e))) (up b o e)) (Nat.le_succ _) (by omega) c3 c4 c5
end
end Exn

set_option Elab.async false
set_option linter.all false
set_option maxRecDepth 100000
set_option maxHeartbeats 4000000
namespace Exn
open PySem L2
section
variable {X : Cx} {pins : List (Addr × Obj)} {σ : St} {H : Hp} {s : Shared} {hp h' : Heap} {gs : Array GenState} {dr : Drawn} {tk tk' : Nat} {os : OsState} {a dx C t1 : Addr} {f : Str} {y : V} {u : Value}
theorem ground_of (I : Inv X pins σ H s) (hs : X.mg "super" = none) : Ground X.K X.mg s.heap := by
  obtain ⟨mb, b1, b2⟩ := I.mod.blt
  refine ⟨I.kIn, I.mod.nolimit.keeps I.bk, I.mod.glob.keeps I.bk, hs, ⟨mb, b1.keeps I.bk, (b2 "super" (by decide)).trans PyProof.Rows.Boot.«super»⟩, fun a ha => ?_⟩
  cases e : X.K.lookup a with
  | none => rfl
  | some o => exact absurd (Heap.lt_size (I.kIn _ _ e)) (Nat.not_lt.mpr ha)
/-- a new exception and its dict stand -/
theorem laid2 (I : Inv X pins σ H ⟨hp, gs, dr, tk, os⟩) (k : ∀ b o, hp.get? b = some o → h'.get? b = some o) (ha : hp.objs.size ≤ a) (hd : hp.objs.size ≤ dx) (ne : dx ≠ a)
    (oa : h'.get? a = some { PX.excO C t1 with dict := some dx }) (nd : h'.Ns1 dx (fun z => if z = f then some u else none)) (ry : RelV y u) :
    Inv X pins σ (upd (upd H dx (exd dx [(f, y)])) a (exo a C (some dx))) ⟨h', gs, dr, tk', os⟩ := by
  have na : H a = none := I.hok.fresh ha
  have nx : H dx = none := I.hok.fresh hd
  have old : ∀ {b : Addr} {o : Obj}, hp.get? b = some o → b ≠ a ∧ b ≠ dx := fun {b o} q => ⟨Nat.ne_of_lt (Nat.lt_of_lt_of_le (Heap.lt_size q) ha), Nat.ne_of_lt (Nat.lt_of_lt_of_le (Heap.lt_size q) hd)⟩
  have kept : ∀ {b : Addr} {o : HO}, H b = some o → upd (upd H dx (exd dx [(f, y)])) a (exo a C (some dx)) b = some o := fun {b o} q => by rw [upd_ne (ne_of_none q na), upd_ne (ne_of_none q nx)]; exact q
  have U : Un X.fs [] H (upd (upd H dx (exd dx [(f, y)])) a (exo a C (some dx))) hp h' := {
    keep := fun b o q _ _ _ => k b o q
    slot := fun b o q _ _ _ => ⟨o.slots, k b o q⟩
    free := fun b o q n _ => by rw [upd_ne (old q).1, upd_ne (old q).2]; exact n
    there := fun b o q _ => ⟨o, k b o q⟩
    tups := fun b xs q => kept q
    frzs := fun b o v q => kept q
    tbls := fun b ps q => ⟨#[], by rw [kept q]; simp⟩ }
  refine I.un (t' := tk') U fun b o q => ?_
  by_cases hb : b = a
  · subst hb
    rw [upd_same] at q
    cases q
    exact exo_ok oa
  · rw [upd_ne hb] at q
    by_cases hx : b = dx
    · subst hx
      rw [upd_same] at q
      cases q
      exact exd_ok nd (relO_put (fs := []) ry fun z => True.intro)
    · rw [upd_ne hx] at q
      exact (I.hok b o q).stay (fun c v _ z => k c v z) (fun c z => kept z) (fun c xs z => kept z)
end
/-- C(e): an own exception with its field -/
def tMk (C : Addr) (fld : Str) (te : TE) : TE := fun σ H Q => te σ H fun y H1 => ∀ a dx, H1 a = none → H1 dx = none → dx ≠ a → Q (.ref a) (upd (upd H1 dx (exd dx [(fld, y)])) a (exo a C (some dx)))
section
variable {X : Cx} {C fI : Addr} {B newId i : String} {bmB : List Value} {par fld : Str} {fd : FuncData} {x : Str} {e : Expr} {te : TE} {p pos kp : Pos}
theorem fin_mk {pins : List (Addr × Obj)} {σ : St} {H1 : Hp} {s1 : Shared} {Q : VK} {u : Value} {y : V} (I1 : Inv X pins σ H1 s1) (ry : RelV y u) (q : ∀ a dx, H1 a = none → H1 dx = none → dx ≠ a → Q (.ref a) (upd (upd H1 dx (exd dx [(fld, y)])) a (exo a C (some dx)))) :
    Made (fun r s' => match r with | .ok (.ret v) => EP X pins σ Q v s' | .ok _ => False | .error z => X.xe z s') s1.heap s1.gens s1.drawn s1.os C fld u := by
  obtain ⟨hp, g, d, t, os⟩ := s1
  intro h' tk' a dx t1 k ha hd ne oa nd
  exact ⟨.ref a, _, laid2 (tk' := tk') I1 k ha hd ne oa nd ry, rfl, q a dx (I1.hok.fresh ha) (I1.hok.fresh hd) ne⟩
theorem pe_mkp (F : MkFacts X.prog X.K C fI B newId i bmB par fld fd) (hs : X.mg "super" = none) (room : X.A.depth + 1 < recursionLimit) (hg : Gl X x) (hm : X.mg x = some (.ref C)) (he : PE X e te) (hns : starEach [e] X.env = (false, eval e X.env) :: starEach [] X.env)
    (hdb : (x == ("__debug__" : Str)) = false) : PE X (.Call (.Name x p) [e] [] pos) (tMk C fld te) := by
  refine ⟨fun pins s σ H Q I h => ?_⟩
  refine wpAny_Call_Name_kw (ld_glob I hg hm ?_ hdb)
  refine PySem.W.callWith_K (h₀ := X.base) I.ok.mod.kin F.kC ?_ hns (by rfl)
  rw [hns]
  (show wpAny _ _ (spliced ((false, eval e X.env) :: backTo pos (starEach [] X.env))) _ _ s)
  refine Calls.spliced_cons (thn (he.run pins s σ H _ I h) fun u s1 ⟨y, H1, I1, r1, q1⟩ => ?_)
  refine Calls.spliced_nil (⟨I1.kIn, ?_⟩ : _ ∧ _)
  show wpAny _ _ (call (Value.ref C) [u]) _ _ _
  have G := ground_of I1 hs
  have M := fin_mk I1 r1 q1
  obtain ⟨hp, g, d, t, os⟩ := s1
  refine wpAny_call (make_pos F G room ?_)
  exact fun h' tk' a dx t1 k ha hd ne oa nd => M h' tk' a dx t1 k ha hd ne oa nd
theorem pe_mkk (F : MkFacts X.prog X.K C fI B newId i bmB par fld fd) (hs : X.mg "super" = none) (room : X.A.depth + 1 < recursionLimit) (hg : Gl X x) (hm : X.mg x = some (.ref C)) (he : PE X e te)
    (hdb : (x == ("__debug__" : Str)) = false) : PE X (.Call (.Name x p) [] [⟨some par, e, kp⟩] pos) (tMk C fld te) := by
  refine ⟨fun pins s σ H Q I h => ?_⟩
  refine wpAny_Call_Name_kw (ld_glob I hg hm ?_ hdb)
  refine PySem.W.callWith_KW0 (h₀ := X.base) I.ok.mod.kin F.kC (by rfl) ?_ (by rfl)
  show wpAny _ _ (evalAll ((do let v ← eval e X.env; standAt pos; pure v) :: [])) _ _ s
  refine wpAny_evalAll_cons (wpAny_bind (thn (he.run pins s σ H _ I h) fun u s1 ⟨y, H1, I1, r1, q1⟩ => wpAny_bind (wpAny_standAt (wpAny_pure (wpAny_evalAll_nil ⟨I1.kIn, ?_⟩)))))
  show wpAny _ _ (call (.ref C) [] [(par, u)]) _ _ _
  have G := ground_of I1 hs
  have M := fin_mk I1 r1 q1
  obtain ⟨hp, g, d, t, os⟩ := s1
  refine wpAny_call (make_kw F G room ?_)
  exact fun h' tk' a dx t1 k ha hd ne oa nd => M h' tk' a dx t1 k ha hd ne oa nd
/-- a class without __init__ of its own -/
structure Mk0Facts (K : PySem.W.Frag) (C : Addr) (B newId i : String) (bmB : List Value) : Prop where
  FB : ExcBaseFacts B newId i bmB
  q : PySem.W.excInitIn K C bmB newId = true
  kC : PySem.W.keepIn K (Value.ref C) = true
  iC : PySem.W.findIn K (.ref C) "__init__" = some (some (.builtin i))
theorem make_0 {prog : Program} {w : World} {A : Around} {R : Result → Shared → Prop} {hp : Heap} {gs : Array GenState} {dr : Drawn} {tk : Nat} {os : OsState} {K : PySem.W.Frag} (F : Mk0Facts K C B newId i bmB) (kin : K.In hp)
    (q : ∀ (h' : Heap) (a t1 : Addr), (∀ b o, hp.get? b = some o → h'.get? b = some o) → hp.objs.size ≤ a → h'.get? a = some (PX.excO C t1) → R (.ok (.ret (.ref a))) ⟨h', gs, dr, tk, os⟩) :
    codeAny (model prog w) A (.call (.ref C) ⟨[], []⟩) R ⟨hp, gs, dr, tk, os⟩ := by
  obtain ⟨nm, N, qn, bs, bm, hdct, sn, sub, ab, col, dd, k0, k1, k2, k3, k5, hC, hT⟩ := PySem.W.excInit_of kin F.q
  have a1 := tc_lookup
  have a2 := tc_bind (.ref C)
  have ty : (⟨hp, gs, dr, tk, os⟩ : Shared).TypeIs (.ref C) "type" := ⟨_, hC, rfl⟩
  refine codeAny_of_tree ?_
  show wpAny _ _ (callAny (Value.ref C) _) _ _ _
  repeat (any_goals (first | with_reducible refine wpAny_loadPart_at hC ?_ | assumption | wp_step))
  refine ⟨rfl, codeAny_call_builtin_at (Code.quiet_builtin _ (by decide +kernel)) entry_typeCall (wpAny_check_type_call_sub hC (PySem.W.type_callB F.FB hT hC (PySem.W.looks_findIn kin F.iC) (by show 0 ≤ sizeLine; exact Nat.zero_le _) fun h' k e _ => ?_))⟩
  exact q h' _ _ k (Nat.le_succ _) e
def tMk0 (C : Addr) : TE := fun σ H Q => ∀ a, H a = none → Q (.ref a) (upd H a (exo a C none))
theorem pe_mk0 (F : Mk0Facts X.K C B newId i bmB) (hg : Gl X x) (hm : X.mg x = some (.ref C)) (hdb : (x == ("__debug__" : Str)) = false) : PE X (.Call (.Name x p) [] [] pos) (tMk0 C) := by
  refine ⟨fun pins s σ H Q I h => ?_⟩
  refine wpAny_Call_Name_kw (ld_glob I hg hm ?_ hdb)
  refine PySem.W.callWith_K0 I.kIn F.kC ?_
  have kin := I.kIn
  obtain ⟨hp, g, d, t, os⟩ := s
  refine wpAny_call (make_0 F kin fun h' a t1 k ha e => ?_)
  exact ⟨.ref a, _, I.laid (t' := t) k ha (exo_ok e), rfl, h a (I.hok.fresh ha)⟩
end
end Exn

set_option Elab.async false
set_option linter.all false
set_option maxRecDepth 100000
set_option maxHeartbeats 4000000
namespace Exn
open PySem L2
/-! ### own exceptions asked: isinstance, a field -/
/-- an exception in hand: with its dict, or without -/
def exq (e C : Addr) (d : Option Addr) : HO := .ext fun h => ∃ (oe : Obj) (vs : Array Value), h.get? e = some oe ∧ oe.cls = .ref C ∧ oe.dict = d ∧ oe.data = .fields vs
theorem exq_ok {P : Program} {w : World} {H : Hp} {h : Heap} {e C : Addr} {d : Option Addr} {oe : Obj} {vs : Array Value} (he : h.get? e = some oe) (h1 : oe.cls = .ref C) (h2 : oe.dict = d) (h3 : oe.data = .fields vs) : ObjOk P w H h e (exq e C d) :=
  ⟨⟨oe, vs, he, h1, h2, h3⟩, ⟨_, he⟩, fun g1 g2 z k => by
    obtain ⟨oe, vs, q, q1, q2, q3⟩ := z
    exact ⟨oe, vs, k _ q, q1, q2, q3⟩⟩
/-- one newly made, or one that was caught -/
def Exo (o : HO) (a C : Addr) (d : Option Addr) : Prop := o = exo a C d ∨ o = exq a C d
theorem Exo.at_ {P : Program} {w : World} {H : Hp} {h : Heap} {e C : Addr} {d : Option Addr} {o : HO} (x : Exo o e C d) (hok : HOk P w H h) (he : H e = some o) : ∃ (oe : Obj) (vs : Array Value), h.get? e = some oe ∧ oe.cls = .ref C ∧ oe.dict = d ∧ oe.data = .fields vs := by
  rcases x with x | x
  · subst x
    obtain ⟨t1, q⟩ := exo_at hok he
    exact ⟨_, _, q, rfl, rfl, rfl⟩
  · subst x
    have x : ObjOk P w H h e (.ext fun h => ∃ (oe : Obj) (vs : Array Value), h.get? e = some oe ∧ oe.cls = .ref C ∧ oe.dict = d ∧ oe.data = .fields vs) := hok e _ he
    exact x.1
def ExAt (H : Hp) (a C : Addr) : Prop := ∃ o, H a = some o ∧ (Exo o a C none ∨ ∃ (dx : Addr) (fs : List (Str × V)), Exo o a C (some dx) ∧ H dx = some (exd dx fs))
/-- isinstance(e, c) -/
def rIsx (K : PySem.W.Frag) : List V → Hp → VK → Prop := fun xs H Q => ∃ (a C : Addr) (c : V) (cv : Value) (b : Bool), xs = [.ref a, c] ∧ ExAt H a C ∧ ExcC K C ∧ (∀ u, RelV c u → u = cv) ∧ PySem.W.kitOne K (.ref C) cv = some b ∧ Q (.bl b) H
theorem inst_of {P : Program} {w : World} {H : Hp} {h : Heap} {a C : Addr} (hok : HOk P w H h) (e : ExAt H a C) : ∃ (oe : Obj) (od : Option Obj), PySem.W.InstAt h a oe C od := by
  obtain ⟨o, ho, e | ⟨dx, fs, e, ed⟩⟩ := e
  · obtain ⟨oe, vs, q, q1, q2, q3⟩ := e.at_ hok ho
    exact ⟨oe, none, q, q1, by unfold PySem.W.notCls; rw [q3] <;> rfl, by rw [q2]; trivial⟩
  · obtain ⟨oe, vs, q, q1, q2, q3⟩ := e.at_ hok ho
    obtain ⟨mA, ⟨o, es, ep, ho, _⟩, _⟩ := exd_at hok ed
    exact ⟨oe, some o, q, q1, by unfold PySem.W.notCls; rw [q3] <;> rfl, by rw [q2]; exact ho⟩
theorem call_isx {X : Cx} : CallR X (.builtin "isinstance") (rIsx X.K) := by
  intro pins s σ H xs us Q I r h
  obtain ⟨a, C, c, cv, b, rfl, he, T, hcv, hk, q⟩ := h
  cases r with
  | cons rx rr =>
    cases rr with
    | cons rt rr =>
      cases rr
      cases rx
      have ec := hcv _ rt
      subst ec
      obtain ⟨oe, od, J⟩ := inst_of I.hok he
      have hcl : (PySem.W.clsIn X.K C).isSome = true := by
        obtain ⟨cd, hc, _⟩ := PySem.W.any_some T.hd
        rw [hc]
        rfl
      exact PySem.W.kia_one (PySem.W.kitx_exc hcl T.hg T.hk T.hs T.ha T.hn T.ht T.hm) I.kIn J hk (fun z => nomatch z) fun tk => ⟨.bl b, H, I.kept (t' := tk) fun _ _ z => z, rfl, q⟩
/-- e.f -/
def tXat (K : PySem.W.Frag) (f : Str) (te : TE) : TE := fun σ H Q => te σ H fun x H1 => ∃ (a C dx : Addr) (o : HO) (fs : List (Str × V)) (v : V), x = .ref a ∧ H1 a = some o ∧ Exo o a C (some dx) ∧ H1 dx = some (exd dx fs) ∧ XfC K C ∧ PySem.W.findIn K (.ref C) f = some none ∧ fs.lookup f = some v ∧ Q v H1
theorem pe_xat {X : Cx} {e : Expr} {te : TE} {pos : Pos} {f : Str} (he : PE X e te) (hb : attributeBase e f X.env (eval e X.env) = eval e X.env) : PE X (.Attribute e f pos) (tXat X.K f te) := by
  refine ⟨fun pins s σ H Q I h => ?_⟩
  refine attr_of hb (thn (he.run pins s σ H _ I h) fun u s1 ⟨x, H1, I1, rx, a, C, dx, o, fs, v, ex, ea, eo, ed, T, hno, l, q⟩ => ?_)
  subst ex
  obtain rfl : u = Value.ref a := rx
  obtain ⟨oe, vs, ha, q1, q2, q3⟩ := eo.at_ I1.hok ea
  obtain ⟨mA, hns, rel⟩ := exd_at I1.hok ed
  obtain ⟨od, hod, hl⟩ := lookIn_ns hns
  obtain ⟨u, hu, ru⟩ := RelO.some_of (v := v) (o := mA f) (by rw [← l]; exact rel f)
  exact HandSPX.exc_get (od := some od) I1.kIn ⟨ha, q1, by unfold PySem.W.notCls; rw [q3] <;> rfl, by rw [q2]; exact hod⟩ T.ga T.gg T.exC (PySem.W.findObj_own T.hdC hno rfl (by rw [hl, hu])) (handed_of ru) ⟨v, H1, I1.tok _, ru, q⟩
end Exn

set_option Elab.async false
set_option linter.all false
set_option autoImplicit false
set_option maxRecDepth 100000
set_option maxHeartbeats 2000000
namespace Ev
open PySem L2
abbrev Sg := L2.St

abbrev Sub (G H : Hp) : Prop := ∀ b o, G b = some o → H b = some o
theorem Sub.refl (G : Hp) : Sub G G := fun _ _ h => h
theorem Sub.trans {G H I : Hp} (a : Sub G H) (b : Sub H I) : Sub G I := fun c o h => b c o (a c o h)

/-- what stands apart: the drawing list; the tables of code objects, with their names; what is handed over to be called -/
structure Ap where
  tub : Option Addr := none
  tabs : List (Addr × Str) := []
  act : Option Addr := none
  g0 : Hp := fun _ => none
  code : List (Addr × Str) := []
def Ap.at (T : Ap) (a : Addr) : Prop := T.tub = some a ∨ ∃ q, (a, q) ∈ T.tabs
/-- what is frozen leaves it alone, and has what was frozen ahead -/
def Ap.away (T : Ap) (G : Hp) : Prop := (∀ a, T.at a → G a = none) ∧ Sub T.g0 G
/- a value reads as data, by what is frozen; T: the drawing list, an opaque thing -/
mutual
inductive Is (T : Ap) (G : Hp) : V → D → Prop
  | non : Is T G .non .none
  | bl (b : Bool) : Is T G (.bl b) (.bool b)
  | int (i : Int) : Is T G (.int i) (.int i)
  | str (x : Str) : Is T G (.str x) (.str x)
  | lst {a : Addr} {vs : List V} {ds : List D} : G a = some (.lst vs) → IsAll T G vs ds → Is T G (.ref a) (.list ds)
  | tup {a : Addr} {vs : List V} {ds : List D} : G a = some (.tup vs) → IsAll T G vs ds → Is T G (.ref a) (.tuple ds)
  | tub {a : Addr} : T.tub = some a → Is T G (.ref a) (.dict [])
  | scr {a : Addr} {o : Obj} {ns : List Int} : G a = some (.frz o (.lst (ns.map V.int))) → Is T G (.ref a) (Ev.scr ns)
  | xc0 {a C : Addr} {o : HO} : G a = some o → Exn.Exo o a C none → Is T G (.ref a) (Ev.xc0 C)
  | xc1 {a C dx : Addr} {o : HO} {f : Str} {v : V} {d : D} : G a = some o → Exn.Exo o a C (some dx) → G dx = some (exd dx [(f, v)]) → Is T G v d → Is T G (.ref a) (Ev.xcD C f d)
  | dk {a : Addr} {l : List (Int × Int)} : G a = some (.dK (l.map fun p => (.inl p.1, .int p.2))) → Is T G (.ref a) (Ev.dkD l)
  | ins {a C dx : Addr} {fs : List (Str × V)} {ds : List D} : G a = some (.ins C dx fs) → G dx = some (.own a) → IsAll T G (fs.map (·.2)) ds → Is T G (.ref a) (Ev.insD C (fs.map (·.1)) ds)
inductive IsAll (T : Ap) (G : Hp) : List V → List D → Prop
  | nil : IsAll T G [] []
  | cons {v : V} {vs : List V} {d : D} {ds : List D} : Is T G v d → IsAll T G vs ds → IsAll T G (v :: vs) (d :: ds)
end
section
variable {T : Ap} {G G' H H' : Hp}
theorem Is.mono' (s : Sub G G') {v : V} {d : D} (h : Is T G v d) : Is T G' v d :=
  Is.rec (motive_1 := fun v d _ => Is T G' v d) (motive_2 := fun vs ds _ => IsAll T G' vs ds) .non .bl .int .str (fun e _ r => .lst (s _ _ e) r) (fun e _ r => .tup (s _ _ e) r) .tub (fun e => .scr (s _ _ e)) (fun e x => .xc0 (s _ _ e) x)
    (fun e x e' _ r => .xc1 (s _ _ e) x (s _ _ e') r) (fun e => .dk (s _ _ e)) (fun e e' _ r => .ins (s _ _ e) (s _ _ e') r) .nil (fun _ _ a b => .cons a b) h
theorem Is.mono (s : Sub G G') (d : D) (v : V) (h : Is T G v d) : Is T G' v d := h.mono' s
theorem IsAll.mono (s : Sub G G') : ∀ (ds : List D) (vs : List V), IsAll T G vs ds → IsAll T G' vs ds
  | [], _, h => by cases h; exact .nil
  | d :: ds, _, h => by
    cases h with
    | cons a b => exact .cons (a.mono' s) (IsAll.mono s ds _ b)
mutual
theorem Is.dp {K : PySem.W.Frag} (s : Sub G H) : ∀ (d : D) (v : V), d.canLay0 = true → Is T G v d → Dp K H v d
  | .none, _, _, h => by cases h; exact .non
  | .bool _, _, _, h => by cases h; exact .bl _
  | .int _, _, _, h => by cases h; exact .int _
  | .str _, _, _, h => by cases h; exact .str _
  | .list ds, _, c, h => by
    cases h with
    | lst e r => exact .lst (.of (s _ _ e)) (IsAll.dp s ds _ (by simpa [PyData.canLay0] using c) r)
  | .tuple ds, _, c, h => by
    cases h with
    | tup e r => exact .tup (.of (s _ _ e)) (IsAll.dp s ds _ (by simpa [PyData.canLay0] using c) r)
  | .dict _, _, c, _ => by simp [PyData.canLay0] at c
theorem IsAll.dp {K : PySem.W.Frag} (s : Sub G H) : ∀ (ds : List D) (vs : List V), PyData.canLayAll0 ds = true → IsAll T G vs ds → DpAll K H vs ds
  | [], _, _, h => by cases h; exact .nil
  | d :: ds, _, c, h => by
    have c' : d.canLay0 = true ∧ PyData.canLayAll0 ds = true := by simpa [PyData.canLayAll0] using c
    cases h with
    | cons a b => exact .cons (Is.dp s d _ c'.1 a) (IsAll.dp s ds _ c'.2 b)
end
theorem IsAll.ofInts : ∀ ns : List Int, IsAll T G (ns.map V.int) (ns.map PyData.int)
  | [] => .nil
  | n :: ns => .cons (.int n) (IsAll.ofInts ns)
theorem IsAll.length : ∀ {ds : List D} {vs : List V}, IsAll T G vs ds → vs.length = ds.length
  | [], _, h => by cases h; rfl
  | d :: ds, _, h => by
    cases h with
    | cons a b => simp [IsAll.length b]
theorem IsAll.append : ∀ {ds es : List D} {vs us : List V}, IsAll T G vs ds → IsAll T G us es → IsAll T G (vs ++ us) (ds ++ es)
  | [], _, _, _, h, k => by cases h; exact k
  | d :: ds, _, _, _, h, k => by
    cases h with
    | cons a b => exact .cons a (IsAll.append b k)
theorem IsAll.get : ∀ {ds : List D} {vs : List V} {i : Nat} {d : D}, IsAll T G vs ds → ds[i]? = some d → ∃ v, vs[i]? = some v ∧ Is T G v d
  | [], _, i, d, h, e => by simp at e
  | d :: ds, _, 0, _, h, e => by
    cases h with
    | cons a b => simp at e; subst e; exact ⟨_, by simp, a⟩
  | d :: ds, _, i + 1, _, h, e => by
    cases h with
    | cons a b =>
      obtain ⟨v, h1, h2⟩ := IsAll.get (i := i) b (by simpa using e)
      exact ⟨v, by simpa using h1, h2⟩
theorem IsAll.get' {ds : List D} {vs : List V} {i : Nat} {v : V} (h : IsAll T G vs ds) (e : vs[i]? = some v) : ∃ d, ds[i]? = some d ∧ Is T G v d := by
  obtain ⟨hi, rfl⟩ := List.getElem?_eq_some_iff.mp e
  have hl := h.length
  obtain ⟨v, h1, h2⟩ := h.get (i := i) (d := ds[i]'(by omega)) (by simp)
  rw [h1] at e; cases e
  exact ⟨_, by simp, h2⟩
theorem IsAll.of_get : ∀ {ds : List D} {vs : List V}, vs.length = ds.length → (∀ (i : Nat) v d, vs[i]? = some v → ds[i]? = some d → Is T G v d) → IsAll T G vs ds
  | [], [], _, _ => .nil
  | [], _ :: _, h, _ => by simp at h
  | _ :: _, [], h, _ => by simp at h
  | d :: ds, v :: vs, h, k => .cons (k 0 v d (by simp) (by simp)) (IsAll.of_get (by simpa using h) fun i v d h1 h2 => k (i + 1) v d (by simpa using h1) (by simpa using h2))
theorem IsAll.take : ∀ {ds : List D} {vs : List V} (n : Nat), IsAll T G vs ds → IsAll T G (vs.take n) (ds.take n)
  | [], _, n, h => by cases h; simp; exact .nil
  | d :: ds, _, 0, h => by simp; exact .nil
  | d :: ds, _, n + 1, h => by
    cases h with
    | cons a b => simpa using IsAll.cons a (IsAll.take n b)
theorem IsAll.drop : ∀ {ds : List D} {vs : List V} (n : Nat), IsAll T G vs ds → IsAll T G (vs.drop n) (ds.drop n)
  | [], _, n, h => by cases h; simp; exact .nil
  | d :: ds, _, 0, h => by simpa using h
  | d :: ds, _, n + 1, h => by
    cases h with
    | cons a b => simpa using IsAll.drop n b
theorem IsAll.reverse {ds : List D} {vs : List V} (h : IsAll T G vs ds) : IsAll T G vs.reverse ds.reverse := by
  refine IsAll.of_get (by simp [h.length]) fun i v d h1 h2 => ?_
  have hl := h.length
  have hi : i < vs.length := by have := (List.getElem?_eq_some_iff.mp h1).1; simpa using this
  rw [List.getElem?_reverse hi] at h1
  rw [List.getElem?_reverse (by omega)] at h2
  rw [← hl] at h2
  obtain ⟨v', e1, e2⟩ := h.get h2
  rw [h1] at e1; cases e1
  exact e2
theorem IsAll.set {ds : List D} {vs : List V} {v : V} {d : D} (j : Nat) (h : IsAll T G vs ds) (r : Is T G v d) : IsAll T G (vs.set j v) (ds.set j d) := by
  refine IsAll.of_get (by simp [h.length]) fun i v' d' h1 h2 => ?_
  by_cases hij : j = i
  · subst hij
    rw [List.getElem?_set] at h1 h2
    simp only [if_true] at h1 h2
    split at h1
    · cases h1
      split at h2
      · cases h2; exact r
      · cases h2
    · cases h1
  · rw [List.getElem?_set_ne hij] at h1 h2
    obtain ⟨v2, e1, e2⟩ := h.get h2
    rw [h1] at e1; cases e1
    exact e2
theorem IsAll.split : ∀ {ds es : List D} {vs : List V}, IsAll T G vs (ds ++ es) → ∃ u w, vs = u ++ w ∧ IsAll T G u ds ∧ IsAll T G w es
  | [], es, vs, h => ⟨[], vs, rfl, .nil, h⟩
  | d :: ds, es, _, h => by
    cases h with
    | cons a b =>
      obtain ⟨u, w, rfl, h1, h2⟩ := IsAll.split b
      exact ⟨_ :: u, w, rfl, .cons a h1, h2⟩
theorem IsAll.ints : ∀ {ds : List D} {vs : List V} {ns : List Int}, IsAll T G vs ds → intsOf ds = some ns → vs = ns.map V.int ∧ ds = ns.map PyData.int
  | [], _, _, h, e => by cases h; cases e; exact ⟨rfl, rfl⟩
  | d :: ds, _, ns, h, e => by
    cases h with
    | cons a b =>
      cases d with
      | int i =>
        simp only [intsOf, Option.map_eq_some_iff] at e
        obtain ⟨ms, e1, rfl⟩ := e
        obtain ⟨r1, r2⟩ := b.ints e1
        cases a
        exact ⟨by rw [r1]; rfl, by rw [r2]; rfl⟩
      | _ => simp [intsOf] at e
theorem IsAll.bls : ∀ {ds : List D} {vs : List V} {ns : List Bool}, IsAll T G vs ds → blsOf ds = some ns → vs = ns.map V.bl
  | [], _, _, h, e => by cases h; cases e; rfl
  | d :: ds, _, ns, h, e => by
    cases h with
    | cons a b =>
      cases d with
      | bool i =>
        simp only [blsOf, Option.map_eq_some_iff] at e
        obtain ⟨ms, e1, rfl⟩ := e
        have r1 := b.bls e1
        cases a
        rw [r1]; rfl
      | _ => simp [blsOf] at e
theorem IsAll.rep {ds : List D} {vs : List V} (h : IsAll T G vs ds) : ∀ n : Nat, IsAll T G (List.replicate n vs).flatten (List.replicate n ds).flatten
  | 0 => .nil
  | n + 1 => by
    rw [List.replicate_succ, List.replicate_succ]
    exact h.append (IsAll.rep h n)
end

/-- the drawing list -/
def TubOk (T : Ap) (H : Hp) : Prop := (∀ a, T.tub = some a → ∃ x y z : Int, H a = some (.lst [.int x, .int y, .int z]) ∧ tubB y = true) ∧ LamX.Tabs T.tabs H ∧ ∀ p ∈ T.code, H p.1 = some (LamX.CodeO p.1 p.2)
theorem TubOk.ext {T : Ap} {H H' : Hp} (t : TubOk T H) (k : ∀ b o, H b = some o → H' b = some o) : TubOk T H' :=
  ⟨fun a e => by
    obtain ⟨x, y, z, q, r⟩ := t.1 a e
    exact ⟨x, y, z, k _ _ q, r⟩, t.2.1.ext k, fun p hp => k _ _ (t.2.2 p hp)⟩
theorem TubOk.tab {T : Ap} {H : Hp} (t : TubOk T H) {a : Addr} {q : Str} (h : (a, q) ∈ T.tabs) : ∃ ps, H a = some (.tbl ps) := by
  obtain ⟨ps, e, _⟩ := t.2.1 _ h
  exact ⟨ps, e⟩
def noTbl (o : HO) : Prop := ∀ ps, o ≠ .tbl ps

/-- a step: what is frozen stays, all that stood stays (but the drawing list), what is newly frozen is new -/
structure Stp (T : Ap) (G H G' H' : Hp) : Prop where
  gs : Sub G G'
  gh : Sub G' H'
  kp : ∀ b o, T.tub ≠ some b → noTbl o → H b = some o → H' b = some o
  tbl : ∀ b ps, H b = some (.tbl ps) → ∃ ps', H' b = some (.tbl ps')
  new : ∀ b o, G' b = some o → G b = some o ∨ H b = none ∨ ∃ xs, H b = some (.tup xs)
  tub : TubOk T H'
section
variable {T : Ap} {G H G' H' G'' H'' : Hp}
theorem Stp.keep (k : Stp T G H G' H') (b : Addr) (o : HO) (hT : T.tub ≠ some b) (h : H b = some o) (n : noTbl o := by intro ps z; cases z) : H' b = some o := k.kp b o hT n h
theorem Stp.refl (s : Sub G H) (t : TubOk T H) : Stp T G H G H := ⟨.refl _, s, fun _ _ _ _ h => h, fun _ ps h => ⟨ps, h⟩, fun _ _ h => .inl h, t⟩
theorem Stp.back (a : Stp T G H G' H') (t : TubOk T H) {b : Addr} (h : H' b = none) : H b = none := by
  cases e : H b with
  | none => rfl
  | some o =>
    by_cases hT : T.tub = some b
    · obtain ⟨x, y, z, q, _⟩ := a.tub.1 b hT
      rw [h] at q; cases q
    · by_cases ht : noTbl o
      · rw [a.kp b o hT ht e] at h; cases h
      · obtain ⟨ps, q⟩ : ∃ ps, o = .tbl ps := Classical.byContradiction fun z => ht fun ps q => z ⟨ps, q⟩
        subst q
        obtain ⟨ps', w⟩ := a.tbl b ps e
        rw [h] at w; cases w
theorem Stp.trans (a : Stp T G H G' H') (b : Stp T G' H' G'' H'') (t : TubOk T H) : Stp T G H G'' H'' := by
  refine ⟨a.gs.trans b.gs, b.gh, fun c o hT n h => b.kp c o hT n (a.kp c o hT n h), fun c ps h => (a.tbl c ps h).elim fun ps' h' => b.tbl c ps' h', fun c o h => ?_, b.tub⟩
  rcases b.new c o h with q | q | ⟨xs, q⟩
  · exact a.new c o q
  · exact .inr (.inl (a.back t q))
  · cases e : H c with
    | none => exact .inr (.inl rfl)
    | some u =>
      refine .inr (.inr ⟨xs, ?_⟩)
      have hT : T.tub ≠ some c := fun z => by
        obtain ⟨_, _, _, w, _⟩ := a.tub.1 c z
        rw [q] at w; cases w
      by_cases ht : noTbl u
      · have := a.kp c u hT ht e
        rw [q] at this
        exact this.symm
      · obtain ⟨ps, w⟩ : ∃ ps, u = .tbl ps := Classical.byContradiction fun z => ht fun ps q => z ⟨ps, q⟩
        subst w
        obtain ⟨ps', w⟩ := a.tbl c ps e
        rw [q] at w; cases w
/-- a new object, frozen at once -/
theorem Stp.laid (s : Sub G H) (t : TubOk T H) {p : Addr} {o : HO} (hp : H p = none) : Stp T G H (upd G p o) (upd H p o) := by
  have gp : G p = none := by
    cases e : G p with
    | none => rfl
    | some u => rw [s p u e] at hp; cases hp
  have old : ∀ b u, H b = some u → upd H p o b = some u := fun b u e => by
    by_cases hb : b = p
    · subst hb; rw [hp] at e; cases e
    · rw [upd_ne hb]; exact e
  refine ⟨fun b u e => ?_, fun b u e => ?_, fun b u _ _ e => old b u e, fun b ps e => ⟨ps, old b _ e⟩, fun b u e => ?_, t.ext old⟩
  · by_cases hb : b = p
    · subst hb; rw [gp] at e; cases e
    · rw [upd_ne hb]; exact e
  · by_cases hb : b = p
    · subst hb; rw [upd_same] at e ⊢; exact e
    · rw [upd_ne hb] at e ⊢; exact s b u e
  · by_cases hb : b = p
    · subst hb; exact .inr (.inl hp)
    · rw [upd_ne hb] at e; exact .inl e
/-- a new object, not frozen -/
theorem Stp.fresh (s : Sub G H) (t : TubOk T H) {p : Addr} {o : HO} (hp : H p = none) : Stp T G H G (upd H p o) := by
  have old : ∀ b u, H b = some u → upd H p o b = some u := fun b u e => by rw [upd_ne (ne_of_none e hp)]; exact e
  exact ⟨.refl _, fun b u e => old b u (s b u e), fun b u _ _ e => old b u e, fun b ps e => ⟨ps, old b _ e⟩, fun b u e => .inl e, t.ext old⟩
end

def flatKey : D → Option L2.Key
  | .int i => some (.inl i)
  | .str x => some (.inr x)
  | _ => none
def flatKeys : List D → Option (List L2.Key)
  | [] => some []
  | d :: r => (flatKey d).bind fun k => (flatKeys r).map (k :: ·)
def tupKey : D → Option (List L2.Key)
  | .tuple xs => flatKeys xs
  | _ => none
inductive KvF (T : Ap) (G : Hp) {κ : Type} (f : D → Option κ) : List (D × D) → List (κ × V) → Prop
  | nil : KvF T G f [] []
  | cons {k x : D} {r : List (D × D)} {q : κ} {v : V} {s : List (κ × V)} : f k = some q → Is T G v x → KvF T G f r s → KvF T G f ((k, x) :: r) ((q, v) :: s)
theorem KvF.mono {T : Ap} {G G' : Hp} {κ : Type} {f : D → Option κ} (s : Sub G G') : ∀ {l : List (D × D)} {m : List (κ × V)}, KvF T G f l m → KvF T G' f l m
  | _, _, .nil => .nil
  | _, _, .cons h1 h2 h3 => .cons h1 (h2.mono s _ _) (KvF.mono s h3)
def DicOk (T : Ap) (G H : Hp) (a : Addr) (t : Bool) (kvs : List (D × D)) : Prop :=
  (t = false ∧ ∃ ks, H a = some (.dK ks) ∧ KvF T G flatKey kvs ks) ∨ (t = true ∧ ∃ ks, H a = some (.dT ks) ∧ KvF T G tupKey kvs ks)

def Sl.mut : Sl → Bool
  | .val _ => false
  | .act => false
  | _ => true
/-- lists of one's own, all unlike -/
inductive InnAll (T : Ap) (H0 G H : Hp) : List Addr → List (List D) → Prop
  | nil : InnAll T H0 G H [] []
  | cons {b : Addr} {as : List Addr} {vs : List V} {xs : List D} {xss : List (List D)} : G b = none → H0 b = none → T.tub ≠ some b → H b = some (.lst vs) → IsAll T G vs xs → InnAll T H0 G H as xss → InnAll T H0 G H (b :: as) (xs :: xss)
/-- a slot's content in the value v -/
def SlOk (T : Ap) (H0 G H : Hp) : Sl → V → Prop
  | .act, v => ∃ a, T.act = some a ∧ v = V.ref a
  | .val d, v => Is T G v d
  | .own xs, v => ∃ a vs, v = V.ref a ∧ G a = none ∧ H0 a = none ∧ T.tub ≠ some a ∧ H a = some (.lst vs) ∧ IsAll T G vs xs
  | .dic t kvs, v => ∃ a, v = V.ref a ∧ G a = none ∧ H0 a = none ∧ T.tub ≠ some a ∧ DicOk T G H a t kvs
  | .own2 xss, v => ∃ a as, v = V.ref a ∧ G a = none ∧ H0 a = none ∧ T.tub ≠ some a ∧ H a = some (.lst (as.map V.ref)) ∧ (a :: as).Nodup ∧ InnAll T H0 G H as xss
/-- the addresses that are a slot's own -/
def AtS (H : Hp) : Sl → V → Addr → Prop
  | .val _, _, _ => False
  | .act, _, _ => False
  | .own _, v, b => v = V.ref b
  | .dic _ _, v, b => v = V.ref b
  | .own2 _, v, b => v = V.ref b ∨ ∃ (a : Addr) (as : List Addr), v = V.ref a ∧ H a = some (.lst (as.map V.ref)) ∧ b ∈ as
theorem AtS.self {H : Hp} {s : Sl} {a : Addr} (h : s.mut = true) : AtS H s (.ref a) a := by
  cases s with
  | val d => cases h
  | own xs => exact rfl
  | dic t kvs => exact rfl
  | own2 xss => exact .inl rfl
  | act => cases h
theorem map_ref_inj : ∀ {as bs : List Addr}, as.map V.ref = bs.map V.ref → as = bs
  | [], [], _ => rfl
  | [], _ :: _, h => by cases h
  | _ :: _, [], h => by cases h
  | a :: as, b :: bs, h => by
    rw [List.map_cons, List.map_cons] at h
    injection h with h1 h2
    injection h1 with h1
    rw [h1, map_ref_inj h2]
theorem InnAll.move {T : Ap} {H0 H0' G G' H H' : Hp} (hs : Sub G G') : ∀ {as : List Addr} {xss : List (List D)}, InnAll T H0 G H as xss → (∀ b ∈ as, G' b = none ∧ H0' b = none ∧ H' b = H b) → InnAll T H0' G' H' as xss
  | _, _, .nil, _ => .nil
  | _, _, .cons h1 h2 h3 h4 h5 h6, k => by
    obtain ⟨k1, k2, k3⟩ := k _ List.mem_cons_self
    exact .cons k1 k2 h3 (k3.trans h4) (h5.mono hs _ _) (InnAll.move hs h6 fun b hb => k b (List.mem_cons_of_mem _ hb))
theorem InnAll.at {T : Ap} {H0 G H : Hp} : ∀ {as : List Addr} {xss : List (List D)} {b : Addr}, InnAll T H0 G H as xss → b ∈ as → G b = none ∧ H0 b = none ∧ T.tub ≠ some b ∧ ∃ vs, H b = some (.lst vs)
  | _, _, b, .nil, h => by cases h
  | _, _, b, .cons h1 h2 h3 h4 h5 h6, h => by
    rcases List.mem_cons.mp h with rfl | h
    · exact ⟨h1, h2, h3, _, h4⟩
    · exact h6.at h
theorem InnAll.length {T : Ap} {H0 G H : Hp} : ∀ {as : List Addr} {xss : List (List D)}, InnAll T H0 G H as xss → as.length = xss.length
  | _, _, .nil => rfl
  | _, _, .cons _ _ _ _ _ h => by simp [h.length]
theorem InnAll.get {T : Ap} {H0 G H : Hp} : ∀ {as : List Addr} {xss : List (List D)} {k : Nat} {xs : List D}, InnAll T H0 G H as xss → xss[k]? = some xs → ∃ b vs, as[k]? = some b ∧ G b = none ∧ H0 b = none ∧ T.tub ≠ some b ∧ H b = some (.lst vs) ∧ IsAll T G vs xs
  | _, _, k, xs, .nil, h => by simp at h
  | _, _, 0, xs, .cons h1 h2 h3 h4 h5 h6, h => by
    simp at h
    subst h
    exact ⟨_, _, by simp, h1, h2, h3, h4, h5⟩
  | _, _, k + 1, xs, .cons h1 h2 h3 h4 h5 h6, h => by
    obtain ⟨b, vs, e, q⟩ := h6.get (k := k) (by simpa using h)
    exact ⟨b, vs, by simpa using e, q⟩
theorem InnAll.append {T : Ap} {H0 G H : Hp} : ∀ {as bs : List Addr} {xss yss : List (List D)}, InnAll T H0 G H as xss → InnAll T H0 G H bs yss → InnAll T H0 G H (as ++ bs) (xss ++ yss)
  | _, _, _, _, .nil, k => k
  | _, _, _, _, .cons h1 h2 h3 h4 h5 h6, k => .cons h1 h2 h3 h4 h5 (h6.append k)
/-- one inner list is changed -/
theorem InnAll.set {T : Ap} {H0 G H : Hp} {b : Addr} {vs : List V} {xs : List D} (hv : IsAll T G vs xs) : ∀ {as : List Addr} {xss : List (List D)} {k : Nat}, InnAll T H0 G H as xss → as.Nodup → as[k]? = some b → InnAll T H0 G (upd H b (.lst vs)) as (xss.set k xs)
  | _, _, k, .nil, _, h => by simp at h
  | _, _, 0, .cons h1 h2 h3 h4 h5 h6, nd, h => by
    simp at h
    subst h
    rw [List.set_cons_zero]
    refine .cons h1 h2 h3 upd_same hv (h6.move (.refl G) fun c hc => ?_)
    obtain ⟨c1, c2, _⟩ := h6.at hc
    exact ⟨c1, c2, upd_ne fun z => by subst z; exact (List.nodup_cons.mp nd).1 hc⟩
  | _, _, k + 1, .cons (b := c) h1 h2 h3 h4 h5 h6, nd, h => by
    rw [List.set_cons_succ]
    have hb := List.mem_of_getElem? (show _ = some b by simpa using h)
    refine .cons h1 h2 h3 ?_ h5 (InnAll.set hv h6 (List.nodup_cons.mp nd).2 (by simpa using h))
    rw [upd_ne fun z => by subst z; exact (List.nodup_cons.mp nd).1 hb]
    exact h4
theorem DicOk.there {T : Ap} {G H : Hp} {a : Addr} {b : Bool} {kvs : List (D × D)} (h : DicOk T G H a b kvs) : ∃ o, H a = some o := by
  rcases h with ⟨_, ks, e, _⟩ | ⟨_, ks, e, _⟩
  · exact ⟨_, e⟩
  · exact ⟨_, e⟩
/-- what is a slot's own -/
theorem SlOk.mine {T : Ap} {H0 G H : Hp} {s : Sl} {v : V} {b : Addr} (h : SlOk T H0 G H s v) (a : AtS H s v b) : G b = none ∧ H0 b = none ∧ T.tub ≠ some b ∧ ∃ o, H b = some o ∧ (∀ xs, o ≠ .tup xs) ∧ (∀ od u, o ≠ .frz od u) ∧ noTbl o ∧ ∀ φ, o ≠ .ext φ := by
  cases s with
  | val d => exact a.elim
  | act => exact a.elim
  | own xs =>
    obtain ⟨c, vs, rfl, g, h0, hT, hH, hi⟩ := h
    cases a
    exact ⟨g, h0, hT, _, hH, (fun xs e => by cases e), (fun od u e => by cases e), (fun ps e => by cases e), (fun φ e => by cases e)⟩
  | dic t kvs =>
    obtain ⟨c, rfl, g, h0, hT, hd⟩ := h
    cases a
    refine ⟨g, h0, hT, ?_⟩
    rcases hd with ⟨_, ks, e, _⟩ | ⟨_, ks, e, _⟩
    · exact ⟨_, e, (fun xs e => by cases e), (fun od u e => by cases e), (fun ps e => by cases e), (fun φ e => by cases e)⟩
    · exact ⟨_, e, (fun xs e => by cases e), (fun od u e => by cases e), (fun ps e => by cases e), (fun φ e => by cases e)⟩
  | own2 xss =>
    obtain ⟨c, as, rfl, g, h0, hT, hH, nd, hi⟩ := h
    rcases a with a | ⟨a, bs, e, e2, hb⟩
    · cases a
      exact ⟨g, h0, hT, _, hH, (fun xs e => by cases e), (fun od u e => by cases e), (fun ps e => by cases e), (fun φ e => by cases e)⟩
    · cases e
      rw [hH] at e2
      cases map_ref_inj (HO.lst.inj (Option.some.inj e2))
      obtain ⟨c1, c2, c3, vs, c4⟩ := hi.at hb
      exact ⟨c1, c2, c3, _, c4, (fun xs e => by cases e), (fun od u e => by cases e), (fun ps e => by cases e), (fun φ e => by cases e)⟩
theorem TubOk.not {T : Ap} {H : Hp} (t : TubOk T H) {b : Addr} {o : HO} (hT : T.tub ≠ some b) (h : H b = some o) (n : noTbl o) : ¬ T.at b := fun z => by
  rcases z with z | ⟨q, z⟩
  · exact hT z
  · obtain ⟨ps, e⟩ := t.tab z
    rw [h] at e; cases e; exact n ps rfl
theorem SlOk.noAt {T : Ap} {H0 G H : Hp} {s : Sl} {v : V} {b : Addr} (h : SlOk T H0 G H s v) (t : TubOk T H) (a : AtS H s v b) : ¬ T.at b := by
  obtain ⟨g, h0, hT, o, hH, ht, _, hn, _⟩ := h.mine a
  exact t.not hT hH hn
theorem TubOk.at' {T : Ap} {H : Hp} (t : TubOk T H) {a : Addr} (h : T.at a) : ∃ o, H a = some o ∧ ∀ xs, o ≠ .tup xs := by
  rcases h with h | ⟨q, h⟩
  · obtain ⟨_, _, _, e, _⟩ := t.1 a h
    exact ⟨_, e, fun xs z => by cases z⟩
  · obtain ⟨ps, e⟩ := t.tab h
    exact ⟨_, e, fun xs z => by cases z⟩
/-- what is a slot's own, or new, is written -/
theorem TubOk.poke {T : Ap} {H : Hp} (t : TubOk T H) {b : Addr} {o0 o : HO} (hT : T.tub ≠ some b) (h : H b = some o0) (n : noTbl o0) (nx : ∀ φ, o0 ≠ .ext φ) : TubOk T (upd H b o) := by
  refine ⟨fun a e => ?_, fun p hp => ?_, fun p hp => ?_⟩
  · obtain ⟨x, y, z, q, r⟩ := t.1 a e
    refine ⟨x, y, z, ?_, r⟩
    rw [upd_ne fun w => hT (by rw [← w]; exact e)]; exact q
  · obtain ⟨ps, e1, e2, e3⟩ := t.2.1 p hp
    refine ⟨ps, ?_, e2, fun pos cv hc => ?_⟩
    · rw [upd_ne fun w => ?_]; exact e1
      rw [w, h] at e1; cases e1; exact n ps rfl
    · obtain ⟨c, q1, q2⟩ := e3 pos cv hc
      refine ⟨c, q1, ?_⟩
      rw [upd_ne fun w => ?_]; exact q2
      rw [w, h] at q2
      exact nx _ (Option.some.inj q2)
  · have q2 := t.2.2 p hp
    rw [upd_ne fun w => ?_]; exact q2
    rw [w, h] at q2
    exact nx _ (Option.some.inj q2)
theorem TubOk.drop {T : Ap} {H : Hp} {d : Addr} {od : Obj} {u : HO} (t : TubOk T (upd H d (.frz od u))) : TubOk T H := by
  have at_ : ∀ {a : Addr} {o : HO}, upd H d (.frz od u) a = some o → (∀ x y, o ≠ .frz x y) → H a = some o := fun {a o} e n => by
    by_cases hb : a = d
    · subst hb; rw [upd_same] at e; cases e; exact absurd rfl (n _ _)
    · rw [upd_ne hb] at e; exact e
  refine ⟨fun a e => ?_, fun p hp => ?_, fun p hp => at_ (t.2.2 p hp) fun x y z => by cases z⟩
  · obtain ⟨x, y, z, q, r⟩ := t.1 a e
    exact ⟨x, y, z, at_ q fun x y z => (by cases z), r⟩
  · obtain ⟨ps, e1, e2, e3⟩ := t.2.1 p hp
    refine ⟨ps, at_ e1 fun x y z => (by cases z), e2, fun pos cv hc => ?_⟩
    obtain ⟨c, q1, q2⟩ := e3 pos cv hc
    exact ⟨c, q1, at_ q2 fun x y z => (by cases z)⟩
theorem SlOk.move {T : Ap} {H0 H0' G G' H H' : Hp} {s : Sl} {v : V} (h : SlOk T H0 G H s v) (hs : Sub G G') (k : ∀ b, AtS H s v b → G' b = none ∧ H0' b = none ∧ H' b = H b) : SlOk T H0' G' H' s v := by
  cases s with
  | val d => exact Is.mono hs _ _ h
  | act => exact h
  | own xs =>
    obtain ⟨c, vs, rfl, g, h0, hT, hH, hi⟩ := h
    obtain ⟨k1, k2, k3⟩ := k c rfl
    exact ⟨c, vs, rfl, k1, k2, hT, k3.trans hH, hi.mono hs _ _⟩
  | dic t kvs =>
    obtain ⟨c, rfl, g, h0, hT, hd⟩ := h
    obtain ⟨k1, k2, k3⟩ := k c rfl
    refine ⟨c, rfl, k1, k2, hT, ?_⟩
    rcases hd with ⟨et, ks, e1, e2⟩ | ⟨et, ks, e1, e2⟩
    · exact .inl ⟨et, ks, k3.trans e1, e2.mono hs⟩
    · exact .inr ⟨et, ks, k3.trans e1, e2.mono hs⟩
  | own2 xss =>
    obtain ⟨c, as, rfl, g, h0, hT, hH, nd, hi⟩ := h
    obtain ⟨k1, k2, k3⟩ := k c (.inl rfl)
    exact ⟨c, as, rfl, k1, k2, hT, k3.trans hH, nd, hi.move hs fun b hb => k b (.inr ⟨c, as, rfl, hH, hb⟩)⟩
theorem AtS.back {T : Ap} {H0 G H H' : Hp} {s : Sl} {v : V} {c : Addr} (h : SlOk T H0 G H s v) (k : ∀ b, AtS H s v b → H' b = H b) (a : AtS H' s v c) : AtS H s v c := by
  cases s with
  | val d => exact a
  | act => exact a
  | own xs => exact a
  | dic t kvs => exact a
  | own2 xss =>
    obtain ⟨d, as, rfl, g, h0, hT, hH, nd, hi⟩ := h
    rcases a with a | ⟨a, bs, e, e2, hb⟩
    · exact .inl a
    · cases e
      rw [k d (.inl rfl)] at e2
      exact .inr ⟨d, bs, rfl, e2, hb⟩

structure Rep (T : Ap) (G0 H0 : Hp) (ρ : Ro) (σ : Sg) (G H : Hp) : Prop where
  st : Stp T G0 H0 G H
  t0 : TubOk T H0
  tg : T.away G
  len : ρ.length = σ.length
  sl : ∀ (i : Nat) (s : Sl), ρ[i]? = some (some s) → ∃ v, σ[i]? = some (some v) ∧ SlOk T H0 G H s v
  apx : ∀ (i j : Nat) (si sj : Sl) (vi vj : V) (b : Addr), ρ[i]? = some (some si) → ρ[j]? = some (some sj) → σ[i]? = some (some vi) → σ[j]? = some (some vj) → AtS H si vi b → AtS H sj vj b → i = j
section
variable {T : Ap} {G0 H0 G H G' H' : Hp} {ρ : Ro} {σ : Sg}
theorem Rep.ap (r : Rep T G0 H0 ρ σ G H) (i j : Nat) (a : Addr) (si sj : Sl) (h1 : ρ[i]? = some (some si)) (h2 : ρ[j]? = some (some sj)) (m1 : si.mut = true) (m2 : sj.mut = true) (e1 : σ[i]? = some (some (V.ref a))) (e2 : σ[j]? = some (some (V.ref a))) : i = j :=
  r.apx i j si sj _ _ a h1 h2 e1 e2 (.self m1) (.self m2)
theorem Rep.sub (r : Rep T G0 H0 ρ σ G H) : Sub G H := r.st.gh
theorem Rep.tub (r : Rep T G0 H0 ρ σ G H) : TubOk T H := r.st.tub
theorem stp_at {s : Sl} {v : V} (h : SlOk T H0 G H s v) (k : Stp T G H G' H') (b : Addr) (a : AtS H s v b) : G' b = none ∧ H0 b = none ∧ H' b = H b := by
  obtain ⟨g, h0, hT, o, hH, ht, _, hn, _⟩ := h.mine a
  refine ⟨?_, h0, (k.kp b _ hT hn hH).trans hH.symm⟩
  cases q : G' b with
  | none => rfl
  | some o' =>
    rcases k.new b o' q with z | z | ⟨ys, z⟩
    · rw [g] at z; cases z
    · rw [hH] at z; cases z
    · rw [hH] at z; exact absurd (Option.some.inj z) (ht ys)
theorem SlOk.step {s : Sl} {v : V} (h : SlOk T H0 G H s v) (k : Stp T G H G' H') : SlOk T H0 G' H' s v := h.move k.gs (stp_at h k)
theorem Rep.step (r : Rep T G0 H0 ρ σ G H) (k : Stp T G H G' H') : Rep T G0 H0 ρ σ G' H' := by
  refine ⟨r.st.trans k r.t0, r.t0, ⟨fun a e => ?_, r.tg.2.trans k.gs⟩, r.len, fun i s e => ?_, fun i j si sj vi vj b h1 h2 e1 e2 a1 a2 => ?_⟩
  · cases q : G' a with
    | none => rfl
    | some o =>
      rcases k.new a o q with z | z | ⟨ys, z⟩
      · rw [r.tg.1 a e] at z; cases z
      · obtain ⟨_, y, _⟩ := r.tub.at' e
        rw [z] at y; cases y
      · obtain ⟨u, y, w⟩ := r.tub.at' e
        rw [z] at y; exact absurd (Option.some.inj y).symm (w ys)
  · obtain ⟨v, h1, h2⟩ := r.sl i s e
    exact ⟨v, h1, h2.step k⟩
  · obtain ⟨wi, f1, q1⟩ := r.sl i si h1
    obtain ⟨wj, f2, q2⟩ := r.sl j sj h2
    rw [e1] at f1; cases f1
    rw [e2] at f2; cases f2
    exact r.apx i j si sj vi vj b h1 h2 e1 e2 (a1.back q1 fun b a => (stp_at q1 k b a).2.2) (a2.back q2 fun b a => (stp_at q2 k b a).2.2)
/-- forgetting -/
theorem Rep.forget (r : Rep T G0 H0 ρ σ G H) {ρ' : Ro} {σ' : St} (hl : ρ'.length = σ'.length) (h : ∀ (i : Nat) (s : Sl), ρ'[i]? = some (some s) → ρ[i]? = some (some s) ∧ σ'[i]? = σ[i]?) : Rep T G0 H0 ρ' σ' G H :=
  ⟨r.st, r.t0, r.tg, hl, fun i s e => by
    obtain ⟨h1, h2⟩ := h i s e
    rw [h2]
    exact r.sl i s h1, fun i j si sj vi vj b h1 h2 e1 e2 a1 a2 => by
    obtain ⟨c1, c2⟩ := h i si h1
    obtain ⟨b1, b2⟩ := h j sj h2
    rw [c2] at e1
    rw [b2] at e2
    exact r.apx i j si sj vi vj b c1 b1 e1 e2 a1 a2⟩
/-- a value is stored -/
theorem Rep.setVal (r : Rep T G0 H0 ρ σ G H) {i : Nat} {d : D} {v : V} (h : Is T G v d) : Rep T G0 H0 (ρ.set i (some (.val d))) (σ.set i (some v)) G H := by
  refine ⟨r.st, r.t0, r.tg, by simp [r.len], fun j s e => ?_, fun j k sj sk vj vk b h1 h2 e1 e2 a1 a2 => ?_⟩
  · by_cases hj : i = j
    · subst hj
      have hi : i < ρ.length := by
        have := (List.getElem?_eq_some_iff.mp e).1
        simpa using this
      rw [List.getElem?_set_self hi] at e
      cases e
      rw [List.getElem?_set_self (by rw [← r.len]; exact hi)]
      exact ⟨v, rfl, h⟩
    · rw [List.getElem?_set_ne hj] at e ⊢
      exact r.sl j s e
  · have nj : ∀ {j : Nat} {sj : Sl} {vj : V}, (ρ.set i (some (.val d)))[j]? = some (some sj) → AtS H sj vj b → i ≠ j := fun {j sj vj} h m z => by
      subst z
      have hi : i < ρ.length := by
        have := (List.getElem?_eq_some_iff.mp h).1
        simpa using this
      rw [List.getElem?_set_self hi] at h
      cases h; exact m
    have n1 := nj h1 a1
    have n2 := nj h2 a2
    rw [List.getElem?_set_ne n1] at h1 e1
    rw [List.getElem?_set_ne n2] at h2 e2
    exact r.apx j k sj sk vj vk b h1 h2 e1 e2 a1 a2
/-- a mutable thing, which no slot has, is stored -/
theorem Rep.setMut (r : Rep T G0 H0 ρ σ G H) {i : Nat} {s : Sl} {a : Addr} (h : SlOk T H0 G H s (.ref a)) (new : ∀ (j : Nat) (sj : Sl) (vj : V) (b : Addr), ρ[j]? = some (some sj) → σ[j]? = some (some vj) → AtS H s (.ref a) b → AtS H sj vj b → j = i) :
    Rep T G0 H0 (ρ.set i (some s)) (σ.set i (some (.ref a))) G H := by
  have hij : ∀ {j : Nat} {sj : Sl}, (ρ.set i (some s))[j]? = some (some sj) → (j = i ∧ sj = s) ∨ (j ≠ i ∧ ρ[j]? = some (some sj)) := fun {j sj} e => by
    by_cases hj : i = j
    · subst hj
      have hi : i < ρ.length := by
        have := (List.getElem?_eq_some_iff.mp e).1
        simpa using this
      rw [List.getElem?_set_self hi] at e
      cases e
      exact .inl ⟨rfl, rfl⟩
    · rw [List.getElem?_set_ne hj] at e
      exact .inr ⟨Ne.symm hj, e⟩
  refine ⟨r.st, r.t0, r.tg, by simp [r.len], fun j sj e => ?_, fun j k sj sk vj vk b h1 h2 e1 e2 a1 a2 => ?_⟩
  · have hl : j < ρ.length := by
      have := (List.getElem?_eq_some_iff.mp e).1
      simpa using this
    rcases hij e with ⟨rfl, rfl⟩ | ⟨n, e'⟩
    · rw [List.getElem?_set_self (by rw [← r.len]; exact hl)]
      exact ⟨_, rfl, h⟩
    · rw [List.getElem?_set_ne (Ne.symm n)]
      exact r.sl j sj e'
  · have lt : ∀ {j : Nat} {sj : Sl}, (ρ.set i (some s))[j]? = some (some sj) → j < σ.length := fun {j sj} e => by
      have := (List.getElem?_eq_some_iff.mp e).1
      rw [← r.len]
      simpa using this
    rcases hij h1 with ⟨rfl, rfl⟩ | ⟨n1, e1'⟩
    · rcases hij h2 with ⟨rfl, _⟩ | ⟨n2, e2'⟩
      · rfl
      · rw [List.getElem?_set_self (lt h1)] at e1
        cases e1
        rw [List.getElem?_set_ne (Ne.symm n2)] at e2
        exact (new k sk vk b e2' e2 a1 a2).symm
    · rw [List.getElem?_set_ne (Ne.symm n1)] at e1
      rcases hij h2 with ⟨rfl, rfl⟩ | ⟨n2, e2'⟩
      · rw [List.getElem?_set_self (lt h2)] at e2
        cases e2
        exact new j sj vj b e1' e1 a2 a1
      · rw [List.getElem?_set_ne (Ne.symm n2)] at e2
        exact r.apx j k sj sk vj vk b e1' e2' e1 e2 a1 a2
/-- a slot's own thing at b is changed -/
theorem Rep.poke (r : Rep T G0 H0 ρ σ G H) {i : Nat} {s s' : Sl} {v : V} {b : Addr} {o : HO} (hi : ρ[i]? = some (some s)) (hσ : σ[i]? = some (some v)) (hb : AtS H s v b) (hn : SlOk T H0 G (upd H b o) s' v)
    (new : ∀ c, AtS (upd H b o) s' v c → AtS H s v c ∨ ∀ (j : Nat) (sj : Sl) (vj : V), ρ[j]? = some (some sj) → σ[j]? = some (some vj) → ¬ AtS H sj vj c) :
    Rep T G0 H0 (ρ.set i (some s')) σ G (upd H b o) := by
  obtain ⟨w, e, q⟩ := r.sl i s hi
  rw [hσ] at e; cases e
  obtain ⟨g, h0, hT, o0, hb0, _, _, nt, nx⟩ := q.mine hb
  have hi' : i < ρ.length := (List.getElem?_eq_some_iff.mp hi).1
  have gne : ∀ c o, G c = some o → c ≠ b := fun c o eb z => by rw [z, g] at eb; cases eb
  have oth : ∀ {j : Nat} {sj : Sl} {vj : V}, i ≠ j → ρ[j]? = some (some sj) → σ[j]? = some (some vj) → ∀ c, AtS H sj vj c → G c = none ∧ H0 c = none ∧ upd H b o c = H c := fun {j sj vj} hj hs hv c hc => by
    obtain ⟨w, e1, e2⟩ := r.sl j sj hs
    rw [hv] at e1; cases e1
    obtain ⟨c1, c2, _⟩ := e2.mine hc
    exact ⟨c1, c2, upd_ne fun z => by subst z; exact hj (r.apx i j s sj _ _ _ hi hs hσ hv hb hc)⟩
  have old : ∀ {j : Nat} {sj : Sl} {vj : V}, i ≠ j → ρ[j]? = some (some sj) → σ[j]? = some (some vj) → ∀ c, AtS (upd H b o) sj vj c → AtS H sj vj c := fun {j sj vj} hj hs hv c hc => by
    obtain ⟨w, e1, e2⟩ := r.sl j sj hs
    rw [hv] at e1; cases e1
    exact hc.back e2 fun c hc => (oth hj hs hv c hc).2.2
  have ob : ∀ c u, H0 c = some u → c ≠ b := fun c u e z => by subst z; rw [h0] at e; cases e
  refine ⟨⟨r.st.gs, fun c u e => ?_, fun c u hT' n e => ?_, fun c ps e => ?_, r.st.new, r.tub.poke hT hb0 nt nx⟩, r.t0, r.tg, by simp [r.len], fun j sj e => ?_, fun j k sj sk vj vk c h1 h2 e1 e2 a1 a2 => ?_⟩
  · rw [upd_ne (gne c u e)]; exact r.sub c u e
  · rw [upd_ne (ob c u e)]; exact r.st.kp c u hT' n e
  · rw [upd_ne (ob c _ e)]; exact r.st.tbl c ps e
  · by_cases hj : i = j
    · subst hj
      rw [List.getElem?_set_self hi'] at e
      cases e
      exact ⟨_, hσ, hn⟩
    · rw [List.getElem?_set_ne hj] at e
      obtain ⟨w, e1, e2⟩ := r.sl j sj e
      exact ⟨w, e1, e2.move (.refl G) (oth hj e e1)⟩
  · by_cases hj : i = j
    · subst hj
      by_cases hk : i = k
      · exact hk
      · rw [List.getElem?_set_self hi'] at h1
        cases h1
        rw [hσ] at e1; cases e1
        rw [List.getElem?_set_ne hk] at h2
        have a2 := old hk h2 e2 c a2
        rcases new c a1 with q | q
        · exact r.apx i k s sk _ _ c hi h2 hσ e2 q a2
        · exact absurd a2 (q k sk vk h2 e2)
    · rw [List.getElem?_set_ne hj] at h1
      have a1 := old hj h1 e1 c a1
      by_cases hk : i = k
      · subst hk
        rw [List.getElem?_set_self hi'] at h2
        cases h2
        rw [hσ] at e2; cases e2
        rcases new c a2 with q | q
        · exact r.apx j i sj s _ _ c h1 hi e1 hσ a1 q
        · exact absurd a1 (q j sj vj h1 e1)
      · rw [List.getElem?_set_ne hk] at h2
        exact r.apx j k sj sk vj vk c h1 h2 e1 e2 a1 (old hk h2 e2 c a2)
/-- a list or a dict -/
def Sl.flat : Sl → Bool
  | .own _ => true
  | .dic _ _ => true
  | _ => false
theorem Sl.flat_mut {s : Sl} (h : s.flat = true) : s.mut = true := by cases s <;> first | rfl | cases h
theorem AtS.one {s : Sl} {a b : Addr} (h : s.flat = true) (k : AtS H s (.ref a) b) : b = a := by
  cases s with
  | val d => cases h
  | own2 xss => cases h
  | act => cases h
  | own xs => exact (V.ref.inj (show V.ref a = V.ref b from k)).symm
  | dic t kvs => exact (V.ref.inj (show V.ref a = V.ref b from k)).symm
/-- an owned thing at a is changed -/
theorem Rep.change (r : Rep T G0 H0 ρ σ G H) {i : Nat} {s s' : Sl} {a : Addr} {o : HO} (hi : ρ[i]? = some (some s)) (hm : s.flat = true) (hσ : σ[i]? = some (some (V.ref a))) (hn : SlOk T H0 G (upd H a o) s' (.ref a)) (hm' : s'.flat = true) :
    Rep T G0 H0 (ρ.set i (some s')) σ G (upd H a o) :=
  r.poke hi hσ (.self (Sl.flat_mut hm)) hn fun c hc => .inl (by rw [hc.one hm']; exact .self (Sl.flat_mut hm))
/-- what is a slot's own is frozen -/
theorem Rep.freezeL (r : Rep T G0 H0 ρ σ G H) {i : Nat} {s : Sl} {v : V} {d : D} (bs : List Addr) (hi : ρ[i]? = some (some s)) (hσ : σ[i]? = some (some v)) (hb : ∀ b ∈ bs, AtS H s v b)
    (hd : Is T (fun c => if c ∈ bs then H c else G c) v d) : ∃ G', Sub G G' ∧ Rep T G0 H0 (ρ.set i (some (.val d))) σ G' H := by
  obtain ⟨w, e, q⟩ := r.sl i s hi
  rw [hσ] at e; cases e
  have hi' : i < ρ.length := (List.getElem?_eq_some_iff.mp hi).1
  have mine : ∀ b ∈ bs, G b = none ∧ H0 b = none ∧ ¬ T.at b := fun b h => ⟨(q.mine (hb b h)).1, (q.mine (hb b h)).2.1, q.noAt r.tub (hb b h)⟩
  have gs : Sub G (fun c => if c ∈ bs then H c else G c) := fun c u e => by
    show (if c ∈ bs then H c else G c) = _
    rw [if_neg fun z => by rw [(mine c z).1] at e; cases e]
    exact e
  have oth : ∀ {j : Nat} {sj : Sl} {vj : V}, i ≠ j → ρ[j]? = some (some sj) → σ[j]? = some (some vj) → ∀ c, AtS H sj vj c → (if c ∈ bs then H c else G c) = none ∧ H0 c = none ∧ H c = H c := fun {j sj vj} hj hs hv c hc => by
    obtain ⟨w, e1, e2⟩ := r.sl j sj hs
    rw [hv] at e1; cases e1
    obtain ⟨c1, c2, _⟩ := e2.mine hc
    refine ⟨?_, c2, rfl⟩
    rw [if_neg fun z => hj (r.apx i j s sj _ _ _ hi hs hσ hv (hb c z) hc)]
    exact c1
  refine ⟨_, gs, ⟨r.st.gs.trans gs, fun b u e => ?_, r.st.kp, r.st.tbl, fun b u e => ?_, r.tub⟩, r.t0, ⟨fun b e => ?_, r.tg.2.trans gs⟩, by simp [r.len], fun j sj e' => ?_, fun j k sj sk vj vk c h1 h2 e1 e2 a1 a2 => ?_⟩
  · have e : (if b ∈ bs then H b else G b) = some u := e
    by_cases h : b ∈ bs
    · rw [if_pos h] at e; exact e
    · rw [if_neg h] at e; exact r.sub b u e
  · have e : (if b ∈ bs then H b else G b) = some u := e
    by_cases h : b ∈ bs
    · exact .inr (.inl (mine b h).2.1)
    · rw [if_neg h] at e; exact r.st.new b u e
  · show (if b ∈ bs then H b else G b) = none
    rw [if_neg fun z => (mine b z).2.2 e]
    exact r.tg.1 b e
  · by_cases hj : i = j
    · subst hj
      rw [List.getElem?_set_self hi'] at e'
      cases e'
      exact ⟨_, hσ, hd⟩
    · rw [List.getElem?_set_ne hj] at e'
      obtain ⟨w, e1, e2⟩ := r.sl j sj e'
      exact ⟨w, e1, e2.move gs (oth hj e' e1)⟩
  · have nj : ∀ {j : Nat} {sj : Sl} {vj : V}, (ρ.set i (some (.val d)))[j]? = some (some sj) → AtS H sj vj c → i ≠ j := fun {j sj vj} h m z => by
      subst z
      rw [List.getElem?_set_self hi'] at h
      cases h; exact m
    have n1 := nj h1 a1
    have n2 := nj h2 a2
    rw [List.getElem?_set_ne n1] at h1
    rw [List.getElem?_set_ne n2] at h2
    exact r.apx j k sj sk vj vk c h1 h2 e1 e2 a1 a2
/-- an owned list is frozen -/
theorem Rep.freeze (r : Rep T G0 H0 ρ σ G H) {i : Nat} {xs : List D} (hi : ρ[i]? = some (some (.own xs))) : ∃ G', Sub G G' ∧ Rep T G0 H0 (ρ.set i (some (.val (.list xs)))) σ G' H := by
  obtain ⟨v, ev, a, vs, rfl, g, h0, hT, hH, hx⟩ := r.sl i _ hi
  refine r.freezeL [a] hi ev (fun b h => by cases List.mem_singleton.mp h; exact rfl) (.lst (vs := vs) ?_ (hx.mono (fun c u e => ?_) _ _))
  · show (if a ∈ [a] then H a else G a) = _
    rw [if_pos List.mem_cons_self]
    exact hH
  · show (if c ∈ [a] then H c else G c) = _
    rw [if_neg fun z => by cases List.mem_singleton.mp z; rw [g] at e; cases e]
    exact e
/-- .. lists in a list -/
def dd2 (xss : List (List D)) : D := .list (xss.map PyData.list)
theorem InnAll.is {G1 : Hp} (hs : Sub G G1) : ∀ {as : List Addr} {xss : List (List D)}, InnAll T H0 G H as xss → (∀ b ∈ as, G1 b = H b) → IsAll T G1 (as.map V.ref) (xss.map PyData.list)
  | _, _, .nil, _ => .nil
  | _, _, .cons h1 h2 h3 h4 h5 h6, k => .cons (.lst ((k _ List.mem_cons_self).trans h4) (h5.mono hs _ _)) (InnAll.is hs h6 fun b hb => k b (List.mem_cons_of_mem _ hb))
theorem Rep.freeze2 (r : Rep T G0 H0 ρ σ G H) {i : Nat} {xss : List (List D)} (hi : ρ[i]? = some (some (.own2 xss))) : ∃ G', Sub G G' ∧ Rep T G0 H0 (ρ.set i (some (.val (dd2 xss)))) σ G' H := by
  obtain ⟨v, ev, a, as, rfl, g, h0, hT, hH, nd, hx⟩ := r.sl i _ hi
  have at2 : ∀ b ∈ a :: as, AtS H (.own2 xss) (.ref a) b := fun b h => by
    rcases List.mem_cons.mp h with rfl | h
    · exact .inl rfl
    · exact .inr ⟨a, as, rfl, hH, h⟩
  have hs : Sub G (fun c => if c ∈ a :: as then H c else G c) := fun c u e => by
    show (if c ∈ a :: as then H c else G c) = _
    rw [if_neg fun z => ?_]
    · exact e
    · rcases List.mem_cons.mp z with rfl | z
      · rw [g] at e; cases e
      · rw [(hx.at z).1] at e; cases e
  refine r.freezeL (a :: as) hi ev at2 (.lst (vs := as.map V.ref) ?_ (hx.is hs fun b hb => ?_))
  · show (if a ∈ a :: as then H a else G a) = _
    rw [if_pos List.mem_cons_self]
    exact hH
  · show (if b ∈ a :: as then H b else G b) = _
    rw [if_pos (List.mem_cons_of_mem _ hb)]
end
/-- what is new since then, and not frozen, is written -/
theorem Stp.poke {T : Ap} {G H G' H' : Hp} {p : Addr} {o0 o : HO} (k : Stp T G H G' H') (hT : T.tub ≠ some p) (n : H p = none) (g : G' p = none) (h : H' p = some o0) (nt : noTbl o0 := by intro ps z; cases z) (nx : ∀ φ, o0 ≠ .ext φ := by intro ps z; cases z) : Stp T G H G' (upd H' p o) := by
  refine ⟨k.gs, fun b u e => ?_, fun b u hb hn e => ?_, fun b ps e => ?_, k.new, k.tub.poke hT h nt nx⟩
  · rw [upd_ne fun q => by rw [q, g] at e; cases e]; exact k.gh b u e
  · rw [upd_ne fun q => by rw [q, n] at e; cases e]; exact k.kp b u hb hn e
  · rw [upd_ne fun q => by rw [q, n] at e; cases e]; exact k.tbl b ps e
theorem TubOk.off {T : Ap} {H : Hp} {p : Addr} (t : TubOk T H) (h : H p = none) : T.tub ≠ some p := fun z => by
  obtain ⟨_, _, _, q, _⟩ := t.1 p z
  rw [h] at q; cases q
theorem nt_of {o : HO} (h : (match o with | .tbl _ => false | _ => true) = true) : noTbl o := fun ps z => by subst z; cases h
end Ev

set_option Elab.async false
set_option linter.all false
set_option autoImplicit false
set_option maxRecDepth 100000
set_option maxHeartbeats 2000000
namespace Ev
open PySem L2

/-- a value in hand: data; or (r) a list of one's own, looked at -/
def IsR (r : Bool) (T : Ap) (G H : Hp) (v : V) (d : D) : Prop :=
  Is T G v d ∨ (r = true ∧ ∃ a vs xs, d = .list xs ∧ v = V.ref a ∧ T.tub ≠ some a ∧ H a = some (.lst vs) ∧ IsAll T G vs xs)
inductive AllR (r : Bool) (T : Ap) (G H : Hp) : List V → List D → Prop
  | nil : AllR r T G H [] []
  | cons {v : V} {vs : List V} {d : D} {ds : List D} : IsR r T G H v d → AllR r T G H vs ds → AllR r T G H (v :: vs) (d :: ds)
section
variable {r : Bool} {T : Ap} {G H G' H' : Hp}
theorem IsR.step {v : V} {d : D} (h : IsR r T G H v d) (k : Stp T G H G' H') : IsR r T G' H' v d := by
  rcases h with h | ⟨hr, a, vs, xs, e1, e2, hT, e3, h⟩
  · exact .inl (Is.mono k.gs _ _ h)
  · exact .inr ⟨hr, a, vs, xs, e1, e2, hT, k.keep a _ hT e3, h.mono k.gs _ _⟩
theorem AllR.step : ∀ {vs : List V} {ds : List D}, AllR r T G H vs ds → Stp T G H G' H' → AllR r T G' H' vs ds
  | _, _, .nil, _ => .nil
  | _, _, .cons a b, k => .cons (a.step k) (AllR.step b k)
theorem IsR.keep {v : V} {d : D} (h : IsR false T G H v d) : Is T G v d := by
  rcases h with h | ⟨h, _⟩
  · exact h
  · cases h
theorem AllR.keep : ∀ {vs : List V} {ds : List D}, AllR false T G H vs ds → IsAll T G vs ds
  | _, _, .nil => .nil
  | _, _, .cons a b => .cons a.keep (AllR.keep b)
theorem IsR.list {v : V} {xs : List D} (s : Sub G H) (h : IsR r T G H v (.list xs)) : ∃ a vs, v = V.ref a ∧ H a = some (.lst vs) ∧ IsAll T G vs xs := by
  rcases h with h | ⟨_, a, vs, ys, e1, e2, hT, e3, h⟩
  · cases h with
    | lst e h => exact ⟨_, _, rfl, s _ _ e, h⟩
  · cases e1; exact ⟨a, vs, e2, e3, h⟩
theorem IsR.tup {v : V} {xs : List D} (h : IsR r T G H v (.tuple xs)) : ∃ a vs, v = V.ref a ∧ G a = some (.tup vs) ∧ IsAll T G vs xs := by
  rcases h with h | ⟨_, a, vs, ys, e1, e2, hT, e3, h⟩
  · cases h with
    | tup e h => exact ⟨_, _, rfl, e, h⟩
  · cases e1
theorem IsR.scr {v : V} {xs : List D} (h : IsR r T G H v (.dict [(.none, .list xs)])) : ∃ a vs o, v = V.ref a ∧ G a = some (.frz o (.lst vs)) ∧ IsAll T G vs xs := by
  rcases h with h | ⟨_, a, vs, ys, e1, e2, hT, e3, h⟩
  · cases h with
    | scr e => exact ⟨_, _, _, rfl, e, IsAll.ofInts _⟩
  · cases e1
theorem Is.int_eq {T : Ap} {G : Hp} {v : V} {i : Int} (h : Is T G v (.int i)) : v = .int i := by cases h; rfl
theorem IsR.int {v : V} {i : Int} (h : IsR r T G H v (.int i)) : v = .int i := by
  rcases h with h | ⟨_, a, vs, ys, e1, _⟩
  · cases h; rfl
  · cases e1
theorem IsR.bool {v : V} {b : Bool} (h : IsR r T G H v (.bool b)) : v = .bl b := by
  rcases h with h | ⟨_, a, vs, ys, e1, _⟩
  · cases h; rfl
  · cases e1
theorem IsR.none {v : V} (h : IsR r T G H v .none) : v = .non := by
  rcases h with h | ⟨_, a, vs, ys, e1, _⟩
  · cases h; rfl
  · cases e1
theorem IsR.dp {K : PySem.W.Frag} {v : V} {d : D} (s : Sub G H) (c : d.canLay0 = true) (h : IsR r T G H v d) : Dp K H v d := by
  rcases h with h | ⟨_, a, vs, xs, rfl, rfl, hT, e3, h⟩
  · exact Is.dp s d v c h
  · exact .lst (.of e3) (h.dp s _ _ (by simpa [PyData.canLay0] using c))
end

def PostE (r : Bool) (T : Ap) (G H : Hp) (Q : VK) (d : D) : Prop := ∀ v G' H', Stp T G H G' H' → IsR r T G' H' v d → Q v H'
def PostL (r : Bool) (T : Ap) (G H : Hp) (Q : List V → Hp → Prop) (d : D) : Prop := ∀ vs ds G' H', d = .tuple ds → Stp T G H G' H' → AllR r T G' H' vs ds → Q vs H'
def PostT (T : Ap) (G H : Hp) (Q : Bool → Hp → Prop) (d : D) : Prop := ∀ b G' H', d = .bool b → Stp T G H G' H' → Q b H'
/-- a list, newly made, nobody's yet -/
def PostF (T : Ap) (G H : Hp) (Q : VK) (d : D) : Prop := ∀ p vs xs G' H', d = .list xs → Stp T G H G' H' → H p = none → G' p = none → H' p = some (.lst vs) → IsAll T G' vs xs → Q (V.ref p) H'
section
variable {r : Bool} {T : Ap} {G H G' H' : Hp}
theorem PostE.trans {Q : VK} {d : D} (h : PostE r T G H Q d) (k : Stp T G H G' H') (t : TubOk T H) : PostE r T G' H' Q d := fun v G2 H2 k2 i => h v G2 H2 (k.trans k2 t) i
theorem PostF.trans {Q : VK} {d : D} (h : PostF T G H Q d) (k : Stp T G H G' H') (t : TubOk T H) : PostF T G' H' Q d := fun p vs xs G2 H2 e k2 n g h' i => h p vs xs G2 H2 e (k.trans k2 t) (k.back t n) g h' i
theorem PostL.trans {Q : List V → Hp → Prop} {d : D} (h : PostL r T G H Q d) (k : Stp T G H G' H') (t : TubOk T H) : PostL r T G' H' Q d := fun vs ds G2 H2 e k2 i => h vs ds G2 H2 e (k.trans k2 t) i
theorem PostT.trans {Q : Bool → Hp → Prop} {d : D} (h : PostT T G H Q d) (k : Stp T G H G' H') (t : TubOk T H) : PostT T G' H' Q d := fun b G2 H2 e k2 => h b G2 H2 e (k.trans k2 t)
/-- frozen, a newly made list is data -/
theorem PostE.ofF {Q : VK} {d : D} (s : Sub G H) (t : TubOk T H) (h : PostE r T G H Q d) : PostF T G H Q d := fun p vs xs G' H' e k n g h' i => by
  subst e
  have gs : Sub G' (upd G' p (.lst vs)) := fun b u e => by
    have : b ≠ p := fun z => by rw [z, g] at e; cases e
    rw [upd_ne this]; exact e
  refine h (V.ref p) (upd G' p (.lst vs)) H' ⟨k.gs.trans gs, fun b u e => ?_, k.kp, k.tbl, fun b u e => ?_, k.tub⟩ (.inl (.lst upd_same (i.mono gs _ _)))
  · by_cases hb : b = p
    · subst hb; rw [upd_same] at e; cases e; exact h'
    · rw [upd_ne hb] at e; exact k.gh b u e
  · by_cases hb : b = p
    · subst hb; exact .inr (.inl n)
    · rw [upd_ne hb] at e; exact k.new b u e
end

/-- an expression does what f says -/
def SndE (X : Cx) (T : Ap) (r : Bool) (ast : Expr) (f : Ro → Out D) : Prop :=
  ∃ t : TE, PE X ast t ∧ ∀ (G0 H0 : Hp) (ρ : Ro) (σ : Sg) (G H : Hp) (Q : VK), Rep T G0 H0 ρ σ G H → (f ρ).All (PostE r T G H Q) → t σ H Q
def SndF (X : Cx) (T : Ap) (ast : Expr) (f : Ro → Out D) : Prop :=
  ∃ t : TE, PE X ast t ∧ ∀ (G0 H0 : Hp) (ρ : Ro) (σ : Sg) (G H : Hp) (Q : VK), Rep T G0 H0 ρ σ G H → (f ρ).All (PostF T G H Q) → t σ H Q
def SndL (X : Cx) (T : Ap) (r : Bool) (asts : List Expr) (f : Ro → Out D) : Prop :=
  ∃ t : TA, PA X asts t ∧ ∀ (G0 H0 : Hp) (ρ : Ro) (σ : Sg) (G H : Hp) (Q : List V → Hp → Prop), Rep T G0 H0 ρ σ G H → (f ρ).All (PostL r T G H Q) → t σ H Q
def SndT (X : Cx) (T : Ap) (ast : Expr) (f : Ro → Out D) : Prop :=
  ∃ t : TT, PT X ast t ∧ ∀ (G0 H0 : Hp) (ρ : Ro) (σ : Sg) (G H : Hp) (Q : Bool → Hp → Prop), Rep T G0 H0 ρ σ G H → (f ρ).All (PostT T G H Q) → t σ H Q
section
variable {X : Cx} {T : Ap} {r : Bool} {ast a b c : Expr} {pos : Pos} {f fa fb fc : Ro → Out D}
theorem SndE.read (h : SndE X T false ast f) : SndE X T r ast f := by
  obtain ⟨t, p, q⟩ := h
  refine ⟨t, p, fun G0 H0 ρ σ G H Q R h => q G0 H0 ρ σ G H Q R (h.mono fun d hd v G' H' k i => hd v G' H' k (.inl i.keep))⟩
theorem SndF.e (h : SndF X T ast f) : SndE X T r ast f := by
  obtain ⟨t, p, q⟩ := h
  exact ⟨t, p, fun G0 H0 ρ σ G H Q R h => q G0 H0 ρ σ G H Q R (h.mono fun d hd => hd.ofF R.sub R.tub)⟩
theorem SndE.congr {g : Ro → Out D} (h : SndE X T r ast f) (e : ∀ ρ, f ρ = g ρ) : SndE X T r ast g := by
  obtain ⟨t, p, q⟩ := h
  exact ⟨t, p, fun G0 H0 ρ σ G H Q R h => q G0 H0 ρ σ G H Q R (by rw [e]; exact h)⟩

/-! ### constants and names -/
theorem snd_c {d : D} {v : V} (h : PE X ast (tC v)) (i : ∀ G, Is T G v d) : SndE X T r ast (fun _ => .ret d) :=
  ⟨_, h, fun G0 H0 ρ σ G H Q R h => h v G H (.refl R.sub R.tub) (.inl (i G))⟩
theorem snd_var {i : Nat} {x : Str} (hN : X.N[i]? = some x) (hv : Vis X.env.scope x) (h1 : (x == ("__debug__" : Str)) = false) (h2 : (x == ("__classdict__" : Str)) = false) : SndE X T r (.Name x pos) (fun ρ => valOf ρ i) := by
  refine ⟨_, pe_var hN hv h1 h2, fun G0 H0 ρ σ G H Q R h => ?_⟩
  unfold valOf slot at h
  rw [Out.All_bind, Out.All_ofO] at h
  obtain ⟨s, e, h⟩ := h
  have e' : ρ[i]? = some (some s) := by
    cases q : ρ[i]? with
    | none => rw [q] at e; cases e
    | some o => rw [q] at e; simp at e; rw [e]
  obtain ⟨v, e1, e2⟩ := R.sl i s e'
  cases s with
  | val d => exact ⟨v, e1, h v G H (.refl R.sub R.tub) (.inl e2)⟩
  | own xs => exact h.elim
  | dic tt kvs => exact h.elim
  | own2 xss => exact h.elim
  | act => exact h.elim
theorem snd_pk {i : Nat} {x : Str} (hN : X.N[i]? = some x) (hv : Vis X.env.scope x) (h1 : (x == ("__debug__" : Str)) = false) (h2 : (x == ("__classdict__" : Str)) = false) : SndE X T r (.Name x pos) (fun ρ => .guard r (peekOf ρ i)) := by
  refine ⟨_, pe_var hN hv h1 h2, fun G0 H0 ρ σ G H Q R h => ?_⟩
  rw [Out.All_guard] at h
  obtain ⟨hr, h⟩ := h
  unfold peekOf slot at h
  rw [Out.All_bind, Out.All_ofO] at h
  obtain ⟨s, e, h⟩ := h
  have e' : ρ[i]? = some (some s) := by
    cases q : ρ[i]? with
    | none => rw [q] at e; cases e
    | some o => rw [q] at e; simp at e; rw [e]
  obtain ⟨v, e1, e2⟩ := R.sl i s e'
  cases s with
  | val d => exact ⟨v, e1, h v G H (.refl R.sub R.tub) (.inl e2)⟩
  | own xs =>
    obtain ⟨a, vs, rfl, g, h0, hT, hH, hx⟩ := e2
    exact ⟨_, e1, h _ G H (.refl R.sub R.tub) (.inr ⟨hr, a, vs, xs, rfl, rfl, hT, hH, hx⟩)⟩
  | dic tt kvs => exact h.elim
  | own2 xss => exact h.elim
  | act => exact h.elim

/-! ### operations upon values in hand -/
/-- what an operation of two values by its rule asks follows from g -/
def Op2 (T : Ap) (g : D → D → Out D) (q : R2) : Prop := ∀ (G H : Hp) (x y : D) (v u : V) (Q : VK), Sub G H → TubOk T H → IsR true T G H v x → IsR true T G H u y → (g x y).All (PostE false T G H Q) → q v u H Q
theorem snd2 {g : D → D → Out D} {q : R2} (ha : SndE X T true a fa) (hb : SndE X T true b fb) (mk : ∀ ta tb, PE X a ta → PE X b tb → PE X ast (tOp q ta tb)) (op : Op2 T g q) :
    SndE X T r ast (fun ρ => (fa ρ).bind fun x => (fb ρ).bind fun y => g x y) := by
  refine SndE.read ?_
  obtain ⟨ta, pa, qa⟩ := ha
  obtain ⟨tb, pb, qb⟩ := hb
  refine ⟨_, mk ta tb pa pb, fun G0 H0 ρ σ G H Q R h => ?_⟩
  rw [Out.All_bind] at h
  refine qa G0 H0 ρ σ G H _ R (h.mono fun x hx v G1 H1 k1 i1 => ?_)
  rw [Out.All_bind] at hx
  refine qb G0 H0 ρ σ G1 H1 _ (R.step k1) (hx.mono fun y hy u G2 H2 k2 i2 => ?_)
  have k := k1.trans k2 R.tub
  exact op G2 H2 x y v u Q k2.gh k2.tub (i1.step k2) i2 (hy.mono fun d hd => hd.trans k R.tub)
/-- .. fresh lists -/
def Op2F (T : Ap) (g : D → D → Out D) (q : R2) : Prop := ∀ (G H : Hp) (x y : D) (v u : V) (Q : VK), Sub G H → TubOk T H → IsR true T G H v x → IsR true T G H u y → (g x y).All (PostF T G H Q) → q v u H Q
theorem snd2F {g : D → D → Out D} {q : R2} (ha : SndE X T true a fa) (hb : SndE X T true b fb) (mk : ∀ ta tb, PE X a ta → PE X b tb → PE X ast (tOp q ta tb)) (op : Op2F T g q) :
    SndF X T ast (fun ρ => (fa ρ).bind fun x => (fb ρ).bind fun y => g x y) := by
  obtain ⟨ta, pa, qa⟩ := ha
  obtain ⟨tb, pb, qb⟩ := hb
  refine ⟨_, mk ta tb pa pb, fun G0 H0 ρ σ G H Q R h => ?_⟩
  rw [Out.All_bind] at h
  refine qa G0 H0 ρ σ G H _ R (h.mono fun x hx v G1 H1 k1 i1 => ?_)
  rw [Out.All_bind] at hx
  refine qb G0 H0 ρ σ G1 H1 _ (R.step k1) (hx.mono fun y hy u G2 H2 k2 i2 => ?_)
  have k := k1.trans k2 R.tub
  exact op G2 H2 x y v u Q k2.gh k2.tub (i1.step k2) i2 (hy.mono fun d hd => hd.trans k R.tub)
end
end Ev

set_option Elab.async false
set_option linter.all false
set_option autoImplicit false
set_option maxRecDepth 100000
set_option maxHeartbeats 2000000
namespace Ev
open PySem L2

theorem lim_le : lim ≤ sizeLine := by rw [sizeLine_eq]; decide
section
variable {T : Ap} {G H : Hp}
theorem PostE.now {r : Bool} {Q : VK} {d : D} {v : V} (s : Sub G H) (t : TubOk T H) (h : PostE r T G H Q d) (i : Is T G v d) : Q v H := h v G H (.refl s t) (.inl i)
theorem PostE.laid {r : Bool} {Q : VK} {d : D} {p : Addr} {o : HO} (s : Sub G H) (t : TubOk T H) (h : PostE r T G H Q d) (hp : H p = none) (i : ∀ G', Sub G G' → G' p = some o → Is T G' (V.ref p) d) : Q (V.ref p) (upd H p o) :=
  let k := Stp.laid (T := T) s t (o := o) hp
  h _ _ _ k (.inl (i _ k.gs upd_same))
theorem PostF.laid {Q : VK} {xs : List D} {p : Addr} {vs : List V} (s : Sub G H) (t : TubOk T H) (h : PostF T G H Q (.list xs)) (hp : H p = none) (i : IsAll T G vs xs) : Q (V.ref p) (upd H p (.lst vs)) := by
  have gp : G p = none := by
    cases e : G p with
    | none => rfl
    | some u => rw [s p u e] at hp; cases hp
  exact h p vs xs G _ rfl (Stp.fresh s t hp) hp gp upd_same i
end

/-! ### + - * // % ** -/
section
variable {T : Ap} {X : Cx} {K : PySem.W.Frag}
def rAddD (K : PySem.W.Frag) : R2 := fun x y H Q => (rI0 (fun i j => .int (i + j)) x y H Q ∨ rCatA K x y H Q) ∨ rCat x y H Q
theorem or_add : OpR X (binaryOp .Add) (rAddD X.K) := (op_add.or op_catA).or op_cat
theorem o2_add : Op2 T (binD .add) (rAddD K) := by
  intro G H x y v u Q s t ix iy h
  cases x <;> cases y <;> simp only [binD] at h <;> try exact h.elim
  case int.int i j => exact .inl (.inl ⟨i, j, ix.int, iy.int, PostE.now s t h (.int _)⟩)
  case list.list xs ys =>
    rw [Out.All_guard] at h
    obtain ⟨hl, h⟩ := h
    have hl := of_decide_eq_true hl
    obtain ⟨a, vs, rfl, ga, ia⟩ := ix.list s
    obtain ⟨b, us, rfl, gb, ib⟩ := iy.list s
    refine .inr ⟨a, b, vs, us, rfl, rfl, ga, gb, ?_, fun p hp => ?_⟩
    · rw [ia.length, ib.length]; exact Nat.le_trans hl lim_le
    · exact PostE.laid s t h hp fun G' s' e => .lst e ((ia.append ib).mono s' _ _)
  case tuple.tuple xs ys =>
    rw [Out.All_guard] at h
    obtain ⟨hl, h⟩ := h
    have hl := of_decide_eq_true hl
    obtain ⟨a, vs, rfl, ga, ia⟩ := ix.tup
    obtain ⟨b, us, rfl, gb, ib⟩ := iy.tup
    refine .inl (.inr ⟨a, b, vs, us, rfl, rfl, .of (s _ _ ga), .of (s _ _ gb), ?_, fun e => ?_, fun _ e => ?_, fun _ _ p hp => ?_⟩)
    · rw [ia.length, ib.length]; exact Nat.le_trans hl lim_le
    · subst e
      cases xs with
      | nil => exact PostE.now s t h (.tup gb ib)
      | cons => cases ia
    · subst e
      cases ys with
      | nil => rw [List.append_nil] at h; exact PostE.now s t h (.tup ga ia)
      | cons => cases ib
    · exact PostE.laid s t h hp fun G' s' e => .tup e ((ia.append ib).mono s' _ _)
/-- list + list, new -/
theorem o2_addF : Op2F T (fun x y => match x, y with | .list _, .list _ => binD .add x y | _, _ => .bad) (rAddD K) := by
  intro G H x y v u Q s t ix iy h
  cases x <;> cases y <;> simp only [binD] at h <;> try exact h.elim
  rename_i xs ys
  rw [Out.All_guard] at h
  obtain ⟨hl, h⟩ := h
  have hl := of_decide_eq_true hl
  obtain ⟨a, vs, rfl, ga, ia⟩ := ix.list s
  obtain ⟨b, us, rfl, gb, ib⟩ := iy.list s
  refine .inr ⟨a, b, vs, us, rfl, rfl, ga, gb, ?_, fun p hp => ?_⟩
  · rw [ia.length, ib.length]; exact Nat.le_trans hl lim_le
  · exact PostF.laid s t h hp (ia.append ib)
theorem o2_sub : Op2 T (binD .sub) (rI0 fun i j => .int (i - j)) := by
  intro G H x y v u Q s t ix iy h
  cases x <;> cases y <;> simp only [binD] at h <;> try exact h.elim
  rename_i i j
  exact ⟨i, j, ix.int, iy.int, PostE.now s t h (.int _)⟩
theorem o2_fdiv : Op2 T (binD .fdiv) (rI CDivW fun i j => .int (i / j)) := by
  intro G H x y v u Q s t ix iy h
  cases x <;> cases y <;> simp only [binD] at h <;> try exact h.elim
  rename_i i j
  rw [Out.All_guard] at h
  obtain ⟨hl, h⟩ := h
  unfold divOk at hl
  simp only [Bool.and_eq_true, decide_eq_true_eq] at hl
  exact ⟨i, j, ix.int, iy.int, hl, PostE.now s t h (.int _)⟩
theorem o2_mod : Op2 T (binD .mod) (rI (fun _ j => 0 < j) fun i j => .int (i % j)) := by
  intro G H x y v u Q s t ix iy h
  cases x <;> cases y <;> simp only [binD] at h <;> try exact h.elim
  rename_i i j
  rw [Out.All_guard] at h
  obtain ⟨hl, h⟩ := h
  exact ⟨i, j, ix.int, iy.int, of_decide_eq_true hl, PostE.now s t h (.int _)⟩
theorem o2_pow : Op2 T (binD .pow) (rI CPow fun i j => .int (i ^ j.toNat)) := by
  intro G H x y v u Q s t ix iy h
  cases x <;> cases y <;> simp only [binD] at h <;> try exact h.elim
  rename_i i j
  rw [Out.All_guard] at h
  obtain ⟨hl, h⟩ := h
  simp only [Bool.and_eq_true, decide_eq_true_eq] at hl
  exact ⟨i, j, ix.int, iy.int, hl, PostE.now s t h (.int _)⟩

/-! ### comparisons -/
theorem shp {x : D} (h : SeqAt.shaped x = true) : x.canLay0 = true := SeqAt.canLay_of_shaped h
theorem o2_eq : Op2 T (cmpD .eq) (rEqD K) := by
  intro G H x y v u Q s t ix iy h
  simp only [cmpD] at h
  rw [Out.All_guard] at h
  obtain ⟨hl, h⟩ := h
  rw [Bool.and_eq_true] at hl
  exact ⟨x, y, ix.dp s (shp hl.1), iy.dp s (shp hl.2), hl.1, hl.2, PostE.now s t h (.bl _)⟩
theorem o2_ne : Op2 T (cmpD .ne) (rNeD K) := by
  intro G H x y v u Q s t ix iy h
  simp only [cmpD] at h
  rw [Out.All_guard] at h
  obtain ⟨hl, h⟩ := h
  rw [Bool.and_eq_true] at hl
  exact ⟨x, y, ix.dp s (shp hl.1), iy.dp s (shp hl.2), hl.1, hl.2, PostE.now s t h (.bl _)⟩
/-- x in a list, in a tuple -/
def rInS (K : PySem.W.Frag) : R2 := fun x y H Q => rInD K x y H Q ∨ ∃ d ds, Dp K H x d ∧ Dp K H y (.tuple ds) ∧ SeqAt.shaped d = true ∧ PyData.canLayAll0 ds = true ∧ Q (.bl (ds.any fun z => PyData.eqv z d)) H
def rNinS (K : PySem.W.Frag) : R2 := fun x y H Q => rNotInD K x y H Q ∨ ∃ d ds, Dp K H x d ∧ Dp K H y (.tuple ds) ∧ SeqAt.shaped d = true ∧ PyData.canLayAll0 ds = true ∧ Q (.bl (!ds.any fun z => PyData.eqv z d)) H
theorem op_inS {X : Cx} (hu : X.A.units + 65 < cLine) : OpR X (compareOp .In) (rInS X.K) := by
  intro pins s σ H x y v u Q I rx ry h
  rcases h with h | ⟨d, ds, hd, hy, sd, cl, q⟩
  · exact op_inD hu pins s σ H x y v u Q I rx ry h
  · obtain ⟨a1, rd1⟩ := Dp.reads I d x v hd rx
    obtain ⟨a2, rd2⟩ := Dp.reads I (.tuple ds) y u hy ry
    exact SeqAt.in_tuple_reads rd2 rd1 cl (SeqAt.canLay_of_shaped sd) (PyProof.Rows.room_in_shaped sd hu) ⟨.bl _, H, I, rfl, q⟩
theorem op_ninS {X : Cx} (hu : X.A.units + 65 < cLine) : OpR X (compareOp .NotIn) (rNinS X.K) := by
  intro pins s σ H x y v u Q I rx ry h
  rcases h with h | ⟨d, ds, hd, hy, sd, cl, q⟩
  · exact op_notInD hu pins s σ H x y v u Q I rx ry h
  · obtain ⟨a1, rd1⟩ := Dp.reads I d x v hd rx
    obtain ⟨a2, rd2⟩ := Dp.reads I (.tuple ds) y u hy ry
    exact SeqAt.notIn_tuple_reads rd2 rd1 cl (SeqAt.canLay_of_shaped sd) (PyProof.Rows.room_in_shaped sd hu) ⟨.bl _, H, I, rfl, q⟩
theorem o2_in : Op2 T (cmpD .inn) (rInS K) := by
  intro G H x y v u Q s t ix iy h
  cases y <;> simp only [cmpD] at h <;> try exact h.elim
  all_goals
    rename_i ys
    rw [Out.All_guard, Bool.and_eq_true] at h
    obtain ⟨⟨h1, h2⟩, h⟩ := h
    have c2 := shp h2
  · exact .inl ⟨x, ys, ix.dp s (shp h1), iy.dp s c2, h1, h2, PostE.now s t h (.bl _)⟩
  · exact .inr ⟨x, ys, ix.dp s (shp h1), iy.dp s (by simpa [PyData.canLay0] using c2), h1, by simpa [PyData.canLay0] using c2, PostE.now s t h (.bl _)⟩
theorem o2_nin : Op2 T (cmpD .nin) (rNinS K) := by
  intro G H x y v u Q s t ix iy h
  cases y <;> simp only [cmpD] at h <;> try exact h.elim
  all_goals
    rename_i ys
    rw [Out.All_guard, Bool.and_eq_true] at h
    obtain ⟨⟨h1, h2⟩, h⟩ := h
    have c2 := shp h2
  · exact .inl ⟨x, ys, ix.dp s (shp h1), iy.dp s c2, h1, h2, PostE.now s t h (.bl _)⟩
  · exact .inr ⟨x, ys, ix.dp s (shp h1), iy.dp s (by simpa [PyData.canLay0] using c2), h1, by simpa [PyData.canLay0] using c2, PostE.now s t h (.bl _)⟩
theorem o2_lt : Op2 T (cmpD .lt) (rI0 fun i j => .bl (decide (i < j))) := by
  intro G H x y v u Q s t ix iy h
  cases x <;> cases y <;> simp only [cmpD] at h <;> try exact h.elim
  rename_i i j
  exact ⟨i, j, ix.int, iy.int, PostE.now s t h (.bl _)⟩
theorem o2_le : Op2 T (cmpD .le) (rI0 fun i j => .bl (decide (i ≤ j))) := by
  intro G H x y v u Q s t ix iy h
  cases x <;> cases y <;> simp only [cmpD] at h <;> try exact h.elim
  rename_i i j
  exact ⟨i, j, ix.int, iy.int, PostE.now s t h (.bl _)⟩
theorem o2_gt : Op2 T (cmpD .gt) (rI0 fun i j => .bl (decide (j < i))) := by
  intro G H x y v u Q s t ix iy h
  cases x <;> cases y <;> simp only [cmpD] at h <;> try exact h.elim
  rename_i i j
  exact ⟨i, j, ix.int, iy.int, PostE.now s t h (.bl _)⟩
theorem o2_ge : Op2 T (cmpD .ge) (rI0 fun i j => .bl (decide (j ≤ i))) := by
  intro G H x y v u Q s t ix iy h
  cases x <;> cases y <;> simp only [cmpD] at h <;> try exact h.elim
  rename_i i j
  exact ⟨i, j, ix.int, iy.int, PostE.now s t h (.bl _)⟩

/-! ### items -/
theorem atI_is {xs : List D} {vs : List V} {G : Hp} {i : Int} {d : D} (h : IsAll T G vs xs) (e : atI xs i = some d) : ∃ v, atI vs i = some v ∧ Is T G v d := by
  unfold atI at e ⊢
  rw [h.length]
  cases q : ixN xs.length i with
  | none => rw [q] at e; cases e
  | some j =>
    rw [q] at e
    obtain ⟨v, e1, e2⟩ := h.get (i := j) (by simpa using e)
    exact ⟨v, by simpa using e1, e2⟩
def rIxD (K : PySem.W.Frag) : R2 := fun x y H Q => rIxL K x y H Q ∨ rIxT K x y H Q
theorem or_ix : IxR X (rIxD X.K) := ix_list.or ix_tup
theorem o2_ix : Op2 T ixD (rIxD K) := by
  intro G H x y v u Q s t ix iy h
  cases x <;> cases y <;> simp only [ixD] at h <;> try exact h.elim
  case list.int xs i =>
    rw [Out.All_ofO] at h
    obtain ⟨d, e, h⟩ := h
    obtain ⟨a, vs, rfl, ga, ia⟩ := ix.list s
    obtain ⟨w, e1, e2⟩ := atI_is ia e
    exact .inl ⟨a, vs, i, w, rfl, iy.int, .of ga, e1, PostE.now s t h e2⟩
  case tuple.int xs i =>
    rw [Out.All_ofO] at h
    obtain ⟨d, e, h⟩ := h
    obtain ⟨a, vs, rfl, ga, ia⟩ := ix.tup
    obtain ⟨w, e1, e2⟩ := atI_is ia e
    exact .inr ⟨a, vs, i, w, rfl, iy.int, .of (s _ _ ga), e1, PostE.now s t h e2⟩
  case dict.int kvs i =>
    rcases kvs with _ | ⟨⟨a, b⟩, _ | ⟨c, r⟩⟩ <;> (try exact h.elim) <;> cases a <;> (try exact h.elim) <;> cases b <;> (try exact h.elim)
    rw [Out.All_ofO] at h
    obtain ⟨d, e, h⟩ := h
    obtain ⟨a, vs, o, rfl, ga, ia⟩ := ix.scr
    obtain ⟨w, e1, e2⟩ := atI_is ia e
    exact .inl ⟨a, vs, i, w, rfl, iy.int, .inl (.inr ⟨o, s _ _ ga⟩), e1, PostE.now s t h e2⟩
theorem cut_is {xs : List D} {vs : List V} {G : Hp} {lo hi : Option Int} (h : IsAll T G vs xs) : IsAll T G (cutV vs lo hi) (cutD xs lo hi) := by
  unfold cutV cutD
  rw [h.length]
  exact (h.drop _).take _
def rSlD (K : PySem.W.Frag) : V → Option Int → Option Int → Hp → VK → Prop := fun x lo hi H Q => rSlL K x lo hi H Q ∨ rSlA K x lo hi H Q
theorem or_sl : SlR X (rSlD X.K) := sl_list.or sl_tupA
end

/-! ### 'is', the lone operations -/
section
variable {X : Cx} {T : Ap} {r : Bool} {ast a b c : Expr} {pos : Pos} {f fa fb fc : Ro → Out D}
theorem snd_neg (ha : SndE X T true a fa) : SndE X T r (.UnaryOp .USub a pos) (fun ρ => (fa ρ).bind fun x => (asInt x).bind fun i => .ret (.int (-i))) := by
  refine SndE.read ?_
  obtain ⟨ta, pa, qa⟩ := ha
  refine ⟨_, pe_un un_neg pa, fun G0 H0 ρ σ G H Q R h => ?_⟩
  rw [Out.All_bind] at h
  refine qa G0 H0 ρ σ G H _ R (h.mono fun x hx v G1 H1 k1 i1 => ?_)
  cases x <;> simp only [asInt] at hx <;> try exact hx.elim
  rename_i i
  exact ⟨i, i1.int, PostE.now k1.gh k1.tub (PostE.trans hx k1 R.tub) (.int _)⟩
theorem snd_not (ha : SndE X T true a fa) : SndE X T r (.UnaryOp .Not a pos) (fun ρ => (fa ρ).bind fun x => (asBool x).bind fun i => .ret (.bool (!i))) := by
  refine SndE.read ?_
  obtain ⟨ta, pa, qa⟩ := ha
  refine ⟨_, pe_not pa, fun G0 H0 ρ σ G H Q R h => ?_⟩
  rw [Out.All_bind] at h
  refine qa G0 H0 ρ σ G H _ R (h.mono fun x hx v G1 H1 k1 i1 => ?_)
  cases x <;> simp only [asBool] at hx <;> try exact hx.elim
  rename_i i
  exact ⟨i, i1.bool, PostE.now k1.gh k1.tub (PostE.trans hx k1 R.tub) (.bl _)⟩
theorem snd_isn {g : Bool} {j : Nat} {p2 : Pos} (ha : SndE X T true a fa) : SndE X T r (.Compare a [if g then .IsNot else .Is] [.Constant .none j p2] pos) (fun ρ => (fa ρ).bind fun x => .ret (.bool (match x with | .none => !g | _ => g))) := by
  refine SndE.read ?_
  obtain ⟨ta, pa, qa⟩ := ha
  have key : ∀ (v : V) (x : D) (G H : Hp), IsR true T G H v x → decide (v = .non) = (match x with | .none => true | _ => false) := fun v x G H i => by
    cases x with
    | none => rw [i.none]; rfl
    | _ =>
      refine decide_eq_false fun e => ?_
      subst e
      rcases i with i | ⟨_, a, vs, xs, _, e, _⟩
      · cases i
      · cases e
  cases g with
  | false =>
    refine ⟨_, pe_cmp (op := .Is) (pc_isN pa), fun G0 H0 ρ σ G H Q R h => ?_⟩
    rw [Out.All_bind] at h
    refine qa G0 H0 ρ σ G H _ R (h.mono fun x hx v G1 H1 k1 i1 => ?_)
    show Q (V.bl (decide (v = .non))) H1
    rw [key v x G1 H1 i1]
    refine PostE.now k1.gh k1.tub (PostE.trans hx k1 R.tub) ?_
    cases x <;> exact .bl _
  | true =>
    refine ⟨_, pe_cmp (op := .IsNot) (pc_notN pa), fun G0 H0 ρ σ G H Q R h => ?_⟩
    rw [Out.All_bind] at h
    refine qa G0 H0 ρ σ G H _ R (h.mono fun x hx v G1 H1 k1 i1 => ?_)
    show Q (V.bl (!decide (v = .non))) H1
    rw [key v x G1 H1 i1]
    refine PostE.now k1.gh k1.tub (PostE.trans hx k1 R.tub) ?_
    cases x <;> exact .bl _
theorem snd_ist {g b : Bool} {j : Nat} {p2 : Pos} (ha : SndE X T true a fa) : SndE X T r (.Compare a [if g then .IsNot else .Is] [.Constant (.bool b) j p2] pos) (fun ρ => (fa ρ).bind fun x => (asBool x).bind fun c => .ret (.bool (if c = b then !g else g))) := by
  refine SndE.read ?_
  obtain ⟨ta, pa, qa⟩ := ha
  cases g with
  | false =>
    refine ⟨_, pe_cmpR (op := .Is) op_isBl pa pe_bl (nomark _), fun G0 H0 ρ σ G H Q R h => ?_⟩
    rw [Out.All_bind] at h
    refine qa G0 H0 ρ σ G H _ R (h.mono fun x hx v G1 H1 k1 i1 => ?_)
    cases x <;> simp only [asBool] at hx <;> try exact hx.elim
    rename_i c
    refine ⟨c, b, i1.bool, rfl, PostE.now k1.gh k1.tub (PostE.trans hx k1 R.tub) ?_⟩
    by_cases e : c = b <;> simp only [e, if_true, if_false, decide_true, decide_false, Bool.not_false] <;> exact .bl _
  | true =>
    refine ⟨_, pe_cmpR (op := .IsNot) op_notBl pa pe_bl (nomark _), fun G0 H0 ρ σ G H Q R h => ?_⟩
    rw [Out.All_bind] at h
    refine qa G0 H0 ρ σ G H _ R (h.mono fun x hx v G1 H1 k1 i1 => ?_)
    cases x <;> simp only [asBool] at hx <;> try exact hx.elim
    rename_i c
    refine ⟨c, b, i1.bool, rfl, PostE.now k1.gh k1.tub (PostE.trans hx k1 R.tub) ?_⟩
    by_cases e : c = b <;> simp only [e, if_true, if_false, decide_true, decide_false, Bool.not_true, Bool.not_false] <;> exact .bl _
theorem snd_and {rest : List Expr} (ha : SndE X T true a fa) (hb : SndE X T true (.BoolOp .And (b :: rest) pos) fb) : SndE X T r (.BoolOp .And (a :: b :: rest) pos) (fun ρ => (fa ρ).bind fun x => (asBool x).bind fun
    | true => (fb ρ).bind fun y => (asBool y).bind fun c => .ret (.bool c)
    | false => .ret (.bool false)) := by
  refine SndE.read ?_
  obtain ⟨ta, pa, qa⟩ := ha
  obtain ⟨tb, pb, qb⟩ := hb
  refine ⟨_, pe_and pa pb, fun G0 H0 ρ σ G H Q R h => ?_⟩
  rw [Out.All_bind] at h
  refine qa G0 H0 ρ σ G H _ R (h.mono fun x hx v G1 H1 k1 i1 => ?_)
  cases x <;> simp only [asBool] at hx <;> try exact hx.elim
  rename_i c
  refine ⟨c, i1.bool, ?_⟩
  cases c with
  | false =>
    rw [if_neg Bool.false_ne_true]
    exact PostE.now k1.gh k1.tub (PostE.trans hx k1 R.tub) (.bl _)
  | true =>
    rw [if_pos rfl]
    simp only [Out.bind_ret] at hx
    rw [Out.All_bind] at hx
    refine qb G0 H0 ρ σ G1 H1 _ (R.step k1) (hx.mono fun y hy u G2 H2 k2 i2 => ?_)
    cases y <;> simp only [asBool] at hy <;> try exact hy.elim
    rename_i c2
    rw [i2.bool]
    exact PostE.now k2.gh k2.tub (PostE.trans hy (k1.trans k2 R.tub) R.tub) (.bl _)
theorem snd_or {rest : List Expr} (ha : SndE X T true a fa) (hb : SndE X T true (.BoolOp .Or (b :: rest) pos) fb) : SndE X T r (.BoolOp .Or (a :: b :: rest) pos) (fun ρ => (fa ρ).bind fun x => (asBool x).bind fun
    | true => .ret (.bool true)
    | false => (fb ρ).bind fun y => (asBool y).bind fun c => .ret (.bool c)) := by
  refine SndE.read ?_
  obtain ⟨ta, pa, qa⟩ := ha
  obtain ⟨tb, pb, qb⟩ := hb
  refine ⟨_, pe_or pa pb, fun G0 H0 ρ σ G H Q R h => ?_⟩
  rw [Out.All_bind] at h
  refine qa G0 H0 ρ σ G H _ R (h.mono fun x hx v G1 H1 k1 i1 => ?_)
  cases x <;> simp only [asBool] at hx <;> try exact hx.elim
  rename_i c
  refine ⟨c, i1.bool, ?_⟩
  cases c with
  | true =>
    rw [if_pos rfl]
    exact PostE.now k1.gh k1.tub (PostE.trans hx k1 R.tub) (.bl _)
  | false =>
    rw [if_neg Bool.false_ne_true]
    simp only [Out.bind_ret] at hx
    rw [Out.All_bind] at hx
    refine qb G0 H0 ρ σ G1 H1 _ (R.step k1) (hx.mono fun y hy u G2 H2 k2 i2 => ?_)
    cases y <;> simp only [asBool] at hy <;> try exact hy.elim
    rename_i c2
    rw [i2.bool]
    exact PostE.now k2.gh k2.tub (PostE.trans hy (k1.trans k2 R.tub) R.tub) (.bl _)
/-- one member of a BoolOp -/
theorem snd_one {op : BoolOp} (ha : SndE X T r a fa) : SndE X T r (.BoolOp op [a] pos) fa := by
  obtain ⟨ta, pa, qa⟩ := ha
  exact ⟨ta, pe_one pa, qa⟩
end
end Ev

set_option Elab.async false
set_option linter.all false
set_option autoImplicit false
set_option maxRecDepth 100000
set_option maxHeartbeats 2000000
namespace Ev
open PySem L2

section
variable {X : Cx} {T : Ap} {r : Bool} {ast a b c e : Expr} {es : List Expr} {pos : Pos} {f fa fb fc fl : Ro → Out D}
/-- every comparison's answer is a bool -/
theorem cmpD_bool {o : Cop} {x y z : D} {P : D → Prop} (h : (cmpD o x y).All P) : (cmpD o x y).All fun z => P z ∧ ∃ k, z = .bool k := by
  cases o <;> cases x <;> cases y <;> simp only [cmpD] at h ⊢ <;> first
    | exact h.elim
    | exact ⟨h, _, rfl⟩
    | (rw [Out.All_guard] at h ⊢; exact ⟨h.1, h.2, _, rfl⟩)
theorem snb_chain {o p : Cop} {op op' : CmpOp} {q q' : R2} (ho : OpR X (compareOp op) q) (ho' : OpR X (compareOp op') q') (e1 : Op2 T (cmpD o) q) (e2 : Op2 T (cmpD p) q') (ha : SndE X T true a fa) (hb : SndE X T true b fb) (hc : SndE X T true c fc)
    (hm : lastMarks [op, op'] [b, c] = false) : ∃ t : TE, PE X (.Compare a [op, op'] [b, c] pos) t ∧ PT X (.Compare a [op, op'] [b, c] pos) (tTest t) ∧ ∀ (G0 H0 : Hp) (ρ : Ro) (σ : Sg) (G H : Hp) (Q : VK), Rep T G0 H0 ρ σ G H → ((fa ρ).bind fun x => (fb ρ).bind fun y => (cmpD o x y).bind fun z => (asBool z).bind fun
    | true => (fc ρ).bind fun w => cmpD p y w
    | false => .ret (.bool false)).All (PostE false T G H Q) → t σ H Q := by
  obtain ⟨ta, pa, qa⟩ := ha
  obtain ⟨tb, pb, qb⟩ := hb
  obtain ⟨tc, pc, qc⟩ := hc
  refine ⟨_, pe_chain ho ho' pa pb pc hm, pt_chain ho ho' pa pb pc hm, fun G0 H0 ρ σ G H Q R h => ?_⟩
  rw [Out.All_bind] at h
  refine qa G0 H0 ρ σ G H _ R (h.mono fun x hx v G1 H1 k1 i1 => ?_)
  rw [Out.All_bind] at hx
  refine qb G0 H0 ρ σ G1 H1 _ (R.step k1) (hx.mono fun y hy u G2 H2 k2 i2 => ?_)
  rw [Out.All_bind] at hy
  have k := k1.trans k2 R.tub
  refine e1 G2 H2 x y v u _ k2.gh k2.tub (i1.step k2) i2 ((cmpD_bool (z := x) hy).mono fun z ⟨hz, kk, ez⟩ w G3 H3 k3 i3 => ?_)
  subst ez
  simp only [asBool, Out.bind_ret] at hz
  refine ⟨kk, i3.bool, ?_⟩
  have k' := k.trans k3 R.tub
  cases kk with
  | false =>
    rw [if_neg Bool.false_ne_true]
    exact PostE.now k3.gh k3.tub (PostE.trans hz k' R.tub) (.bl _)
  | true =>
    rw [if_pos rfl]
    simp only at hz
    rw [Out.All_bind] at hz
    refine qc G0 H0 ρ σ G3 H3 _ (R.step k') (hz.mono fun z hz2 w2 G4 H4 k4 i4 => ?_)
    exact e2 G4 H4 y z u w2 Q k4.gh k4.tub ((i2.step k3).step k4) i4 (hz2.mono fun d hd => hd.trans (k'.trans k4 R.tub) R.tub)

/-! ### tests -/
theorem SndT.of_e {t : TE} (p : PE X ast t) (q : ∀ (G0 H0 : Hp) (ρ : Ro) (σ : Sg) (G H : Hp) (Q : VK), Rep T G0 H0 ρ σ G H → (f ρ).All (PostE true T G H Q) → t σ H Q)
    (hb : ∀ ρ, (f ρ).All (fun _ => True) → True) : True := trivial
theorem snd_test (h : SndE X T true ast f) (he : ∀ whole, isTrue ast X.env whole = (do let v ← whole; standAt ast.pos; holding [v] (truthy v))) : SndT X T ast (fun ρ => (f ρ).bind fun d => (asBool d).bind fun b => .ret (.bool b)) := by
  obtain ⟨t, p, q⟩ := h
  refine ⟨_, pt_val p he, fun G0 H0 ρ σ G H Q R h => ?_⟩
  rw [Out.All_bind] at h
  refine q G0 H0 ρ σ G H _ R (h.mono fun d hd v G' H' k i => ?_)
  cases d <;> simp only [asBool] at hd <;> try exact hd.elim
  rename_i b
  exact ⟨b, i.bool, hd b G' H' rfl k⟩
abbrev tst (f : Ro → Out D) : Ro → Out D := fun ρ => (f ρ).bind fun d => (asBool d).bind fun b => .ret (.bool b)
theorem All_tst {ρ : Ro} {P : D → Prop} : (tst f ρ).All P ↔ (f ρ).All fun d => ∃ b, d = .bool b ∧ P (.bool b) := by
  unfold tst
  rw [Out.All_bind]
  constructor
  · exact fun h => h.mono fun d hd => by
      cases d <;> simp only [asBool] at hd <;> try exact hd.elim
      exact ⟨_, rfl, hd⟩
  · exact fun h => h.mono fun d ⟨b, e, hd⟩ => by
      subst e
      exact hd
theorem tt_not (ha : SndT X T a (tst fa)) : SndT X T (.UnaryOp .Not a pos) (tst fun ρ => (fa ρ).bind fun x => (asBool x).bind fun i => .ret (.bool (!i))) := by
  obtain ⟨t, p, q⟩ := ha
  refine ⟨_, pt_not p, fun G0 H0 ρ σ G H Q R h => ?_⟩
  rw [All_tst, Out.All_bind] at h
  refine q G0 H0 ρ σ G H _ R (All_tst.mpr (h.mono fun d hd => ?_))
  cases d <;> simp only [asBool] at hd <;> try exact hd.elim
  rename_i b
  obtain ⟨b', e, hd⟩ := hd
  cases e
  exact ⟨b, rfl, fun c G' H' e k => by cases e; exact hd _ G' H' rfl k⟩
theorem tt_and {rest : List Expr} (ha : SndT X T a (tst fa)) (hb : ∃ t : TT, PW X (.BoolOp .And (b :: rest) pos) t ∧ ∀ (G0 H0 : Hp) (ρ : Ro) (σ : Sg) (G H : Hp) (Q : Bool → Hp → Prop), Rep T G0 H0 ρ σ G H → (tst fb ρ).All (PostT T G H Q) → t σ H Q) :
    ∃ t : TT, PW X (.BoolOp .And (a :: b :: rest) pos) t ∧ ∀ (G0 H0 : Hp) (ρ : Ro) (σ : Sg) (G H : Hp) (Q : Bool → Hp → Prop), Rep T G0 H0 ρ σ G H → (tst (fun ρ => (fa ρ).bind fun x => (asBool x).bind fun
      | true => (fb ρ).bind fun y => (asBool y).bind fun c => .ret (.bool c)
      | false => .ret (.bool false)) ρ).All (PostT T G H Q) → t σ H Q := by
  obtain ⟨ta, pa, qa⟩ := ha
  obtain ⟨tb, pb, qb⟩ := hb
  refine ⟨_, pw_and pa pb, fun G0 H0 ρ σ G H Q R h => ?_⟩
  rw [All_tst, Out.All_bind] at h
  refine qa G0 H0 ρ σ G H _ R (All_tst.mpr (h.mono fun d hd => ?_))
  cases d <;> simp only [asBool] at hd <;> try exact hd.elim
  rename_i c
  refine ⟨c, rfl, fun c' G1 H1 e k1 => ?_⟩
  cases e
  cases c with
  | false =>
    rw [if_neg Bool.false_ne_true]
    obtain ⟨_, e, hd⟩ := hd
    cases e
    exact hd _ G1 H1 rfl k1
  | true =>
    rw [if_pos rfl]
    simp only [Out.bind_ret] at hd
    refine qb G0 H0 ρ σ G1 H1 _ (R.step k1) (All_tst.mpr ?_)
    rw [Out.All_bind] at hd
    refine hd.mono fun y hy => ?_
    cases y <;> simp only [asBool] at hy <;> try exact hy.elim
    rename_i c2
    obtain ⟨_, e, hy⟩ := hy
    cases e
    exact ⟨c2, rfl, PostT.trans hy k1 R.tub⟩
theorem tt_or {rest : List Expr} (ha : SndT X T a (tst fa)) (hb : ∃ t : TT, PW X (.BoolOp .Or (b :: rest) pos) t ∧ ∀ (G0 H0 : Hp) (ρ : Ro) (σ : Sg) (G H : Hp) (Q : Bool → Hp → Prop), Rep T G0 H0 ρ σ G H → (tst fb ρ).All (PostT T G H Q) → t σ H Q) :
    ∃ t : TT, PW X (.BoolOp .Or (a :: b :: rest) pos) t ∧ ∀ (G0 H0 : Hp) (ρ : Ro) (σ : Sg) (G H : Hp) (Q : Bool → Hp → Prop), Rep T G0 H0 ρ σ G H → (tst (fun ρ => (fa ρ).bind fun x => (asBool x).bind fun
      | true => .ret (.bool true)
      | false => (fb ρ).bind fun y => (asBool y).bind fun c => .ret (.bool c)) ρ).All (PostT T G H Q) → t σ H Q := by
  obtain ⟨ta, pa, qa⟩ := ha
  obtain ⟨tb, pb, qb⟩ := hb
  refine ⟨_, pw_or pa pb, fun G0 H0 ρ σ G H Q R h => ?_⟩
  rw [All_tst, Out.All_bind] at h
  refine qa G0 H0 ρ σ G H _ R (All_tst.mpr (h.mono fun d hd => ?_))
  cases d <;> simp only [asBool] at hd <;> try exact hd.elim
  rename_i c
  refine ⟨c, rfl, fun c' G1 H1 e k1 => ?_⟩
  cases e
  cases c with
  | true =>
    rw [if_pos rfl]
    obtain ⟨_, e, hd⟩ := hd
    cases e
    exact hd _ G1 H1 rfl k1
  | false =>
    rw [if_neg Bool.false_ne_true]
    simp only [Out.bind_ret] at hd
    refine qb G0 H0 ρ σ G1 H1 _ (R.step k1) (All_tst.mpr ?_)
    rw [Out.All_bind] at hd
    refine hd.mono fun y hy => ?_
    cases y <;> simp only [asBool] at hy <;> try exact hy.elim
    rename_i c2
    obtain ⟨_, e, hy⟩ := hy
    cases e
    exact ⟨c2, rfl, PostT.trans hy k1 R.tub⟩
theorem tt_one_and (ha : SndT X T a (tst fa)) : ∃ t : TT, PW X (.BoolOp .And [a] pos) t ∧ ∀ (G0 H0 : Hp) (ρ : Ro) (σ : Sg) (G H : Hp) (Q : Bool → Hp → Prop), Rep T G0 H0 ρ σ G H → (tst fa ρ).All (PostT T G H Q) → t σ H Q := by
  obtain ⟨ta, pa, qa⟩ := ha
  exact ⟨ta, pw_and1 pa, qa⟩
theorem tt_one_or (ha : SndT X T a (tst fa)) : ∃ t : TT, PW X (.BoolOp .Or [a] pos) t ∧ ∀ (G0 H0 : Hp) (ρ : Ro) (σ : Sg) (G H : Hp) (Q : Bool → Hp → Prop), Rep T G0 H0 ρ σ G H → (tst fa ρ).All (PostT T G H Q) → t σ H Q := by
  obtain ⟨ta, pa, qa⟩ := ha
  exact ⟨ta, pw_or1 pa, qa⟩
/-- a comparison as a test -/
theorem tt_cmp2 {g : D → D → Out D} {q : R2} {op : CmpOp} (ho : OpR X (compareOp op) q) (ha : SndE X T true a fa) (hb : SndE X T true b fb) (e2 : Op2 T g q) (hm : behindInMarks op b = false) :
    SndT X T (.Compare a [op] [b] pos) (tst fun ρ => (fa ρ).bind fun x => (fb ρ).bind fun y => g x y) := by
  obtain ⟨ta, pa, qa⟩ := ha
  obtain ⟨tb, pb, qb⟩ := hb
  refine ⟨_, pt_cmpR ho pa pb hm, fun G0 H0 ρ σ G H Q R h => ?_⟩
  rw [All_tst, Out.All_bind] at h
  refine qa G0 H0 ρ σ G H _ R (h.mono fun x hx v G1 H1 k1 i1 => ?_)
  rw [Out.All_bind] at hx
  refine qb G0 H0 ρ σ G1 H1 _ (R.step k1) (hx.mono fun y hy u G2 H2 k2 i2 => ?_)
  have k := k1.trans k2 R.tub
  refine e2 G2 H2 x y v u _ k2.gh k2.tub (i1.step k2) i2 (hy.mono fun d ⟨bb, e, hd⟩ w G3 H3 k3 i3 => ?_)
  subst e
  exact ⟨bb, i3.bool, hd bb G3 H3 rfl (k.trans k3 R.tub)⟩
/-- a one-comparison expression as a test, from its value -/
theorem tt_cmp1 {op : CmpOp} (h : SndE X T true (.Compare a [op] [b] pos) f) (mk : ∀ t, PE X (.Compare a [op] [b] pos) t → PT X (.Compare a [op] [b] pos) (tTest t)) : SndT X T (.Compare a [op] [b] pos) (tst f) := by
  obtain ⟨t, p, q⟩ := h
  refine ⟨_, mk t p, fun G0 H0 ρ σ G H Q R h => ?_⟩
  rw [All_tst] at h
  refine q G0 H0 ρ σ G H _ R (h.mono fun d ⟨bb, e, hd⟩ v G1 H1 k1 i1 => ?_)
  subst e
  exact ⟨bb, i1.bool, hd bb G1 H1 rfl k1⟩
theorem tt_ite (hc : SndT X T c (tst fc)) (ha : SndE X T r a fa) (hb : SndE X T r b fb) : SndE X T r (.IfExp c a b pos) (fun ρ => (fc ρ).bind fun x => (asBool x).bind fun
    | true => fa ρ
    | false => fb ρ) := by
  obtain ⟨tc, pc, qc⟩ := hc
  obtain ⟨ta, pa, qa⟩ := ha
  obtain ⟨tb, pb, qb⟩ := hb
  refine ⟨_, pe_ifExp pc pa pb, fun G0 H0 ρ σ G H Q R h => ?_⟩
  rw [Out.All_bind] at h
  refine qc G0 H0 ρ σ G H _ R (All_tst.mpr (h.mono fun x hx => ?_))
  cases x <;> simp only [asBool] at hx <;> try exact hx.elim
  rename_i k
  refine ⟨k, rfl, fun k' G1 H1 e k1 => ?_⟩
  cases e
  cases k with
  | true =>
    rw [if_pos rfl]
    exact qa G0 H0 ρ σ G1 H1 _ (R.step k1) (Out.All.mono (fun d hd => PostE.trans hd k1 R.tub) hx)
  | false =>
    rw [if_neg Bool.false_ne_true]
    exact qb G0 H0 ρ σ G1 H1 _ (R.step k1) (Out.All.mono (fun d hd => PostE.trans hd k1 R.tub) hx)

/-! ### lists of expressions, displays -/
theorem sl_nil : SndL X T r [] (fun _ => .ret (.tuple [])) :=
  ⟨_, pa_nil, fun G0 H0 ρ σ G H Q R h => h [] [] G H rfl (.refl R.sub R.tub) .nil⟩
theorem sl_cons (he : SndE X T r e fa) (hes : SndL X T r es fl) (hs : starEach (e :: es) X.env = (false, eval e X.env) :: starEach es X.env) : SndL X T r (e :: es) (fun ρ => (fa ρ).bind fun x => (fl ρ).bind fun y => consD x y) := by
  obtain ⟨ta, pa, qa⟩ := he
  obtain ⟨tl, pl, ql⟩ := hes
  refine ⟨_, pa_cons pa pl hs, fun G0 H0 ρ σ G H Q R h => ?_⟩
  rw [Out.All_bind] at h
  refine qa G0 H0 ρ σ G H _ R (h.mono fun x hx v G1 H1 k1 i1 => ?_)
  rw [Out.All_bind] at hx
  refine ql G0 H0 ρ σ G1 H1 _ (R.step k1) (hx.mono fun y hy vs ds G2 H2 e k2 i2 => ?_)
  subst e
  simp only [consD] at hy
  exact hy (v :: vs) (x :: ds) G2 H2 rfl (k1.trans k2 R.tub) (.cons (i1.step k2) i2)
theorem AllR.app : ∀ {vs us : List V} {ds es : List D} {G H : Hp}, AllR r T G H vs ds → AllR r T G H us es → AllR r T G H (vs ++ us) (ds ++ es)
  | _, _, _, _, _, _, .nil, h => h
  | _, _, _, _, _, _, .cons a b, h => .cons a (AllR.app b h)
theorem AllR.of : ∀ {vs : List V} {ds : List D} {G H : Hp}, IsAll T G vs ds → AllR r T G H vs ds
  | _, [], _, _, h => by cases h; exact .nil
  | _, d :: ds, _, _, h => by
    cases h with
    | cons a b => exact .cons (.inl a) (AllR.of b)
theorem sl_star {p : Pos} (he : SndE X T true e fa) (hes : SndL X T r es fl) : SndL X T r (.Starred e p :: es) (fun ρ => (fa ρ).bind fun x => (itemsD x).bind fun xs => (fl ρ).bind fun y => appD xs y) := by
  obtain ⟨ta, pa, qa⟩ := he
  obtain ⟨tl, pl, ql⟩ := hes
  refine ⟨_, StX.pa_star pa pl (by rfl), fun G0 H0 ρ σ G H Q R h => ?_⟩
  rw [Out.All_bind] at h
  refine qa G0 H0 ρ σ G H _ R (h.mono fun x hx v G1 H1 k1 i1 => ?_)
  have go : ∀ (xs : List D) (vs : List V), IsAll T G1 vs xs → ((fl ρ).bind fun y => appD xs y).All (PostL r T G H Q) → tl σ H1 fun ys H2 => Q (vs ++ ys) H2 := fun xs vs iv hx => by
    rw [Out.All_bind] at hx
    refine ql G0 H0 ρ σ G1 H1 _ (R.step k1) (hx.mono fun y hy us ds G2 H2 e k2 i2 => ?_)
    subst e
    simp only [appD] at hy
    exact hy (vs ++ us) (xs ++ ds) G2 H2 rfl (k1.trans k2 R.tub) (AllR.app (AllR.of (iv.mono k2.gs _ _)) i2)
  cases x <;> simp only [itemsD] at hx <;> try exact hx.elim
  case list xs =>
    obtain ⟨p', vs, rfl, gp, iv⟩ := i1.list k1.gh
    exact ⟨p', vs, rfl, .inr (.of gp), go xs vs iv hx⟩
  case tuple xs =>
    obtain ⟨p', vs, rfl, gp, iv⟩ := i1.tup
    exact ⟨p', vs, rfl, .inl (.of (k1.gh _ _ gp)), go xs vs iv hx⟩
  case dict kvs =>
    rcases kvs with _ | ⟨⟨a, b⟩, _ | ⟨c, q⟩⟩ <;> (try exact hx.elim) <;> cases a <;> (try exact hx.elim) <;> cases b <;> (try exact hx.elim)
    obtain ⟨p', vs, o, rfl, gp, iv⟩ := i1.scr
    exact ⟨p', vs, rfl, .inr (.inl (.inr ⟨o, k1.gh _ _ gp⟩)), go _ vs iv hx⟩
theorem snd_tup {k : Nat} (h : SndL X T false es fl) : SndE X T r (.Tuple es k pos) (fun ρ => (fl ρ).bind fun x => (unTup x).bind fun xs => .guard (decide (xs.length ≤ lim)) (.ret (.tuple xs))) := by
  refine SndE.read ?_
  obtain ⟨tl, pl, ql⟩ := h
  refine ⟨_, pe_tup pl, fun G0 H0 ρ σ G H Q R h => ?_⟩
  rw [Out.All_bind] at h
  refine ql G0 H0 ρ σ G H _ R (h.mono fun x hx vs ds G1 H1 e k1 i1 => ?_)
  subst e
  simp only [unTup, Out.bind_ret] at hx
  rw [Out.All_guard] at hx
  have hl := of_decide_eq_true hx.1
  have iv := i1.keep
  exact ⟨by rw [iv.length]; exact Nat.le_trans hl lim_le, fun p hp => PostE.laid k1.gh k1.tub (PostE.trans hx.2 k1 R.tub) hp fun G' s e => .tup e (iv.mono s _ _)⟩
theorem snd_lst (h : SndL X T false es fl) : SndF X T (.List es pos) (fun ρ => (fl ρ).bind fun x => (unTup x).bind fun xs => .guard (decide (xs.length ≤ lim)) (.ret (.list xs))) := by
  obtain ⟨tl, pl, ql⟩ := h
  refine ⟨_, pe_lst pl, fun G0 H0 ρ σ G H Q R h => ?_⟩
  rw [Out.All_bind] at h
  refine ql G0 H0 ρ σ G H _ R (h.mono fun x hx vs ds G1 H1 e k1 i1 => ?_)
  subst e
  simp only [unTup, Out.bind_ret] at hx
  rw [Out.All_guard] at hx
  have hl := of_decide_eq_true hx.1
  have iv := i1.keep
  exact ⟨by rw [iv.length]; exact Nat.le_trans hl lim_le, fun p hp => PostF.laid k1.gh k1.tub (PostF.trans hx.2 k1 R.tub) hp iv⟩

/-! ### slices -/
theorem snd_part {x : Option Expr} {b : Bool} (h : match x with | none => b = true | some e => b = false ∧ SndE X T true e f) :
    ∃ t : TO, PO X x t ∧ ∀ (G0 H0 : Hp) (ρ : Ro) (σ : Sg) (G H : Hp) (Q : Option Int → Hp → Prop), Rep T G0 H0 ρ σ G H → (partE b (f ρ)).All (fun o => ∀ G' H', Stp T G H G' H' → Q o H') → t σ H Q := by
  cases x with
  | none =>
    subst h
    exact ⟨_, po_none, fun G0 H0 ρ σ G H Q R h => h G H (.refl R.sub R.tub)⟩
  | some e =>
    obtain ⟨rfl, t, p, q⟩ := h
    refine ⟨_, po_some p, fun G0 H0 ρ σ G H Q R h => ?_⟩
    unfold partE at h
    rw [Out.All_bind] at h
    refine q G0 H0 ρ σ G H _ R (h.mono fun d hd v G' H' k i => ?_)
    cases d <;> simp only [asInt] at hd <;> try exact hd.elim
    exact ⟨_, i.int, hd G' H' k⟩
theorem snd_slc {fl fh : Ro → Out D} {bl bh : Bool} {lo hi : Option Expr} {p2 : Pos} (ha : SndE X T true a fa) (hl : match lo with | none => bl = true | some e => bl = false ∧ SndE X T true e fl)
    (hh : match hi with | none => bh = true | some e => bh = false ∧ SndE X T true e fh) :
    SndE X T r (.Subscript a (.Slice lo hi none p2) pos) (fun ρ => (fa ρ).bind fun x => (partE bl (fl ρ)).bind fun l => (partE bh (fh ρ)).bind fun h => slD x l h) := by
  refine SndE.read ?_
  obtain ⟨ta, pa, qa⟩ := ha
  obtain ⟨tl, pl, ql⟩ := snd_part (X := X) (T := T) hl
  obtain ⟨th, ph, qh⟩ := snd_part (X := X) (T := T) hh
  refine ⟨_, pe_slice or_sl pa pl ph, fun G0 H0 ρ σ G H Q R h => ?_⟩
  rw [Out.All_bind] at h
  refine qa G0 H0 ρ σ G H _ R (h.mono fun x hx v G1 H1 k1 i1 => ?_)
  rw [Out.All_bind] at hx
  refine ql G0 H0 ρ σ G1 H1 _ (R.step k1) (hx.mono fun l hl G2 H2 k2 => ?_)
  rw [Out.All_bind] at hl
  have k12 := k1.trans k2 R.tub
  refine qh G0 H0 ρ σ G2 H2 _ (R.step k12) (hl.mono fun h' hh G3 H3 k3 => ?_)
  have k := k12.trans k3 R.tub
  have i3 := (i1.step k2).step k3
  cases x <;> simp only [slD] at hh <;> try exact hh.elim
  case list xs =>
    obtain ⟨p, vs, rfl, gp, iv⟩ := i3.list k3.gh
    exact .inl ⟨p, vs, rfl, .of gp, fun p' hp => PostE.laid k3.gh k3.tub (PostE.trans hh k R.tub) hp fun G' s e => .lst e ((cut_is iv).mono s _ _)⟩
  case tuple xs =>
    obtain ⟨p, vs, rfl, gp, iv⟩ := i3.tup
    refine .inr ⟨p, vs, rfl, .of (k3.gh _ _ gp), fun e => ?_, fun _ p' hp => PostE.laid k3.gh k3.tub (PostE.trans hh k R.tub) hp fun G' s e => .tup e ((cut_is iv).mono s _ _)⟩
    have e2 : cutD xs l h' = xs := by
      unfold cutD
      rw [iv.length] at e
      rw [e.1, e.2]
      simp
    rw [e2] at hh
    exact PostE.now k3.gh k3.tub (PostE.trans hh k R.tub) (.tup gp iv)
  case dict kvs =>
    rcases kvs with _ | ⟨⟨a, b⟩, _ | ⟨c, r⟩⟩ <;> (try exact hh.elim) <;> cases a <;> (try exact hh.elim) <;> cases b <;> (try exact hh.elim)
    obtain ⟨p, vs, o, rfl, gp, iv⟩ := i3.scr
    exact .inl ⟨p, vs, rfl, .inl (.inr ⟨o, k3.gh _ _ gp⟩), fun p' hp => PostE.laid k3.gh k3.tub (PostE.trans hh k R.tub) hp fun G' s e => .lst e ((cut_is iv).mono s _ _)⟩

/-! ### calls of built-ins -/
def OpC (T : Ap) (g : List D → Out D) (q : List V → Hp → VK → Prop) : Prop := ∀ (G H : Hp) (ds : List D) (vs : List V) (Q : VK), Sub G H → TubOk T H → AllR true T G H vs ds → (g ds).All (PostE false T G H Q) → q vs H Q
theorem snd_blt {g : List D → Out D} {q : List V → Hp → VK → Prop} (hl : SndL X T true es fl) (mk : ∀ t, PA X es t → PE X ast (tCB q t)) (op : OpC T g q) : SndE X T r ast (fun ρ => (fl ρ).bind fun x => (unTup x).bind g) := by
  refine SndE.read ?_
  obtain ⟨tl, pl, ql⟩ := hl
  refine ⟨_, mk tl pl, fun G0 H0 ρ σ G H Q R h => ?_⟩
  rw [Out.All_bind] at h
  refine ql G0 H0 ρ σ G H _ R (h.mono fun x hx vs ds G1 H1 e k1 i1 => ?_)
  subst e
  simp only [unTup, Out.bind_ret] at hx
  exact op G1 H1 ds vs Q k1.gh k1.tub i1 (hx.mono fun d hd => hd.trans k1 R.tub)
def OpCF (T : Ap) (g : List D → Out D) (q : List V → Hp → VK → Prop) : Prop := ∀ (G H : Hp) (ds : List D) (vs : List V) (Q : VK), Sub G H → TubOk T H → AllR true T G H vs ds → (g ds).All (PostF T G H Q) → q vs H Q
theorem snd_bltF {g : List D → Out D} {q : List V → Hp → VK → Prop} (hl : SndL X T true es fl) (mk : ∀ t, PA X es t → PE X ast (tCB q t)) (op : OpCF T g q) : SndF X T ast (fun ρ => (fl ρ).bind fun x => (unTup x).bind g) := by
  obtain ⟨tl, pl, ql⟩ := hl
  refine ⟨_, mk tl pl, fun G0 H0 ρ σ G H Q R h => ?_⟩
  rw [Out.All_bind] at h
  refine ql G0 H0 ρ σ G H _ R (h.mono fun x hx vs ds G1 H1 e k1 i1 => ?_)
  subst e
  simp only [unTup, Out.bind_ret] at hx
  exact op G1 H1 ds vs Q k1.gh k1.tub i1 (hx.mono fun d hd => hd.trans k1 R.tub)
end
section
variable {T : Ap} {K : PySem.W.Frag} {G H : Hp}
theorem AllR.one {r : Bool} {vs : List V} {d : D} (h : AllR r T G H vs [d]) : ∃ v, vs = [v] ∧ IsR r T G H v d := by
  cases h with
  | cons a b => cases b; exact ⟨_, rfl, a⟩
theorem AllR.two {r : Bool} {vs : List V} {d e : D} (h : AllR r T G H vs [d, e]) : ∃ v u, vs = [v, u] ∧ IsR r T G H v d ∧ IsR r T G H u e := by
  cases h with
  | cons a b =>
    obtain ⟨u, rfl, c⟩ := b.one
    exact ⟨_, u, rfl, a, c⟩
abbrev rLenD (K : PySem.W.Frag) : List V → Hp → VK → Prop := fun xs H Q => ∃ p ys, xs = [.ref p] ∧ (SqL K H p ys ∨ SqT K H p ys) ∧ Q (.int ys.length) H
theorem oc_len : OpC T (bltD .len) (rLenD K) := by
  intro G H ds vs Q s t i h
  match ds, h with
  | [.list xs], h =>
    obtain ⟨v, rfl, iv⟩ := i.one
    obtain ⟨a, us, rfl, ga, ia⟩ := iv.list s
    exact ⟨a, us, rfl, .inl (.of ga), by rw [ia.length]; exact PostE.now s t h (.int _)⟩
  | [.tuple xs], h =>
    obtain ⟨v, rfl, iv⟩ := i.one
    obtain ⟨a, us, rfl, ga, ia⟩ := iv.tup
    exact ⟨a, us, rfl, .inr (.of (s _ _ ga)), by rw [ia.length]; exact PostE.now s t h (.int _)⟩
  | [.dict [(.none, .list xs)]], h =>
    obtain ⟨v, rfl, iv⟩ := i.one
    obtain ⟨a, us, o, rfl, ga, ia⟩ := iv.scr
    exact ⟨a, us, rfl, .inl (.inl (.inr ⟨o, s _ _ ga⟩)), by rw [ia.length]; exact PostE.now s t h (.int _)⟩
theorem oc_abs : OpC T (bltD .abs) (fun xs H Q => ∃ i, xs = [.int i] ∧ Q (.int (if i < 0 then -i else i)) H) := by
  intro G H ds vs Q s t i h
  match ds, h with
  | [.int z], h =>
    obtain ⟨v, rfl, iv⟩ := i.one
    exact ⟨z, by rw [iv.int], PostE.now s t h (.int _)⟩
theorem oc_int : OpC T (bltD .int) (fun xs H Q => (∃ i, xs = [.int i] ∧ Q (.int i) H) ∨ ∃ k, xs = [.bl k] ∧ Q (.int (if k then 1 else 0)) H) := by
  intro G H ds vs Q s t i h
  match ds, h with
  | [.int z], h =>
    obtain ⟨v, rfl, iv⟩ := i.one
    exact .inl ⟨z, by rw [iv.int], PostE.now s t h (.int _)⟩
theorem oc_all : OpC T (bltD .all) (rAll K) := by
  intro G H ds vs Q s t i h
  match ds, h with
  | [.list xs], h =>
    obtain ⟨v, rfl, iv⟩ := i.one
    obtain ⟨a, us, rfl, ga, ia⟩ := iv.list s
    simp only [bltD] at h
    rw [Out.All_bind, Out.All_ofO] at h
    obtain ⟨bs, e, h⟩ := h
    exact ⟨a, bs, rfl, .of (by rw [ga, ia.bls e]), PostE.now s t h (.bl _)⟩
theorem oc_any : OpC T (bltD .any) (rAny K) := by
  intro G H ds vs Q s t i h
  match ds, h with
  | [.list xs], h =>
    obtain ⟨v, rfl, iv⟩ := i.one
    obtain ⟨a, us, rfl, ga, ia⟩ := iv.list s
    simp only [bltD] at h
    rw [Out.All_bind, Out.All_ofO] at h
    obtain ⟨bs, e, h⟩ := h
    exact ⟨a, bs, rfl, .of (by rw [ga, ia.bls e]), PostE.now s t h (.bl _)⟩
theorem maxI_spec : ∀ (ns : List Int) (m : Int), (maxI ns m = m ∨ maxI ns m ∈ ns) ∧ m ≤ maxI ns m ∧ ∀ y ∈ ns, y ≤ maxI ns m
  | [], m => ⟨.inl rfl, Int.le_refl _, fun y h => by cases h⟩
  | x :: r, m => by
    obtain ⟨h1, h2, h3⟩ := maxI_spec r (if m < x then x else m)
    have e : maxI (x :: r) m = maxI r (if m < x then x else m) := rfl
    rw [e]
    refine ⟨?_, ?_, fun y hy => ?_⟩
    · rcases h1 with h1 | h1
      · by_cases hx : m < x
        · rw [if_pos hx] at h1 ⊢; exact .inr (by rw [h1]; exact List.mem_cons_self)
        · rw [if_neg hx] at h1 ⊢; exact .inl h1
      · exact .inr (List.mem_cons_of_mem _ h1)
    · by_cases hx : m < x
      · rw [if_pos hx] at h2 ⊢; omega
      · rw [if_neg hx] at h2 ⊢; exact h2
    · rcases List.mem_cons.mp hy with rfl | hy
      · by_cases hx : m < y
        · rw [if_pos hx] at h2 ⊢; exact h2
        · rw [if_neg hx] at h2 ⊢; omega
      · exact h3 y hy
theorem minI_spec : ∀ (ns : List Int) (m : Int), (minI ns m = m ∨ minI ns m ∈ ns) ∧ minI ns m ≤ m ∧ ∀ y ∈ ns, minI ns m ≤ y
  | [], m => ⟨.inl rfl, Int.le_refl _, fun y h => by cases h⟩
  | x :: r, m => by
    obtain ⟨h1, h2, h3⟩ := minI_spec r (if x < m then x else m)
    have e : minI (x :: r) m = minI r (if x < m then x else m) := rfl
    rw [e]
    refine ⟨?_, ?_, fun y hy => ?_⟩
    · rcases h1 with h1 | h1
      · by_cases hx : x < m
        · rw [if_pos hx] at h1 ⊢; exact .inr (by rw [h1]; exact List.mem_cons_self)
        · rw [if_neg hx] at h1 ⊢; exact .inl h1
      · exact .inr (List.mem_cons_of_mem _ h1)
    · by_cases hx : x < m
      · rw [if_pos hx] at h2 ⊢; omega
      · rw [if_neg hx] at h2 ⊢; exact h2
    · rcases List.mem_cons.mp hy with rfl | hy
      · by_cases hx : y < m
        · rw [if_pos hx] at h2 ⊢; exact h2
        · rw [if_neg hx] at h2 ⊢; omega
      · exact h3 y hy
abbrev rMax2 (K : PySem.W.Frag) : List V → Hp → VK → Prop := fun xs H Q => (∃ i j, xs = [.int i, .int j] ∧ Q (.int (if j > i then j else i)) H) ∨ rMax K xs H Q
def rMin3 : List V → Hp → VK → Prop := fun xs H Q => ∃ i j k : Int, xs = [.int i, .int j, .int k] ∧ Q (.int (if k < (if j < i then j else i) then k else (if j < i then j else i))) H
abbrev rMin2 (K : PySem.W.Frag) : List V → Hp → VK → Prop := fun xs H Q => (∃ i j, xs = [.int i, .int j] ∧ Q (.int (if j < i then j else i)) H) ∨ (rMin K xs H Q ∨ rMin3 xs H Q)
theorem oc_max : OpC T (bltD .max) (rMax2 K) := by
  intro G H ds vs Q s t i h
  match ds, h with
  | [.int x, .int y], h =>
    obtain ⟨v, u, rfl, iv, jv⟩ := i.two
    exact .inl ⟨x, y, by rw [iv.int, jv.int], PostE.now s t h (.int _)⟩
  | [.list (.int x :: xs)], h =>
    obtain ⟨v, rfl, iv⟩ := i.one
    obtain ⟨a, us, rfl, ga, ia⟩ := iv.list s
    simp only [bltD] at h
    rw [Out.All_bind, Out.All_ofO] at h
    obtain ⟨bs, e, h⟩ := h
    have e' : intsOf (.int x :: xs) = some (x :: bs) := by simp only [intsOf, e]; rfl
    refine .inr ⟨a, x :: bs, rfl, .of (by rw [ga, (ia.ints e').1]), by simp, fun m hm hy => ?_⟩
    obtain ⟨h1, h2, h3⟩ := maxI_spec bs x
    have : m = maxI bs x := by
      refine Int.le_antisymm ?_ (hy _ ?_)
      · rcases List.mem_cons.mp hm with rfl | hm
        · exact h2
        · exact h3 m hm
      · rcases h1 with h1 | h1
        · rw [h1]; exact List.mem_cons_self
        · exact List.mem_cons_of_mem _ h1
    rw [this]
    exact PostE.now s t h (.int _)
theorem oc_min : OpC T (bltD .min) (rMin2 K) := by
  intro G H ds vs Q s t i h
  match ds, h with
  | [.int x, .int y], h =>
    obtain ⟨v, u, rfl, iv, jv⟩ := i.two
    exact .inl ⟨x, y, by rw [iv.int, jv.int], PostE.now s t h (.int _)⟩
  | [.int x, .int y, .int z], h =>
    cases i with
    | cons i1 i =>
      obtain ⟨v, u, rfl, iv, jv⟩ := i.two
      exact .inr (.inr ⟨x, y, z, by rw [i1.int, iv.int, jv.int], PostE.now s t h (.int _)⟩)
  | [.list (.int x :: xs)], h =>
    obtain ⟨v, rfl, iv⟩ := i.one
    obtain ⟨a, us, rfl, ga, ia⟩ := iv.list s
    simp only [bltD] at h
    rw [Out.All_bind, Out.All_ofO] at h
    obtain ⟨bs, e, h⟩ := h
    have e' : intsOf (.int x :: xs) = some (x :: bs) := by simp only [intsOf, e]; rfl
    refine .inr (.inl ⟨a, x :: bs, rfl, .of (by rw [ga, (ia.ints e').1]), by simp, fun m hm hy => ?_⟩)
    obtain ⟨h1, h2, h3⟩ := minI_spec bs x
    have : m = minI bs x := by
      refine Int.le_antisymm (hy _ ?_) ?_
      · rcases h1 with h1 | h1
        · rw [h1]; exact List.mem_cons_self
        · exact List.mem_cons_of_mem _ h1
      · rcases List.mem_cons.mp hm with rfl | hm
        · exact h2
        · exact h3 m hm
    rw [this]
    exact PostE.now s t h (.int _)
abbrev rTupD (K : PySem.W.Frag) : List V → Hp → VK → Prop := fun xs H Q => ∃ p ys, xs = [.ref p] ∧ ((SqL K H p ys ∧ ∀ l, H l = none → Q (.ref l) (upd H l (.tup ys))) ∨ (SqT K H p ys ∧ Q (.ref p) H))
theorem oc_tuple : OpC T (bltD .tuple) (rTupD K) := by
  intro G H ds vs Q s t i h
  match ds, h with
  | [.list xs], h =>
    obtain ⟨v, rfl, iv⟩ := i.one
    obtain ⟨a, us, rfl, ga, ia⟩ := iv.list s
    exact ⟨a, us, rfl, .inl ⟨.of ga, fun l hl => PostE.laid s t h hl fun G' s' e => .tup e (ia.mono s' _ _)⟩⟩
  | [.tuple xs], h =>
    obtain ⟨v, rfl, iv⟩ := i.one
    obtain ⟨a, us, rfl, ga, ia⟩ := iv.tup
    exact ⟨a, us, rfl, .inr ⟨.of (s _ _ ga), PostE.now s t h (.tup ga ia)⟩⟩
abbrev rLstD (K : PySem.W.Frag) : List V → Hp → VK → Prop := fun xs H Q => ∃ p ys, xs = [.ref p] ∧ (SqL K H p ys ∨ SqT K H p ys) ∧ ∀ l, H l = none → Q (.ref l) (upd H l (.lst ys))
theorem oc_list : OpCF T (bltD .list) (rLstD K) := by
  intro G H ds vs Q s t i h
  match ds, h with
  | [.list xs], h =>
    obtain ⟨v, rfl, iv⟩ := i.one
    obtain ⟨a, us, rfl, ga, ia⟩ := iv.list s
    exact ⟨a, us, rfl, .inl (.of ga), fun l hl => PostF.laid s t h hl ia⟩
  | [.tuple xs], h =>
    obtain ⟨v, rfl, iv⟩ := i.one
    obtain ⟨a, us, rfl, ga, ia⟩ := iv.tup
    exact ⟨a, us, rfl, .inr (.of (s _ _ ga)), fun l hl => PostF.laid s t h hl ia⟩
theorem oc_divmod : OpC T (bltD .divmod) (fun xs H Q => ∃ i j, xs = [.int i, .int j] ∧ CDiv i j ∧ ∀ p, H p = none → Q (.ref p) (upd H p (.tup [.int (i / j), .int (i % j)]))) := by
  intro G H ds vs Q s t i h
  match ds, h with
  | [.int x, .int y], h =>
    obtain ⟨v, u, rfl, iv, jv⟩ := i.two
    simp only [bltD] at h
    rw [Out.All_guard, Bool.and_eq_true, decide_eq_true_eq, decide_eq_true_eq] at h
    exact ⟨x, y, by rw [iv.int, jv.int], h.1, fun p hp => PostE.laid s t h.2 hp fun G' s' e => .tup e (.cons (.int _) (.cons (.int _) .nil))⟩
end
end Ev

set_option Elab.async false
set_option linter.all false
set_option autoImplicit false
set_option maxRecDepth 100000
set_option maxHeartbeats 2000000
namespace Ev
open PySem L2

theorem All_asInt {α : Type} {d : D} {k : Int → Out α} {P : α → Prop} (h : ((asInt d).bind k).All P) : ∃ i, d = .int i ∧ (k i).All P := by
  cases d <;> simp only [asInt] at h <;> first | exact h.elim | exact ⟨_, rfl, h⟩
theorem All_asBool {α : Type} {d : D} {k : Bool → Out α} {P : α → Prop} (h : ((asBool d).bind k).All P) : ∃ i, d = .bool i ∧ (k i).All P := by
  cases d <;> simp only [asBool] at h <;> first | exact h.elim | exact ⟨_, rfl, h⟩
theorem asBool_All {d : D} {P : Bool → Prop} (h : (asBool d).All P) : ∃ i, d = .bool i ∧ P i := by
  cases d <;> simp only [asBool] at h <;> first | exact h.elim | exact ⟨_, rfl, h⟩
theorem All_items {α : Type} {d : D} {k : List D → Out α} {P : α → Prop} (h : ((itemsD d).bind k).All P) : ∃ xs, itemsD d = .ret xs ∧ (k xs).All P := by
  unfold itemsD at h ⊢
  split at h <;> first | exact h.elim | exact ⟨_, rfl, h⟩

/-! ### one reading for all contexts -/
def tE (T : Ap) (r : Bool) (f : Ro → Out D) : TE := fun σ H Q => ∃ (G0 H0 : Hp) (ρ : Ro) (G : Hp), Rep T G0 H0 ρ σ G H ∧ (f ρ).All (PostE r T G H Q)
def tT (T : Ap) (f : Ro → Out D) : TT := fun σ H Q => ∃ (G0 H0 : Hp) (ρ : Ro) (G : Hp), Rep T G0 H0 ρ σ G H ∧ (tst f ρ).All (PostT T G H Q)
section
variable {X : Cx} {T : Ap} {r : Bool} {ast : Expr} {f : Ro → Out D}
theorem SndE.pe (h : SndE X T r ast f) : PE X ast (tE T r f) := by
  obtain ⟨t, p, q⟩ := h
  exact ⟨fun pins s σ H Q I ⟨G0, H0, ρ, G, R, h⟩ => p.run pins s σ H Q I (q G0 H0 ρ σ G H Q R h)⟩
theorem SndE.of_pe (h : PE X ast (tE T r f)) : SndE X T r ast f := ⟨_, h, fun G0 H0 ρ σ G H Q R h => ⟨G0, H0, ρ, G, R, h⟩⟩
theorem SndT.pt (h : SndT X T ast (tst f)) : PT X ast (tT T f) := by
  obtain ⟨t, p, q⟩ := h
  exact ⟨fun pins s σ H Q I ⟨G0, H0, ρ, G, R, h⟩ => p.run pins s σ H Q I (q G0 H0 ρ σ G H Q R h)⟩
end

/-! ### targets -/
def Tg.slots : Tg → List Nat
  | .nm i => [i]
  | .nil => []
  | .cons g gs => g.slots ++ gs.slots
/-- what a target asks: behind the stores Q holds of all slots that fit -/
def gG (T : Ap) (g : Tg) : TG := fun v σ H Q => ∃ (G0 H0 : Hp) (ρ : Ro) (G : Hp) (d : D) (ρ2 : Ro), Rep T G0 H0 ρ σ G H ∧ Is T G v d ∧ asgG g d ρ = some ρ2 ∧
  ∀ σ2 : Sg, Rep T G0 H0 ρ2 σ2 G H → σ2.length = σ.length → (∀ i, i ∉ g.slots → σ2[i]? = σ[i]?) → Q σ2 H
def SndG (X : Cx) (T : Ap) (ast : Expr) (g : Tg) : Prop := PG X ast (gG T g)
def gGs (T : Ap) (g : Tg) : TGs := fun vs σ H Q => ∃ (G0 H0 : Hp) (ρ : Ro) (G : Hp) (ds : List D) (ρ2 : Ro), Rep T G0 H0 ρ σ G H ∧ IsAll T G vs ds ∧ asgG g (.tuple ds) ρ = some ρ2 ∧
  ∀ σ2 : Sg, Rep T G0 H0 ρ2 σ2 G H → σ2.length = σ.length → (∀ i, i ∉ g.slots → σ2[i]? = σ[i]?) → Q σ2 H
/-- a list of targets, n of them -/
def lenG : Tg → Nat
  | .cons _ gs => lenG gs + 1
  | _ => 0
def listG : Tg → Bool
  | .nil => true
  | .cons _ gs => listG gs
  | _ => false
theorem asgG_len : ∀ {g : Tg} {ds : List D} {ρ ρ2 : Ro}, listG g = true → asgG g (.tuple ds) ρ = some ρ2 → ds.length = lenG g
  | .nil, [], _, _, _, _ => rfl
  | .nil, _ :: _, _, _, _, h => by simp [asgG] at h
  | .nm _, _, _, _, h, _ => by cases h
  | .cons g gs, [], _, _, _, h => by simp [asgG] at h
  | .cons g gs, d :: ds, ρ, ρ2, hl, h => by
    simp only [asgG, Option.bind_eq_some_iff] at h
    obtain ⟨ρ1, _, h⟩ := h
    have := asgG_len (g := gs) hl h
    simp [lenG, this]
section
variable {X : Cx} {T : Ap} {e : Expr} {es : List Expr} {pos : Pos}
theorem PG.weak {g g' : TG} (h : PG X e g) (w : ∀ v σ H Q, g' v σ H Q → g v σ H Q) : PG X e g' := ⟨fun pins s σ H v u Q I r q => h.run pins s σ H v u Q I r (w v σ H Q q)⟩
theorem PGs.weak {g g' : TGs} (h : PGs X es g) (w : ∀ v σ H Q, g' v σ H Q → g v σ H Q) : PGs X es g' := ⟨fun pins s σ H v u Q I r q => h.run pins s σ H v u Q I r (w v σ H Q q)⟩
theorem sg_nm {i : Nat} {x : Str} (hN : X.N.Nodup) (hi : X.N[i]? = some x) (hx : L2.Loc X.env.scope x) (hf : X.fn x = true ∨ X.env.scope.names.lookup x = some .local) : SndG X T (.Name x pos) (.nm i) := by
  refine PG.weak (pg_name hN hi hx hf) fun v σ H Q ⟨G0, H0, ρ, G, d, ρ2, R, hd, e, h⟩ => ?_
  cases e
  exact h _ (R.setVal hd) (by simp) fun j hj => List.getElem?_set_ne fun z => hj (by simp [Tg.slots, z])
theorem sgs_nil : PGs X [] (gGs T .nil) := by
  refine PGs.weak pgs_nil fun vs σ H Q ⟨G0, H0, ρ, G, ds, ρ2, R, hd, e, h⟩ => ?_
  cases ds with
  | nil => cases hd; cases e; exact ⟨rfl, h σ R rfl fun _ _ => rfl⟩
  | cons => simp [asgG] at e
theorem sgs_cons {g gs : Tg} (h1 : SndG X T e g) (h2 : PGs X es (gGs T gs)) (hs : (assignEach (e :: es) X.env).map (·.2) = assign e X.env :: (assignEach es X.env).map (·.2)) : PGs X (e :: es) (gGs T (.cons g gs)) := by
  refine PGs.weak (pgs_cons h1 h2 hs) fun vs σ H Q ⟨G0, H0, ρ, G, ds, ρ2, R, hd, e, h⟩ => ?_
  cases ds with
  | nil => simp [asgG] at e
  | cons d ds =>
    cases hd with
    | cons a b =>
      simp only [asgG, Option.bind_eq_some_iff] at e
      obtain ⟨ρ1, e1, e2⟩ := e
      refine ⟨_, _, rfl, G0, H0, ρ, G, d, ρ1, R, a, e1, fun σ2 R2 l2 k2 => ?_⟩
      refine ⟨G0, H0, ρ1, G, ds, ρ2, R2, b, e2, fun σ3 R3 l3 k3 => h σ3 R3 (l3.trans l2) fun i hi => ?_⟩
      have n1 : i ∉ g.slots := fun z => hi (List.mem_append_left _ z)
      have n2 : i ∉ gs.slots := fun z => hi (List.mem_append_right _ z)
      exact (k3 i n2).trans (k2 i n1)
theorem sg_tup {g : Tg} {k : Nat} (hc : X.calm = true) (hl : listG g = true) (h : PGs X es (gGs T g)) (hn : (assignEach es X.env).length = lenG g) (hst : (assignEach es X.env).findIdx? (·.1) = none) : SndG X T (.Tuple es k pos) g := by
  refine PG.weak (pg_tup hc h hn hst) fun v σ H Q ⟨G0, H0, ρ, G, d, ρ2, R, hd, e, h⟩ => ?_
  cases d with
  | tuple ds =>
    cases hd with
    | tup ga ia =>
      exact ⟨_, _, rfl, .of (R.sub _ _ ga), by rw [ia.length]; exact asgG_len hl e, G0, H0, ρ, G, ds, ρ2, R, ia, e, h⟩
  | _ => cases g <;> simp [asgG, listG] at e hl
end

/-! ### what is walked -/
structure WalkOf (T : Ap) (G1 H1 : Hp) (J : It) (xs : List D) (Gd : Hp → Prop) (Y : Nat → Hp → V → Hp → Prop) : Prop where
  w : Walk J xs.length Gd Y
  now : Gd H1
  item : ∀ (i : Nat) (H : Hp) (x : V) (H' G2 : Hp), i < xs.length → Gd H → Y i H x H' → Sub G1 G2 → Sub G2 H → TubOk T H → ∃ G3 d, xs[i]? = some d ∧ Stp T G2 H G3 H' ∧ Is T G3 x d
def Stb (r : Bool) (T : Ap) (G1 H1 : Hp) (Gd : Hp → Prop) : Prop := match r with
  | true => ∀ H', (∀ b o, T.tub ≠ some b → noTbl o → H1 b = some o → H' b = some o) → Gd H'
  | false => ∀ H', Sub G1 H' → Gd H'
def PostI (r : Bool) (T : Ap) (G H : Hp) (R : It → Hp → Prop) (d : D) : Prop := ∃ xs, itemsD d = .ret xs ∧ ∀ J Gd Y G1 H1, Stp T G H G1 H1 → WalkOf T G1 H1 J xs Gd Y → Stb r T G1 H1 Gd → R J H1
def SndI (X : Cx) (T : Ap) (r : Bool) (tg ast : Expr) (f : Ro → Out D) : Prop :=
  ∃ wi : TI, PI X tg ast wi ∧ ∀ (G0 H0 : Hp) (ρ : Ro) (σ : Sg) (G H : Hp) (R : It → Hp → Prop), Rep T G0 H0 ρ σ G H → (f ρ).All (PostI r T G H R) → wi σ H R
def tI (T : Ap) (r : Bool) (f : Ro → Out D) : TI := fun σ H R => ∃ (G0 H0 : Hp) (ρ : Ro) (G : Hp), Rep T G0 H0 ρ σ G H ∧ (f ρ).All (PostI r T G H R)
theorem SndI.pi {X : Cx} {T : Ap} {r : Bool} {tg ast : Expr} {f : Ro → Out D} (h : SndI X T r tg ast f) : PI X tg ast (tI T r f) := by
  obtain ⟨t, p, q⟩ := h
  exact ⟨fun pins s σ H Q I ⟨G0, H0, ρ, G, R, h⟩ => p.run pins s σ H Q I (q G0 H0 ρ σ G H Q R h)⟩
section
variable {X : Cx} {T : Ap} {r : Bool} {tg e a b c : Expr} {pos p : Pos} {f fa fb fc : Ro → Out D}
def iSeq (K : PySem.W.Frag) (tl : TE) : TI := fun σ H R => tl σ H fun x H1 => ∃ a, x = .ref a ∧ (((∃ xs, SqL K H1 a xs) ∧ R (Itl K a) H1) ∨ ((∃ xs, SqT K H1 a xs) ∧ R (Itt K a) H1))
theorem pi_seq {tl : TE} (hl : PE X e tl) : PI X tg e (iSeq X.K tl) := by
  refine ⟨fun pins s σ H R I h => ?_⟩
  refine thn (hl.run pins s σ H _ I h) fun v s1 ⟨x, H1, I1, r1, q1⟩ => ?_
  obtain ⟨a, ex, q⟩ := q1
  subst ex
  cases r1
  have fp : ∀ b, b ∈ [s1.heap.objs.size] → FpOk X pins H1 b := fun b hb => by
    have e : b = s1.heap.objs.size := by simpa using hb
    subst e
    exact I1.fpOk (Nat.le_refl _) (I1.hok.fresh (Nat.le_refl _))
  rcases q with ⟨⟨xs, hq⟩, q⟩ | ⟨⟨xs, hq⟩, q⟩
  · obtain ⟨its, rv, p, hz⟩ := I1.list hq
    refine wpAny_pyIter_list p.isList ?_
    exact ⟨s1.heap.objs.size, [s1.heap.objs.size], _, _, H1, rfl, I1.kept (t' := s1.toks) fun b o e => Heap.get?_push_of_some _ e, turn_list a _, ⟨_, Heap.get?_push_size _ rfl, rfl, rfl⟩, fp, q⟩
  · obtain ⟨its, rv, p, hz⟩ := I1.tuple hq
    refine wpAny_pyIter_tuple (show s1.heap.IsTuple a its.toArray from p) ?_
    exact ⟨s1.heap.objs.size, [s1.heap.objs.size], _, _, H1, rfl, I1.kept (t' := s1.toks) fun b o e => Heap.get?_push_of_some _ e, turn_tuple a _, ⟨_, Heap.get?_push_size _ rfl, rfl, rfl⟩, fp, q⟩
theorem walkOf_list {K : PySem.W.Frag} {G1 H1 : Hp} {a : Addr} {vs : List V} {xs : List D} (h : H1 a = some (.lst vs)) (i : IsAll T G1 vs xs) : WalkOf T G1 H1 (Itl K a) xs (fun H => SqL K H a vs) (YAt vs) := by
  refine ⟨by rw [← i.length]; exact walk_list, .of h, fun j H x H' G2 hj hG y s1 s2 t => ?_⟩
  obtain ⟨rfl, hx⟩ := y
  obtain ⟨d, e, hd⟩ := i.get' hx
  exact ⟨G2, d, e, .refl s2 t, Is.mono s1 _ _ hd⟩
theorem walkOf_scr {K : PySem.W.Frag} {G1 H1 : Hp} {a : Addr} {o : Obj} {vs : List V} {xs : List D} (h : H1 a = some (.frz o (.lst vs))) (i : IsAll T G1 vs xs) : WalkOf T G1 H1 (Itl K a) xs (fun H => SqL K H a vs) (YAt vs) := by
  refine ⟨by rw [← i.length]; exact walk_list, .inl (.inr ⟨o, h⟩), fun j H x H' G2 hj hG y s1 s2 t => ?_⟩
  obtain ⟨rfl, hx⟩ := y
  obtain ⟨d, e, hd⟩ := i.get' hx
  exact ⟨G2, d, e, .refl s2 t, Is.mono s1 _ _ hd⟩
theorem walkOf_tup {K : PySem.W.Frag} {G1 H1 : Hp} {a : Addr} {vs : List V} {xs : List D} (h : H1 a = some (.tup vs)) (i : IsAll T G1 vs xs) : WalkOf T G1 H1 (Itt K a) xs (fun H => SqT K H a vs) (YAt vs) := by
  refine ⟨by rw [← i.length]; exact walk_tup, .of h, fun j H x H' G2 hj hG y s1 s2 t => ?_⟩
  obtain ⟨rfl, hx⟩ := y
  obtain ⟨d, e, hd⟩ := i.get' hx
  exact ⟨G2, d, e, .refl s2 t, Is.mono s1 _ _ hd⟩
theorem si_seq (h : SndE X T r e f) : SndI X T r tg e f := by
  obtain ⟨t, p, q⟩ := h
  refine ⟨_, pi_seq p, fun G0 H0 ρ σ G H R Rp h => q G0 H0 ρ σ G H _ Rp (h.mono fun d hd v G1 H1 k i => ?_)⟩
  obtain ⟨zs, ez, hd⟩ := hd
  cases d <;> simp only [itemsD] at ez <;> try (cases ez; done)
  case list xs =>
    cases ez
    rcases i with i | ⟨hr, a, vs, ys, e1, e2, hT, e3, iv⟩
    · cases i with
      | lst ga ia =>
        refine ⟨_, rfl, .inl ⟨⟨_, .of (k.gh _ _ ga)⟩, hd _ _ _ G1 H1 k (walkOf_list (k.gh _ _ ga) ia) ?_⟩⟩
        cases r with
        | true => exact fun H' hk => .of (hk _ _ (fun z => by rw [(Rp.step k).tg.1 _ (.inl z)] at ga; cases ga) (nt_of rfl) (k.gh _ _ ga))
        | false => exact fun H' s => .of (s _ _ ga)
    · cases e1
      subst e2 hr
      exact ⟨_, rfl, .inl ⟨⟨_, .of e3⟩, hd _ _ _ G1 H1 k (walkOf_list e3 iv) fun H' hk => .of (hk _ _ hT (nt_of rfl) e3)⟩⟩
  case tuple xs =>
    cases ez
    obtain ⟨a, vs, rfl, ga, ia⟩ := i.tup
    refine ⟨_, rfl, .inr ⟨⟨_, .of (k.gh _ _ ga)⟩, hd _ _ _ G1 H1 k (walkOf_tup (k.gh _ _ ga) ia) ?_⟩⟩
    cases r with
    | true => exact fun H' hk => .of (hk _ _ (fun z => by rw [(Rp.step k).tg.1 _ (.inl z)] at ga; cases ga) (nt_of rfl) (k.gh _ _ ga))
    | false => exact fun H' s => .of (s _ _ ga)
  case dict kvs =>
    rcases kvs with _ | ⟨⟨a, b⟩, _ | ⟨c, q⟩⟩ <;> (try (cases ez; done)) <;> cases a <;> (try (cases ez; done)) <;> cases b <;> (try (cases ez; done))
    cases ez
    obtain ⟨a, vs, o, rfl, ga, ia⟩ := i.scr
    refine ⟨_, rfl, .inl ⟨⟨_, .inl (.inr ⟨o, k.gh _ _ ga⟩)⟩, hd _ _ _ G1 H1 k (walkOf_scr (k.gh _ _ ga) ia) ?_⟩⟩
    cases r with
    | true => exact fun H' hk => .inl (.inr ⟨o, hk _ _ (fun z => by rw [(Rp.step k).tg.1 _ (.inl z)] at ga; cases ga) (nt_of rfl) (k.gh _ _ ga)⟩)
    | false => exact fun H' s => .inl (.inr ⟨o, s _ _ ga⟩)

/-! ### range -/
theorem rngL_length : ∀ (n : Nat) (lo : Int), (rngL lo n).length = n
  | 0, _ => rfl
  | n + 1, lo => by simp [rngL, rngL_length n]
theorem rngL_get : ∀ (n : Nat) (lo : Int) (i : Nat), i < n → (rngL lo n)[i]? = some (.int (lo + i))
  | 0, _, _, h => by omega
  | n + 1, lo, 0, _ => by simp [rngL]
  | n + 1, lo, i + 1, h => by
    have := rngL_get n (lo + 1) i (by omega)
    simp only [rngL, List.getElem?_cons_succ]
    rw [this]
    congr 2
    omega
theorem rngC_length (c : Int) : ∀ (n : Nat) (lo : Int), (rngC lo c n).length = n
  | 0, _ => rfl
  | n + 1, lo => by simp [rngC, rngC_length c n]
theorem rngC_get (c : Int) : ∀ (n : Nat) (lo : Int) (i : Nat), i < n → (rngC lo c n)[i]? = some (.int (lo + i * c))
  | 0, _, _, h => by omega
  | n + 1, lo, 0, _ => by simp [rngC]
  | n + 1, lo, i + 1, h => by
    have := rngC_get c n (lo + c) i (by omega)
    simp only [rngC, List.getElem?_cons_succ]
    rw [this]
    congr 2
    have e : ((i + 1 : Nat) : Int) * c = i * c + c := by
      rw [Int.natCast_succ, Int.add_mul, Int.one_mul]
    rw [e]
    omega
theorem walkOf_rng {G1 H1 : Hp} {lo : Int} {n : Nat} : WalkOf T G1 H1 (Itr lo n) (rngL lo n) (fun _ => True) (YFn fun i => .int (lo + i)) := by
  refine ⟨by rw [rngL_length]; exact walk_range, trivial, fun j H x H' G2 hj hG y s1 s2 t => ?_⟩
  obtain ⟨rfl, rfl⟩ := y
  rw [rngL_length] at hj
  exact ⟨G2, _, rngL_get n lo j hj, .refl s2 t, .int _⟩
theorem stb_true {G1 H1 : Hp} : Stb r T G1 H1 (fun _ => True) := by
  cases r
  · exact fun _ _ => trivial
  · exact fun _ _ => trivial
theorem small62_of {i : Int} (h : small62 i = true) : -(2 ^ 62) ≤ i ∧ i < 2 ^ 62 := by
  unfold small62 at h
  simpa only [Bool.and_eq_true, decide_eq_true_eq] using h
theorem si_rng1 (hg : Gl X "range") (hm : X.mg "range" = none) (ha : SndE X T true a fa) (hs : starEach [a] X.env = [(false, eval a X.env)]) :
    SndI X T r tg (.Call (.Name "range" p) [a] [] pos) (fun ρ => (fa ρ).bind fun x => (asInt x).bind fun i => .guard (small62 i) (.ret (.list (rngL 0 i.toNat)))) := by
  obtain ⟨ta, pa, qa⟩ := ha
  have hp : PA X [a] (tCons ta tNil) := pa_cons pa pa_nil (by rw [hs]; rfl)
  refine ⟨_, pi_range1 hg hm hp hs, fun G0 H0 ρ σ G H R Rp h => ?_⟩
  rw [Out.All_bind] at h
  refine qa G0 H0 ρ σ G H _ Rp (h.mono fun d hd v G1 H1 k i => ?_)
  cases d <;> simp only [asInt] at hd <;> try exact hd.elim
  rename_i z
  simp only [Out.bind_ret] at hd
  rw [Out.All_guard] at hd
  obtain ⟨hz, xs, e, hd⟩ := hd
  cases e
  obtain ⟨h1, h2⟩ := small62_of hz
  refine ⟨z, by rw [i.int], h1, h2, ?_⟩
  exact hd _ _ _ G1 H1 k walkOf_rng stb_true
theorem si_rng2 (hg : Gl X "range") (hm : X.mg "range" = none) (ha : SndE X T true a fa) (hb : SndE X T true b fb) (hs : starEach [a, b] X.env = [(false, eval a X.env), (false, eval b X.env)]) (hs2 : starEach [b] X.env = [(false, eval b X.env)]) :
    SndI X T r tg (.Call (.Name "range" p) [a, b] [] pos) (fun ρ => (fa ρ).bind fun x => (fb ρ).bind fun y => (asInt x).bind fun i => (asInt y).bind fun j => .guard (small62 i && small62 j) (.ret (.list (rngL i (j - i).toNat)))) := by
  obtain ⟨ta, pa, qa⟩ := ha
  obtain ⟨tb, pb, qb⟩ := hb
  have hp : PA X [a, b] (tCons ta (tCons tb tNil)) := pa_cons pa (pa_cons pb pa_nil (by rw [hs2]; rfl)) (by rw [hs, hs2])
  refine ⟨_, pi_range2 hg hm hp hs hs2, fun G0 H0 ρ σ G H R Rp h => ?_⟩
  rw [Out.All_bind] at h
  refine qa G0 H0 ρ σ G H _ Rp (h.mono fun d hd v G1 H1 k i => ?_)
  rw [Out.All_bind] at hd
  refine qb G0 H0 ρ σ G1 H1 _ (Rp.step k) (hd.mono fun d' hd u G2 H2 k2 j => ?_)
  obtain ⟨z, rfl, hd1⟩ := All_asInt hd
  obtain ⟨z', rfl, hd2⟩ := All_asInt hd1
  rw [Out.All_guard, Bool.and_eq_true] at hd2
  obtain ⟨⟨hz, hz'⟩, xs, e, hd3⟩ := hd2
  cases e
  obtain ⟨h1, h2⟩ := small62_of hz
  obtain ⟨h3, h4⟩ := small62_of hz'
  refine ⟨z, z', by rw [i.int, j.int], ⟨h1, h2, h3, h4⟩, ?_⟩
  exact hd3 _ _ _ G2 H2 (k.trans k2 Rp.tub) walkOf_rng stb_true
theorem walkOf_rngC {G1 H1 : Hp} {lo c : Int} {n : Nat} : WalkOf T G1 H1 (Itc lo c n) (rngC lo c n) (fun _ => True) (YFn fun i => .int (lo + (i : Nat) * c)) := by
  refine ⟨by rw [rngC_length]; exact walk_rangeC, trivial, fun j H x H' G2 hj hG y s1 s2 t => ?_⟩
  obtain ⟨rfl, rfl⟩ := y
  rw [rngC_length] at hj
  exact ⟨G2, _, rngC_get c n lo j hj, .refl s2 t, .int _⟩
theorem si_rng3 {c : Expr} {fc : Ro → Out D} (hg : Gl X "range") (hm : X.mg "range" = none) (ha : SndE X T true a fa) (hb : SndE X T true b fb) (hc : SndE X T true c fc) (hs : starEach [a, b, c] X.env = (false, eval a X.env) :: starEach [b, c] X.env) (hs2 : starEach [b, c] X.env = (false, eval b X.env) :: starEach [c] X.env)
    (hs3 : starEach [c] X.env = [(false, eval c X.env)]) :
    SndI X T r tg (.Call (.Name "range" p) [a, b, c] [] pos) (fun ρ => (fa ρ).bind fun x => (fb ρ).bind fun y => (fc ρ).bind fun z => (asInt x).bind fun i => (asInt y).bind fun j => (asInt z).bind fun k => .guard (decide (k = -1) && (small62 i && small62 j)) (.ret (.list (rngC i (-1) (i - j).toNat)))) := by
  obtain ⟨ta, pa, qa⟩ := ha
  obtain ⟨tb, pb, qb⟩ := hb
  obtain ⟨tc, pc, qc⟩ := hc
  have hp : PA X [a, b, c] (tCons ta (tCons tb (tCons tc tNil))) := pa_cons pa (pa_cons pb (pa_cons pc pa_nil (by rw [hs3]; rfl)) hs2) hs
  refine ⟨_, pi_range3 hg hm hp hs (by rw [hs2, hs3]; rfl), fun G0 H0 ρ σ G H R Rp h => ?_⟩
  rw [Out.All_bind] at h
  refine qa G0 H0 ρ σ G H _ Rp (h.mono fun d hd v G1 H1 k i => ?_)
  rw [Out.All_bind] at hd
  refine qb G0 H0 ρ σ G1 H1 _ (Rp.step k) (hd.mono fun d' hd u G2 H2 k2 j => ?_)
  rw [Out.All_bind] at hd
  refine qc G0 H0 ρ σ G2 H2 _ ((Rp.step k).step k2) (hd.mono fun d2 hd w G3 H3 k3 l => ?_)
  obtain ⟨z, rfl, hd1⟩ := All_asInt hd
  obtain ⟨z', rfl, hd2⟩ := All_asInt hd1
  obtain ⟨z2, rfl, hd3⟩ := All_asInt hd2
  rw [Out.All_guard, Bool.and_eq_true, Bool.and_eq_true, decide_eq_true_eq] at hd3
  obtain ⟨⟨rfl, hz, hz'⟩, xs, e, hd4⟩ := hd3
  cases e
  obtain ⟨h1, h2⟩ := small62_of hz
  obtain ⟨h3, h4⟩ := small62_of hz'
  refine ⟨z, z', -1, (z - z').toNat, by rw [i.int, j.int, l.int], .neg h1 h2 h3 h4, ?_⟩
  exact hd4 _ _ _ G3 H3 ((k.trans k2 Rp.tub).trans k3 Rp.tub) walkOf_rngC stb_true
end

/-! ### comprehensions -/
def Tg.inside (g : Tg) (own : List Nat) : Bool := g.slots.all fun i => decide (i ∈ own)
theorem wipeR_len (ρ : Ro) : ∀ vs : List Nat, (wipeR ρ vs).length = ρ.length
  | [] => rfl
  | v :: vs => by simp [wipeR, wipeR_len ρ vs]
theorem wipeR_get {ρ : Ro} {σ : Sg} {i : Nat} {s : Sl} (hl : ρ.length = σ.length) : ∀ {vs : List Nat}, (wipeR ρ vs)[i]? = some (some s) → ρ[i]? = some (some s) ∧ (wipe σ vs)[i]? = σ[i]?
  | [], h => ⟨h, rfl⟩
  | v :: vs, h => by
    unfold wipeR at h
    by_cases hv : v = i
    · subst hv
      rw [List.getElem?_set] at h
      simp only [if_true] at h
      split at h <;> cases h
    · rw [List.getElem?_set_ne hv] at h
      obtain ⟨h1, h2⟩ := wipeR_get hl h
      refine ⟨h1, ?_⟩
      show ((wipe σ vs).set v none)[i]? = σ[i]?
      rw [List.getElem?_set_ne hv, h2]
theorem Rep.wipe {T : Ap} {G0 H0 G H : Hp} {ρ : Ro} {σ : Sg} (R : Rep T G0 H0 ρ σ G H) (vs : List Nat) : Rep T G0 H0 (wipeR ρ vs) (L2.wipe σ vs) G H :=
  R.forget (by rw [wipeR_len, wipe_length, R.len]) fun i s h => wipeR_get R.len h
theorem wipe_same {σ σ2 : Sg} {vs : List Nat} (hl : σ2.length = (wipe σ vs).length) (h : ∀ i, i ∉ vs → σ2[i]? = (wipe σ vs)[i]?) : wipe σ2 vs = wipe σ vs := by
  have key : ∀ (us : List Nat) (τ : Sg) (i : Nat), (wipe τ us)[i]? = if i ∈ us then (if i < τ.length then some none else none) else τ[i]? := by
    intro us
    induction us with
    | nil => intro τ i; simp [L2.wipe]
    | cons u us ih =>
      intro τ i
      show ((wipe τ us).set u none)[i]? = _
      by_cases hu : u = i
      · subst hu
        rw [List.getElem?_set]
        simp only [if_true, wipe_length, List.mem_cons, true_or]
      · rw [List.getElem?_set_ne hu, ih]
        have : (i ∈ u :: us) ↔ i ∈ us := by simp [Ne.symm hu]
        simp only [this]
  refine List.ext_getElem? fun i => ?_
  rw [key vs σ2 i, key vs σ i]
  by_cases hi : i ∈ vs
  · rw [if_pos hi, if_pos hi, hl, wipe_length]
  · rw [if_neg hi, if_neg hi, h i hi, key vs σ i, if_neg hi]
/-- the tests of a clause -/
def PTsOf (X : Cx) (T : Ap) (ifs : List Expr) (fc : Ro → Out D) : Prop := PTs X ifs (tT T fc)
section
variable {X : Cx} {T : Ap} {r : Bool} {tg iter elt : Expr} {ifs : List Expr} {scope : Scope} {own : List (Str × Nat)} {pos : Pos} {fi fc fe : Ro → Out D} {g : Tg}
def lcTurn (own : List Nat) (g : Tg) (fc fe : Ro → Out D) (ρ : Ro) : D → Out (Option D) := fun d => (Out.ofO (asgG g d (wipeR ρ own))).bind fun ρ2 => (fc ρ2).bind fun t => (asBool t).bind fun
  | true => (fe ρ2).bind fun y => .ret (some y)
  | false => .ret none
theorem lc_reads {σ : Sg} {H : Hp} {Q : VK} {G0 H0 G : Hp} {ρ : Ro} (hin : g.inside (own.map (·.2)) = true) (R : Rep T G0 H0 ρ σ G H)
    (h : ((fi ρ).bind fun x => (itemsD x).bind fun xs => .guard (decide (xs.length ≤ lim)) (lcGo (lcTurn (own.map (·.2)) g fc fe ρ) xs [])).All (PostF T G H Q)) :
    tLc (tI T true fi) (gG T g) (tT T fc) (tE T false fe) (own.map (·.2)) σ H Q := by
  rw [Out.All_bind] at h
  refine ⟨G0, H0, ρ, G, R, h.mono fun d hd => ?_⟩
  have hxs : ∃ xs, itemsD d = .ret xs := by
    obtain ⟨xs, ex, _⟩ := All_items hd
    exact ⟨xs, ex⟩
  obtain ⟨xs, ex⟩ := hxs
  rw [ex] at hd
  simp only [Out.bind_ret] at hd
  rw [Out.All_guard] at hd
  obtain ⟨hlen, hd⟩ := hd
  have hlen := of_decide_eq_true hlen
  refine ⟨xs, ex, fun J Gd Y G1 H1 k1 W S Da hD => ?_⟩
  have R1 := R.step k1
  have gD : G1 Da = none := by
    cases e : G1 Da with
    | none => rfl
    | some u => rw [k1.gh Da u e] at hD; cases hD
  have tD : T.tub ≠ some Da := R1.tub.off hD
  -- the invariant: by the turn, the list so far
  refine lc_it W.w (fun i H => ∃ (G : Hp) (vs : List V) (acc : List D), Stp T G1 H1 G H ∧ H Da = some (.lst vs) ∧ G Da = none ∧ acc.length ≤ i ∧ IsAll T G vs acc.reverse ∧ (lcGo (lcTurn (own.map (·.2)) g fc fe ρ) (xs.drop i) acc).All (PostF T G1 H1 Q)) ?_ ?_ ?_ ?_
  · exact ⟨G1, [], [], Stp.fresh R1.sub R1.tub hD, upd_same, gD, Nat.le_refl _, .nil, Out.All.mono (fun d h => h.trans k1 R.tub) hd⟩
  · rintro i H hi ⟨G, vs, acc, k, _⟩
    exact S H k.kp
  · rintro i x H H' hi ⟨G, vs, acc, k, hH, hG, ha, iv, h⟩ y
    obtain ⟨G3, d, e, k3, id⟩ := W.item i H x H' G hi (S H k.kp) y k.gs k.gh k.tub
    have kk := k.trans k3 R1.tub
    have hx : xs.drop i = d :: xs.drop (i + 1) := by
      obtain ⟨hi', rfl⟩ := List.getElem?_eq_some_iff.mp e
      exact List.drop_eq_getElem_cons hi'
    rw [hx] at h
    simp only [lcGo] at h
    unfold lcTurn at h
    rw [Out.All_bind, Out.All_bind, Out.All_ofO] at h
    obtain ⟨ρ2, e2, h⟩ := h
    have Rw := (R1.step kk).wipe (own.map (·.2))
    refine ⟨G0, H0, wipeR ρ (own.map (·.2)), G3, d, ρ2, Rw, id, e2, fun σ2 R2 l2 s2 => ?_⟩
    have hsame : wipe σ2 (own.map (·.2)) = wipe σ (own.map (·.2)) := wipe_same l2 fun j hj => s2 j fun hm => hj (by
      have := List.all_eq_true.mp hin j hm
      exact of_decide_eq_true this)
    refine ⟨hsame, G0, H0, ρ2, G3, R2, ?_⟩
    rw [Out.All_bind] at h
    refine All_tst.mpr (h.mono fun t ht => ?_)
    rw [Out.All_bind] at ht
    obtain ⟨b, et, ht2⟩ := asBool_All ht
    refine ⟨b, et, fun b' G4 H4 eb k4 => ?_⟩
    cases eb
    have R4 := R2.step k4
    have stay : ∀ {Ga Ha Gb Hb : Hp}, Stp T Ga Ha Gb Hb → Ha Da = some (.lst vs) → Ga Da = none → Hb Da = some (.lst vs) ∧ Gb Da = none := fun {Ga Ha Gb Hb} k h g => by
      refine ⟨k.keep _ _ tD h, ?_⟩
      cases q : Gb Da with
      | none => rfl
      | some o =>
        rcases k.new _ _ q with z | z | ⟨ys, z⟩
        · rw [g] at z; cases z
        · rw [h] at z; cases z
        · rw [h] at z; cases z
    obtain ⟨a3, b3⟩ := stay k3 hH hG
    obtain ⟨a4, b4⟩ := stay k4 a3 b3
    cases b with
    | false =>
      rw [if_neg Bool.false_ne_true]
      refine ⟨G4, vs, acc, kk.trans k4 R1.tub, a4, b4, by omega, (iv.mono k3.gs _ _).mono k4.gs _ _, ht2⟩
    | true =>
      rw [if_pos rfl]
      simp only at ht2
      rw [Out.All_bind] at ht2
      refine ⟨G0, H0, ρ2, G4, R4, ht2.mono fun z hz v G5 H5 k5 i5 => ?_⟩
      obtain ⟨a5, b5⟩ := stay k5 a4 b4
      have hl := iv.length
      rw [List.length_reverse] at hl
      refine ⟨vs, a5, ?_, ?_⟩
      · have : vs.length < lim := by omega
        exact Nat.lt_of_lt_of_le this lim_le
      · have k15 := (kk.trans k4 R1.tub).trans k5 R1.tub
        have iv5 : IsAll T G5 (vs ++ [v]) ((z :: acc).reverse) := by
          rw [List.reverse_cons]
          exact (((iv.mono k3.gs _ _).mono k4.gs _ _).mono k5.gs _ _).append (.cons i5.keep .nil)
        refine ⟨G5, vs ++ [v], z :: acc, ?_, upd_same, b5, by simp; omega, iv5, hz⟩
        exact k15.poke tD hD b5 a5
  · rintro H ⟨G, vs, acc, k, hH, hG, ha, iv, h⟩
    rw [List.drop_length] at h
    exact h Da vs acc.reverse G H rfl k hD hG hH iv
end
end Ev

set_option Elab.async false
set_option linter.all false
set_option autoImplicit false
set_option maxRecDepth 100000
set_option maxHeartbeats 2000000
namespace Ev
open PySem L2

/-! ### calls of defs -/
/-- what a def promises wherever RM holds of the frames around -/
structure FnR (RM : Around → Prop) (P : Program) (w : World) (K : PySem.W.Frag) (mg : Str → Option Value) (base : Heap) (tb : List (Addr × Str)) (f : Addr) (fd : FuncData) (ps : List Str) (F : List D → Out D) : Prop where
  len : ∀ ds (P : D → Prop), (F ds).All P → ds.length = ps.length
  run : ∀ (T : Ap) (A : Around) (outer : List PySem.Env) (s : Shared) (H G : Hp) (args : Args) (us : List Value) (vs : List V) (ds : List D) (Q : VK), RM A → A.guards = some [] → T.tabs = tb → Env0 P w K mg base A outer s H →
    BindsTo s fd args (ps.zip us) → Vals vs us → Sub G H → TubOk T H → T.away G → IsAll T G vs ds → (F ds).All (PostE false T G H Q) →
    codeAny (model P w) A (.call (.ref f) args) (CR CX0 outer P w H s Q E0) s
abbrev FnG (P : Program) (w : World) (K : PySem.W.Frag) (mg : Str → Option Value) (base : Heap) (tb : List (Addr × Str)) (n : Nat) (f : Addr) (fd : FuncData) (ps : List Str) (F : List D → Out D) : Prop := FnR (Room (3 * n)) P w K mg base tb f fd ps F
abbrev FnH (P : Program) (w : World) (K : PySem.W.Frag) (mg : Str → Option Value) (base : Heap) (tb : List (Addr × Str)) (n : Nat) (f : Addr) (fd : FuncData) (ps : List Str) (F : List D → Out D) : Prop := FnR (L2H.RoomH (3 * n)) P w K mg base tb f fd ps F
/-- what is wished of an answer, seen from the frame's slots; it may be told later -/
abbrev PPost := Ap → Hp → Hp → VK → Sg → D → Prop
def PLate (PP : PPost) : Prop := ∀ (T : Ap) (G H G' H' : Hp) (Q : VK) (σ : Sg) (d : D), PP T G H Q σ d → Stp T G H G' H' → TubOk T H → PP T G' H' Q σ d
def PP0 : PPost := fun T G H Q _ d => PostE false T G H Q d
theorem PP0.late : PLate PP0 := fun T G H G' H' Q σ d h k t => h.trans k t
section
variable {X : Cx} {RM : Around → Prop} {PP : PPost} {n : Nat} {f : Addr} {fd : FuncData} {ps : List Str} {Fn : List D → Out D} {T : Ap} {r : Bool} {x : Str} {p pos : Pos} {e : Expr} {es : List Expr} {fl fk : Ro → Out D} {kws : List Keyword}
/-- what a call hands over -/
def Give (PP : PPost) (T : Ap) (Fn : List D → Out D) (vs : List V) (H : Hp) (Q : VK) (σ : Sg) : Prop := ∃ G ds, Sub G H ∧ TubOk T H ∧ T.away G ∧ IsAll T G vs ds ∧ (Fn ds).All (PP T G H Q σ)
/-- f, called here, answers so -/
structure Doer (X : Cx) (PP : PPost) (T : Ap) (f : Addr) (fd : FuncData) (ps : List Str) (Fn : List D → Out D) : Prop where
  late : PLate PP
  len : ∀ ds (P : D → Prop), (Fn ds).All P → ds.length = ps.length
  run : ∀ (pins : List (Addr × Obj)) (σ : Sg) (H : Hp) (s : Shared) (Q : VK) (us : List Value) (kw : List (Str × Value)) (bs : List Value) (ws : List V), BindsTo s fd ⟨us, kw⟩ (ps.zip bs) → Inv X pins σ H s → Vals ws bs → Give PP T Fn ws H Q σ →
    wpAny (model X.prog X.w) X.A (call (.ref f) us kw) (EP X pins σ Q) X.xe s
theorem FnR.doer {tb : List (Addr × Str)} (F : FnR RM X.prog X.w X.K X.mg X.base tb f fd ps Fn) (hr : RM X.A) (hg : X.A.guards = some []) (ht : T.tabs = tb) : Doer X PP0 T f fd ps Fn := by
  refine ⟨PP0.late, F.len, fun pins σ H s Q us kw bs ws hb I r h => ?_⟩
  obtain ⟨G, ds, h1, h2, h3, h4, h5⟩ := h
  refine wpAny_call (codeAny_mono (F.run T X.A X.stack s H G ⟨us, kw⟩ bs ws ds Q hr hg ht I.env0 hb r h1 h2 h3 h4 h5) fun r s' hq => ?_)
  cases r with
  | error e => exact False.elim hq
  | ok fl =>
    cases fl with
    | ret u => exact I.after hq
    | next => exact False.elim hq
    | brk => exact False.elim hq
    | cont => exact False.elim hq
def SndP (X : Cx) (T : Ap) (PP : PPost) (ast : Expr) (f : Ro → Out D) : Prop :=
  ∃ t : TE, PE X ast t ∧ ∀ (G0 H0 : Hp) (ρ : Ro) (σ : Sg) (G H : Hp) (Q : VK), Rep T G0 H0 ρ σ G H → (f ρ).All (PP T G H Q σ) → t σ H Q
theorem SndP.toE {ast : Expr} {f : Ro → Out D} (h : SndP X T PP0 ast f) : SndE X T r ast f := SndE.read h
def notStarE : Expr → Bool
  | .Starred .. => false
  | _ => true
theorem starEach_cons {env : PySem.Env} (h : notStarE e = true) : starEach (e :: es) env = (false, eval e env) :: starEach es env := by
  cases e <;> first | rfl | cases h
theorem any_plain {env : PySem.Env} : ∀ {es : List Expr}, es.all notStarE = true → (backTo pos (starEach es env)).any (·.1) = false
  | [], _ => rfl
  | e :: es, h => by
    rw [List.all_cons, Bool.and_eq_true] at h
    rw [starEach_cons h.1]
    show (false || (backTo pos (starEach es env)).any (·.1)) = false
    rw [any_plain h.2]; rfl
def tGive (PP : PPost) (T : Ap) (Fn : List D → Out D) (t : TA) : TE := fun σ H Q => t σ H fun vs H1 => Give PP T Fn vs H1 Q σ
theorem give_len {σ : Sg} (F : Doer X PP T f fd ps Fn) {us : List Value} {vs : List V} {H1 : Hp} {Q : VK} (r : Vals vs us) (q : Give PP T Fn vs H1 Q σ) : us.length = ps.length := by
  obtain ⟨G, ds, _, _, _, h4, h5⟩ := q
  rw [← r.length, h4.length]
  exact F.len ds _ h5
theorem fin_g {pins : List (Addr × Obj)} {σ : Sg} {H1 : Hp} {s1 : Shared} {Q : VK} {us : List Value} {vs : List V} (F : Doer X PP T f fd ps Fn) (hb : Binds X.K fd ps [])
    (I1 : Inv X pins σ H1 s1) (r : Vals vs us) (q : Give PP T Fn vs H1 Q σ) : wpAny (model X.prog X.w) X.A (call (.ref f) us) (EP X pins σ Q) X.xe s1 := by
  have hb1 := hb s1 us I1.kIn (by rw [List.append_nil]; exact give_len F r q)
  rw [List.append_nil] at hb1
  exact F.run pins σ H1 s1 Q us [] us vs hb1 I1 r q
theorem pe_callG {t : TA} (F : Doer X PP T f fd ps Fn) (hgl : Gl X x) (hm : X.mg x = some (.ref f)) (hk : PySem.W.keepIn X.K (.ref f) = true) (hb : Binds X.K fd ps [])
    (ha : PA X (e :: es) t) (hns : (e :: es).all notStarE = true) (hdb : (x == ("__debug__" : Str)) = false) : PE X (.Call (.Name x p) (e :: es) [] pos) (tGive PP T Fn t) := by
  refine ⟨fun pins s σ H Q I h => ?_⟩
  rw [List.all_cons, Bool.and_eq_true] at hns
  refine wpAny_Call_Name_kw (ld_glob I hgl hm ?_ hdb)
  refine PySem.W.callWith_K (h₀ := X.base) I.ok.mod.kin hk (thn (ha.run pos pins s σ H _ I h) fun us s1 ⟨vs, H1, I1, r, q⟩ => ⟨I1.kIn, ?_⟩) (starEach_cons hns.1) (any_plain hns.2)
  exact fin_g F hb I1 r q
theorem pe_callG0 (F : Doer X PP T f fd ps Fn) (hgl : Gl X x) (hm : X.mg x = some (.ref f)) (hk : PySem.W.keepIn X.K (.ref f) = true) (hb : Binds X.K fd ps [])
    (hdb : (x == ("__debug__" : Str)) = false) : PE X (.Call (.Name x p) [] [] pos) (tGive PP T Fn tNil) := by
  refine ⟨fun pins s σ H Q I h => ?_⟩
  refine wpAny_Call_Name_kw (ld_glob I hgl hm ?_ hdb)
  exact PySem.W.callWith_K0 I.kIn hk (fin_g F hb I .nil h)
theorem give_of (L : PLate PP) {G0 H0 G H : Hp} {ρ : Ro} {σ : Sg} {G1 H1 : Hp} {Q : VK} {vs : List V} {ds : List D} (R : Rep T G0 H0 ρ σ G H) (k : Stp T G H G1 H1) (i : IsAll T G1 vs ds) (h : (Fn ds).All (PP T G H Q σ)) : Give PP T Fn vs H1 Q σ :=
  ⟨G1, ds, k.gh, k.tub, (R.step k).tg, i, h.mono fun d hd => L T G H G1 H1 Q σ d hd k R.tub⟩
theorem snd_call (F : Doer X PP T f fd ps Fn) (hgl : Gl X x) (hm : X.mg x = some (.ref f)) (hk : PySem.W.keepIn X.K (.ref f) = true) (hb : Binds X.K fd ps [])
    (ha : SndL X T false es fl) (hns : es.all notStarE = true) (hdb : (x == ("__debug__" : Str)) = false) (h0 : es = [] → ∀ ρ, fl ρ = .ret (.tuple [])) : SndP X T PP (.Call (.Name x p) es [] pos) (fun ρ => (fl ρ).bind fun x => (unTup x).bind fun xs => Fn xs) := by
  cases es with
  | nil =>
    refine ⟨_, pe_callG0 (T := T) F hgl hm hk hb hdb, fun G0 H0 ρ σ G H Q R h => ?_⟩
    dsimp only at h
    rw [h0 rfl ρ] at h
    exact give_of F.late R (.refl R.sub R.tub) .nil h
  | cons e es =>
    obtain ⟨ta, pa, qa⟩ := ha
    refine ⟨_, pe_callG (T := T) F hgl hm hk hb pa hns hdb, fun G0 H0 ρ σ G H Q R h => ?_⟩
    rw [Out.All_bind] at h
    refine qa G0 H0 ρ σ G H _ R (h.mono fun d hd vs ds G1 H1 e k i => ?_)
    subst e
    exact give_of F.late R k i.keep hd

/-! ### keywords -/
def SndK (X : Cx) (T : Ap) (kws : List Keyword) (f : Ro → Out D) : Prop :=
  ∃ t : TA, PK X kws t ∧ ∀ (G0 H0 : Hp) (ρ : Ro) (σ : Sg) (G H : Hp) (Q : List V → Hp → Prop), Rep T G0 H0 ρ σ G H → (f ρ).All (PostL false T G H Q) → t σ H Q
theorem sk_nil : SndK X T [] (fun _ => .ret (.tuple [])) :=
  ⟨_, pk_nil, fun G0 H0 ρ σ G H Q R h => h [] [] G H rfl (.refl R.sub R.tub) .nil⟩
theorem sk_cons {nm : Option Str} {kp : Pos} {fa : Ro → Out D} (he : SndE X T false e fa) (hes : SndK X T kws fk) : SndK X T (⟨nm, e, kp⟩ :: kws) (fun ρ => (fa ρ).bind fun x => (fk ρ).bind fun y => consD x y) := by
  obtain ⟨ta, pa, qa⟩ := he
  obtain ⟨tl, pl, ql⟩ := hes
  refine ⟨_, pk_cons pa pl, fun G0 H0 ρ σ G H Q R h => ?_⟩
  rw [Out.All_bind] at h
  refine qa G0 H0 ρ σ G H _ R (h.mono fun x hx v G1 H1 k1 i1 => ?_)
  rw [Out.All_bind] at hx
  refine ql G0 H0 ρ σ G1 H1 _ (R.step k1) (hx.mono fun y hy vs ds G2 H2 e k2 i2 => ?_)
  subst e
  simp only [consD] at hy
  exact hy (v :: vs) (x :: ds) G2 H2 rfl (k1.trans k2 R.tub) (.cons (i1.step k2) i2)
def kwNames : List Keyword → Option (List Str)
  | [] => some []
  | k :: r => k.arg.bind fun x => (kwNames r).map (x :: ·)
theorem kw_facts {env : PySem.Env} : ∀ {kws : List Keyword} {ks : List Str}, kwNames kws = some ks → (backToKw pos (keywordEach kws env)).all (·.1.isSome) = true ∧ (backToKw pos (keywordEach kws env)).filterMap (·.1) = ks ∧ (backToKw pos (keywordEach kws env)).any (·.1.isNone) = false
  | [], _, h => by cases h; exact ⟨rfl, rfl, rfl⟩
  | ⟨nm, v, kp⟩ :: r, ks, h => by
    simp only [kwNames, Option.bind_eq_some_iff, Option.map_eq_some_iff] at h
    obtain ⟨x, e, l, hl, rfl⟩ := h
    subst e
    obtain ⟨h1, h2, h3⟩ := kw_facts (env := env) hl
    refine ⟨?_, ?_, ?_⟩
    · show (true && (backToKw pos (keywordEach r env)).all (·.1.isSome)) = true
      rw [h1]; rfl
    · show x :: (backToKw pos (keywordEach r env)).filterMap (·.1) = _
      rw [h2]
    · show (false || (backToKw pos (keywordEach r env)).any (·.1.isNone)) = false
      rw [h3]; rfl
def permL {α : Type} (xs : List α) : List Nat → Option (List α)
  | [] => some []
  | k :: r => (xs[k]?).bind fun x => (permL xs r).map (x :: ·)
theorem permD_eq (xs : List D) : ∀ p, permD xs p = permL xs p
  | [] => rfl
  | k :: r => by simp [permD, permL, permD_eq xs r]
/-- m positional values, keywords ks: they come to the parameters by perm -/
def KwB (K : PySem.W.Frag) (fd : FuncData) (ps : List Str) (m : Nat) (ks : List Str) (perm : List Nat) : Prop :=
  ∀ (s : Shared) (us ws bs : List Value), K.In s.heap → us.length = m → ws.length = ks.length → permL (us ++ ws) perm = some bs → BindsTo s fd ⟨us, ks.zip ws⟩ (ps.zip bs)
theorem perm_vals {vs : List V} {us : List Value} (r : Vals vs us) : ∀ {p : List Nat} {ws : List V}, permL vs p = some ws → ∃ bs, permL us p = some bs ∧ Vals ws bs
  | [], _, h => by cases h; exact ⟨[], rfl, .nil⟩
  | k :: p, ws, h => by
    simp only [permL, Option.bind_eq_some_iff, Option.map_eq_some_iff] at h
    obtain ⟨v, e, l, hl, rfl⟩ := h
    obtain ⟨u, e2, ru⟩ := r.get e
    obtain ⟨bs, e3, rb⟩ := perm_vals r hl
    exact ⟨u :: bs, by simp [permL, e2, e3], .cons ru rb⟩
theorem perm_is {G : Hp} {vs : List V} {ds : List D} (r : IsAll T G vs ds) : ∀ {p : List Nat} {es : List D}, permL ds p = some es → ∃ ws, permL vs p = some ws ∧ IsAll T G ws es
  | [], _, h => by cases h; exact ⟨[], rfl, .nil⟩
  | k :: p, ws, h => by
    simp only [permL, Option.bind_eq_some_iff, Option.map_eq_some_iff] at h
    obtain ⟨v, e, l, hl, rfl⟩ := h
    obtain ⟨u, e2, ru⟩ := r.get e
    obtain ⟨bs, e3, rb⟩ := perm_is r hl
    exact ⟨u :: bs, by simp [permL, e2, e3], .cons ru rb⟩
def tGiveK (PP : PPost) (T : Ap) (Fn : List D → Out D) (m m2 : Nat) (perm : List Nat) (t tk : TA) : TE := fun σ H Q => t σ H fun vs H1 => tk σ H1 fun zs H2 => vs.length = m ∧ zs.length = m2 ∧ ∃ ws, permL (vs ++ zs) perm = some ws ∧ Give PP T Fn ws H2 Q σ
theorem pe_callGK {t tk : TA} {ks : List Str} {m : Nat} {perm : List Nat} (F : Doer X PP T f fd ps Fn) (hgl : Gl X x) (hm : X.mg x = some (.ref f)) (hk : PySem.W.keepIn X.K (.ref f) = true) (hb : KwB X.K fd ps m ks perm)
    (ha : PA X (e :: es) t) (hkw : PK X kws tk) (hn : kwNames kws = some ks) (hns : (e :: es).all notStarE = true) (hdb : (x == ("__debug__" : Str)) = false) : PE X (.Call (.Name x p) (e :: es) kws pos) (tGiveK PP T Fn m ks.length perm t tk) := by
  refine ⟨fun pins s σ H Q I h => ?_⟩
  obtain ⟨h1, h2, h3⟩ := kw_facts (env := X.env) (pos := pos) hn
  have hpl : ((backTo pos (starEach (e :: es) X.env)).any (·.1) || (backToKw pos (keywordEach kws X.env)).any (·.1.isNone)) = false := by rw [any_plain hns, h3]; rfl
  rw [List.all_cons, Bool.and_eq_true] at hns
  refine wpAny_Call_Name_kw (ld_glob I hgl hm ?_ hdb)
  refine PySem.W.callWith_KW (h₀ := X.base) I.ok.mod.kin hk h1 (thn (ha.run pos pins s σ H _ I h) fun us s1 ⟨vs, H1, I1, r, q⟩ => ?_) hpl (starEach_cons hns.1)
  refine thn (hkw.run pos pins s1 σ H1 _ I1 q) fun ws s2 ⟨zs, H2, I2, rz, l1, l2, gs, e1, q2⟩ => ⟨I2.kIn, ?_⟩
  rw [h2]
  obtain ⟨bs, e2, rb⟩ := perm_vals (r.append rz) e1
  exact F.run pins σ H2 s2 Q us (ks.zip ws) bs gs (hb s2 us ws bs I2.kIn (by rw [← r.length]; exact l1) (by rw [← rz.length]; exact l2) e2) I2 rb q2
theorem pe_callGK0 {tk : TA} {ks : List Str} {perm : List Nat} (F : Doer X PP T f fd ps Fn) (hgl : Gl X x) (hm : X.mg x = some (.ref f)) (hk : PySem.W.keepIn X.K (.ref f) = true) (hb : KwB X.K fd ps 0 ks perm)
    (hkw : PK X kws tk) (hn : kwNames kws = some ks) (hdb : (x == ("__debug__" : Str)) = false) : PE X (.Call (.Name x p) [] kws pos) (tGiveK PP T Fn 0 ks.length perm tNil tk) := by
  refine ⟨fun pins s σ H Q I h => ?_⟩
  obtain ⟨h1, h2, h3⟩ := kw_facts (env := X.env) (pos := pos) hn
  refine wpAny_Call_Name_kw (ld_glob I hgl hm ?_ hdb)
  refine PySem.W.callWith_KW0 (h₀ := X.base) I.ok.mod.kin hk h1 ?_ (by rw [h3]; rfl)
  refine thn (hkw.run pos pins s σ H _ I h) fun ws s2 ⟨zs, H2, I2, rz, l1, l2, gs, e1, q2⟩ => ⟨I2.kIn, ?_⟩
  rw [h2]
  obtain ⟨bs, e2, rb⟩ := perm_vals rz e1
  exact F.run pins σ H2 s2 Q [] (ks.zip ws) bs gs (hb s2 [] ws bs I2.kIn rfl (by rw [← rz.length]; exact l2) e2) I2 rb q2
theorem snd_callk {ks : List Str} {m : Nat} {perm : List Nat} (F : Doer X PP T f fd ps Fn) (hgl : Gl X x) (hm : X.mg x = some (.ref f)) (hk : PySem.W.keepIn X.K (.ref f) = true) (hb : KwB X.K fd ps m ks perm)
    (ha : SndL X T false es fl) (hkw : SndK X T kws fk) (hn : kwNames kws = some ks) (hns : es.all notStarE = true) (hdb : (x == ("__debug__" : Str)) = false) (h0 : es = [] → ∀ ρ, fl ρ = .ret (.tuple [])) (hm1 : es.length = m)
    : SndP X T PP (.Call (.Name x p) es kws pos) (fun ρ => (fl ρ).bind fun x => (unTup x).bind fun xs => (fk ρ).bind fun y => (unTup y).bind fun ys => .guard (decide (xs.length = m) && decide (ys.length = ks.length)) ((Out.ofO (permD (xs ++ ys) perm)).bind fun zs => Fn zs)) := by
  obtain ⟨tk, pk, qk⟩ := hkw
  have core : ∀ {G0 H0 G H G1 H1 : Hp} {ρ : Ro} {σ : Sg} {Q : VK} {vs : List V} {xs : List D}, Rep T G0 H0 ρ σ G H → Stp T G H G1 H1 → IsAll T G1 vs xs →
      ((fk ρ).bind fun y => (unTup y).bind fun ys => .guard (decide (xs.length = m) && decide (ys.length = ks.length)) ((Out.ofO (permD (xs ++ ys) perm)).bind fun zs => Fn zs)).All (PP T G H Q σ) →
      tk σ H1 fun zs H2 => vs.length = m ∧ zs.length = ks.length ∧ ∃ ws, permL (vs ++ zs) perm = some ws ∧ Give PP T Fn ws H2 Q σ := fun {G0 H0 G H G1 H1 ρ σ Q vs xs} R k i h => by
    rw [Out.All_bind] at h
    refine qk G0 H0 ρ σ G1 H1 _ (R.step k) (h.mono fun y hy zs ds G2 H2 e k2 i2 => ?_)
    subst e
    simp only [unTup, Out.bind_ret] at hy
    rw [Out.All_guard, Bool.and_eq_true, decide_eq_true_eq, decide_eq_true_eq, Out.All_bind, Out.All_ofO] at hy
    obtain ⟨⟨l1, l2⟩, gs, e3, hy⟩ := hy
    rw [permD_eq] at e3
    have i2' := i2.keep
    obtain ⟨ws, e4, i4⟩ := perm_is ((i.mono k2.gs _ _).append i2') e3
    exact ⟨by rw [i.length]; exact l1, by rw [i2'.length]; exact l2, ws, e4, give_of F.late R (k.trans k2 R.tub) i4 hy⟩
  cases es with
  | nil =>
    have hm0 : m = 0 := hm1.symm
    subst hm0
    refine ⟨_, pe_callGK0 (T := T) F hgl hm hk hb pk hn hdb, fun G0 H0 ρ σ G H Q R h => ?_⟩
    dsimp only at h
    rw [h0 rfl ρ] at h
    exact core R (.refl R.sub R.tub) .nil h
  | cons e es =>
    obtain ⟨ta, pa, qa⟩ := ha
    refine ⟨_, pe_callGK (T := T) F hgl hm hk hb pa pk hn hns hdb, fun G0 H0 ρ σ G H Q R h => ?_⟩
    rw [Out.All_bind] at h
    refine qa G0 H0 ρ σ G H _ R (h.mono fun d hd vs ds G1 H1 e k i => ?_)
    subst e
    simp only [unTup, Out.bind_ret] at hd
    exact core (R.step k) (.refl k.gh k.tub) i.keep (hd.mono fun d hd => F.late T _ _ _ _ Q σ d hd k R.tub)

/-! ### isinstance -/
def tyName : Ty → String
  | .int => "int"
  | .bool => "bool"
  | .tup => "tuple"
  | .str => "str"
  | .lst => "list"
  | .dict => "dict"
def tyOfD : D → Option String
  | .none => some "NoneType"
  | .bool _ => some "bool"
  | .int _ => some "int"
  | .str _ => some "str"
  | .list _ => some "list"
  | .tuple _ => some "tuple"
  | .dict [(.bool false, .list _)] => some "dict"
  | .dict _ => none
theorem isr_ty {G H : Hp} {v : V} {d : D} {t : String} (s : Sub G H) (i : IsR true T G H v d) (h : tyOfD d = some t) : TyX X.K H v (.type t) := by
  cases d
  case dict kvs =>
    unfold tyOfD at h
    split at h <;> try (cases h; done)
    all_goals (rename_i e; first | (cases e; done) | skip)
    cases e
    cases h
    rcases i with i | ⟨_, a, vs, ys, e1, _⟩
    · cases i with
      | dk e => exact .base (.dK (s _ _ e))
    · cases e1
  all_goals simp only [tyOfD, Option.some.injEq] at h
  all_goals subst h
  case none => rw [i.none]; exact .base .non
  case bool b => rw [i.bool]; exact .base (.bl b)
  case int b => rw [i.int]; exact .base (.int b)
  case str x =>
    rcases i with i | ⟨_, a, vs, ys, e1, _⟩
    · cases i; exact .base (.str x)
    · cases e1
  case list xs =>
    obtain ⟨a, vs, rfl, ga, _⟩ := i.list s
    exact .base (.lst ga)
  case tuple xs =>
    obtain ⟨a, vs, rfl, ga, _⟩ := i.tup
    exact .base (.tup (s _ _ ga))
theorem kit_isTy {d : D} {t : String} {k : Ty} (h : tyOfD d = some t) : kitB t (tyName k) = some (isTy k d) := by
  cases d
  case dict kvs =>
    unfold tyOfD at h
    split at h <;> try (cases h; done)
    all_goals (rename_i e; first | (cases e; done) | skip)
    cases e
    cases h
    cases k <;> (simp only [tyName, isTy]; decide +kernel)
  all_goals simp only [tyOfD, Option.some.injEq] at h
  all_goals (subst h; cases k <;> (simp only [tyName, isTy]; decide +kernel))
end
end Ev

set_option Elab.async false
set_option linter.all false
set_option autoImplicit false
set_option maxRecDepth 100000
set_option maxHeartbeats 2000000
namespace Ev
open PySem L2
/-! ### a new list handed to a def that draws from it -/
/-- a def whose answer is a new list -/
structure FnL (P : Program) (w : World) (K : PySem.W.Frag) (mg : Str → Option Value) (base : Heap) (tb : List (Addr × Str)) (n : Nat) (f : Addr) (fd : FuncData) (ps : List Str) (F : List D → Out D) : Prop where
  len : ∀ ds (P : D → Prop), (F ds).All P → ds.length = ps.length
  run : ∀ (T : Ap) (A : Around) (outer : List PySem.Env) (s : Shared) (H G : Hp) (args : Args) (us : List Value) (vs : List V) (ds : List D) (Q : VK), Room (3 * n) A → A.guards = some [] → T.tabs = tb → Env0 P w K mg base A outer s H →
    BindsTo s fd args (ps.zip us) → Vals vs us → Sub G H → TubOk T H → T.away G → IsAll T G vs ds → (F ds).All (fun d => ∃ xs, d = .list xs ∧ PostF T G H Q (.list xs)) →
    codeAny (model P w) A (.call (.ref f) args) (CR CX0 outer P w H s Q E0) s
section
variable {X : Cx} {n : Nat} {f : Addr} {fd : FuncData} {ps : List Str} {Fn Fr : List D → Out D} {T : Ap} {r : Bool} {x : Str} {p pos : Pos} {e : Expr} {es : List Expr} {fl : Ro → Out D}
def tNew (T : Ap) (Fn : List D → Out D) (t : TA) : TE := fun σ H Q => t σ H fun vs H1 => ∃ G ds, Sub G H1 ∧ TubOk T H1 ∧ T.away G ∧ IsAll T G vs ds ∧ (Fn ds).All fun d => ∃ xs, d = .list xs ∧ PostF T G H1 Q (.list xs)
def tLate (tb : List (Addr × Str)) (Fn : List D → Out D) (t : TA) : TE := fun σ H Q => t σ H fun vs H1 => ∃ T, T.tabs = tb ∧ Give PP0 T Fn vs H1 Q σ
theorem pe_new {tb : List (Addr × Str)} {t : TA} (ht : T.tabs = tb) (F : FnL X.prog X.w X.K X.mg X.base tb n f fd ps Fn) (hr : Room (3 * n) X.A) (hg : X.A.guards = some []) (hgl : Gl X x) (hm : X.mg x = some (.ref f)) (hk : PySem.W.keepIn X.K (.ref f) = true) (hb : Binds X.K fd ps [])
    (ha : PA X (e :: es) t) (hns : (e :: es).all notStarE = true) (hdb : (x == ("__debug__" : Str)) = false) : PE X (.Call (.Name x p) (e :: es) [] pos) (tNew T Fn t) := by
  refine ⟨fun pins s σ H Q I h => ?_⟩
  rw [List.all_cons, Bool.and_eq_true] at hns
  refine wpAny_Call_Name_kw (ld_glob I hgl hm ?_ hdb)
  refine PySem.W.callWith_K (h₀ := X.base) I.ok.mod.kin hk (thn (ha.run pos pins s σ H _ I h) fun us s1 ⟨vs, H1, I1, rv, G, ds, g1, g2, g3, g4, g5⟩ => ⟨I1.kIn, ?_⟩) (starEach_cons hns.1) (any_plain hns.2)
  have hb1 := hb s1 us I1.kIn (by rw [List.append_nil, ← rv.length, g4.length]; exact F.len ds _ g5)
  rw [List.append_nil] at hb1
  refine wpAny_call (codeAny_mono (F.run T X.A X.stack s1 H1 G ⟨us, []⟩ us vs ds Q hr hg ht I1.env0 hb1 rv g1 g2 g3 g4 g5) fun q s' hq => ?_)
  cases q with
  | error e => exact False.elim hq
  | ok fl =>
    cases fl with
    | ret u => exact I1.after hq
    | next => exact False.elim hq
    | brk => exact False.elim hq
    | cont => exact False.elim hq
theorem pe_late {tb : List (Addr × Str)} {t : TA} (F : FnG X.prog X.w X.K X.mg X.base tb n f fd ps Fn) (hr : Room (3 * n) X.A) (hg : X.A.guards = some []) (hgl : Gl X x) (hm : X.mg x = some (.ref f)) (hk : PySem.W.keepIn X.K (.ref f) = true) (hb : Binds X.K fd ps [])
    (ha : PA X (e :: es) t) (hns : (e :: es).all notStarE = true) (hdb : (x == ("__debug__" : Str)) = false) : PE X (.Call (.Name x p) (e :: es) [] pos) (tLate tb Fn t) := by
  refine ⟨fun pins s σ H Q I h => ?_⟩
  rw [List.all_cons, Bool.and_eq_true] at hns
  refine wpAny_Call_Name_kw (ld_glob I hgl hm ?_ hdb)
  refine PySem.W.callWith_K (h₀ := X.base) I.ok.mod.kin hk (thn (ha.run pos pins s σ H _ I h) fun us s1 ⟨vs, H1, I1, rv, T, ht, q⟩ => ⟨I1.kIn, ?_⟩) (starEach_cons hns.1) (any_plain hns.2)
  exact fin_g (T := T) (F.doer hr hg ht) hb I1 rv q
/-- with a drawing list of its own -/
def Ap.own (T : Ap) (p : Addr) : Ap := { tub := some p, tabs := T.tabs }
theorem drw_step {G H G2 H2 G' H' : Hp} {p : Addr} (kk : Stp T G H G2 H2) (k3 : Stp (T.own p) G2 H2 G' H') (hp : H p = none) (t : TubOk T H) : Stp T G H G' H' := by
  have np : ∀ {b : Addr} {o : HO}, H b = some o → (T.own p).tub ≠ some b := fun {b o} e z => by
    cases z; rw [hp] at e; cases e
  refine ⟨kk.gs.trans k3.gs, k3.gh, fun b o hb n e => k3.kp b o (np e) n (kk.kp b o hb n e), fun b ps e => (kk.tbl b ps e).elim fun ps' e' => k3.tbl b ps' e', fun b o e => ?_, fun a ha => ?_, k3.tub.2.1, fun p hp => ?_⟩
  · rcases k3.new b o e with q | q | ⟨xs, q⟩
    · exact kk.new b o q
    · exact .inr (.inl (kk.back t q))
    · cases e : H b with
      | none => exact .inr (.inl rfl)
      | some u =>
        refine .inr (.inr ⟨xs, ?_⟩)
        have hT : T.tub ≠ some b := fun z => by
          obtain ⟨_, _, _, w, _⟩ := kk.tub.1 b z
          rw [q] at w; cases w
        by_cases ht : noTbl u
        · have := kk.kp b u hT ht e
          rw [q] at this
          exact this.symm
        · obtain ⟨ps, w⟩ : ∃ ps, u = .tbl ps := Classical.byContradiction fun z => ht fun ps q => z ⟨ps, q⟩
          subst w
          obtain ⟨ps', w⟩ := kk.tbl b ps e
          rw [q] at w; cases w
  · obtain ⟨x, y, z, q, w⟩ := kk.tub.1 a ha
    obtain ⟨_, _, _, q0, _⟩ := t.1 a ha
    exact ⟨x, y, z, k3.kp a _ (np q0) (nt_of rfl) q, w⟩
  · exact k3.kp _ _ (np (t.2.2 p hp)) (nt_of rfl) (kk.tub.2.2 p hp)
theorem snd_drw {tb : List (Addr × Str)} (ht : T.tabs = tb) {f2 : Addr} {fd2 : FuncData} {ps2 : List Str} {x2 : Str} {p2 pos2 : Pos} (FL : FnL X.prog X.w X.K X.mg X.base tb n f fd ps Fn) (F : FnG X.prog X.w X.K X.mg X.base tb n f2 fd2 ps2 Fr) (hr : Room (3 * n) X.A) (hg : X.A.guards = some []) (hgl : Gl X x) (hm : X.mg x = some (.ref f)) (hk : PySem.W.keepIn X.K (.ref f) = true) (hb : Binds X.K fd ps [])
    (hgl2 : Gl X x2) (hm2 : X.mg x2 = some (.ref f2)) (hk2 : PySem.W.keepIn X.K (.ref f2) = true) (hb2 : Binds X.K fd2 ps2 []) (ha : SndL X T false (e :: es) fl) (hns : (e :: es).all notStarE = true) (hdb : (x == ("__debug__" : Str)) = false) (hdb2 : (x2 == ("__debug__" : Str)) = false) :
    SndE X T r (.Call (.Name x2 p2) [.Call (.Name x p) (e :: es) [] pos] [] pos2) (fun ρ => (fl ρ).bind fun x => (unTup x).bind fun xs => (Fn xs).bind fun
    | .list [.int _, .int y, .int _] => .guard (tubB y) ((Fr [.dict []]).bind fun r => (asBool r).bind fun b => .ret (.bool b))
    | _ => .bad) := by
  refine SndE.read ?_
  obtain ⟨ta, pa, qa⟩ := ha
  have inner := pe_new (T := T) (p := p) (pos := pos) ht FL hr hg hgl hm hk hb pa hns hdb
  refine ⟨_, pe_late F hr hg hgl2 hm2 hk2 hb2 (pa_cons inner pa_nil rfl) rfl hdb2, fun G0 H0 ρ σ G H Q R h => ?_⟩
  rw [Out.All_bind] at h
  refine qa G0 H0 ρ σ G H _ R (h.mono fun d hd vs ds G1 H1 ed k i => ?_)
  subst ed
  simp only [unTup, Out.bind_ret] at hd
  rw [Out.All_bind] at hd
  refine ⟨G1, ds, k.gh, k.tub, (R.step k).tg, i.keep, hd.mono fun d hd => ?_⟩
  match d, hd with
  | .list [.int a, .int b, .int c], hd =>
    have hd : (Out.guard (tubB b) ((Fr [.dict []]).bind fun r => (asBool r).bind fun b => Out.ret (PyData.bool b))).All _ := hd
    rw [Out.All_guard] at hd
    obtain ⟨hbT, hd⟩ := hd
    refine ⟨_, rfl, fun q ws xs G2 H2 ex k2 hq gq hH iv => ?_⟩
    cases ex
    have kk := k.trans k2 R.tub
    have hp : H q = none := k.back R.tub hq
    obtain ⟨rfl, _⟩ := iv.ints (ns := [a, b, c]) rfl
    refine ⟨T.own q, ht, G2, [.dict []], kk.gh, ⟨fun z hz => (by cases hz; exact ⟨a, b, c, hH, hbT⟩), kk.tub.2.1, fun p hp => (by cases hp)⟩, ⟨fun z hz => ?_, fun b o h => (by cases h)⟩, .cons (.tub rfl) .nil, ?_⟩
    · rcases hz with hz | hz
      · cases hz; exact gq
      · exact (R.step kk).tg.1 z (.inr hz)
    rw [Out.All_bind] at hd
    refine hd.mono fun y hy v G' H' k3 iy => ?_
    cases y <;> simp only [asBool] at hy <;> try exact hy.elim
    rename_i bb
    rw [iy.bool]
    exact hy (.bl bb) G' H' (drw_step kk k3 hp R.tub) (.inl (.bl bb))
end
end Ev

set_option Elab.async false
set_option linter.all false
set_option autoImplicit false
set_option maxRecDepth 100000
set_option maxHeartbeats 2000000
namespace Ev
open PySem L2

mutual
theorem sameD_eq : ∀ {x y : D}, sameD x y = true → x = y
  | .none, y, h => by cases y <;> simp [sameD] at h ⊢
  | .bool a, y, h => by cases y <;> simp [sameD] at h ⊢; exact h
  | .int a, y, h => by cases y <;> simp [sameD] at h ⊢; exact h
  | .str a, y, h => by cases y <;> simp [sameD] at h ⊢; exact h
  | .list xs, y, h => by
    cases y <;> simp [sameD] at h ⊢
    exact sameL_eq h
  | .tuple xs, y, h => by
    cases y <;> simp [sameD] at h ⊢
    exact sameL_eq h
  | .dict xs, y, h => by cases y <;> simp [sameD] at h
theorem sameL_eq : ∀ {xs ys : List D}, sameL xs ys = true → xs = ys
  | [], [], _ => rfl
  | [], _ :: _, h => by simp [sameL] at h
  | _ :: _, [], h => by simp [sameL] at h
  | x :: xs, y :: ys, h => by
    simp only [sameL, Bool.and_eq_true] at h
    rw [sameD_eq h.1, sameL_eq h.2]
end
theorem piled_cons (x : Str) (l : List Str) : PySem.piled (x :: l) = x.length + 2 + PySem.piled l := by simp [PySem.piled]
theorem listText_le (ts : List Str) : (listText ts).length ≤ PySem.piled ts + 2 := by
  have key : ∀ (ts : List Str) (k : Nat) (acc : Str), (textFrom k acc ts).length ≤ acc.length + PySem.piled ts := by
    intro ts
    induction ts with
    | nil => intro k acc; exact Nat.le_add_right _ _
    | cons t r ih =>
      intro k acc
      refine Nat.le_trans (ih (k + 1) _) ?_
      rw [piled_cons, strLen_append, strLen_append]
      have : ((if k > 0 then ", " else "" : String) : Str).length ≤ 2 := by
        split <;> decide
      omega
  have := key ts 0 "["
  unfold listText
  rw [strLen_append]
  have e1 : (("[" : String) : Str).length = 1 := rfl
  have e2 : (("]" : String) : Str).length = 1 := rfl
  omega
theorem tupleText_le (ts : List Str) : (tupleText ts).length ≤ PySem.piled ts + 3 := by
  unfold tupleText
  rw [strLen_append, strLen_append]
  have e1 : (("(" : String) : Str).length = 1 := rfl
  have e2 : ((if ts.length == 1 then ",)" else ")" : String) : Str).length ≤ 2 := by split <;> decide
  by_cases h : ts = []
  · subst h
    have : (Str.join ", " []).length = 0 := rfl
    simp only [PySem.piled] at *
    omega
  · have := join_length_add ts h
    omega
mutual
theorem wtD_ok : ∀ {d : D} {n : Nat}, wtD d = some n → d.showable = true ∧ d.hasDict = false ∧ d.canLay0 = true ∧ d.shown.length ≤ n
  | .none, n, h => by
    simp only [wtD, Option.some.injEq] at h
    subst h
    exact ⟨by simp only [PyData.showable], by simp only [PyData.hasDict], by simp only [PyData.canLay0], by simp only [PyData.shown]; decide⟩
  | .bool b, n, h => by
    simp only [wtD, Option.some.injEq] at h
    subst h
    exact ⟨by simp only [PyData.showable], by simp only [PyData.hasDict], by simp only [PyData.canLay0], by simp only [PyData.shown]; cases b <;> decide⟩
  | .int i, n, h => by
    simp only [wtD] at h
    split at h
    · rename_i hi
      cases h
      exact ⟨by simp only [PyData.showable]; exact decide_eq_true hi, by simp only [PyData.hasDict], by simp only [PyData.canLay0], by
        simp only [PyData.shown]
        exact Nat.le_trans (PyProof.Rows.int_text_len_1921 hi) (by decide)⟩
    · cases h
  | .str x, n, h => by
    simp only [wtD] at h
    split at h
    · rename_i hi
      cases h
      refine ⟨by simp only [PyData.showable], by simp only [PyData.hasDict], by simp only [PyData.canLay0, PyData.strOk]; exact hi, ?_⟩
      simp only [PyData.shown]
      refine PySem.StrLaws.reprText_len x fun c hc => ?_
      have := Array.all_eq_true_iff_forall_mem.mp hi c (Array.mem_toList_iff.mp hc)
      have h2 : c < 1114112 := of_decide_eq_true this
      omega
    · cases h
  | .list xs, n, h => by
    simp only [wtD, Option.map_eq_some_iff] at h
    obtain ⟨m, e, rfl⟩ := h
    obtain ⟨h1, h2, h3, h4⟩ := wtL_ok e
    refine ⟨by simpa only [PyData.showable] using h1, by simpa only [PyData.hasDict] using h2, by simpa only [PyData.canLay0] using h3, ?_⟩
    simp only [PyData.shown]
    exact Nat.le_trans (listText_le _) (by omega)
  | .tuple xs, n, h => by
    simp only [wtD, Option.map_eq_some_iff] at h
    obtain ⟨m, e, rfl⟩ := h
    obtain ⟨h1, h2, h3, h4⟩ := wtL_ok e
    refine ⟨by simpa only [PyData.showable] using h1, by simpa only [PyData.hasDict] using h2, by simpa only [PyData.canLay0] using h3, ?_⟩
    simp only [PyData.shown]
    exact Nat.le_trans (tupleText_le _) (by omega)
  | .dict _, n, h => by simp [wtD] at h
theorem wtL_ok : ∀ {ds : List D} {n : Nat}, wtL ds = some n → PyData.showableAll ds = true ∧ PyData.hasDictAll ds = false ∧ PyData.canLayAll0 ds = true ∧ PySem.piled (PyData.shownAll ds) ≤ n
  | [], n, h => by
    simp only [wtL, Option.some.injEq] at h
    subst h
    exact ⟨by simp only [PyData.showableAll], by simp only [PyData.hasDictAll], by simp only [PyData.canLayAll0], by simp [PyData.shownAll, PySem.piled]⟩
  | d :: ds, n, h => by
    simp only [wtL, Option.bind_eq_some_iff, Option.map_eq_some_iff] at h
    obtain ⟨a, ea, b, eb, rfl⟩ := h
    obtain ⟨h1, h2, h3, h4⟩ := wtD_ok ea
    obtain ⟨g1, g2, g3, g4⟩ := wtL_ok eb
    refine ⟨by simp only [PyData.showableAll, h1, g1]; rfl, by simp only [PyData.hasDictAll, h2, g2]; rfl, by simp only [PyData.canLayAll0, h3, g3]; rfl, ?_⟩
    simp only [PyData.shownAll]
    rw [piled_cons]
    omega
end
section
variable {X : Cx} {T : Ap} {r : Bool} {ast a b e : Expr} {pos p1 p2 q1 q2 : Pos} {f g fa fb : Ro → Out D}
def rRepD (K : PySem.W.Frag) : List V → Hp → VK → Prop := fun xs H Q => ∃ v d n, xs = [v] ∧ Dp K H v d ∧ isSeqD d = true ∧ d.depth ≤ 64 ∧ wtD d = some n ∧ n ≤ 16000000 ∧ Q (.str d.shown) H
theorem call_repD {n : Nat} (hr : L2H.RoomH n X.A) (hg : X.A.guards = some []) : CallR X (.builtin "repr") (rRepD X.K) := by
  intro pins s σ H xs us Q I rv h
  obtain ⟨v, d, m, rfl, hd, hs, h64, hw, hm, q⟩ := h
  obtain ⟨u, rfl, ru⟩ := vals1 rv
  obtain ⟨as, hr1⟩ := Dp.reads I d v u hd ru
  obtain ⟨w1, w2, w3, w4⟩ := wtD_ok hw
  have hu := hr.un
  have fin : ∀ {ad : Addr}, u = Value.ref ad → wpAny (model X.prog X.w) X.A (call (.builtin "repr") [u]) (EP X pins σ Q) X.xe s := fun {ad} e => by
    subst e
    refine repr_of_reads' hr1 w1 (fun z => by rw [w2] at z; cases z) hg (by omega) (fun _ _ e => e) (fun h' t tk hk => ?_) (by rw [sizeLine_eq]; omega)
    exact ⟨.str d.shown, H, I.kept hk, ⟨_, rfl⟩, q⟩
  cases d <;> simp only [isSeqD] at hs <;> try (cases hs; done)
  · cases hr1; exact fin rfl
  · cases hr1; exact fin rfl
/-- from fewer answers -/
theorem SndE.weaken (h : SndE X T r ast f) (w : ∀ (ρ : Ro) (P : D → Prop), (g ρ).All P → (f ρ).All P) : SndE X T r ast g := by
  obtain ⟨t, p, q⟩ := h
  exact ⟨t, p, fun G0 H0 ρ σ G H Q R h => q G0 H0 ρ σ G H Q R (w ρ _ h)⟩
theorem snd_repr {n : Nat} (hr : L2H.RoomH n X.A) (hg : X.A.guards = some []) (hgl : Gl X "repr") (hm : X.mg "repr" = none) (hb : bootBuiltins "repr" = some (.builtin "repr")) (ha : SndE X T true a fa) (hns : notStarE a = true) :
    SndE X T r (.Call (.Name "repr" p1) [a] [] q1) (fun ρ => (fa ρ).bind fun x => .guard (repOk x) (.ret (.str x.shown))) := by
  refine SndE.read ?_
  obtain ⟨ta, pa, qa⟩ := ha
  have hp : PA X [a] (tCons ta tNil) := pa_cons pa pa_nil (starEach_cons hns)
  refine ⟨_, pe_callB (call_repD hr hg) hgl hm hb hp (by decide) (by decide) (starEach_cons hns) rfl, fun G0 H0 ρ σ G H Q R h => ?_⟩
  rw [Out.All_bind] at h
  refine qa G0 H0 ρ σ G H _ R (h.mono fun x hx v G1 H1 k1 i1 => ?_)
  rw [Out.All_guard] at hx
  obtain ⟨ho, hx⟩ := hx
  unfold repOk at ho
  rw [Bool.and_eq_true, Bool.and_eq_true] at ho
  obtain ⟨h1, h2, h3⟩ := ho
  cases hw : wtD x with
  | none => rw [hw] at h3; cases h3
  | some m =>
    rw [hw] at h3
    obtain ⟨_, _, w3, _⟩ := wtD_ok hw
    exact ⟨v, x, m, rfl, i1.dp k1.gh w3, h1, of_decide_eq_true h2, hw, of_decide_eq_true h3, PostE.now k1.gh k1.tub (PostE.trans hx k1 R.tub) (.str _)⟩
theorem isr_str {r : Bool} {G H : Hp} {v : V} {x : Str} (i : IsR r T G H v (.str x)) : v = .str x := by
  rcases i with i | ⟨_, _, _, _, e, _⟩
  · cases i; rfl
  · cases e
def strEq (g : Bool) : D → D → Out D
  | .str x, .str y => .ret (.bool (if g then !decide (x = y) else decide (x = y)))
  | _, _ => .bad
theorem o2_strEq : Op2 T (strEq false) rEq := by
  intro G H x y v u Q s t ix iy h
  cases x <;> cases y <;> simp only [strEq] at h <;> try exact h.elim
  rename_i x y
  rw [isr_str ix, isr_str iy]
  refine ⟨rfl, ?_⟩
  have e : decide (V.str x = V.str y) = decide (x = y) := by
    by_cases z : x = y
    · subst z; simp
    · rw [decide_eq_false z, decide_eq_false fun q => z (V.str.inj q)]
  rw [e]
  exact PostE.now s t h (.bl _)
theorem o2_strNe : Op2 T (strEq true) rNe := by
  intro G H x y v u Q s t ix iy h
  cases x <;> cases y <;> simp only [strEq] at h <;> try exact h.elim
  rename_i x y
  rw [isr_str ix, isr_str iy]
  refine ⟨rfl, ?_⟩
  have e : decide (V.str x = V.str y) = decide (x = y) := by
    by_cases z : x = y
    · subst z; simp
    · rw [decide_eq_false z, decide_eq_false fun q => z (V.str.inj q)]
  rw [e]
  exact PostE.now s t h (.bl _)
theorem rep_imp {g : Bool} {fa fb : Ro → Out D} (ρ : Ro) (P : D → Prop) (h : ((fa ρ).bind fun x => .guard (repOk x) ((fb ρ).bind fun y => .guard (sameD x y) (.ret (.bool (!g))))).All P) :
    ((((fa ρ).bind fun x => .guard (repOk x) (.ret (.str x.shown))).bind fun x => (((fb ρ).bind fun x => .guard (repOk x) (.ret (.str x.shown))).bind fun y => strEq g x y))).All P := by
  rw [Out.All_bind] at h
  rw [Out.All_bind, Out.All_bind]
  refine h.mono fun x hx => ?_
  rw [Out.All_guard] at hx
  obtain ⟨ho, hx⟩ := hx
  rw [Out.All_bind] at hx
  rw [ho, Out.guard_true, Out.All_ret, Out.All_bind, Out.All_bind]
  refine hx.mono fun y hy => ?_
  rw [Out.All_guard] at hy
  obtain ⟨e, hy⟩ := hy
  have := sameD_eq e
  subst this
  rw [ho, Out.guard_true, Out.All_ret]
  simp only [strEq, decide_true, Bool.not_true]
  cases g <;> exact hy
theorem snd_repEq {n : Nat} {gg : Bool} {op : CmpOp} (hop : op = if gg then .NotEq else .Eq) (hr : L2H.RoomH n X.A) (hg : X.A.guards = some []) (hgl : Gl X "repr") (hm : X.mg "repr" = none) (hb : bootBuiltins "repr" = some (.builtin "repr")) (ha : SndE X T true a fa) (hb2 : SndE X T true b fb)
    (hns : notStarE a = true) (hns2 : notStarE b = true) :
    SndE X T r (.Compare (.Call (.Name "repr" p1) [a] [] q1) [op] [.Call (.Name "repr" p2) [b] [] q2] pos) (fun ρ => (fa ρ).bind fun x => .guard (repOk x) ((fb ρ).bind fun y => .guard (sameD x y) (.ret (.bool (!gg))))) := by
  have h1 := snd_repr (r := true) (p1 := p1) (q1 := q1) hr hg hgl hm hb ha hns
  have h2 := snd_repr (r := true) (p1 := p2) (q1 := q2) hr hg hgl hm hb hb2 hns2
  subst hop
  cases gg with
  | true => exact SndE.weaken (snd2 h1 h2 (fun ta tb pa pb => pe_cmpR op_ne pa pb (nomark _)) o2_strNe) fun ρ P h => rep_imp ρ P h
  | false => exact SndE.weaken (snd2 h1 h2 (fun ta tb pa pb => pe_cmpR op_eq pa pb (nomark _)) o2_strEq) fun ρ P h => rep_imp ρ P h

/-! ### reversed copies, repeated lists -/
theorem snd_revF {k : Nat} {p3 : Pos} (ha : SndE X T true a fa) : SndF X T (.Subscript a (.Slice none none (some (.UnaryOp .USub (.Constant (.int 1) k p1) p2)) p3) pos) (fun ρ => (fa ρ).bind fun x => match x with | .list xs => .ret (.list xs.reverse) | _ => .bad) := by
  obtain ⟨ta, pa, qa⟩ := ha
  refine ⟨_, pe_revL pa, fun G0 H0 ρ σ G H Q R h => ?_⟩
  rw [Out.All_bind] at h
  refine qa G0 H0 ρ σ G H _ R (h.mono fun x hx v G1 H1 k1 i1 => ?_)
  cases x <;> try exact hx.elim
  obtain ⟨p, vs, rfl, gp, iv⟩ := i1.list k1.gh
  exact ⟨p, vs, rfl, .of gp, fun p' hp => PostF.laid k1.gh k1.tub (PostF.trans hx k1 R.tub) hp iv.reverse⟩
def rMulD (K : PySem.W.Frag) : R2 := fun x y H Q => (rI CMul (fun i j => .int (i * j)) x y H Q ∨ rI CMulW (fun i j => .int (i * j)) x y H Q) ∨ rRep x y H Q
theorem or_mul : OpR X (binaryOp .Mult) (rMulD X.K) := (op_mul.or op_mulW).or op_rep
theorem smallI_of {i : Int} (h : smallI i = true) : -(2 ^ 64) < i ∧ i < 2 ^ 64 := by
  have := of_decide_eq_true h
  constructor <;> omega
theorem mul_rule {K : PySem.W.Frag} {i j : Int} {H : Hp} {Q : VK} (h : mulOk i j = true) (q : Q (.int (i * j)) H) : rMulD K (.int i) (.int j) H Q := by
  unfold mulOk at h
  rw [Bool.or_eq_true, Bool.or_eq_true] at h
  rcases h with h | h | h
  · exact .inl (.inl ⟨i, j, rfl, rfl, .inl (smallI_of h), q⟩)
  · exact .inl (.inl ⟨i, j, rfl, rfl, .inr (smallI_of h), q⟩)
  · exact .inl (.inr ⟨i, j, rfl, rfl, (show CMulW i j from of_decide_eq_true (p := i.natAbs.log2 + j.natAbs.log2 < 1000000) h), q⟩)
theorem o2_mul {K : PySem.W.Frag} : Op2 T (fun x y => match x with | .tuple _ => .bad | _ => binD .mul x y) (rMulD K) := by
  intro G H x y v u Q s t ix iy h
  cases x <;> cases y <;> simp only [binD] at h <;> try exact h.elim
  case int.int i j =>
    rw [Out.All_guard] at h
    rw [ix.int, iy.int]
    exact mul_rule h.1 (PostE.now s t h.2 (.int _))
  case list.int xs k =>
    rw [Out.All_guard] at h
    obtain ⟨hl, h⟩ := h
    simp only [Bool.and_eq_true, decide_eq_true_eq] at hl
    obtain ⟨l1, l2, l3⟩ := hl
    obtain ⟨p, vs, rfl, gp, iv⟩ := ix.list s
    refine .inr ⟨p, k, vs, rfl, iy.int, gp, by omega, by omega, ?_, fun p' hp => PostE.laid s t h hp fun G' s' e => .lst e ((iv.mono s' _ _).rep _)⟩
    rw [iv.length, sizeLine_eq]
    have : xs.length * k.toNat ≤ 1000 * 1000 := Nat.mul_le_mul l1 (by omega)
    omega
end
end Ev

set_option Elab.async false
set_option linter.all false
set_option autoImplicit false
set_option maxRecDepth 100000
set_option maxHeartbeats 4000000
namespace Ev
open PySem L2 PySem.Spec PyProof.Rows
/-! ### tuple * int -/
theorem tuple_mul_one (l : Addr) (its : Array Value) (n : Nat) (dd : Option Addr) (sl : Array (Option Value)) (x : Int) (u : Tok) (d0 : (decide (x < -(2 ^ 63)) || decide (x ≥ 2 ^ 63)) = false) (d1 : (its.isEmpty || x == 1) = true) :
    Meets (Builtin.«tuple.__mul__» ⟨[.ref l, .int x u], []⟩) (fun _ R s => s.heap.get? l = some { cls := .type "tuple", dict := dd, data := .seq its n, slots := sl } ∧ R (.ok (.ret (Value.ref l))) s) :=
  .of_wp fun prog w A R s q => by
    obtain ⟨hp, gg, dr, tk, os⟩ := s
    obtain ⟨hl, q⟩ := q
    have f1 := AutoSeq1.idx_int
    wp_walk using wpAny_loadPart' hl
    repeat (first
      | (refine wpAny_ite_false (decide_eq_false (by rw [d0]; exact Bool.false_ne_true)) ?_; wp_walk using wpAny_loadPart' hl)
      | (refine wpAny_ite_true (decide_eq_true d1) ?_; wp_walk using wpAny_loadPart' hl))
    exact ⟨_, rfl, q⟩
section
variable {X : Cx} {T : Ap} {G H : Hp}
def rMulOne (K : PySem.W.Frag) : R2 := fun x y H Q => ∃ l xs, x = .ref l ∧ y = .int 1 ∧ SqT K H l xs ∧ Q (.ref l) H
theorem op_mulOne : OpR X (binaryOp .Mult) (rMulOne X.K) := by
  intro pins s σ0 H x y v u Q I r1 r2 h
  obtain ⟨l, xs, rfl, rfl, hT, q⟩ := h
  cases r1
  obtain ⟨t, rfl⟩ := r2
  obtain ⟨its, r, ⟨⟨cls, dd, data, sl⟩, ho, hc, n, hd⟩, hs⟩ := I.tuple hT
  simp only at hc hd
  subst hc hd
  refine wpAny_binaryOp_repeat_ref (T := "tuple") (U := "int") (by decide) ⟨_, ho, rfl⟩ (fun s' => typeIs_int s' 1 t) noFill_tuple_mul F.fills_int_mul F.slot_int_rmul L2.repeat_tuple F.slot_int_index.lookup
    (call_meets F.slot_int_rmul (typeIs_int s 1 t) F.entry_int_rmul (F.args_int_rmul_2 _ _) (int_rmul_tuple 1 t l its.toArray n dd sl)
      ⟨ho, rfl, ⟨_, ho, rfl⟩, call_meets F.slot_tuple_mul ⟨_, ho, rfl⟩ F.entry_tuple_mul (F.args_tuple_mul_2 _ _) (tuple_mul_one l its.toArray n dd sl 1 t (by decide) (by simp)) ⟨ho, ?_⟩⟩)
  exact ⟨.ref l, _, I, rfl, q⟩
def rMulT (K : PySem.W.Frag) : R2 := fun x y H Q => rMulOne K x y H Q ∨ rRepT K x y H Q
theorem or_mulT : OpR X (binaryOp .Mult) (rMulT X.K) := op_mulOne.or op_repT
def rMulA (K : PySem.W.Frag) : R2 := fun x y H Q => rMulD K x y H Q ∨ rMulT K x y H Q
theorem or_mulA : OpR X (binaryOp .Mult) (rMulA X.K) := or_mul.or or_mulT
theorem o2_mulA {K : PySem.W.Frag} : Op2 T (binD .mul) (rMulA K) := by
  intro G H x y v u Q s t ix iy h
  by_cases hx : ∃ xs, x = .tuple xs
  · obtain ⟨xs, rfl⟩ := hx
    cases y <;> simp only [binD] at h <;> try exact h.elim
    rename_i k
    rw [Out.All_guard] at h
    obtain ⟨hl, h⟩ := h
    simp only [Bool.and_eq_true, decide_eq_true_eq] at hl
    obtain ⟨l0, l1, l2, l3⟩ := hl
    obtain ⟨a, vs, rfl, ga, ia⟩ := ix.tup
    rw [iy.int]
    refine .inr ?_
    by_cases hk : k = 1
    · subst hk
      have e : repD xs 1 = xs := by simp [repD]
      rw [e] at h
      exact .inl ⟨a, vs, rfl, rfl, .of (s _ _ ga), PostE.now s t h (.tup ga ia)⟩
    · refine .inr ⟨a, k, vs, rfl, rfl, .of (s _ _ ga), ?_, by omega, by omega, by rw [ia.length]; omega, fun p hp => PostE.laid s t h hp fun G' s' e => .tup e ((ia.mono s' _ _).rep _)⟩
      intro z
      have := ia.length
      rw [z] at this
      simp at this
      omega
  · refine .inl (o2_mul G H x y v u Q s t ix iy ?_)
    cases x <;> first | exact h | exact absurd ⟨_, rfl⟩ hx
end
end Ev

set_option Elab.async false
set_option linter.all false
set_option autoImplicit false
set_option maxRecDepth 100000
set_option maxHeartbeats 2000000
namespace Ev
open PySem L2
open PyProof.Rows (IntsAre)
section
variable {X : Cx} {T : Ap} {r : Bool} {ast a b e : Expr} {pos p1 p2 p q1 : Pos} {f g fa fb : Ro → Out D}
/-! ### isinstance -/
theorem tyv {G H : Hp} {v : V} {d : D} (s : Sub G H) (i : IsR true T G H v d) (hd : okIsi d = true) : ∃ t, tyOfD d = some t ∧ TyX X.K H v (.type t) := by
  cases d with
  | dict kvs =>
    unfold okIsi at hd
    split at hd
    · rename_i e
      cases e
      exact ⟨_, rfl, isr_ty s i rfl⟩
    · cases hd
    · rename_i h1 h2
      exact absurd rfl (h2 _)
  | none => exact ⟨_, rfl, isr_ty s i rfl⟩
  | bool => exact ⟨_, rfl, isr_ty s i rfl⟩
  | int => exact ⟨_, rfl, isr_ty s i rfl⟩
  | str => exact ⟨_, rfl, isr_ty s i rfl⟩
  | list => exact ⟨_, rfl, isr_ty s i rfl⟩
  | tuple => exact ⟨_, rfl, isr_ty s i rfl⟩
theorem snd_isi {k : Ty} (hgl : Gl X "isinstance") (hm : X.mg "isinstance" = none) (hgl2 : Gl X (tyName k)) (hm2 : X.mg (tyName k) = none) (ha : SndE X T true a fa) (hns : notStarE a = true) :
    SndE X T r (.Call (.Name "isinstance" p1) [a, .Name (tyName k) p2] [] q1) (fun ρ => (fa ρ).bind fun x => .guard (okIsi x) (.ret (.bool (isTy k x)))) := by
  refine SndE.read ?_
  obtain ⟨ta, pa, qa⟩ := ha
  have hb : PE X (.Name (tyName k) p2) (tC (.ty (tyName k))) := by
    cases k <;> exact pe_bltn hgl2 hm2 rfl rfl (by decide) (by decide)
  have hp : PA X [a, .Name (tyName k) p2] (tCons ta (tCons (tC (.ty (tyName k))) tNil)) := pa_cons pa (pa_cons hb pa_nil rfl) (starEach_cons hns)
  refine ⟨_, pe_callB call_isi hgl hm rfl hp (by decide) (by decide) (starEach_cons hns) rfl, fun G0 H0 ρ σ G H Q R h => ?_⟩
  rw [Out.All_bind] at h
  refine qa G0 H0 ρ σ G H _ R (h.mono fun x hx v G1 H1 k1 i1 => ?_)
  rw [Out.All_guard] at hx
  obtain ⟨t, e, ht⟩ := tyv (X := X) k1.gh i1 hx.1
  exact ⟨v, _, _, _, _, rfl, .ty _, ht, kit_ty (kit_isTy e), PostE.now k1.gh k1.tub (PostE.trans hx.2 k1 R.tub) (.bl _)⟩
/-! ### sum -/
def rSumT (K : PySem.W.Frag) : List V → Hp → VK → Prop := fun vs H Q => ∃ (a : Addr) (ns : List Int), vs = [V.ref a] ∧ (SqL K H a (ns.map V.int) ∨ SqT K H a (ns.map V.int)) ∧ Q (.int ns.sum) H
theorem vals_ints {its : List Value} {ns : List Int} (rv : Vals (ns.map V.int) its) : IntsAre its ns := rv.ints
theorem sum_tup {prog : Program} {w : World} {A : Around} {E : Value → Shared → Prop} {s : Shared} {l : Addr} {its : List Value} {ns : List Int} {Q : Value → Shared → Prop} (hh : A.handled = none) (hl : s.heap.IsTuple l its.toArray) (hi : IntsAre its ns)
    (h : ∀ h' tk t', (∀ b o, s.heap.get? b = some o → h'.get? b = some o) → Q (.int ns.sum t') { s with heap := h', toks := tk }) : wpAny (model prog w) A (call (.builtin "sum") [.ref l]) Q E s := by
  obtain ⟨xs, e⟩ := hi.allInts.items
  have hn : numsOf (intItems xs).toList = ns := by rw [← e]; exact hi.numsOf
  rw [nums_intItems] at hn
  rw [e] at hl
  have hlt : l < s.heap.objs.size := by obtain ⟨_, e, _⟩ := hl; exact Heap.lt_size e
  refine call_sum_walkG (wpAny_pyIter_tuple hl ?_)
  refine ⟨_, _, _, _, _, _, numAt xs, rfl, Walks.tuple (A := A.in1) hh s.heap.objs.size l (Nat.ne_of_lt hlt) (intItems xs), ⟨⟨_, Heap.get?_push_size _ rfl, rfl, rfl⟩, hl.push _⟩, ?_, (fun _ _ => intItems_at), fun h' tk t' hk => ?_⟩
  · intro b hb
    show b < (s.heap.push _).objs.size
    rw [Heap.size_push]
    rcases List.mem_cons.mp hb with rfl | hb
    · exact Nat.lt_succ_self _
    · rcases List.mem_cons.mp hb with rfl | hb
      · exact Nat.lt_succ_of_lt hlt
      · cases hb
  · have := h h' tk t' (fun b o e => hk b o (fun hb => Nat.ne_of_lt (Heap.lt_size e) (List.mem_singleton.mp hb)) (Heap.get?_push_of_some _ e))
    have e2 : (intItems xs).size = xs.size := by simp [intItems]
    rw [e2, preSum_eq, List.take_of_length_le (by simp), hn]
    exact this
theorem cr_sumT (hc : X.calm = true) : CallR X (.builtin "sum") (rSumT X.K) := by
  intro pins s σ H vs us Q I r h
  obtain ⟨a, ns, rfl, hs, q⟩ := h
  rcases hs with hs | hs
  · exact cr_sum hc pins s σ H _ us Q I r ⟨a, ns, rfl, hs, q⟩
  · obtain ⟨its, rv, hl, _⟩ := I.tuple hs
    rw [Vals.ref1 r]
    exact sum_tup (I.ok.hd hc) (show s.heap.IsTuple a its.toArray from hl) rv.ints fun h' tk t' hk => ⟨.int _, H, I.kept hk, ⟨_, rfl⟩, q⟩
theorem oc_sum : OpC T (bltD .sum) (rSumT X.K) := by
  intro G H ds vs Q s t i h
  cases i with
  | nil => exact h.elim
  | cons i1 i2 =>
    cases i2 with
    | cons _ _ => rename_i d _ _ _ _ _ _; cases d <;> exact h.elim
    | nil =>
      rename_i v d
      cases d <;> simp only [bltD] at h <;> try exact h.elim
      all_goals
        rename_i xs
        rw [Out.All_bind, Out.All_ofO] at h
        obtain ⟨ns, e, h⟩ := h
      · obtain ⟨p, ws, rfl, gp, iv⟩ := i1.list s
        obtain ⟨rfl, rfl⟩ := iv.ints e
        exact ⟨p, ns, rfl, .inl (.of gp), PostE.now s t h (.int _)⟩
      · obtain ⟨p, ws, rfl, gp, iv⟩ := i1.tup
        obtain ⟨rfl, rfl⟩ := iv.ints e
        exact ⟨p, ns, rfl, .inr (.of (s _ _ gp)), PostE.now s t h (.int _)⟩
/-! ### sorted -/
theorem paired_each : ∀ {xs : List V} {us : List Value} {ds : List D}, Vals xs us → xs.length = ds.length → PySem.W.EachIs (fun u (b : V × D) => RelV b.1 u) us (xs.zip ds)
  | [], _, ds, r, _ => by cases r; exact .nil
  | x :: xs, _, d :: ds, .cons r rs, h => .cons r (paired_each rs (by simpa using h))
theorem each_reads {h : Heap} : ∀ {xs : List V} {us : List Value} {ds : List D} {as : List Addr}, Vals xs us → xs.length = ds.length → ReadsAll h us ds as → PySem.W.EachIs (fun u (b : V × D) => ∃ as, Reads h u b.2 as) us (xs.zip ds)
  | [], _, ds, _, r, _, _ => by cases r; exact .nil
  | x :: xs, _, d :: ds, _, .cons r rs, h, .cons h1 h2 => .cons ⟨_, h1⟩ (each_reads rs (by simpa using h) h2)
theorem each_vals : ∀ {us : List Value} {bs : List (V × D)}, PySem.W.EachIs (fun u (b : V × D) => RelV b.1 u) us bs → Vals (bs.map (·.1)) us
  | _, _, .nil => .nil
  | _, _, .cons r rs => .cons r (each_vals rs)
theorem insB_at {α : Type} {le : α → α → Bool} {a : α} : ∀ {l1 l2 : List α}, (∀ b ∈ l1, le a b = false) → (∀ b ∈ l2, le a b = true) → insB le a (l1 ++ l2) = l1 ++ a :: l2
  | [], [], _, _ => rfl
  | [], b :: r, _, h => by
    show (if le a b = true then _ else _) = _
    rw [if_pos (h b List.mem_cons_self)]
    rfl
  | b :: r, l2, h1, h2 => by
    show (if le a b = true then _ else b :: insB le a (r ++ l2)) = _
    rw [if_neg (by rw [h1 b List.mem_cons_self]; exact Bool.false_ne_true), insB_at (fun c hc => h1 c (List.mem_cons_of_mem _ hc)) h2]
    rfl
theorem isort_merge {α : Type} {le : α → α → Bool} (tr : ∀ a b c, le a b = true → le b c = true → le a c = true) (tot : ∀ a b, (le a b || le b a) = true) : ∀ xs : List α, isort le xs = xs.mergeSort le
  | [] => by simp [isort]
  | x :: r => by
    obtain ⟨l1, l2, e1, e2, e3⟩ := List.mergeSort_cons tr tot x r
    show insB le x (isort le r) = _
    rw [isort_merge tr tot r, e1, e2]
    have hs := List.pairwise_mergeSort tr tot (x :: r)
    rw [e1] at hs
    refine insB_at (fun b hb => ?_) fun b hb => ?_
    · have := e3 b hb
      simpa using this
    · exact (List.pairwise_cons.mp (List.pairwise_append.mp hs).2.1).1 b hb
theorem dataLe_not (a b : D) : dataLe a b = !PySem.W.dataLt b a := rfl
theorem isort_eq (xs : List D) : isort dataLe xs = xs.mergeSort dataLe := by
  refine isort_merge (fun a b c h1 h2 => ?_) (fun a b => ?_) xs
  · rw [dataLe_not] at h1 h2 ⊢
    cases h : PySem.W.dataLt c a with
    | false => rfl
    | true =>
      rcases (PyProof.Rows.listOrd PyProof.Rows.itemOrd).negTrans _ (PySem.W.keyToks b) _ h with q | q
      · rw [show PySem.W.dataLt c b = true from q] at h2; cases h2
      · rw [show PySem.W.dataLt b a = true from q] at h1; cases h1
  · rw [dataLe_not, dataLe_not]
    cases h : PySem.W.dataLt b a with
    | false => rfl
    | true =>
      cases h' : PySem.W.dataLt a b with
      | false => rfl
      | true =>
        have q := (PyProof.Rows.listOrd PyProof.Rows.itemOrd).trans _ _ _ h h'
        rw [(PyProof.Rows.listOrd PyProof.Rows.itemOrd).irrefl] at q
        cases q
def rSortD (K : PySem.W.Frag) : List V → Hp → VK → Prop := fun vs H Q => ∃ (a : Addr) (xs : List V) (ds : List D), vs = [V.ref a] ∧ SqL K H a xs ∧ xs.length = ds.length ∧ ds.length ≤ lim ∧
  ((ds.length ≤ 1 ∧ ∀ p, H p = none → Q (.ref p) (upd H p (.lst xs))) ∨
   (DpAll K H xs ds ∧ PySem.W.AllAlike ds ∧ PySem.W.Sortable ds ∧ (∀ d ∈ ds, d.depth ≤ 64) ∧ ∀ p, H p = none → Q (.ref p) (upd H p (.lst (((xs.zip ds).mergeSort (PySem.W.dataLe false (·.2))).map (·.1))))))
theorem cr_sortD {n : Nat} (hr : Room n X.A) : CallR X (.builtin "sorted") (rSortD X.K) := by
  intro pins s σ H vs us Q I r h
  obtain ⟨a, xs, ds, rfl, hs, hl, hz, h⟩ := h
  obtain ⟨its, rv, hl2, hz2⟩ := I.list hs
  rw [Vals.ref1 r]
  have hsz := rv.length
  have done : ∀ {ys : List V} {out : List Value}, Vals ys out → out.length = its.length → Q (.ref (s.heap.objs.size + 1)) (upd H (s.heap.objs.size + 1) (.lst ys)) → EP X pins σ Q (.ref (s.heap.objs.size + 1)) { s with heap := PyProof.Rows.sortedAll s.heap its out.toArray } := fun {ys out} rv2 lo q => by
    obtain ⟨k, hk⟩ := PyProof.Rows.sortedAll_at s.heap its out.toArray
    refine ⟨.ref (s.heap.objs.size + 1), _, I.laid (t' := s.toks) (o := .lst ys) (fun b o e => PyProof.Rows.sortedAll_old e) (Nat.le_succ _) ⟨?_, out, k, rv2, hk⟩, rfl, q⟩
    have e1 := rv2.length
    have : lim ≤ sizeLine := lim_le
    omega
  rcases h with ⟨h1, q⟩ | ⟨hd, hal, hk, h64, q⟩
  · refine Srt.sorted_any hl2.isList (by have : lim ≤ sizeLine := lim_le; omega) (fun h2 => absurd h2 (by omega)) fun out ho => ?_
    have : out = its := by
      cases its with
      | nil => exact ho.eq_nil
      | cons x r =>
        cases r with
        | nil => exact List.perm_singleton.mp ho
        | cons y z => simp at hsz; omega
    subst this
    exact done rv rfl (q _ (I.hok.fresh (Nat.le_succ _)))
  · obtain ⟨as, hr2⟩ := Dp.readsAll I ds xs its hd rv
    have e2 : (xs.zip ds).map (·.2) = ds := List.map_snd_zip (by omega)
    have hu := hr.un
    refine PySem.W.sorted_data (β := V × D) (bs := xs.zip ds) (enc := (·.2)) hl2.isList (paired_each rv hl) (each_reads rv hl hr2) (by rw [e2]; exact hal) (by rw [e2]; exact hk) ?_ (fun b hb => ?_) fun out ho hq => ?_
    · have : lim ≤ sizeLine := lim_le
      simp; omega
    · have := h64 b.2 (List.of_mem_zip hb).2
      omega
    · refine done (each_vals hq) (by rw [ho]; simp; omega) (q _ (I.hok.fresh (Nat.le_succ _)))
theorem zip_is {G : Hp} : ∀ {xs : List V} {ds : List D}, IsAll T G xs ds → ∀ b ∈ xs.zip ds, Is T G b.1 b.2
  | _, _, .nil, b, hb => by cases hb
  | _, _, .cons h t, b, hb => by
    rw [List.zip_cons_cons, List.mem_cons] at hb
    rcases hb with rfl | hb
    · exact h
    · exact zip_is t b hb
theorem isAll_maps {G : Hp} : ∀ {zs : List (V × D)}, (∀ b ∈ zs, Is T G b.1 b.2) → IsAll T G (zs.map (·.1)) (zs.map (·.2))
  | [], _ => .nil
  | z :: zs, h => .cons (h z List.mem_cons_self) (isAll_maps fun b hb => h b (List.mem_cons_of_mem _ hb))
theorem dataLe_snd (b c : V × D) : PySem.W.dataLe false (fun z : V × D => z.2) b c = dataLe b.2 c.2 := rfl
theorem one_sorted (xs : List D) (h : xs.length ≤ 1) : xs.mergeSort dataLe = xs := by
  cases xs with
  | nil => simp
  | cons x r =>
    cases r with
    | nil => simp
    | cons y z => simp at h
theorem oc_sorted {X : Cx} : OpCF T (bltD .sorted) (rSortD X.K) := by
  intro G H ds vs Q s t i h
  cases i with
  | nil => exact h.elim
  | cons i1 i2 =>
    cases i2 with
    | cons _ _ => rename_i d _ _ _ _ _ _; cases d <;> exact h.elim
    | nil =>
      rename_i v d
      cases d <;> simp only [bltD] at h <;> try exact h.elim
      rename_i xs
      unfold sortD at h
      rw [Out.All_guard, isort_eq] at h
      obtain ⟨ho, h⟩ := h
      obtain ⟨p, ws, rfl, gp, iv⟩ := i1.list s
      unfold sortOk at ho
      simp only [Bool.and_eq_true, decide_eq_true_eq, Bool.or_eq_true] at ho
      obtain ⟨l1, lay, l2, l3, l4⟩ := ho
      refine ⟨p, ws, xs, rfl, .of gp, iv.length, l1, ?_⟩
      rcases l4 with l4 | l4
      · rw [one_sorted xs l4] at h
        exact .inl ⟨l4, fun p' hp => PostF.laid s t h hp iv⟩
      · have hal : PySem.W.AllAlike xs := fun d hd e he => List.all_eq_true.mp (List.all_eq_true.mp l2 d hd) e he
        refine .inr ⟨iv.dp s _ _ lay, hal, ?_, fun d hd => of_decide_eq_true (List.all_eq_true.mp l3 d hd), fun p' hp => PostF.laid s t h hp ?_⟩
        · rcases l4 with l4 | l4
          · refine .inl fun d hd => ?_
            have := List.all_eq_true.mp l4 d hd
            cases d <;> try exact absurd this Bool.false_ne_true
            rename_i ys
            cases ys with
            | nil => exact absurd this Bool.false_ne_true
            | cons => exact ⟨_, _, rfl⟩
          · refine .inr fun d hd => ?_
            have := List.all_eq_true.mp l4 d hd
            cases d <;> first | exact absurd this Bool.false_ne_true | exact ⟨by simp, by simp⟩
        · have e2 : (ws.zip xs).map (·.2) = xs := List.map_snd_zip (by rw [iv.length]; exact Nat.le_refl _)
          have e3 : (((ws.zip xs).mergeSort (PySem.W.dataLe false (·.2))).map (·.2)) = xs.mergeSort dataLe := by
            rw [List.map_mergeSort (s := dataLe) (fun a _ b _ => dataLe_snd a b), e2]
          rw [← e3]
          exact isAll_maps fun b hb => zip_is iv b ((List.mergeSort_perm _ _).mem_iff.mp hb)
end
end Ev

set_option Elab.async false
set_option linter.all false
set_option autoImplicit false
set_option maxRecDepth 100000
set_option maxHeartbeats 2000000
namespace Ev
open PySem L2
open Sem (wp)
open AutoSeq1 (wpAny_loadPart')
open PyProof.Rows (boot_enumerate Call_)
/-! ### enumerate(tuple) -/
theorem meets_enumT (l : Addr) (items : Array Value) (n : Nat) (dct : Option Addr) (sl : Array (Option Value)) :
    Meets (Builtin.«enumerate.__new__» ⟨[.type "enumerate", .ref l], []⟩) (fun _ R s => s.heap.get? l = some { cls := .type "tuple", dict := dct, data := .seq items n, slots := sl } ∧
      R (.ok (.ret (.ref (s.heap.push { cls := .type "tuple_iterator", data := .fields #[.ref l, .int 0 0] }).objs.size)))
        { s with heap := (s.heap.push { cls := .type "tuple_iterator", data := .fields #[.ref l, .int 0 0] }).push { cls := .type "enumerate", data := .fields #[.none, .bool false, .ref s.heap.objs.size, rawInt 0, .none, .none] } }) :=
  .of_wp fun prog w A R s h => by
    obtain ⟨hp, g, d, tk, os⟩ := s
    obtain ⟨hl, h⟩ := h
    have hsub := sub_enumerate
    have hL : Heap.IsTuple (Shared.heap ⟨hp, g, d, tk, os⟩) l items := ⟨_, hl, rfl, n, rfl⟩
    wp_walk using wpAny_loadPart' hl
    refine wpAny_stack_any fun st => wpAny_pure ?_
    split
    · rename_i c _ _ _ _ _
      cases (c == Value.type "enumerate")
      · wp_walk using wpAny_loadPart' hl, wpAny_pyIter_tuple hL
        exact ⟨_, rfl, h⟩
      · wp_walk using wpAny_loadPart' hl, wpAny_pyIter_tuple hL
        exact ⟨_, rfl, h⟩
    · wp_walk using wpAny_loadPart' hl, wpAny_pyIter_tuple hL
      exact ⟨_, rfl, h⟩
section
variable {prog : Program} {w : World} {A : Around} {E : Value → Shared → Prop} {s : Shared}
theorem call_enumT {l : Addr} {items : Array Value} {Q : Value → Shared → Prop} (hL : s.heap.IsTuple l items)
    (h : ∀ h', IsEnum h' (s.heap.objs.size + 1) s.heap.objs.size 0 .none → h'.IsTupleIter s.heap.objs.size l 0 →
      (∀ b o, s.heap.get? b = some o → h'.get? b = some o) → Q (.ref (s.heap.objs.size + 1)) { s with heap := h' }) :
    wpAny (model prog w) A (call (.type "enumerate") [.ref l]) Q E s := by
  obtain ⟨⟨c, dct, dt, sl⟩, hl, hc, n, hd⟩ := hL
  replace hc : c = .type "tuple" := hc
  replace hd : dt = .seq items n := hd
  subst hc hd
  refine callType_new F.called_enumerate (by decide) (F.typeCall_enumerate_1 _) (F.newCall_enumerate_1 _) (fun obj => F.args_object_init_2 obj _) F.entry_enumerate_new
    (meets_enumT l items n dct sl) ⟨hl, ?_⟩
  have hz : (s.heap.push { cls := .type "tuple_iterator", data := .fields #[.ref l, .int 0 0] }).objs.size = s.heap.objs.size + 1 := Heap.size_push ..
  show _ ∧ _
  rw [hz]
  have he : IsEnum ((s.heap.push { cls := .type "tuple_iterator", data := .fields #[.ref l, .int 0 0] }).push
      { cls := .type "enumerate", data := .fields #[.none, .bool false, .ref s.heap.objs.size, rawInt 0, .none, .none] }) (s.heap.objs.size + 1) s.heap.objs.size 0 .none := by
    have := Heap.get?_push_size (s.heap.push { cls := .type "tuple_iterator", data := .fields #[.ref l, .int 0 0] })
      (o := { cls := .type "enumerate", data := .fields #[.none, .bool false, .ref s.heap.objs.size, rawInt 0, .none, .none] }) rfl
    rw [hz] at this
    exact this
  exact ⟨⟨_, he, rfl⟩, h _ he ⟨_, Heap.get?_push_of_some _ (Heap.get?_push_size _ rfl), rfl, rfl⟩ fun b o x => Heap.get?_push_of_some _ (Heap.get?_push_of_some _ x)⟩
end
def IteT (K : PySem.W.Frag) (a : Addr) : It :=
  ⟨fun i H => ∃ (xs : List V) (x : V), SqT K H a xs ∧ xs[i]? = some x, fun i H v H' => ∃ T x, v = .ref T ∧ H T = none ∧ H' = upd H T (.tup [.int (i : Nat), x]) ∧ ∀ xs, SqT K H a xs → xs[i]? = some x, fun i H => ∃ xs : List V, SqT K H a xs ∧ xs.length ≤ i⟩
theorem turn_enumT {P : Program} {w : World} {K : PySem.W.Frag} {elts : List Expr} {kk : Nat} {tpos : Pos} (a e it : Addr) :
    Turn P w K (.Tuple elts kk tpos) (IteT K a) [e, it] e (fun i h => (∃ old, IsEnum h e it ((i : Nat) : Int) old) ∧ h.IsTupleIter it a i ∧ e ≠ it ∧ a ≠ it ∧ e ≠ a) where
  mem := by simp
  obj := fun i h st b hb => by
    obtain ⟨⟨old, he⟩, ⟨o, ho, hc, hd⟩, _⟩ := st
    have e' : b = e ∨ b = it := by simpa using hb
    rcases e' with z | z
    · rw [z]; exact ⟨_, he, fun v q => nomatch q⟩
    · rw [z]; exact ⟨o, ho, fun v q => by rw [hd] at q; cases q⟩
  keep := fun i h h' st k => let ⟨⟨old, he⟩, hi, hne⟩ := st; ⟨⟨old, k e (by simp) _ he⟩, hi.at fun o q => k it (by simp) o q, hne⟩
  item := by
    intro X hP hw hK hc i pins s σ H E I hf st hg
    subst hP hw hK
    obtain ⟨⟨old, he⟩, hit, hne, hai, hea⟩ := st
    obtain ⟨xs, x, hq, hx⟩ := hg
    obtain ⟨its, rv, p, hz⟩ := I.tuple hq
    obtain ⟨u, hu, ru⟩ := rv.get hx
    have hel : e < s.heap.objs.size := Heap.lt_size he
    have hil : it < s.heap.objs.size := by obtain ⟨_, q, _⟩ := hit; exact Heap.lt_size q
    have hIT : s.heap.IsTuple a its.toArray := p
    have hlt : i < its.toArray.size := by
      have := (List.getElem?_eq_some_iff.mp hu).1
      simpa using this
    refine wpAny_pyNext_enum_itemD (Draws.tuple (A := X.A.in1) (I.ok.hd hc) it a hai its.toArray) he ⟨hit, hIT⟩ hlt hne (by simp [hne, hea]) fun x' h' tk hP ho hs' hT hsz hk => ?_
    have ex : x' = u := by
      have e1 : its.toArray[i]? = some u := by simpa using hu
      rw [e1] at hP
      cases hP
      rfl
    subst ex
    obtain ⟨hit', _⟩ := hs'
    refine ⟨_, rfl, wpAny_letOwnedTupleGo_enum (s := { s with heap := h', toks := tk + 1 }) ho fun h'' he' sb => ?_⟩
    have hT2 : h''.get? s.heap.objs.size = some { cls := .type "tuple", data := .seq #[.int i tk, x'] } := (sb.2 _ (Nat.ne_of_gt hel)).trans hT
    have new : ObjOk X.prog X.w (upd H s.heap.objs.size (.tup [.int (i : Nat), x])) h'' s.heap.objs.size (.tup [.int (i : Nat), x]) :=
      ⟨by show 2 ≤ sizeLine; decide, [.int i tk, x'], .cons ⟨_, rfl⟩ (.cons ru .nil), ⟨_, hT2, rfl, _, rfl⟩⟩
    have I1 : Inv X pins σ (upd H s.heap.objs.size (.tup [.int (i : Nat), x])) { s with heap := h'', toks := tk + 1 } :=
      I.turnedNew (ch := [e, it]) (fun b ob hb q => (sb.2 b (fun z => hb (by simp [z]))).trans (hk b ob (fun z => hb (by simp [z])) (fun z => hb (by simp [z])) q)) hf (Nat.le_refl _) new
    refine ⟨.ref s.heap.objs.size, _, I1, rfl, ⟨_, x, rfl, I.hok.fresh (Nat.le_refl _), rfl, fun ys hy => ?_⟩, ⟨⟨x', ?_⟩, hit'.at fun o q => (sb.2 it (Ne.symm hne)).trans q, hne, hai, hea⟩, fun b hb => ?_⟩
    · rw [I.tuple_inj hy hq]; exact hx
    · have e1 : ((i + 1 : Nat) : Int) = (i : Int) + 1 := by omega
      rw [e1]; exact he'
    · have hb' : b < s.heap.objs.size := by
        have e' : b = e ∨ b = it := by simpa using hb
        rcases e' with z | z
        · rw [z]; exact hel
        · rw [z]; exact hil
      rw [upd_ne (Nat.ne_of_lt hb')]
      exact (hf b hb).1
  done := by
    intro X hP hw hK hc i pins s σ H E I hf st hg
    subst hP hw hK
    obtain ⟨⟨old, he⟩, hit, hne, hai, hea⟩ := st
    obtain ⟨xs, hq, hx⟩ := hg
    obtain ⟨its, rv, p, hz⟩ := I.tuple hq
    obtain ⟨f0, f1, f2, f3, f4, f5⟩ := hf it (by simp)
    have hl := rv.length
    have hIT : s.heap.IsTuple a its.toArray := p
    have hT : s.TypeIs (.ref e) "enumerate" := ⟨_, he, rfl⟩
    unfold pyNext
    refine wpAny_bind (wpAny_attempt (wpAny_callSpecial?_slot (name := Str.ofString "__next__") hT F.slot_enumerate_next
      (wpAny_call_entry F.slot_enumerate_next hT F.entry_enumerate_next ?_ (F.args_enumerate_next_1 _))))
    show wpAny _ _ (field (.ref e) 2 >>= _) _ _ _
    refine wpAny_bind (wpAny_field he rfl (x := .ref it) rfl ?_)
    refine wpAny_bind (wpAny_nextOf_tuple_end (I.ok.hd hc) hit hIT (by simp; omega) fun h' x he' hx' => ?_)
    obtain ⟨o, ho, hc'⟩ := hx'
    refine wpAny_bind (wpAny_isInstance (T := "StopIteration") (b := true) ⟨o, ho, hc'⟩ isSubtype_stop ?_)
    exact wpAny_pure ⟨rfl, I.turned (t' := s.toks) (fun b o hb q => he' b o hb q) f0 f1 f3 f4 f5⟩
  self := fun A i s Q E st h => let ⟨⟨_, he⟩, _⟩ := st; wpAny_pyIter_enum he h
theorem walk_enumT {K : PySem.W.Frag} {a : Addr} {xs : List V} : Walk (IteT K a) xs.length (fun H => SqT K H a xs) (YPair (fun i => some (.int (i : Nat))) (fun i => xs[i]?)) := by
  refine ⟨fun i _ hi q => ⟨xs, xs[i], q, by simp [hi]⟩, fun _ q => ⟨xs, q, Nat.le_refl _⟩, fun i H v H' _ q y => ?_⟩
  obtain ⟨T, x, h1, h2, h3, h4⟩ := y
  exact ⟨T, .int (i : Nat), x, h1, h2, h3, rfl, h4 xs q⟩
def iEnumD (K : PySem.W.Frag) (ta : TA) : TI := fun σ H R => ta σ H fun vs H1 => ∃ a xs, vs = [.ref a] ∧ ((SqL K H1 a xs ∧ R (Ite K a) H1) ∨ (SqT K H1 a xs ∧ R (IteT K a) H1))
theorem pi_enumD {X : Cx} {e : Expr} {ta : TA} {p pos tpos : Pos} {elts : List Expr} {kk : Nat} (hg : Gl X "enumerate") (hm : X.mg "enumerate" = none) (ha : PA X [e] ta) (hs : starEach [e] X.env = [(false, eval e X.env)]) :
    PI X (.Tuple elts kk tpos) (.Call (.Name "enumerate" p) [e] [] pos) (iEnumD X.K ta) := by
  refine ⟨fun pins s σ H R I h => ?_⟩
  refine Call_ (ld_blt I hg hm boot_enumerate (PyProof.Rows.callWith_type1 (thn (ha.run pos pins s σ H _ I h) fun us s1 ⟨vs, H1, I1, r1, q1⟩ => ?_) hs rfl))
  obtain ⟨a, xs, ex, q1⟩ := q1
  subst ex
  cases r1 with
  | cons r rr =>
    cases rr
    cases r
    have fp : ∀ b, b ∈ [s1.heap.objs.size + 1, s1.heap.objs.size] → FpOk X pins H1 b := fun b hb => by
      have e' : b = s1.heap.objs.size + 1 ∨ b = s1.heap.objs.size := by simpa using hb
      have hle : s1.heap.objs.size ≤ b := by
        rcases e' with z | z
        · rw [z]; exact Nat.le_add_right _ _
        · rw [z]; exact Nat.le_refl _
      exact I1.fpOk hle (I1.hok.fresh hle)
    rcases q1 with ⟨hq, q⟩ | ⟨hq, q⟩
    · obtain ⟨its, rv, p', hz⟩ := I1.list hq
      refine call_enumerate_list p'.isList fun h' he hit hsz hk => wpAny_pyIter_enum he ?_
      have I2 : Inv X pins σ H1 { s1 with heap := h' } := I1.kept (t' := s1.toks) hk
      exact ⟨s1.heap.objs.size + 1, [s1.heap.objs.size + 1, s1.heap.objs.size], _, _, H1, rfl, I2, turn_enum a (s1.heap.objs.size + 1) s1.heap.objs.size, ⟨⟨.none, he⟩, hit, Nat.succ_ne_self _⟩, fp, q⟩
    · obtain ⟨its, rv, p', hz⟩ := I1.tuple hq
      have hT : s1.heap.IsTuple a its.toArray := p'
      have hlt : a < s1.heap.objs.size := by obtain ⟨_, e, _⟩ := hT; exact Heap.lt_size e
      refine call_enumT hT fun h' he hit hk => wpAny_pyIter_enum he ?_
      have I2 : Inv X pins σ H1 { s1 with heap := h' } := I1.kept (t' := s1.toks) hk
      exact ⟨s1.heap.objs.size + 1, [s1.heap.objs.size + 1, s1.heap.objs.size], _, _, H1, rfl, I2, turn_enumT a (s1.heap.objs.size + 1) s1.heap.objs.size, ⟨⟨.none, he⟩, hit, Nat.succ_ne_self _, Nat.ne_of_lt hlt, Nat.ne_of_gt (Nat.lt_succ_of_lt hlt)⟩, fp, q⟩
theorem enumL_length : ∀ (xs : List D) (k : Int), (enumL k xs).length = xs.length
  | [], _ => rfl
  | x :: r, k => by simp [enumL, enumL_length r]
theorem enumL_get : ∀ (xs : List D) (k : Int) (i : Nat) (d : D), xs[i]? = some d → (enumL k xs)[i]? = some (.tuple [.int (k + i), d])
  | [], _, _, _, h => by simp at h
  | x :: r, k, 0, d, h => by simp at h; simp [enumL, h]
  | x :: r, k, i + 1, d, h => by
    have := enumL_get r (k + 1) i d (by simpa using h)
    simp only [enumL, List.getElem?_cons_succ]
    rw [this]
    congr 3
    simp
    omega
theorem zipL_length : ∀ (xs ys : List D), (zipL xs ys).length = min xs.length ys.length
  | [], ys => by simp [zipL]
  | x :: r, [] => by simp [zipL]
  | x :: r, y :: q => by simp [zipL, zipL_length r q]
theorem zipL_get : ∀ (xs ys : List D) (i : Nat) (d e : D), xs[i]? = some d → ys[i]? = some e → (zipL xs ys)[i]? = some (.tuple [d, e])
  | [], _, _, _, _, h, _ => by simp at h
  | _ :: _, [], _, _, _, _, h => by simp at h
  | x :: r, y :: q, 0, d, e, h, h' => by simp at h h'; simp [zipL, h, h']
  | x :: r, y :: q, i + 1, d, e, h, h' => by
    simp only [zipL, List.getElem?_cons_succ]
    exact zipL_get r q i d e (by simpa using h) (by simpa using h')
section
variable {X : Cx} {T : Ap} {r : Bool} {a b : Expr} {pos p tpos : Pos} {fa fb : Ro → Out D} {elts : List Expr} {kk : Nat}
theorem pair_step {T : Ap} {G2 H H' : Hp} {t : Addr} {v u : V} {d e : D} (s2 : Sub G2 H) (tb : TubOk T H) (hT : H t = none) (hH : H' = upd H t (.tup [v, u])) (iv : Is T G2 v d) (iu : Is T G2 u e) : ∃ G3, Stp T G2 H G3 H' ∧ Is T G3 (.ref t) (.tuple [d, e]) := by
  subst hH
  have k := Stp.laid (o := .tup [v, u]) s2 tb hT
  exact ⟨_, k, .tup upd_same (.cons (Is.mono k.gs _ _ iv) (.cons (Is.mono k.gs _ _ iu) .nil))⟩
theorem walkOf_enum {K : PySem.W.Frag} {G1 H1 : Hp} {a : Addr} {vs : List V} {xs : List D} (h : H1 a = some (.lst vs)) (i : IsAll T G1 vs xs) : WalkOf T G1 H1 (Ite K a) (enumL 0 xs) (fun H => SqL K H a vs) (YPair (fun i => some (.int (i : Nat))) (fun i => vs[i]?)) := by
  refine ⟨by rw [enumL_length, ← i.length]; exact walk_enum, .of h, fun j H x H' G2 hj hG y s1 s2 t => ?_⟩
  obtain ⟨t0, x0, y0, rfl, hT, hH, e1, e2⟩ := y
  cases e1
  obtain ⟨d, e, hd⟩ := i.get' e2
  obtain ⟨G3, k, hi⟩ := pair_step s2 t hT hH (.int j) (Is.mono s1 _ _ hd)
  exact ⟨G3, _, by rw [enumL_get xs 0 j d e, Int.zero_add], k, hi⟩
theorem walkOf_enumF {K : PySem.W.Frag} {G1 H1 : Hp} {a : Addr} {o : Obj} {vs : List V} {xs : List D} (h : H1 a = some (.frz o (.lst vs))) (i : IsAll T G1 vs xs) : WalkOf T G1 H1 (Ite K a) (enumL 0 xs) (fun H => SqL K H a vs) (YPair (fun i => some (.int (i : Nat))) (fun i => vs[i]?)) := by
  refine ⟨by rw [enumL_length, ← i.length]; exact walk_enum, .inl (.inr ⟨o, h⟩), fun j H x H' G2 hj hG y s1 s2 t => ?_⟩
  obtain ⟨t0, x0, y0, rfl, hT, hH, e1, e2⟩ := y
  cases e1
  obtain ⟨d, e, hd⟩ := i.get' e2
  obtain ⟨G3, k, hi⟩ := pair_step s2 t hT hH (.int j) (Is.mono s1 _ _ hd)
  exact ⟨G3, _, by rw [enumL_get xs 0 j d e, Int.zero_add], k, hi⟩
theorem walkOf_enumT {K : PySem.W.Frag} {G1 H1 : Hp} {a : Addr} {vs : List V} {xs : List D} (h : H1 a = some (.tup vs)) (i : IsAll T G1 vs xs) : WalkOf T G1 H1 (IteT K a) (enumL 0 xs) (fun H => SqT K H a vs) (YPair (fun i => some (.int (i : Nat))) (fun i => vs[i]?)) := by
  refine ⟨by rw [enumL_length, ← i.length]; exact walk_enumT, .of h, fun j H x H' G2 hj hG y s1 s2 t => ?_⟩
  obtain ⟨t0, x0, y0, rfl, hT, hH, e1, e2⟩ := y
  cases e1
  obtain ⟨d, e, hd⟩ := i.get' e2
  obtain ⟨G3, k, hi⟩ := pair_step s2 t hT hH (.int j) (Is.mono s1 _ _ hd)
  exact ⟨G3, _, by rw [enumL_get xs 0 j d e, Int.zero_add], k, hi⟩
/-- a list in hand stays as long as it is looked at -/
theorem IsR.listS {G0 H0 G H : Hp} {ρ : Ro} {σ : Sg} {v : V} {xs : List D} (R : Rep T G0 H0 ρ σ G H) (h : IsR r T G H v (.list xs)) : ∃ a vs, v = V.ref a ∧ H a = some (.lst vs) ∧ IsAll T G vs xs ∧ ∀ K, Stb r T G H (fun H => SqL K H a vs) := by
  rcases h with h | ⟨hr, a, vs, ys, e1, e2, hT, e3, h⟩
  · cases h with
    | lst e h =>
      refine ⟨_, _, rfl, R.sub _ _ e, h, fun K => ?_⟩
      cases r with
      | true => exact fun H' hk => .of (hk _ _ (fun z => by rw [R.tg.1 _ (.inl z)] at e; cases e) (nt_of rfl) (R.sub _ _ e))
      | false => exact fun H' s => .of (s _ _ e)
  · cases e1
    subst hr
    exact ⟨a, vs, e2, e3, h, fun K H' hk => .of (hk _ _ hT (nt_of rfl) e3)⟩
theorem IsR.tupS {G0 H0 G H : Hp} {ρ : Ro} {σ : Sg} {v : V} {xs : List D} (R : Rep T G0 H0 ρ σ G H) (h : IsR r T G H v (.tuple xs)) : ∃ a vs, v = V.ref a ∧ H a = some (.tup vs) ∧ IsAll T G vs xs ∧ ∀ K, Stb r T G H (fun H => SqT K H a vs) := by
  obtain ⟨a, vs, rfl, e, h⟩ := h.tup
  refine ⟨_, _, rfl, R.sub _ _ e, h, fun K => ?_⟩
  cases r with
  | true => exact fun H' hk => .of (hk _ _ (fun z => by rw [R.tg.1 _ (.inl z)] at e; cases e) (nt_of rfl) (R.sub _ _ e))
  | false => exact fun H' s => .of (s _ _ e)
theorem si_enum (hg : Gl X "enumerate") (hm : X.mg "enumerate" = none) (ha : SndE X T r a fa) (hs : starEach [a] X.env = [(false, eval a X.env)]) :
    SndI X T r (.Tuple elts kk tpos) (.Call (.Name "enumerate" p) [a] [] pos) (fun ρ => (fa ρ).bind fun x => (itemsD x).bind fun xs => .ret (.list (enumL 0 xs))) := by
  obtain ⟨ta, pa, qa⟩ := ha
  have hp : PA X [a] (tCons ta tNil) := pa_cons pa pa_nil (by rw [hs]; rfl)
  refine ⟨_, pi_enumD hg hm hp hs, fun G0 H0 ρ σ G H R Rp h => ?_⟩
  rw [Out.All_bind] at h
  refine qa G0 H0 ρ σ G H _ Rp (h.mono fun d hd v G1 H1 k i => ?_)
  obtain ⟨xs, ex, hd'⟩ := All_items hd
  obtain ⟨zs, ez, hd2⟩ := hd'
  cases ez
  have R1 := Rp.step k
  cases d <;> simp only [itemsD] at ex <;> try (cases ex; done)
  case list ys =>
    cases ex
    obtain ⟨p', vs, rfl, gp, iv, st⟩ := i.listS R1
    exact ⟨p', vs, rfl, .inl ⟨.of gp, hd2 _ _ _ G1 H1 k (walkOf_enum gp iv) (st _)⟩⟩
  case tuple ys =>
    cases ex
    obtain ⟨p', vs, rfl, gp, iv, st⟩ := i.tupS R1
    exact ⟨p', vs, rfl, .inr ⟨.of gp, hd2 _ _ _ G1 H1 k (walkOf_enumT gp iv) (st _)⟩⟩
  case dict kvs =>
    rcases kvs with _ | ⟨⟨a, b⟩, _ | ⟨c, q⟩⟩ <;> (try (cases ex; done)) <;> cases a <;> (try (cases ex; done)) <;> cases b <;> (try (cases ex; done))
    cases ex
    obtain ⟨a, vs, o, rfl, ga, iv⟩ := i.scr
    refine ⟨a, vs, rfl, .inl ⟨.inl (.inr ⟨o, k.gh _ _ ga⟩), hd2 _ _ _ G1 H1 k (walkOf_enumF (k.gh _ _ ga) iv) ?_⟩⟩
    cases r with
    | true => exact fun H' hk => .inl (.inr ⟨o, hk _ _ (fun z => by rw [R1.tg.1 _ (.inl z)] at ga; cases ga) (nt_of rfl) (k.gh _ _ ga)⟩)
    | false => exact fun H' s => .inl (.inr ⟨o, s _ _ ga⟩)
end
end Ev

set_option Elab.async false
set_option linter.all false
set_option autoImplicit false
set_option maxRecDepth 100000
set_option maxHeartbeats 400000
namespace Ev
open PySem PyProof.Rows L2
/-! ### zip(a list, a tuple) -/
def ItLT (K : PySem.W.Frag) (a b : Addr) : It where
  go := fun i H => ∃ (us ws : List V) (u w : V), SqL K H a us ∧ SqT K H b ws ∧ us[i]? = some u ∧ ws[i]? = some w
  yld := fun i H v H' => ∃ t u w, v = .ref t ∧ H t = none ∧ H' = upd H t (.tup [u, w]) ∧ (∀ us, SqL K H a us → us[i]? = some u) ∧ ∀ ws, SqT K H b ws → ws[i]? = some w
  stop := fun i H => ∃ us ws : List V, SqL K H a us ∧ SqT K H b ws ∧ i = min us.length ws.length
/-- the cells of the zip lie apart -/
structure ApLT (z t o i j a b : Addr) : Prop where
  nd : [z, t, o, i, j].Nodup
  na : a ∉ [z, t, o, i, j]
  nb : b ∉ [z, t, o, i, j]
theorem ApLT.sep {z t o i j a b : Addr} (D : ApLT z t o i j a b) : ZipSep2 z t o i j [i, a] [j, b] := by
  obtain ⟨nd, na, nb⟩ := D
  simp only [List.nodup_cons, List.mem_cons, List.not_mem_nil, or_false, not_or] at nd na nb
  constructor <;> simp <;> grind
abbrev StLT (z t o i j a b : Addr) (k : Nat) (h : Heap) : Prop := IsZip h z t o .none ∧ IsTupOf2 h t (.ref i) (.ref j) ∧ (∃ x y, IsTupOf2 h o x y) ∧ h.IsListIter i a k ∧ h.IsTupleIter j b k
theorem turn_zipLT {P : Program} {w : World} {K : PySem.W.Frag} {elts : List Expr} {kk : Nat} {tpos : Pos} {a b z t o i1 i2 : Addr} (D : ApLT z t o i1 i2 a b) : Turn P w K (.Tuple elts kk tpos) (ItLT K a b) [z, t, o, i1, i2] z (StLT z t o i1 i2 a b) where
  mem := List.mem_cons_self
  obj := fun i h st c hc => by
    obtain ⟨h1, h2, ⟨x, y, h3⟩, ⟨u1, e1, _, d1⟩, ⟨u2, e2, _, d2⟩⟩ := st
    simp only [List.mem_cons, List.not_mem_nil, or_false] at hc
    rcases hc with rfl | rfl | rfl | rfl | rfl
    · exact ⟨_, h1, fun v q => by cases q⟩
    · exact ⟨_, h2, fun v q => by cases q⟩
    · exact ⟨_, h3, fun v q => by cases q⟩
    · exact ⟨u1, e1, fun v q => by rw [q] at d1; cases d1⟩
    · exact ⟨u2, e2, fun v q => by rw [q] at d2; cases d2⟩
  keep := fun i h h' st k => by
    obtain ⟨h1, h2, ⟨x, y, h3⟩, h4, h5⟩ := st
    refine ⟨k _ (by simp) _ h1, k _ (by simp) _ h2, ⟨x, y, k _ (by simp) _ h3⟩, ?_, ?_⟩
    · exact h4.at fun u q => k _ (by simp) u q
    · exact h5.at fun u q => k _ (by simp) u q
  item := by
    intro X hP hw hK hc n pins s σ H E I hf st hg
    subst hP hw hK
    obtain ⟨h1, h2, ⟨x0, y0, h3⟩, h4, h5⟩ := st
    obtain ⟨us, ws, u, v, qu, qw, eu, ew⟩ := hg
    obtain ⟨l1, r1, p1, _⟩ := I.list qu
    obtain ⟨l2, r2, p2, _⟩ := I.tuple qw
    obtain ⟨c, hcu, ru⟩ := r1.get eu
    obtain ⟨d, hdw, rw'⟩ := r2.get ew
    have S := D.sep
    have ne1 : a ≠ i1 := fun e => D.na (by simp [e])
    have ne2 : b ≠ i2 := fun e => D.nb (by simp [e])
    have zlt : z < s.heap.objs.size := Heap.lt_size h1
    refine wpAny_pyNext_zipD2_item S (Draws.list (A := X.A.in1) (I.ok.hd hc) i1 a ne1 l1.toArray) (Draws.tuple (A := X.A.in1) (I.ok.hd hc) i2 b ne2 l2.toArray) h1 h2 h3 ⟨h4, p1.isList⟩ ⟨h5, p2⟩ (by simpa using (List.getElem?_eq_some_iff.mp hcu).1) (by simpa using (List.getElem?_eq_some_iff.mp hdw).1) ?_
    intro y1 y2 h' tk e1 e2 g1 g2 d1 d2 g5 g6 g7
    have e1 : c = y1 := by
      have e1 : l1.toArray[n]? = some y1 := e1
      simp only [List.getElem?_toArray] at e1
      rw [hcu] at e1; exact Option.some.inj e1
    have e2 : d = y2 := by
      have e2 : l2.toArray[n]? = some y2 := e2
      simp only [List.getElem?_toArray] at e2
      rw [hdw] at e2; exact Option.some.inj e2
    subst e1 e2
    refine ⟨_, rfl, wpAny_letOwnedTupleGo_zip (s := { s with heap := h', toks := tk }) g1 fun h2' z2 sb => ?_⟩
    have up : ∀ x o', x ≠ z → h'.get? x = some o' → h2'.get? x = some o' := fun x o' hx e => (sb.2 x hx).trans e
    have hT2 := up _ _ (Nat.ne_of_gt zlt) g5
    have new : ObjOk X.prog X.w (upd H s.heap.objs.size (.tup [u, v])) h2' s.heap.objs.size (.tup [u, v]) := ⟨by show 2 ≤ sizeLine; decide, [c, d], .cons ru (.cons rw' .nil), ⟨_, hT2, rfl, _, rfl⟩⟩
    have I1 : Inv X pins σ (upd H s.heap.objs.size (.tup [u, v])) { s with heap := h2', toks := tk } := I.turnedNew (t' := tk) (ch := [z, t, o, i1, i2]) (fun x o' hb q => up x o' (fun q' => hb (by simp [q'])) (g7 x o' (fun q' => hb (by simp [q'])) (fun q' => hb (by simp [q'])) (fun q' => hb (by simp [q'])) (fun q' => hb (by simp [q'])) q)) hf (Nat.le_refl _) new
    refine ⟨.ref s.heap.objs.size, _, I1, rfl, ⟨_, u, v, rfl, I.hok.fresh (Nat.le_refl _), rfl, fun l hl => ?_, fun l hl => ?_⟩, ⟨z2, up _ _ S.TIz (g7 _ _ S.TIz S.TITO S.TIi1 S.TIi2 h2), ⟨c, d, up _ _ S.TOz g2⟩, ?_, ?_⟩, fun x hx => ?_⟩
    · rw [I.list_inj hl qu]; exact eu
    · rw [I.tuple_inj hl qw]; exact ew
    · exact d1.1.at fun o' q => up _ o' S.zi1.symm q
    · exact d2.1.at fun o' q => up _ o' S.zi2.symm q
    · have hlt : x < s.heap.objs.size := by
        simp only [List.mem_cons, List.not_mem_nil, or_false] at hx
        rcases hx with rfl | rfl | rfl | rfl | rfl
        · exact zlt
        · exact Heap.lt_size h2
        · exact Heap.lt_size h3
        · exact Heap.lt_size h4.choose_spec.1
        · exact Heap.lt_size h5.choose_spec.1
      rw [upd_ne (Nat.ne_of_lt hlt)]
      exact (hf x hx).1
  done := by
    intro X hP hw hK hc n pins s σ H E I hf st hg
    subst hP hw hK
    obtain ⟨h1, h2, ⟨x0, y0, h3⟩, h4, h5⟩ := st
    obtain ⟨us, ws, qu, qw, he⟩ := hg
    obtain ⟨l1, r1, p1, _⟩ := I.list qu
    obtain ⟨l2, r2, p2, _⟩ := I.tuple qw
    have ne1 : a ≠ i1 := fun e => D.na (by simp [e])
    have ne2 : b ≠ i2 := fun e => D.nb (by simp [e])
    have z1 := r1.length
    have z2 := r2.length
    refine wpAny_pyNext_zipD2_end D.sep (Draws.list (A := X.A.in1) (I.ok.hd hc) i1 a ne1 l1.toArray) (Draws.tuple (A := X.A.in1) (I.ok.hd hc) i2 b ne2 l2.toArray) h1 h2 h3 ⟨h4, p1.isList⟩ ⟨h5, p2⟩ (by simp; omega) (by simp; omega) (by simp; omega) fun h' tk g => ?_
    refine ⟨rfl, I.turnedL (t' := tk) (ch := [z, t, o, i1, i2]) (fun x o' hb q => g x o' (fun q' => hb (by simp [q'])) (fun q' => hb (by simp [q'])) (fun q' => hb (by simp [q'])) (fun q' => hb (by simp [q'])) q) hf⟩
  self := fun A i s Q E st h => wpAny_pyIter_zip st.1 h
theorem ap_new (n a b : Addr) (ha : a < n) (hb : b < n) : ApLT (n + 4) (n + 2) (n + 3) n (n + 1) a b := by
  have e : ∀ x : Nat, x < n → ¬ x ∈ ([n + 4, n + 2, n + 3, n, n + 1] : List Nat) := fun x hx h => by
    simp only [List.mem_cons, List.not_mem_nil, or_false] at h
    omega
  refine ⟨?_, e a ha, e b hb⟩
  show ([n + 4, n + 2, n + 3, n, n + 1] : List Nat).Nodup
  simp only [List.nodup_cons, List.mem_cons, List.not_mem_nil, or_false, not_or]
  refine ⟨⟨?_, ?_, ?_, ?_⟩, ⟨?_, ?_, ?_⟩, ⟨?_, ?_⟩, ?_, not_false, List.nodup_nil⟩ <;> omega
abbrev cells5 (n : Addr) : List Addr := [n + 4, n + 2, n + 3, n, n + 1]
theorem cells5_le {n c : Nat} (h : c ∈ cells5 n) : n ≤ c := by
  simp only [cells5, List.mem_cons, List.not_mem_nil, or_false] at h
  omega
/-- zip(a, b): of two lists, of two tuples, of a list and a tuple -/
def iZip3 (K : PySem.W.Frag) (ta : TA) : TI := fun σ H R => ta σ H fun vs H1 => ∃ a b us ws, vs = [.ref a, .ref b] ∧ ((SqL K H1 a us ∧ SqL K H1 b ws ∧ R (Itz K a b) H1) ∨ (SqT K H1 a us ∧ SqT K H1 b ws ∧ R (RZ.ItzT K a b) H1) ∨ (SqL K H1 a us ∧ SqT K H1 b ws ∧ R (ItLT K a b) H1))
theorem pi_zip3 {X : Cx} {e f : Expr} {ta : TA} {p q tpos : Pos} {elts : List Expr} {kk : Nat} (hg : Gl X "zip") (hm : X.mg "zip" = none) (ha : PA X [e, f] ta) (hs : starEach [e, f] X.env = (false, eval e X.env) :: starEach [f] X.env) (hb : (backTo q (starEach [f] X.env)).any (·.1) = false) :
    PI X (.Tuple elts kk tpos) (.Call (.Name "zip" p) [e, f] [] q) (iZip3 X.K ta) := by
  constructor
  intro pins s σ H R I h
  refine Call_ (ld_blt I hg hm PyProof.Rows.boot_zip (PyProof.Rows.callWith_type1 (thn (ha.run q pins s σ H _ I h) fun xs s2 ⟨vs, G, J, rv, hq⟩ => ?_) hs hb))
  obtain ⟨a, b, us, ws, rfl, hq⟩ := hq
  cases rv with
  | cons ra rv =>
    cases ra
    cases rv with
    | cons rb rv =>
      cases rb
      cases rv
      have fr : ∀ c, c ∈ cells5 s2.heap.objs.size → FpOk X pins G c := fun c hc => J.fpOk (cells5_le hc) (J.hok.fresh (cells5_le hc))
      rcases hq with ⟨q1, q2, hR⟩ | ⟨q1, q2, hR⟩ | ⟨q1, q2, hR⟩
      · obtain ⟨l1, r1, p1, _⟩ := J.list q1
        obtain ⟨l2, r2, p2, _⟩ := J.list q2
        refine zip_begins2 (begins_list a l1.toArray) (begins_list b l2.toArray) p1.isList p2.isList fun h' g1 g2 g3 g4 g5 g6 g7 => wpAny_pyIter_zip g1 ?_
        have I2 : Inv X pins σ G { s2 with heap := h' } := J.kept (t' := s2.toks) g7
        exact ⟨s2.heap.objs.size + 4, cells5 s2.heap.objs.size, _, _, G, rfl, I2, turn_zip (PySem.W.ktu_apart s2.heap.objs.size a b p1.lt p2.lt), ⟨g1, g2, ⟨_, _, g3⟩, ⟨_, g4, rfl, rfl⟩, ⟨_, g5, rfl, rfl⟩⟩, fr, hR⟩
      · obtain ⟨l1, r1, p1, _⟩ := J.tuple q1
        obtain ⟨l2, r2, p2, _⟩ := J.tuple q2
        have la : a < s2.heap.objs.size := Heap.lt_size p1.choose_spec.1
        have lb : b < s2.heap.objs.size := Heap.lt_size p2.choose_spec.1
        refine zip_begins2 (begins_tuple a l1.toArray) (begins_tuple b l2.toArray) p1 p2 fun h' g1 g2 g3 g4 g5 g6 g7 => wpAny_pyIter_zip g1 ?_
        have I2 : Inv X pins σ G { s2 with heap := h' } := J.kept (t' := s2.toks) g7
        exact ⟨s2.heap.objs.size + 4, cells5 s2.heap.objs.size, _, _, G, rfl, I2, RZ.turn_zipT (PySem.W.ktu_apart s2.heap.objs.size a b la lb), ⟨g1, g2, ⟨_, _, g3⟩, ⟨_, g4, rfl, rfl⟩, ⟨_, g5, rfl, rfl⟩⟩, fr, hR⟩
      · obtain ⟨l1, r1, p1, _⟩ := J.list q1
        obtain ⟨l2, r2, p2, _⟩ := J.tuple q2
        have la : a < s2.heap.objs.size := p1.lt
        have lb : b < s2.heap.objs.size := Heap.lt_size p2.choose_spec.1
        refine zip_begins2 (begins_list a l1.toArray) (begins_tuple b l2.toArray) p1.isList p2 fun h' g1 g2 g3 g4 g5 g6 g7 => wpAny_pyIter_zip g1 ?_
        have I2 : Inv X pins σ G { s2 with heap := h' } := J.kept (t' := s2.toks) g7
        exact ⟨s2.heap.objs.size + 4, cells5 s2.heap.objs.size, _, _, G, rfl, I2, turn_zipLT (ap_new _ a b la lb), ⟨g1, g2, ⟨_, _, g3⟩, ⟨_, g4, rfl, rfl⟩, ⟨_, g5, rfl, rfl⟩⟩, fr, hR⟩
end Ev

set_option Elab.async false
set_option linter.all false
set_option autoImplicit false
set_option maxRecDepth 100000
set_option maxHeartbeats 2000000
namespace Ev
open PySem L2
/-! ### zip(a, b) -/
section
variable {X : Cx} {T : Ap} {r : Bool} {a b tg : Expr} {fa fb : Ro → Out D} {p pos tpos : Pos} {elts : List Expr} {kk : Nat}
theorem Stb.and {G1 H1 : Hp} {P Q : Hp → Prop} (h : Stb r T G1 H1 P) (k : Stb r T G1 H1 Q) : Stb r T G1 H1 (fun H => P H ∧ Q H) := by
  cases r with
  | true => exact fun H' z => ⟨h H' z, k H' z⟩
  | false => exact fun H' z => ⟨h H' z, k H' z⟩
theorem walk_zipT {K : PySem.W.Frag} {a b : Addr} {xs ys : List V} : Walk (RZ.ItzT K a b) (min xs.length ys.length) (fun H => SqT K H a xs ∧ SqT K H b ys) (YPair (fun i => xs[i]?) (fun i => ys[i]?)) := by
  refine ⟨fun i _ hi q => ?_, fun _ q => ⟨xs, ys, q.1, q.2, by omega⟩, fun i H v H' _ q y => ?_⟩
  · have l1 : i < xs.length := by omega
    have l2 : i < ys.length := by omega
    exact ⟨xs, ys, xs[i], ys[i], q.1, q.2, by simp [l1], by simp [l2]⟩
  · obtain ⟨t0, x, z, e1, e2, e3, e4, e5⟩ := y
    exact ⟨t0, x, z, e1, e2, e3, e4 xs q.1, e5 ys q.2⟩
theorem zip_turn {G1 G2 H H' : Hp} {vs us : List V} {xs ys : List D} {j : Nat} {x : V} (i1 : IsAll T G1 vs xs) (i2 : IsAll T G1 us ys) (y : YPair (fun i => vs[i]?) (fun i => us[i]?) j H x H') (s1 : Sub G1 G2) (s2 : Sub G2 H) (t : TubOk T H) :
    ∃ G3 d, (zipL xs ys)[j]? = some d ∧ Stp T G2 H G3 H' ∧ Is T G3 x d := by
  obtain ⟨t0, x0, y0, rfl, hT, hH, e1, e2⟩ := y
  obtain ⟨d, z1, hd⟩ := i1.get' e1
  obtain ⟨e, z2, he⟩ := i2.get' e2
  obtain ⟨G3, k, hi⟩ := pair_step s2 t hT hH (Is.mono s1 _ _ hd) (Is.mono s1 _ _ he)
  exact ⟨G3, _, zipL_get xs ys j d e z1 z2, k, hi⟩
theorem walkOf_zip {K : PySem.W.Frag} {G1 H1 : Hp} {a b : Addr} {vs us : List V} {xs ys : List D} (h1 : SqL K H1 a vs) (h2 : SqL K H1 b us) (i1 : IsAll T G1 vs xs) (i2 : IsAll T G1 us ys) :
    WalkOf T G1 H1 (Itz K a b) (zipL xs ys) (fun H => SqL K H a vs ∧ SqL K H b us) (YPair (fun i => vs[i]?) (fun i => us[i]?)) := by
  refine ⟨by rw [zipL_length, ← i1.length, ← i2.length]; exact walk_zip rfl, ⟨h1, h2⟩, fun j H x H' G2 hj hG y s1 s2 t => ?_⟩
  obtain ⟨G3, d, e, k, hi⟩ := zip_turn i1 i2 y s1 s2 t
  exact ⟨G3, d, e, k, hi⟩
theorem walkOf_zipT {K : PySem.W.Frag} {G1 H1 : Hp} {a b : Addr} {vs us : List V} {xs ys : List D} (h1 : SqT K H1 a vs) (h2 : SqT K H1 b us) (i1 : IsAll T G1 vs xs) (i2 : IsAll T G1 us ys) :
    WalkOf T G1 H1 (RZ.ItzT K a b) (zipL xs ys) (fun H => SqT K H a vs ∧ SqT K H b us) (YPair (fun i => vs[i]?) (fun i => us[i]?)) := by
  refine ⟨by rw [zipL_length, ← i1.length, ← i2.length]; exact walk_zipT, ⟨h1, h2⟩, fun j H x H' G2 hj hG y s1 s2 t => ?_⟩
  obtain ⟨G3, d, e, k, hi⟩ := zip_turn i1 i2 y s1 s2 t
  exact ⟨G3, d, e, k, hi⟩
theorem walk_zipLT {K : PySem.W.Frag} {a b : Addr} {us ws : List V} : Walk (ItLT K a b) (min us.length ws.length) (fun H => SqL K H a us ∧ SqT K H b ws) (YPair (fun i => us[i]?) (fun i => ws[i]?)) := by
  refine ⟨fun i _ hi q => ?_, fun _ q => ⟨us, ws, q.1, q.2, rfl⟩, fun i H v H' _ q y => ?_⟩
  · exact ⟨us, ws, us[i]'(by omega), ws[i]'(by omega), q.1, q.2, List.getElem?_eq_getElem _, List.getElem?_eq_getElem _⟩
  · obtain ⟨t, x, z, e1, e2, e3, e4, e5⟩ := y
    exact ⟨t, x, z, e1, e2, e3, e4 us q.1, e5 ws q.2⟩
theorem walkOf_zipLT {K : PySem.W.Frag} {G1 H1 : Hp} {a b : Addr} {vs us : List V} {xs ys : List D} (h1 : SqL K H1 a vs) (h2 : SqT K H1 b us) (i1 : IsAll T G1 vs xs) (i2 : IsAll T G1 us ys) :
    WalkOf T G1 H1 (ItLT K a b) (zipL xs ys) (fun H => SqL K H a vs ∧ SqT K H b us) (YPair (fun i => vs[i]?) (fun i => us[i]?)) := by
  refine ⟨by rw [zipL_length, ← i1.length, ← i2.length]; exact walk_zipLT, ⟨h1, h2⟩, fun j H x H' G2 hj hG y s1 s2 t => ?_⟩
  obtain ⟨G3, d, e, k, hi⟩ := zip_turn i1 i2 y s1 s2 t
  exact ⟨G3, d, e, k, hi⟩
theorem si_zip (hg : Gl X "zip") (hm : X.mg "zip" = none) (ha : SndE X T r a fa) (hb : SndE X T r b fb) (hs : starEach [a, b] X.env = (false, eval a X.env) :: starEach [b] X.env) (hs2 : starEach [b] X.env = [(false, eval b X.env)]) :
    SndI X T r (.Tuple elts kk tpos) (.Call (.Name "zip" p) [a, b] [] pos) (fun ρ => (fa ρ).bind fun x => (fb ρ).bind fun y => zipD x y) := by
  obtain ⟨ta, pa, qa⟩ := ha
  obtain ⟨tb, pb, qb⟩ := hb
  have hp : PA X [a, b] (tCons ta (tCons tb tNil)) := pa_cons pa (pa_cons pb pa_nil (by rw [hs2]; rfl)) hs
  refine ⟨_, pi_zip3 hg hm hp hs (by rw [hs2]; rfl), fun G0 H0 ρ σ G H R Rp h => ?_⟩
  rw [Out.All_bind] at h
  refine qa G0 H0 ρ σ G H _ Rp (h.mono fun x hx v G1 H1 k1 i1 => ?_)
  have R1 := Rp.step k1
  rw [Out.All_bind] at hx
  refine qb G0 H0 ρ σ G1 H1 _ R1 (hx.mono fun y hy u G2 H2 k2 i2 => ?_)
  have R2 := R1.step k2
  have i1' := i1.step k2
  have k := k1.trans k2 Rp.tub
  cases x <;> cases y <;> simp only [zipD] at hy <;> try exact hy.elim
  case list.list xs ys =>
    obtain ⟨zs, ez, hd⟩ := hy
    cases ez
    obtain ⟨p1, vs, rfl, g1, v1, s1⟩ := i1'.listS R2
    obtain ⟨p2, us, rfl, g2, v2, s2⟩ := i2.listS R2
    exact ⟨p1, p2, vs, us, rfl, .inl ⟨.of g1, .of g2, hd _ _ _ G2 H2 k (walkOf_zip (.of g1) (.of g2) v1 v2) ((s1 _).and (s2 _))⟩⟩
  case tuple.tuple xs ys =>
    obtain ⟨zs, ez, hd⟩ := hy
    cases ez
    obtain ⟨p1, vs, rfl, g1, v1, s1⟩ := i1'.tupS R2
    obtain ⟨p2, us, rfl, g2, v2, s2⟩ := i2.tupS R2
    exact ⟨p1, p2, vs, us, rfl, .inr (.inl ⟨.of g1, .of g2, hd _ _ _ G2 H2 k (walkOf_zipT (.of g1) (.of g2) v1 v2) ((s1 _).and (s2 _))⟩)⟩
  case list.tuple xs ys =>
    obtain ⟨zs, ez, hd⟩ := hy
    cases ez
    obtain ⟨p1, vs, rfl, g1, v1, s1⟩ := i1'.listS R2
    obtain ⟨p2, us, rfl, g2, v2, s2⟩ := i2.tupS R2
    exact ⟨p1, p2, vs, us, rfl, .inr (.inr ⟨.of g1, .of g2, hd _ _ _ G2 H2 k (walkOf_zipLT (.of g1) (.of g2) v1 v2) ((s1 _).and (s2 _))⟩)⟩
end
end Ev

set_option Elab.async false
set_option linter.all false
set_option autoImplicit false
set_option maxRecDepth 100000
set_option maxHeartbeats 4000000
namespace Ev
open PySem L2

/-! ### what is sound of an expression -/
def onlyL (f : Ro → Out D) : Ro → Out D := fun ρ => (f ρ).bind fun d => match d with
  | .list xs => .ret (.list xs)
  | _ => .bad
theorem All_onlyL {f : Ro → Out D} {ρ : Ro} {P : D → Prop} : (onlyL f ρ).All P ↔ (f ρ).All fun d => ∃ xs, d = .list xs ∧ P (.list xs) := by
  unfold onlyL
  rw [Out.All_bind]
  constructor
  · exact fun h => h.mono fun d hd => by
      cases d <;> first | exact hd.elim | exact ⟨_, rfl, hd⟩
  · exact fun h => h.mono fun d ⟨xs, e, hd⟩ => by subst e; exact hd
def SndW (X : Cx) (T : Ap) (ast : Expr) (f : Ro → Out D) : Prop := ∃ t : TT, PW X ast t ∧ ∀ (G0 H0 : Hp) (ρ : Ro) (σ : Sg) (G H : Hp) (Q : Bool → Hp → Prop), Rep T G0 H0 ρ σ G H → (f ρ).All (PostT T G H Q) → t σ H Q
theorem SndW.t {X : Cx} {T : Ap} {ast : Expr} {f : Ro → Out D} (h : SndW X T ast f) : SndT X T ast f := by
  obtain ⟨t, p, q⟩ := h
  exact ⟨t, p.pt, q⟩
def frE : E → Bool
  | .bin .add _ _ => true
  | .bin .mul _ _ => true
  | .lst _ => true
  | .rev _ => true
  | .blt .list _ => true
  | .blt .sorted _ => true
  | .lc .. => true
  | .lc2 .. => true
  | .dsort _ => true
  | .lrng _ _ => true
  | _ => false
structure SE (X : Cx) (T : Ap) (Γ : Env) (E : E) (x : Expr) : Prop where
  e : ∀ r, SndE X T r x (ev Γ r E)
  t : SndT X T x (tst (ev Γ true E))
  f : frE E = true → SndF X T x (onlyL (ev Γ false E))
  w : ∀ op ys p, x = .BoolOp op ys p → SndW X T x (tst (ev Γ true E))
def plainT : Expr → Bool
  | .UnaryOp .Not _ _ => false
  | .BoolOp .. => false
  | .IfExp .. => false
  | .Compare .. => false
  | _ => true
theorem plainT_is {x : Expr} {env : PySem.Env} (h : plainT x = true) (whole : Sem Value) : isTrue x env whole = (do let v ← whole; standAt x.pos; holding [v] (truthy v)) := by
  cases x <;> first | rfl | (simp only [plainT] at h; done) | skip
  case UnaryOp op a p => cases op <;> first | rfl | (simp only [plainT] at h; cases h)
  all_goals (simp only [plainT] at h; cases h)
theorem SE.plain {X : Cx} {T : Ap} {Γ : Env} {E : E} {x : Expr} (h : ∀ r, SndE X T r x (ev Γ r E)) (hp : plainT x = true) (hf : frE E = true → SndF X T x (onlyL (ev Γ false E))) : SE X T Γ E x :=
  ⟨h, snd_test (h true) (fun whole => plainT_is hp whole), hf, fun op ys p e => by subst e; simp only [plainT] at hp; cases hp⟩

/-! ### comparisons -/
def SndC (X : Cx) (T : Ap) (op : CmpOp) (a b : Expr) (f : Ro → Out D) : Prop :=
  ∃ t : TE, PC X op a b t ∧ ∀ (G0 H0 : Hp) (ρ : Ro) (σ : Sg) (G H : Hp) (Q : VK), Rep T G0 H0 ρ σ G H → (f ρ).All (PostE false T G H Q) → t σ H Q
section
variable {X : Cx} {T : Ap} {r : Bool} {a b : Expr} {pos : Pos} {f g fa fb : Ro → Out D} {op : CmpOp}
theorem SndC.e (h : SndC X T op a b f) (hm : behindInMarks op b = false) : SndE X T r (.Compare a [op] [b] pos) f := by
  obtain ⟨t, p, q⟩ := h
  exact SndE.read ⟨t, pe_cmp p hm, q⟩
theorem SndC.t (h : SndC X T op a b f) (hm : behindInMarks op b = false) : SndT X T (.Compare a [op] [b] pos) (tst f) := by
  obtain ⟨t, p, q⟩ := h
  refine ⟨_, pt_cmp p hm, fun G0 H0 ρ σ G H Q R h => ?_⟩
  rw [All_tst] at h
  refine q G0 H0 ρ σ G H _ R (h.mono fun d ⟨bb, e, hd⟩ v G1 H1 k1 i1 => ?_)
  subst e
  exact ⟨bb, i1.bool, hd bb G1 H1 rfl k1⟩
theorem SndC.weaken (h : SndC X T op a b f) (w : ∀ (ρ : Ro) (P : D → Prop), (g ρ).All P → (f ρ).All P) : SndC X T op a b g := by
  obtain ⟨t, p, q⟩ := h
  exact ⟨t, p, fun G0 H0 ρ σ G H Q R h => q G0 H0 ρ σ G H Q R (w ρ _ h)⟩
theorem pc_op2 {q : R2} {ta tb : TE} (ho : OpR X (compareOp op) q) (pa : PE X a ta) (pb : PE X b tb) : PC X op a b (tOp q ta tb) := ⟨fun pins s σ H Q I h =>
  thn (pa.run pins s σ H _ I h) fun v s1 ⟨x, H1, I1, r1, q1⟩ => thn (pb.run pins s1 σ H1 _ I1 q1) fun u s2 ⟨y, H2, I2, r2, q2⟩ => ho pins s2 σ H2 x y v u Q I2 r1 r2 q2⟩
theorem sc_op2 {g : D → D → Out D} {q : R2} (ho : OpR X (compareOp op) q) (ha : SndE X T true a fa) (hb : SndE X T true b fb) (e2 : Op2 T g q) : SndC X T op a b (fun ρ => (fa ρ).bind fun x => (fb ρ).bind fun y => g x y) := by
  obtain ⟨ta, pa, qa⟩ := ha
  obtain ⟨tb, pb, qb⟩ := hb
  refine ⟨_, pc_op2 ho pa pb, fun G0 H0 ρ σ G H Q R h => ?_⟩
  rw [Out.All_bind] at h
  refine qa G0 H0 ρ σ G H _ R (h.mono fun x hx v G1 H1 k1 i1 => ?_)
  rw [Out.All_bind] at hx
  refine qb G0 H0 ρ σ G1 H1 _ (R.step k1) (hx.mono fun y hy u G2 H2 k2 i2 => ?_)
  have k := k1.trans k2 R.tub
  exact e2 G2 H2 x y v u _ k2.gh k2.tub (i1.step k2) i2 (hy.mono fun d hd => PostE.trans hd k R.tub)
theorem sc_isn {gg : Bool} {j : Nat} {p2 : Pos} (ha : SndE X T true a fa) : SndC X T (if gg then .IsNot else .Is) a (.Constant .none j p2) (fun ρ => (fa ρ).bind fun x => .ret (.bool (match x with | .none => !gg | _ => gg))) := by
  obtain ⟨ta, pa, qa⟩ := ha
  have key : ∀ (v : V) (x : D) (G H : Hp), IsR true T G H v x → decide (v = .non) = (match x with | .none => true | _ => false) := fun v x G H i => by
    cases x with
    | none => rw [i.none]; rfl
    | _ =>
      refine decide_eq_false fun e => ?_
      subst e
      rcases i with i | ⟨_, a, vs, xs, _, e, _⟩
      · cases i
      · cases e
  cases gg with
  | false =>
    refine ⟨_, pc_isN pa, fun G0 H0 ρ σ G H Q R h => ?_⟩
    rw [Out.All_bind] at h
    refine qa G0 H0 ρ σ G H _ R (h.mono fun x hx v G1 H1 k1 i1 => ?_)
    show Q (V.bl (decide (v = .non))) H1
    rw [key v x G1 H1 i1]
    refine PostE.now k1.gh k1.tub (PostE.trans hx k1 R.tub) ?_
    cases x <;> exact .bl _
  | true =>
    refine ⟨_, pc_notN pa, fun G0 H0 ρ σ G H Q R h => ?_⟩
    rw [Out.All_bind] at h
    refine qa G0 H0 ρ σ G H _ R (h.mono fun x hx v G1 H1 k1 i1 => ?_)
    show Q (V.bl (!decide (v = .non))) H1
    rw [key v x G1 H1 i1]
    refine PostE.now k1.gh k1.tub (PostE.trans hx k1 R.tub) ?_
    cases x <;> exact .bl _
theorem sc_ist {gg bb : Bool} {j : Nat} {p2 : Pos} (ha : SndE X T true a fa) : SndC X T (if gg then .IsNot else .Is) a (.Constant (.bool bb) j p2) (fun ρ => (fa ρ).bind fun x => (asBool x).bind fun c => .ret (.bool (if c = bb then !gg else gg))) := by
  obtain ⟨ta, pa, qa⟩ := ha
  cases gg with
  | false =>
    refine ⟨_, pc_op2 (op := .Is) op_isBl pa pe_bl, fun G0 H0 ρ σ G H Q R h => ?_⟩
    rw [Out.All_bind] at h
    refine qa G0 H0 ρ σ G H _ R (h.mono fun x hx v G1 H1 k1 i1 => ?_)
    cases x <;> simp only [asBool] at hx <;> try exact hx.elim
    rename_i c
    refine ⟨c, bb, i1.bool, rfl, PostE.now k1.gh k1.tub (PostE.trans hx k1 R.tub) ?_⟩
    by_cases e : c = bb <;> simp only [e, if_true, if_false, decide_true, decide_false, Bool.not_false] <;> exact .bl _
  | true =>
    refine ⟨_, pc_op2 (op := .IsNot) op_notBl pa pe_bl, fun G0 H0 ρ σ G H Q R h => ?_⟩
    rw [Out.All_bind] at h
    refine qa G0 H0 ρ σ G H _ R (h.mono fun x hx v G1 H1 k1 i1 => ?_)
    cases x <;> simp only [asBool] at hx <;> try exact hx.elim
    rename_i c
    refine ⟨c, bb, i1.bool, rfl, PostE.now k1.gh k1.tub (PostE.trans hx k1 R.tub) ?_⟩
    by_cases e : c = bb <;> simp only [e, if_true, if_false, decide_true, decide_false, Bool.not_true, Bool.not_false] <;> exact .bl _
theorem sc_repEq {n : Nat} {gg : Bool} {p1 p2 q1 q2 : Pos} {op : CmpOp} (hop : op = if gg then .NotEq else .Eq) (hr : L2H.RoomH n X.A) (hg : X.A.guards = some []) (hgl : Gl X "repr") (hm : X.mg "repr" = none) (hb : bootBuiltins "repr" = some (.builtin "repr")) (ha : SndE X T true a fa) (hb2 : SndE X T true b fb)
    (hns : notStarE a = true) (hns2 : notStarE b = true) :
    SndC X T op (.Call (.Name "repr" p1) [a] [] q1) (.Call (.Name "repr" p2) [b] [] q2) (fun ρ => (fa ρ).bind fun x => .guard (repOk x) ((fb ρ).bind fun y => .guard (sameD x y) (.ret (.bool (!gg))))) := by
  have h1 := snd_repr (r := true) (p1 := p1) (q1 := q1) hr hg hgl hm hb ha hns
  have h2 := snd_repr (r := true) (p1 := p2) (q1 := q2) hr hg hgl hm hb hb2 hns2
  subst hop
  cases gg with
  | true => exact SndC.weaken (sc_op2 op_ne h1 h2 o2_strNe) fun ρ P h => rep_imp ρ P h
  | false => exact SndC.weaken (sc_op2 op_eq h1 h2 o2_strEq) fun ρ P h => rep_imp ρ P h
theorem SE.cmp {Γ : Env} {E : E} {op : CmpOp} (h : SndC X T op a b (ev Γ true E)) (hr : ∀ r, ev Γ r E = ev Γ true E) (hm : behindInMarks op b = false) (hf : frE E = false) : SE X T Γ E (.Compare a [op] [b] pos) :=
  ⟨fun r => by rw [hr r]; exact h.e hm, h.t hm, fun e => (by rw [hf] at e; cases e), fun _ _ _ e => (by cases e)⟩
end
end Ev

set_option Elab.async false
set_option linter.all false
set_option autoImplicit false
set_option maxRecDepth 100000
set_option maxHeartbeats 4000000
namespace Ev
open PySem L2

/-! ### the checker -/
inductive Nd where
  | e (x : Expr)
  | i (tg x : Expr)
  | l (xs : List Expr)
  | k (ks : List Keyword)
def Nd.x : Nd → Option Expr
  | .e x => some x
  | .i _ x => some x
  | _ => none
structure Ck where
  τ : Tab
  N : List Str
  kws : List (Nat × Nat × List Str × List Nat)
  fr : Bool
  cm : Bool
  lm : Bool
  act : Out D
structure Sx where
  sc : Scope
  all : Bool
  raw : Scope
def Sx.fn (S : Sx) (x : Str) : Bool := S.all || (match S.raw.names.lookup x with | some .cell => true | _ => false)
def relS (scope sc : Scope) : Scope := { scope with names := scope.names.map fun (n, k) => if (k == .free && sc.kind == .function && sc.names.lookup n == some .cell) then (n, .cell) else (n, k) }
def Sx.into (S : Sx) (scope : Scope) : Sx := ⟨relS scope S.sc, false, scope⟩
def visB (S : Sx) (x : Str) : Bool := match S.sc.names.lookup x with
  | some .local => true
  | some .cell => true
  | some .free => true
  | _ => false
def locB (S : Sx) (x : Str) : Bool := match S.sc.names.lookup x with
  | some .local => true
  | some .cell => S.fn x
  | _ => false
def glB (S : Sx) (x : Str) : Bool := match S.sc.names.lookup x with
  | some .globalImplicit => true
  | _ => false
def nmB (C : Ck) (S : Sx) (i : Nat) (x : Str) : Bool := decide (C.N[i]? = some x) && (visB S x && (!(x == ("__debug__" : Str)) && !(x == ("__classdict__" : Str))))
def bopA : Bop → Operator
  | .add => .Add
  | .sub => .Sub
  | .mul => .Mult
  | .fdiv => .FloorDiv
  | .mod => .Mod
  | .pow => .Pow
def copA : Cop → CmpOp
  | .eq => .Eq
  | .ne => .NotEq
  | .lt => .Lt
  | .le => .LtE
  | .gt => .Gt
  | .ge => .GtE
  | .inn => .In
  | .nin => .NotIn
def bltN : Blt → String
  | .len => "len"
  | .sum => "sum"
  | .max => "max"
  | .min => "min"
  | .all => "all"
  | .any => "any"
  | .tuple => "tuple"
  | .list => "list"
  | .sorted => "sorted"
  | .abs => "abs"
  | .int => "int"
  | .divmod => "divmod"
def conB : D → Const → Bool
  | .int i, .int j => decide (i = j)
  | .bool i, .bool j => i == j
  | .str i, .str j => decide (i = j)
  | .none, .none => true
  | _, _ => false
def isB (S : Sx) (nm x : Str) : Bool := decide (x = nm) && glB S nm
def notSetE : Expr → Bool
  | .Set .. => false
  | _ => true
def plainIxB : Expr → Bool
  | .Slice .. => false
  | _ => true
def yesE : E → Bool
  | .con (.bool true) => true
  | _ => false
def tailE (op : BoolOp) (y : Expr) (p : Pos) : List Expr → Expr
  | [] => y
  | z :: r => .BoolOp op (y :: z :: r) p
mutual
def chkG (C : Ck) (S : Sx) : Tg → Expr → Bool
  | .nm i, .Name x _ => decide (C.N[i]? = some x) && locB S x
  | .nil, .Tuple es _ _ => C.cm && es.isEmpty
  | .cons g gs, .Tuple es _ _ => C.cm && chkGs C S (.cons g gs) es
  | _, _ => false
def chkGs (C : Ck) (S : Sx) : Tg → List Expr → Bool
  | .nil, [] => true
  | .cons g gs, e :: es => notStarE e && (chkG C S g e && chkGs C S gs es)
  | _, _ => false
end
/-- what stands ahead of a dot -/
def baseB : Expr → Bool
  | .Name .. => true
  | .Subscript .. => true
  | _ => false
abbrev Γof (C : Ck) (n : Nat) : Env := gam C.τ n C.act
/-- what needs no calm -/
def lenB : Blt → Bool
  | .len => true
  | .tuple => true
  | .list => true
  | _ => false
def fnB (C : Ck) (f : Nat) (x : Str) : Bool := match C.τ.fns[f]? with
  | some F => decide (F.name = x)
  | none => false
def calB (C : Ck) (f : Nat) : Bool := C.cm || decide (f ∈ C.τ.hots)
def noPrm : Arguments → Bool
  | ⟨[], [], none, [], [], none, []⟩ => true
  | _ => false
def lamB (C : Ck) (S : Sx) (g : Nat) (y : Str) (prm : Arguments) (sc : Scope) : Bool :=
  C.cm && (C.lm && S.all && ((match C.τ.fns[g]? with | some F => decide (F.name = y) && decide (F.ps.length = 1) | none => false) && (decide (g ∈ C.τ.lams) && (glB S y && (!(y == ("__debug__" : Str)) && (noPrm prm && LamX.lamSB S.sc sc))))))
def lamX (sc : Scope) : Sx := ⟨sc, false, sc⟩
def chk (C : Ck) : E → Sx → Nd → Bool
  | .con d, _, nd => match nd.x with
    | some (.Constant c _ _) => conB d c
    | some (.Dict [] [] _) => dk0B d
    | _ => false
  | .glb g, S, nd => match nd.x with
    | some (.Name x _) => decide (x = g) && (glB S x && !(x == ("__debug__" : Str)))
    | _ => false
  | .var i, S, nd => match nd.x with
    | some (.Name x _) => nmB C S i x
    | _ => false
  | .pk i, S, nd => match nd.x with
    | some (.Name x _) => nmB C S i x
    | _ => false
  | .bin o a b, S, nd => match nd.x with
    | some (.BinOp x op y _) => decide (op = bopA o) && (chk C a S (.e x) && chk C b S (.e y))
    | _ => false
  | .neg a, S, nd => match nd.x with
    | some (.UnaryOp op x _) => decide (op = .USub) && chk C a S (.e x)
    | _ => false
  | .not a, S, nd => match nd.x with
    | some (.UnaryOp op x _) => decide (op = .Not) && chk C a S (.e x)
    | _ => false
  | .and a b, S, nd => match nd.x with
    | some (.BoolOp op (x :: y :: r) p) => decide (op = .And) && (chk C a S (.e x) && chk C b S (.e (tailE .And y p r)))
    | _ => false
  | .or a b, S, nd => match nd.x with
    | some (.BoolOp op (x :: y :: r) p) => decide (op = .Or) && (chk C a S (.e x) && chk C b S (.e (tailE .Or y p r)))
    | _ => false
  | .cmp o a b, S, nd => match nd.x with
    | some (.Compare x [op] [y] _) => decide (op = copA o) && (notSetE y && (chk C a S (.e x) && chk C b S (.e y)))
    | _ => false
  | .chain o p a b c, S, nd => match nd.x with
    | some (.Compare x [op, op'] [y, z] _) => decide (op = copA o) && (decide (op' = copA p) && (notSetE z && (chk C a S (.e x) && (chk C b S (.e y) && chk C c S (.e z)))))
    | _ => false
  | .isn g a, S, nd => match nd.x with
    | some (.Compare x [op] [.Constant .none _ _] _) => decide (op = if g then .IsNot else .Is) && chk C a S (.e x)
    | _ => false
  | .ist g a b, S, nd => match nd.x with
    | some (.Compare x [op] [.Constant (.bool b') _ _] _) => decide (op = if g then .IsNot else .Is) && (b == b' && chk C a S (.e x))
    | _ => false
  | .ite c a b, S, nd => match nd.x with
    | some (.IfExp z x y _) => chk C c S (.e z) && (chk C a S (.e x) && chk C b S (.e y))
    | _ => false
  | .nil, _, nd => match nd with
    | .l [] => true
    | .k [] => true
    | _ => false
  | .cons a b, S, nd => match nd with
    | .l (x :: xs) => notStarE x && (chk C a S (.e x) && chk C b S (.l xs))
    | .k (x :: xs) => chk C a S (.e x.value) && chk C b S (.k xs)
    | _ => false
  | .star a b, S, nd => match nd with
    | .l (.Starred x _ :: xs) => chk C a S (.e x) && chk C b S (.l xs)
    | _ => false
  | .tup a, S, nd => match nd.x with
    | some (.Tuple xs _ _) => chk C a S (.l xs)
    | _ => false
  | .lst a, S, nd => match nd.x with
    | some (.List xs _) => chk C a S (.l xs)
    | _ => false
  | .idx a b, S, nd => match nd.x with
    | some (.Subscript x y _) => plainIxB y && (chk C a S (.e x) && chk C b S (.e y))
    | _ => false
  | .slc a lo hi, S, nd => match nd.x with
    | some (.Subscript x (.Slice l h none _) _) => chk C a S (.e x) && ((match l with | none => isNilE lo | some e => !isNilE lo && chk C lo S (.e e)) && (match h with | none => isNilE hi | some e => !isNilE hi && chk C hi S (.e e)))
    | _ => false
  | .rev a, S, nd => match nd.x with
    | some (.Subscript x (.Slice none none (some (.UnaryOp .USub (.Constant (.int z) _ _) _)) _) _) => decide (z = 1) && chk C a S (.e x)
    | _ => false
  | .call f a, S, nd => match nd.x with
    | some (.Call (.Name x _) xs [] _) => calB C f && fnB C f x && (glB S x && (!(x == ("__debug__" : Str)) && (xs.all notStarE && chk C a S (.l xs))))
    | _ => false
  | .callk f m k perm a b, S, nd => match nd.x with
    | some (.Call (.Name x _) xs ks _) => C.cm && fnB C f x && (glB S x && (!(x == ("__debug__" : Str)) && (xs.all notStarE && (chk C a S (.l xs) &&
        (chk C b S (.k ks) && (match kwNames ks with | some l => decide ((f, m, l, perm) ∈ C.kws) && decide (k = l.length) | none => false) && decide (xs.length = m))))))
    | _ => false
  | .blt b a, S, nd => match nd.x with
    | some (.Call (.Name x _) (y :: ys) [] _) => (C.cm || lenB b) && isB S (bltN b) x && ((y :: ys).all notStarE && chk C a S (.l (y :: ys)))
    | _ => false
  | .isi t a, S, nd => match nd.x with
    | some (.Call (.Name x _) [y, .Name z _] [] _) => isB S "isinstance" x && (isB S (tyName t) z && (notStarE y && chk C a S (.e y)))
    | _ => false
  | .repEq g a b, S, nd => match nd.x with
    | some (.Compare (.Call (.Name x1 _) [y1] [] _) [op] [.Call (.Name x2 _) [y2] [] _] _) => decide (op = if g then .NotEq else .Eq) && (isB S "repr" x1 && (isB S "repr" x2 && (notStarE y1 && (notStarE y2 && (chk C a S (.e y1) && chk C b S (.e y2))))))
    | _ => false
  | .lc own g it c elt, S, nd => match nd.x with
    | some (.ListComp y [⟨tg, iter, ifs, z⟩] scope _) => C.cm && decide (z = 0) && (notSetE iter && (chk C it S (.i tg iter) && (blkC C.N S.sc scope (own.map fun i => ((C.N[i]?).getD "", i)) && (chkG C (S.into scope) g tg && (g.inside own &&
        ((match ifs with | [] => yesE c | [t] => chk C c (S.into scope) (.e t) | _ => false) && chk C elt (S.into scope) (.e y)))))))
    | _ => false
  | .lc2 own own2 g it g2 it2 elt, S, nd => match nd.x with
    | some (.ListComp y [⟨tg, iter, [], z⟩, ⟨tg1, iter1, [], z1⟩] scope _) => C.cm && decide (z = 0) && (decide (z1 = 0) && (notSetE iter && (notSetE iter1 && (chk C it S (.i tg iter) && (blkC C.N S.sc scope (own.map fun i => ((C.N[i]?).getD "", i)) && (chkG C (S.into scope) g tg && (g.inside own &&
        (chkG C (S.into scope) g2 tg1 && (g2.inside own2 && ((own2.all fun i => decide (i ∈ own)) && (chk C it2 (S.into scope) (.i tg1 iter1) && chk C elt (S.into scope) (.e y))))))))))))
    | _ => false
  | .rng1 a, S, nd => match nd with
    | .i _ (.Call (.Name x _) [y] [] _) => isB S "range" x && (notStarE y && chk C a S (.e y))
    | _ => false
  | .rng2 a b, S, nd => match nd with
    | .i _ (.Call (.Name x _) [y, z] [] _) => isB S "range" x && (notStarE y && (notStarE z && (chk C a S (.e y) && chk C b S (.e z))))
    | _ => false
  | .rng3 a b c, S, nd => match nd with
    | .i _ (.Call (.Name x _) [y, z, w] [] _) => isB S "range" x && (notStarE y && (notStarE z && (notStarE w && (chk C a S (.e y) && (chk C b S (.e z) && chk C c S (.e w))))))
    | _ => false
  | .enum a, S, nd => match nd with
    | .i (.Tuple _ _ _) (.Call (.Name x _) [y] [] _) => isB S "enumerate" x && (notStarE y && chk C a S (.e y))
    | _ => false
  | .zip a b, S, nd => match nd with
    | .i (.Tuple _ _ _) (.Call (.Name x _) [y, z] [] _) => isB S "zip" x && (notStarE y && (notStarE z && (chk C a S (.e y) && chk C b S (.e z))))
    | _ => false
  | .tix i j, S, nd => match nd.x with
    | some (.Subscript (.Name x _) (.Constant (.int z) _ _) _) => decide (z = (j : Int)) && nmB C S i x
    | _ => false
  | .din g k i, S, nd => match nd.x with
    | some (.Compare x [op] [.Name y _] _) => decide (op = if g then .NotIn else .In) && (nmB C S i y && chk C k S (.e x))
    | _ => false
  | .dget i k, S, nd => match nd.x with
    | some (.Subscript (.Name y _) x _) => nmB C S i y && (plainIxB x && chk C k S (.e x))
    | _ => false
  | .dgetd i k z, S, nd => match nd.x with
    | some (.Call (.Attribute (.Name y _) m apos) [a, b] [] cpos) => decide (m = "get") && (nmB C S i y && ((apos.endLine == cpos.line) && (notStarE a && (notStarE b && (chk C k S (.e a) && chk C z S (.e b))))))
    | _ => false
  | .dlen i, S, nd => match nd.x with
    | some (.Call (.Name f _) [.Name y _] [] _) => isB S "len" f && nmB C S i y
    | _ => false
  | .dsort i, S, nd => match nd.x with
    | some (.Call (.Name f _) [.Name y _] [] _) => C.cm && isB S "sorted" f && nmB C S i y
    | _ => false
  | .row i e, S, nd => match nd.x with
    | some (.Subscript (.Name x _) y _) => nmB C S i x && (plainIxB y && chk C e S (.e y))
    | _ => false
  | .rows i, S, nd => match nd.x with
    | some (.Call (.Name f _) [.Name y _] [] _) => isB S "len" f && nmB C S i y
    | _ => false
  | .lrng a b, S, nd => match nd.x with
    | some (.Call (.Name f _) [.Call (.Name x _) [y, z] [] _] [] _) => C.cm && isB S "list" f && (isB S "range" x && (notStarE y && (notStarE z && (chk C a S (.e y) && chk C b S (.e z)))))
    | _ => false
  | .mkx x k par fld kw a, S, nd => match nd.x with
    | some (.Call (.Name y _) [e] [] _) => !kw && (decide (y = x) && (glB S x && (!(x == ("__debug__" : Str)) && (decide ((x, k, par, fld) ∈ C.τ.xc.mks) && (notStarE e && chk C a S (.e e))))))
    | some (.Call (.Name y _) [] [⟨some q, e, _⟩] _) => kw && (decide (y = x) && (decide (q = par) && (glB S x && (!(x == ("__debug__" : Str)) && (decide ((x, k, par, fld) ∈ C.τ.xc.mks) && chk C a S (.e e))))))
    | _ => false
  | .mk0 x k, S, nd => match nd.x with
    | some (.Call (.Name y _) [] [] _) => decide (y = x) && (glB S x && (!(x == ("__debug__" : Str)) && decide ((x, k) ∈ C.τ.xc.mk0s)))
    | _ => false
  | .isx x yes no a, S, nd => match nd.x with
    | some (.Call (.Name f _) [y, .Name z _] [] _) => isB S "isinstance" f && (decide (z = x) && (glB S x && (!(x == ("__debug__" : Str)) && (decide ((x, yes, no) ∈ C.τ.xc.isxs) && (notStarE y && chk C a S (.e y))))))
    | _ => false
  | .xat f cs a, S, nd => match nd.x with
    | some (.Attribute e g _) => decide (g = f) && (decide ((f, cs) ∈ C.τ.xc.xats) && (baseB e && chk C a S (.e e)))
    | _ => false
  | .drw fr ft a, S, nd => match nd.x with
    | some (.Call (.Name x2 _) [.Call (.Name x _) (y :: ys) [] _] [] _) => C.cm && fnB C fr x2 && (fnB C ft x && (decide (ft ∈ C.τ.news) &&
        (glB S x && (glB S x2 && (!(x == ("__debug__" : Str)) && (!(x2 == ("__debug__" : Str)) && ((y :: ys).all notStarE && chk C a S (.l (y :: ys)))))))))
    | _ => false
  | .repr a, S, nd => match nd.x with
    | some (.Call (.Name x _) [y] [] _) => isB S "repr" x && (notStarE y && chk C a S (.e y))
    | _ => false
  | .lidx a b, S, nd => match nd.x with
    | some (.Call (.Attribute (.Name y py) m apos) [x] [] cpos) => decide (m = "index") && (notStarE x && ((apos.endLine == cpos.line) && (chk C a S (.e (.Name y py)) && chk C b S (.e x))))
    | _ => false
  | .lcnt a b, S, nd => match nd.x with
    | some (.Call (.Attribute (.Name y py) m apos) [x] [] cpos) => decide (m = "count") && (notStarE x && ((apos.endLine == cpos.line) && (chk C a S (.e (.Name y py)) && chk C b S (.e x))))
    | _ => false
  | .fld .., _, _ => false
  | .prp .., _, _ => false
  | .meth .., _, _ => false
  | .stat .., _, _ => false
  | .new .., _, _ => false
  | .oeq .., _, _ => false
  | .isc .., _, _ => false
  | .xpure .., _, _ => false
  | .xcall .., _, _ => false
  | .xcallk .., _, _ => false
  | .xact .., _, _ => false
  | .xnew .., _, _ => false
  | .xmeth .., _, _ => false
  | .lam g dfl e, S, nd => match nd.x with
    | some (.Call (.Name y _) [.Lambda prm body sc _] [] _) => !dfl && (lamB C S g y prm sc && (match e with
      | .xcall f a => match body with
        | .Call (.Name x _) xs [] _ => decide (f ∈ C.τ.excs) && fnB C f x && (glB (lamX sc) x && (!(x == ("__debug__" : Str)) && (xs.all notStarE && chk C a (lamX sc) (.l xs))))
        | _ => false
      | .xcallk f m k perm a b => match body with
        | .Call (.Name x _) xs ks _ => decide (f ∈ C.τ.excs) && fnB C f x && (glB (lamX sc) x && (!(x == ("__debug__" : Str)) && (xs.all notStarE && (chk C a (lamX sc) (.l xs) &&
          (chk C b (lamX sc) (.k ks) && (match kwNames ks with | some l => decide ((f, m, l, perm) ∈ C.kws) && decide (k = l.length) | none => false) && decide (xs.length = m))))))
        | _ => false
      | .xpure a => chk C a (lamX sc) (.e body)
      | _ => false))
    | _ => false
/-- an expression that may raise -/
def chkX (C : Ck) (S : Sx) (e : E) (body : Expr) : Bool := match e with
  | .xcall f a => match body with
    | .Call (.Name x _) xs [] _ => decide (f ∈ C.τ.excs) && fnB C f x && (glB S x && (!(x == ("__debug__" : Str)) && (xs.all notStarE && chk C a S (.l xs))))
    | _ => false
  | .xcallk f m k perm a b => match body with
    | .Call (.Name x _) xs ks _ => decide (f ∈ C.τ.excs) && fnB C f x && (glB S x && (!(x == ("__debug__" : Str)) && (xs.all notStarE && (chk C a S (.l xs) &&
      (chk C b S (.k ks) && (match kwNames ks with | some l => decide ((f, m, l, perm) ∈ C.kws) && decide (k = l.length) | none => false) && decide (xs.length = m))))))
    | _ => false
  | .xpure a => chk C a S (.e body)
  | .xact i => match body with
    | .Call (.Name x _) [] [] _ => decide (i = 0) && nmB C S i x
    | _ => false
  | _ => false
end Ev

set_option Elab.async false
set_option linter.all false
set_option autoImplicit false
set_option maxRecDepth 100000
set_option maxHeartbeats 4000000
namespace Ev
open PySem L2 PyProof.Rows
/-! ### answers that may be exceptions -/
def IsX (T : Ap) (G : Hp) (cls : Value) (dx : Option Addr) : D → Prop
  | .dict [(.int c, .none)] => ∃ a : Addr, c = ((a : Nat) : Int) ∧ cls = .ref a ∧ dx = none
  | .dict [(.int c, .tuple [.str f, d])] => ∃ (a b : Addr) (v : V), c = ((a : Nat) : Int) ∧ cls = .ref a ∧ dx = some b ∧ G b = some (exd b [(f, v)]) ∧ Is T G v d
  | _ => False
theorem IsX.mono {T : Ap} {G G' : Hp} (s : Sub G G') {cls : Value} {dx : Option Addr} : ∀ {d : D}, IsX T G cls dx d → IsX T G' cls dx d := fun {d} h => by
  unfold IsX at h ⊢
  split at h
  · exact h
  · obtain ⟨a, b, v, h1, h2, h3, h4, h5⟩ := h
    exact ⟨a, b, v, h1, h2, h3, s _ _ h4, h5.mono' s⟩
  · exact h.elim
def PostX (E : XK) (T : Ap) (G H : Hp) (Q : VK) : D → Prop
  | .tuple [d] => PostE false T G H Q d
  | d => ∀ cls dx G' H', Stp T G H G' H' → IsX T G' cls dx d → E cls dx H'
theorem PostX.trans {E : XK} {T : Ap} {G H G' H' : Hp} {Q : VK} {d : D} (h : PostX E T G H Q d) (k : Stp T G H G' H') (t : TubOk T H) : PostX E T G' H' Q d := by
  unfold PostX at h ⊢
  split at h
  · exact PostE.trans h k t
  · rename_i h1
    exact fun cls dx G2 H2 k2 i => h cls dx G2 H2 (k.trans k2 t) i
def PPX (W : WX) : PPost := fun T G H Q σ d => PostX (fun cls dx H' => W cls dx σ H') T G H Q d
theorem PPX.late {W : WX} : PLate (PPX W) := fun T G H G' H' Q σ d h k t => PostX.trans h k t
/-- a def that may raise -/
structure FnX (P : Program) (w : World) (K : PySem.W.Frag) (mg : Str → Option Value) (base : Heap) (tb : List (Addr × Str)) (n : Nat) (f : Addr) (fd : FuncData) (ps : List Str) (F : List D → Out D) : Prop where
  len : ∀ ds (P : D → Prop), (F ds).All P → ds.length = ps.length
  run : ∀ (T : Ap) (A : Around) (outer : List PySem.Env) (s : Shared) (H G : Hp) (args : Args) (us : List Value) (vs : List V) (ds : List D) (Q : VK) (E : XK), Room (3 * n) A → A.guards = some [] → T.tabs = tb → Env0 P w K mg base A outer s H →
    BindsTo s fd args (ps.zip us) → Vals vs us → Sub G H → TubOk T H → T.away G → IsAll T G vs ds → (F ds).All (PostX E T G H Q) →
    codeAny (model P w) A (.call (.ref f) args) (CR (L2.CX P w) outer P w H s Q E) s
section
variable {X : Cx} {n : Nat} {f : Addr} {fd : FuncData} {ps : List Str} {Fn : List D → Out D} {T : Ap} {W : WX}
theorem FnX.doer {tb : List (Addr × Str)} (F : FnX X.prog X.w X.K X.mg X.base tb n f fd ps Fn) (hr : Room (3 * n) X.A) (hg : X.A.guards = some []) (ht : T.tabs = tb) (tk : Takes X W) : Doer X (PPX W) T f fd ps Fn := by
  refine ⟨PPX.late, F.len, fun pins σ H s Q us kw bs ws hb I r h => ?_⟩
  obtain ⟨G, ds, h1, h2, h3, h4, h5⟩ := h
  refine wpAny_call (codeAny_mono (F.run T X.A X.stack s H G ⟨us, kw⟩ bs ws ds Q (fun cls dx H' => W cls dx σ H') hr hg ht I.env0 hb r h1 h2 h3 h4 h5) fun r s' hq => ?_)
  cases r with
  | error e => exact tk e s' (XE.of_call I (fun _ _ _ z => z) hq)
  | ok fl =>
    cases fl with
    | ret u => exact I.after hq
    | next => exact False.elim hq
    | brk => exact False.elim hq
    | cont => exact False.elim hq
end
/-! ### what is handed over to be called -/
structure ActOk (P : Program) (w : World) (K : PySem.W.Frag) (mg : Str → Option Value) (base : Heap) (k : Nat) (outer : List PySem.Env) (s : Shared) (H : Hp) (T : Ap) (g : Addr) (a : Out D) : Prop where
  obj : ∃ (cl : Value) (dd : Option Addr) (fd : FuncData) (sl : Array (Option Value)), s.heap.get? g = some ⟨cl, dd, .func fd, sl⟩
  no : H g = none
  fr : g ∉ frs outer
  run : ∀ (A' : Around) (outer' : List PySem.Env) (s1 : Shared) (H1 G1 : Hp) (Q : VK) (E : XK), Room k A' → A'.guards = some [] → Env0 P w K mg base A' outer' s1 H1 → Un (frs outer) [] H H1 s.heap s1.heap → Sub G1 H1 → TubOk T H1 → T.away G1 →
    a.All (PostX E T G1 H1 Q) → codeAny (model P w) A' (.call (.ref g) ⟨[], []⟩) (CR (L2.CX P w) outer' P w H1 s1 Q E) s1
/-- a def that is handed a lambda -/
structure FnC (P : Program) (w : World) (K : PySem.W.Frag) (mg : Str → Option Value) (base : Heap) (tb : List (Addr × Str)) (n : Nat) (f : Addr) (fd : FuncData) (par : Str) (F : Out D → Out D) : Prop where
  run : ∀ (T : Ap) (A : Around) (outer : List PySem.Env) (s : Shared) (H G : Hp) (g : Addr) (a : Out D) (Q : VK), Room (3 * n + 2) A → A.guards = some [] → T.tabs = tb → Env0 P w K mg base A outer s H → BindsTo s fd ⟨[.ref g], []⟩ [(par, .ref g)] →
    Sub G H → TubOk T H → T.away G → T.act = some g → ActOk P w K mg base (3 * n + 1) outer s H T g a → (F a).All (PostE false T G H Q) → codeAny (model P w) A (.call (.ref f) ⟨[.ref g], []⟩) (CR CX0 outer P w H s Q E0) s
/-- in the frame that was handed it -/
structure ActF (X : Cx) (T : Ap) (a : Out D) : Prop where
  ex : ∃ (k : Nat) (g : Addr), T.act = some g ∧ Room k X.A ∧ ActOk X.prog X.w X.K X.mg X.base k X.outer X.s_0 X.H_0 T g a
  e : X.ex = []
theorem snd_act {X : Cx} {T : Ap} {W : WX} {a : Out D} {i : Nat} {x : Str} {p1 p2 : Pos} (F : ActF X T a) (hg : X.A.guards = some []) (tk : Takes X W) (hN : X.N[i]? = some x) (hv : Vis X.env.scope x) (h1 : (x == ("__debug__" : Str)) = false) (h2 : (x == ("__classdict__" : Str)) = false) :
    SndP X T (PPX W) (.Call (.Name x p1) [] [] p2) (fun ρ => (slot ρ i).bind fun
      | .act => a
      | _ => .bad) := by
  obtain ⟨k, g, eg, hr, ok⟩ := F.ex
  obtain ⟨cl, dd, fd, sl, ob⟩ := ok.obj
  refine ⟨fun σ H Q => σ[i]? = some (some (.ref g)) ∧ ∃ G, Sub G H ∧ TubOk T H ∧ T.away G ∧ a.All (PPX W T G H Q σ), ⟨fun pins s σ H Q I h => ?_⟩, fun G0 H0 ρ σ G H Q R h => ?_⟩
  · obtain ⟨hs, G, a1, a2, a3, a4⟩ := h
    have v1 := pe_var (X := X) (pos := p1) (i := i) hN hv h1 h2
    refine wpAny_Call_Name_kw (thn (v1.run pins s σ H (fun v H1 => v = .ref g ∧ H1 = H) I ⟨.ref g, hs, rfl, rfl⟩) fun u s1 ⟨v, H1, I1, r1, ev, eH⟩ => ?_)
    subst ev
    subst eH
    obtain rfl : u = Value.ref g := r1
    have ob1 := I1.base.keep g _ ob ok.no ok.fr (by rw [F.e]; exact List.not_mem_nil)
    refine PySem.W.callWith_F0 ⟨_, _, _, _, ob1⟩ ?_
    have un : Un (frs X.outer) [] X.H_0 H1 X.s_0.heap s1.heap := by
      have z := I1.base
      rw [F.e] at z
      exact z
    refine wpAny_call (codeAny_mono (ok.run X.A X.stack s1 H1 G Q _ hr hg I1.env0 un a1 a2 a3 a4) fun r s' hq => ?_)
    cases r with
    | error e => exact tk e s' (XE.of_call I1 (fun _ _ _ z => z) hq)
    | ok fl =>
      cases fl with
      | ret u => exact I1.after hq
      | next => exact False.elim hq
      | brk => exact False.elim hq
      | cont => exact False.elim hq
  · unfold slot at h
    rw [Out.All_bind, Out.All_ofO] at h
    obtain ⟨s, e, h⟩ := h
    have e' : ρ[i]? = some (some s) := by
      cases q : ρ[i]? with
      | none => rw [q] at e; cases e
      | some o => rw [q] at e; simp at e; rw [e]
    cases s with
    | act =>
      obtain ⟨v, e1, b, e2, rfl⟩ := R.sl i _ e'
      rw [eg] at e2
      cases e2
      exact ⟨e1, G, R.sub, R.tub, R.tg, h⟩
    | val d => exact h.elim
    | own xs => exact h.elim
    | dic t kvs => exact h.elim
    | own2 xss => exact h.elim
/-! ### a lambda -/
theorem Is.top {T T' : Ap} (e : T'.tub = T.tub) {G : Hp} {v : V} {d : D} (h : Is T G v d) : Is T' G v d :=
  Is.rec (motive_1 := fun v d _ => Is T' G v d) (motive_2 := fun vs ds _ => IsAll T' G vs ds) .non .bl .int .str (fun e _ r => .lst e r) (fun e _ r => .tup e r) (fun q => .tub (e.trans q)) (fun e => .scr e) (fun e x => .xc0 e x)
    (fun e x e' _ r => .xc1 e x e' r) (fun e => .dk e) (fun e e' _ r => .ins e e' r) .nil (fun _ _ a b => .cons a b) h
/-- .. with a lambda in hand -/
def Ap.with (T : Ap) (f c : Addr) (q : Str) (G : Hp) : Ap := { tub := T.tub, tabs := T.tabs, act := some f, g0 := G, code := (c, q) :: T.code }
theorem Stp.unwith {T : Ap} {f c : Addr} {q : Str} {G0 G H G' H' : Hp} (k : Stp (T.with f c q G0) G H G' H') : Stp T G H G' H' :=
  ⟨k.gs, k.gh, k.kp, k.tbl, k.new, k.tub.1, k.tub.2.1, fun p hp => k.tub.2.2 p (List.mem_cons_of_mem _ hp)⟩
theorem valS_eq {ρ : Ro} {i : Nat} {s : Sl} (h : (valR ρ)[i]? = some (some s)) : ∃ d, s = .val d ∧ ρ[i]? = some (some (.val d)) := by
  unfold valR at h
  rw [List.getElem?_map] at h
  cases q : ρ[i]? with
  | none => rw [q] at h; cases h
  | some o =>
    rw [q] at h
    cases o with
    | none => cases h
    | some t =>
      cases t with
      | val d => cases h; exact ⟨d, rfl, rfl⟩
      | own xs => cases h
      | dic t kvs => cases h
      | own2 xss => cases h
      | act => cases h
/-- what the lambda sees -/
theorem rep_val {T T' : Ap} {G0 H0 G H G1 H1 : Hp} {ρ : Ro} {σ : Sg} (R : Rep T G0 H0 ρ σ G H) (e : T'.tub = T.tub) (s : Sub G G1) (sub : Sub G1 H1) (tb : TubOk T' H1) (aw : T'.away G1) : Rep T' G1 H1 (valR ρ) σ G1 H1 := by
  refine ⟨.refl sub tb, tb, aw, ?_, fun i s1 q => ?_, fun i j si sj vi vj b e1 e2 _ _ a1 _ => ?_⟩
  · unfold valR
    rw [List.length_map]
    exact R.len
  · obtain ⟨d, rfl, q'⟩ := valS_eq q
    obtain ⟨v, h1, h2⟩ := R.sl i _ q'
    exact ⟨v, h1, (Is.mono' s h2).top e⟩
  · obtain ⟨d, rfl, _⟩ := valS_eq e1
    exact a1.elim
section
variable {X : Cx} {pins : List (Addr × Obj)} {σ : Sg} {H : Hp} {s : Shared} {T : Ap}
/-- a lambda is laid: what stands, but for its maker's table, stays -/
theorem lam_mk {c P : Addr} {prm : Arguments} {body : Expr} {scope : Scope} {lp : Pos} {E : Value → Shared → Prop} {Q : Value → Shared → Prop} {G : Hp} (I : Inv X pins σ H s) (sub : Sub G H) (tb : TubOk T H) (aw : T.away G) (B : LamX.TabB X.base X.mg c P) (hc : X.env.code = .ref c)
    (hm : (P, X.env.qual ++ "<lambda>") ∈ T.tabs) (one : ∀ p ∈ T.tabs, p.1 = P → p.2 = X.env.qual ++ "<lambda>") (hdef : defaultsOf prm X.env = ([], [])) (hfree : ∀ y ∈ scope.names, y.2 = .free → ∃ c, X.env.cells.lookup y.1 = some c)
    (h : ∀ (f c' : Addr) (pm ctv : Value) (H1 : Hp) (s' : Shared), Inv X pins σ H1 s' → Stp T G H G H1 → H1 c' = some (LamX.CodeO c' (X.env.qual ++ "<lambda>")) →
      s'.heap.get? f = some (PySem.W.kla_obj "<lambda>" (X.env.qual ++ "<lambda>") prm body scope (cloFrom X.env.cells scope.names []) pm c' ctv) → H1 f = none → f ∉ frs X.stack → Q (.ref f) s') :
    wpAny (model X.prog X.w) X.A (eval (.Lambda prm body scope lp) X.env) Q E s := by
  obtain ⟨ps, hP, triples, known⟩ := tb.2.1 _ hm
  refine PySem.W.kla_eval hdef ?_
  have inP : s.heap.get? P = some { cls := .none, data := .fields ps } := I.hok P _ hP
  have off : ∀ f, s.heap.objs.size ≤ f → f ∉ frs X.stack := fun f hf z => by
    rcases List.mem_cons.mp (I.stkSub _ z) with e | e
    · have lt := I.lt
      rw [← e] at lt
      exact Nat.lt_irrefl _ (Nat.lt_of_lt_of_le lt hf)
    · exact I.nofs hf e
  have clo := closure_ok hfree
  have gl := I.mod.glob.keeps I.bk
  have cd := B.code.keeps I.bk
  have bm : s.heap.BuiltinsAt X.mg P := B.bm.keeps I.bk
  have notP : ∀ p ∈ T.code, p.1 ≠ P := fun p hp z => by
    have e := tb.2.2 p hp
    rw [z, hP] at e
    exact LamX.codeO_ne _ (Option.some.inj e).symm
  cases found : codeAmong lp ps.toList with
  | some cv =>
    obtain ⟨c', e, hco⟩ := known lp cv found
    subst e
    refine PySem.W.kla_makeFunctionHit (c := c) (P := P) (ps := ps) (mg := X.mg) clo I.ok.glob gl hc cd inP triples found bm fun ctv h' tk kept big => ?_
    have J := I.kept (h' := h'.push (PySem.W.kla_obj "<lambda>" (X.env.qual ++ "<lambda>") prm body scope (cloFrom X.env.cells scope.names []) ((X.mg "__name__").getD .none) c' ctv)) (t' := tk) fun b o e => Heap.get?_push_of_some _ (kept b o e)
    exact h _ c' _ ctv H _ J (.refl sub tb) hco (Heap.get?_push_size _ rfl) (I.hok.fresh big) (off _ big)
  | none =>
    refine PySem.W.kla_makeFunction (c := c) (P := P) (ps := ps) (mg := X.mg) clo I.ok.glob gl hc cd inP triples found B.gP bm fun c' ctv h' tk but hge hlt rec tab => ?_
    obtain ⟨c2, oc, vs, t, e2, hoc, hd, hv⟩ := rec
    cases e2
    have nc : H c' = none := I.hok.fresh hge
    have big := Nat.le_trans hge (Nat.le_of_lt hlt)
    have J := LamX.inv_table (q := X.env.qual ++ "<lambda>") (t' := tk) (more := #[rawInt lp.line, rawInt lp.col, .ref c']) (h' := h'.push (PySem.W.kla_obj "<lambda>" (X.env.qual ++ "<lambda>") prm body scope (cloFrom X.env.cells scope.names []) ((X.mg "__name__").getD .none) c' ctv))
      I hP (fun b o nb e => Heap.get?_push_of_some _ (but b o nb e)) (Heap.get?_push_of_some _ tab) hge ⟨oc, vs, t, Heap.get?_push_of_some _ hoc, hd, hv⟩
    have eL : (ps ++ #[rawInt lp.line, rawInt lp.col, .ref c']).toList = ps.toList ++ [rawInt lp.line, rawInt lp.col, .ref c'] := by simp
    generalize ps ++ #[rawInt lp.line, rawInt lp.col, .ref c'] = qs at J eL
    have same : ∀ b o, b ≠ P → H b = some o → upd (upd H P (.tbl qs)) c' (LamX.CodeO c' (X.env.qual ++ "<lambda>")) b = some o := fun b o nb e => by rw [upd_ne (ne_of_none e nc), upd_ne nb]; exact e
    have atP : upd (upd H P (.tbl qs)) c' (LamX.CodeO c' (X.env.qual ++ "<lambda>")) P = some (.tbl qs) := by rw [upd_ne (ne_of_none hP nc), upd_same]
    have nPt : ∀ b o, noTbl o → H b = some o → b ≠ P := fun b o n e z => by rw [z, hP] at e; cases e; exact n _ rfl
    have Gp : G P = none := aw.1 P (.inr ⟨_, hm⟩)
    have K : Stp T G H G (upd (upd H P (.tbl qs)) c' (LamX.CodeO c' (X.env.qual ++ "<lambda>"))) := by
      refine ⟨.refl _, fun b o e => same b o (fun z => by rw [z, Gp] at e; cases e) (sub b o e), fun b o _ n e => same b o (nPt b o n e) e, fun b ps' e => ?_, fun b o e => .inl e, fun a e => ?_, fun p hp => ?_, fun p hp => same _ _ (notP p hp) (tb.2.2 p hp)⟩
      · by_cases hb : b = P
        · subst hb; exact ⟨qs, atP⟩
        · exact ⟨ps', same b _ hb e⟩
      · obtain ⟨x, y, z, q, r⟩ := tb.1 a e
        exact ⟨x, y, z, same _ _ (nPt a _ (nt_of rfl) q) q, r⟩
      · by_cases hb : p.1 = P
        · have e2 := one p hp hb
          unfold LamX.TabS
          rw [hb, e2]
          refine ⟨qs, atP, by rw [eL]; exact PySem.TriplesOk_snoc _ _ _ _ triples, fun p' cv hcv => ?_⟩
          rw [eL] at hcv
          rcases LamX.among_app _ triples hcv with z | z
          · obtain ⟨c0, d1, d2⟩ := known p' cv z
            exact ⟨c0, d1, same _ _ (nPt _ _ (nt_of rfl) d2) d2⟩
          · exact ⟨c', z, upd_same⟩
        · obtain ⟨ps', a1, a2, a3⟩ := tb.2.1 p hp
          refine ⟨ps', same _ _ hb a1, a2, fun p' cv hcv => ?_⟩
          obtain ⟨c0, d1, d2⟩ := a3 p' cv hcv
          exact ⟨c0, d1, same _ _ (nPt _ _ (nt_of rfl) d2) d2⟩
    refine h _ c' _ ctv _ _ J K upd_same (Heap.get?_push_size _ rfl) ?_ (off _ big)
    rw [upd_ne (Nat.ne_of_gt hlt), upd_ne (Nat.ne_of_gt (Nat.lt_of_lt_of_le (Heap.lt_size inP) big))]
    exact I.hok.fresh big
/-- what the lambda comes to, called anywhere behind -/
theorem act_ok {k : Nat} {G0 H0 G : Hp} {ρ : Ro} {f c' : Addr} {prm : Arguments} {body : Expr} {scope : Scope} {pm ctv : Value} {fx : Ro → Out D} {T' : Ap} (I : Inv X pins σ H s) (L : LamX.LamS X.env.scope scope)
    (hf : s.heap.get? f = some (PySem.W.kla_obj "<lambda>" (X.env.qual ++ "<lambda>") prm body scope (cloFrom X.env.cells scope.names []) pm c' ctv)) (nf : H f = none) (offr : f ∉ frs X.stack) (hco : (c', X.env.qual ++ "<lambda>") ∈ T'.code)
    (hbind : bindArgs (PySem.W.kla_fn "<lambda>" (X.env.qual ++ "<lambda>") prm body scope (cloFrom X.env.cells scope.names []) pm (.ref c') ctv) ⟨[], []⟩ = pure [])
    (e1 : T'.tub = T.tub) (e2 : T'.g0 = G) (R : Rep T G0 H0 ρ σ G H)
    (hbody : ∀ (A : Around) (outer : List PySem.Env) (s1 : Shared) (H1 : Hp) (E : XK), Room k (A.deeper (LamX.lamEnv X scope s1.heap.objs.size f c')) → A.guards = some [] → SndP (LamX.lamCx X A outer s1 H1 E scope f c') T' (PPX fun cls d _ H' => E cls d H') body fx) :
    ActOk X.prog X.w X.K X.mg X.base (k + 1) X.stack s H T' f (fx (valR ρ)) := by
  refine ⟨⟨_, _, _, _, hf⟩, nf, offr, fun A' outer' s1 H1 G1 Q E hr hg env un sub tub aw h => ?_⟩
  have hf1 := un.keep f _ hf nf offr List.not_mem_nil
  obtain ⟨⟨oc, vs, t, hoc, hdc, hvc⟩, _, _⟩ := env.hok c' _ (tub.2.2 _ hco)
  have lim : s1.heap.NoLimit := env.mod.nolimit.keeps fun b o z => (env.bs b o z).1
  have start := PySem.W.kla_callFunE (prog := X.prog) (w := X.w) (A := A') (s := s1) (R := CR (L2.CX X.prog X.w) outer' X.prog X.w H1 s1 Q E) (args := ⟨[], []⟩) hr.depth hf1 rfl L.co L.gen rfl ⟨c', oc, vs, t, rfl, hoc, hdc, hvc⟩
  refine start ?_
  rw [hbind]
  refine wpAny_pure (wpAny_newFunctionEnv (fun y hy => (L.own y hy).2) (fun y hy => absurd hy List.not_mem_nil) (fun h₁ ns but => ⟨lim.fresh _ but, ?_⟩) L.kind)
  show codeAny _ _ (.expr body (LamX.lamEnv X scope s1.heap.objs.size f c')) _ _
  have kept : ∀ b o, s1.heap.get? b = some o → h₁.get? b = some o := fun b o e => but.extBut b o (Nat.ne_of_lt (Heap.lt_size e)) (Heap.get?_push_of_some _ e)
  have J : Inv (LamX.lamCx X A' outer' s1 H1 E scope f c') [] σ H1 { s1 with heap := h₁, toks := s1.toks + ([] : List (Str × Value)).length } := LamX.lam_start2 I L env hr.hd un ns kept
  obtain ⟨te, pt, qt⟩ := hbody A' outer' s1 H1 E (hr.deeper _) hg
  have R1 : Rep T' G1 H1 (valR ρ) σ G1 H1 := rep_val R e1 (by rw [← e2]; exact aw.2) sub tub aw
  refine PySem.W.kla_codeExpr (wpAny_mono (pt.run [] _ _ H1 Q J (qt G1 H1 (valR ρ) σ G1 H1 Q R1 h)) (fun v s' hq => ?_) fun e s' hq => hq)
  obtain ⟨w', H', J', rv, q⟩ := hq
  exact ⟨w', H', J'.os, J'.bare, J'.base, J'.hok, rv, q⟩
theorem lam_takes {A : Around} {outer : List PySem.Env} {s1 : Shared} {H1 : Hp} {E : XK} {scope : Scope} {f c' : Addr} : Takes (LamX.lamCx X A outer s1 H1 E scope f c') (fun cls d _ H' => E cls d H') := takes_of rfl rfl rfl rfl
/-- x(lambda: body) -/
theorem snd_lam {tb : List (Addr × Str)} (ht : T.tabs = tb) {n : Nat} {r : Bool} {g : Addr} {fd : FuncData} {par y : Str} {Fc : Out D → Out D} {fx : Ro → Out D} {c P : Addr} {body : Expr} {scope : Scope} {p lp pos : Pos} (F : FnC X.prog X.w X.K X.mg X.base tb n g fd par Fc) (hr : Room (3 * n + 2) X.A) (hg : X.A.guards = some [])
    (hgl : Gl X y) (hm : X.mg y = some (.ref g)) (hk : PySem.W.keepIn X.K (.ref g) = true) (hb : Binds X.K fd [par] []) (hdb : (y == ("__debug__" : Str)) = false) (B : LamX.TabB X.base X.mg c P) (hc : X.env.code = .ref c) (hmT : (P, X.env.qual ++ "<lambda>") ∈ T.tabs)
    (one : ∀ p ∈ T.tabs, p.1 = P → p.2 = X.env.qual ++ "<lambda>") (L : LamX.LamS X.env.scope scope)
    (hbody : ∀ (f c' : Addr) (T' : Ap), T'.tub = T.tub → T'.tabs = T.tabs → ∀ (A : Around) (outer : List PySem.Env) (s1 : Shared) (H1 : Hp) (E : XK), Room (3 * n) (A.deeper (LamX.lamEnv X scope s1.heap.objs.size f c')) → A.guards = some [] → SndP (LamX.lamCx X A outer s1 H1 E scope f c') T' (PPX fun cls d _ H' => E cls d H') body fx) :
    SndE X T r (.Call (.Name y p) [.Lambda ⟨[], [], none, [], [], none, []⟩ body scope lp] [] pos) (fun ρ => Fc (fx (valR ρ))) := by
  refine SndE.read ⟨fun σ H Q => ∃ (G0 H0 : Hp) (ρ : Ro) (G : Hp), Rep T G0 H0 ρ σ G H ∧ (Fc (fx (valR ρ))).All (PostE false T G H Q), ⟨fun pins s σ H Q I h => ?_⟩, fun G0 H0 ρ σ G H Q R h => ⟨G0, H0, ρ, G, R, h⟩⟩
  obtain ⟨G0, H0, ρ, G, R, h⟩ := h
  refine wpAny_Call_Name_kw (ld_glob I hgl hm ?_ hdb)
  refine PySem.W.callWith_K (h₀ := X.base) I.ok.mod.kin hk ?_ (by rfl) (by rfl)
  show wpAny _ _ (spliced ((false, eval (.Lambda ⟨[], [], none, [], [], none, []⟩ body scope lp) X.env) :: backTo pos (starEach [] X.env))) _ _ s
  refine Calls.spliced_cons (lam_mk (T := T) (G := G) I R.sub R.tub R.tg B hc hmT one rfl (L.has I.ok) fun f c' pm ctv H1 s' I1 K1 hco hf nf offr => ?_)
  refine Calls.spliced_nil ⟨I1.kIn, ?_⟩
  have R1 := R.step K1
  have tb' : TubOk (T.with f c' (X.env.qual ++ "<lambda>") G) H1 := ⟨K1.tub.1, K1.tub.2.1, fun p hp => by
    rcases List.mem_cons.mp hp with z | z
    · rw [z]; exact hco
    · exact K1.tub.2.2 p z⟩
  have aw' : (T.with f c' (X.env.qual ++ "<lambda>") G).away G := ⟨R.tg.1, .refl G⟩
  have ok : ActOk X.prog X.w X.K X.mg X.base (3 * n + 1) X.stack s' H1 (T.with f c' (X.env.qual ++ "<lambda>") G) f (fx (valR ρ)) :=
    act_ok (T := T) I1 L hf nf offr List.mem_cons_self rfl rfl rfl R1 (hbody f c' _ rfl rfl)
  refine wpAny_call (codeAny_mono (F.run (T.with f c' (X.env.qual ++ "<lambda>") G) X.A X.stack s' H1 G f _ Q hr hg ht I1.env0 (hb s' [.ref f] I1.kIn rfl) K1.gh tb' aw' rfl ok (h.mono fun d hd v G' H' k i => ?_)) fun r s2 hq => ?_)
  · exact hd v G' H' (K1.trans k.unwith R.tub) (.inl (Is.top (T' := T) (by rfl) i.keep))
  · cases r with
    | error e => exact (show False from hq).elim
    | ok fl =>
      cases fl with
      | ret u => exact I1.after hq
      | next => exact False.elim hq
      | brk => exact False.elim hq
      | cont => exact False.elim hq
end
end Ev

set_option Elab.async false
set_option linter.all false
set_option autoImplicit false
set_option maxRecDepth 100000
set_option maxHeartbeats 4000000
namespace Ev
open PySem L2

/-- what is known of own exceptions -/
structure XcOk (P : Program) (K : PySem.W.Frag) (mg : Str → Option Value) (xc : Xc) : Prop where
  mks : ∀ x C par fld, (x, C, par, fld) ∈ xc.mks → mg x = some (.ref C) ∧ mg "super" = none ∧ ∃ (fI : Addr) (B newId i : String) (bmB : List Value) (fd : FuncData), Exn.MkFacts P K C fI B newId i bmB par fld fd
  mk0s : ∀ x C, (x, C) ∈ xc.mk0s → mg x = some (.ref C) ∧ ∃ (B newId i : String) (bmB : List Value), Exn.Mk0Facts K C B newId i bmB
  isxs : ∀ x yes no, (x, yes, no) ∈ xc.isxs → ∃ cv : Value, ((∃ k : Addr, cv = .ref k ∧ mg x = some cv) ∨ (∃ t : String, cv = .type t ∧ mg x = none ∧ bootBuiltins x = some cv ∧ x ≠ "__name__")) ∧
    (∀ c ∈ yes, ExcC K c ∧ PySem.W.kitOne K (.ref c) cv = some true) ∧ (∀ c ∈ no, ExcC K c ∧ PySem.W.kitOne K (.ref c) cv = some false)
  xats : ∀ f cs, (f, cs) ∈ xc.xats → ∀ c ∈ cs, XfC K c ∧ PySem.W.findIn K (.ref c) f = some none
  rsd : ∀ C, ((∃ x par fld, (x, C, par, fld) ∈ xc.mks) ∨ ∃ x, (x, C) ∈ xc.mk0s) → PySem.W.subIn K (.ref C) (.type "BaseException") = some true ∧ PySem.W.typeIn K (.ref C) = some (.type "type")
  trys : ∀ xs yes, (xs, yes) ∈ xc.trys → ∃ cs : List Value, cs.length = xs.length ∧ (∀ p ∈ xs.zip cs, mg p.1 = some p.2) ∧ ∀ C ∈ yes, PySem.W.exmAny K (.ref C) cs = some true
/-- the maker of lambdas: its code object, its table -/
def LamF (T : Ap) (X : Cx) : Prop := ∃ c P : Addr, X.env.code = .ref c ∧ LamX.TabB X.base X.mg c P ∧ (P, X.env.qual ++ "<lambda>") ∈ T.tabs ∧ ∀ p ∈ T.tabs, p.1 = P → p.2 = X.env.qual ++ "<lambda>"
structure Gd (C : Ck) (n : Nat) (S : Sx) (T : Ap) (X : Cx) : Prop where
  calm : C.cm = true → X.calm = true
  nd : X.N.Nodup
  hN : X.N = C.N
  room : C.cm = true → S.all = true → Room (3 * n + 2) X.A
  rm : C.cm = true → Room (3 * n) X.A
  roomH : L2H.RoomH (3 * n) X.A
  gua : X.A.guards = some []
  tb : T.tabs = C.τ.tabs
  sc : X.env.scope = S.sc
  fn : ∀ x, S.fn x = true → X.fn x = true
  blt : ∀ x ∈ bltNames, X.mg x = none
  glob : ∀ x d, C.τ.glob x = some d → ∃ u v, X.mg x = some u ∧ RelV v u ∧ ∀ T G, Is T G v d
  fns : ∀ f F, C.τ.fns[f]? = some F → ∃ a fd, FnG X.prog X.w X.K X.mg X.base C.τ.tabs n a fd F.ps (callT C.τ n f) ∧ X.mg F.name = some (.ref a) ∧ PySem.W.keepIn X.K (.ref a) = true ∧ Binds X.K fd F.ps [] ∧
    ∀ m ks perm, (f, m, ks, perm) ∈ C.kws → KwB X.K fd F.ps m ks perm
  excs : ∀ f F, C.τ.fns[f]? = some F → f ∈ C.τ.excs → ∃ a fd, FnX X.prog X.w X.K X.mg X.base C.τ.tabs n a fd F.ps (fun ds => callB C.τ n .exc f ds .bad) ∧ X.mg F.name = some (.ref a) ∧ PySem.W.keepIn X.K (.ref a) = true ∧ Binds X.K fd F.ps [] ∧
    ∀ m ks perm, (f, m, ks, perm) ∈ C.kws → KwB X.K fd F.ps m ks perm
  hots : ∀ f F, C.τ.fns[f]? = some F → f ∈ C.τ.hots → ∃ a fd, FnH X.prog X.w X.K X.mg X.base C.τ.tabs n a fd F.ps (callT C.τ n f) ∧ X.mg F.name = some (.ref a) ∧ PySem.W.keepIn X.K (.ref a) = true ∧ Binds X.K fd F.ps []
  lams : ∀ f F par, C.τ.fns[f]? = some F → f ∈ C.τ.lams → F.ps = [par] → ∃ a fd, FnC X.prog X.w X.K X.mg X.base C.τ.tabs n a fd par (fun a => callB C.τ n .act f [.none] a) ∧ X.mg F.name = some (.ref a) ∧ PySem.W.keepIn X.K (.ref a) = true ∧ Binds X.K fd F.ps []
  lam : C.lm = true → S.all = true → LamF T X
  news : ∀ f F, C.τ.fns[f]? = some F → f ∈ C.τ.news → ∃ a fd, FnL X.prog X.w X.K X.mg X.base C.τ.tabs n a fd F.ps (fun ds => callB C.τ n .new f ds .bad) ∧ X.mg F.name = some (.ref a) ∧ PySem.W.keepIn X.K (.ref a) = true ∧ Binds X.K fd F.ps []
  xc : XcOk X.prog X.K X.mg C.τ.xc
theorem Gd.blk {C : Ck} {n : Nat} {S : Sx} {T : Ap} {X : Cx} (g : Gd C n S T X) (s : Shared) (H : Hp) (scope : Scope) (cl : List (Str × Addr)) (c : Addr) (fp : List Addr) : Gd C n (S.into scope) T (X.blk s H scope (compEnvC scope cl c X.env) fp) where
  calm := g.calm
  nd := g.nd
  hN := g.hN
  room := fun _ z => by cases z
  rm := g.rm
  roomH := g.roomH
  excs := g.excs
  hots := g.hots
  lams := g.lams
  lam := fun _ z => by cases z
  gua := g.gua
  tb := g.tb
  sc := by
    show relabel scope X.env = relS scope S.sc
    rw [← g.sc]
    rfl
  fn := fun x h => by
    show (scope.names.lookup x == some .cell) = true
    simp only [Sx.fn, Sx.into, Bool.false_or] at h
    split at h
    · rename_i e; rw [e]; rfl
    · cases h
  blt := g.blt
  glob := g.glob
  fns := g.fns
  news := g.news
  xc := g.xc
/-- within a lambda -/
theorem Gd.lamd {C : Ck} {n : Nat} {S : Sx} {T T' : Ap} {X : Cx} (g : Gd C n S T X) {scope : Scope} (L : LamX.LamS X.env.scope scope) {A : Around} {outer : List PySem.Env} {s1 : Shared} {H1 : Hp} {E : XK} {f c' : Addr} (hr : Room (3 * n) (A.deeper (LamX.lamEnv X scope s1.heap.objs.size f c'))) (hg : A.guards = some []) (ht : T'.tabs = C.τ.tabs) :
    Gd C n (lamX scope) T' (LamX.lamCx X A outer s1 H1 E scope f c') where
  calm := fun _ => rfl
  nd := g.nd
  hN := g.hN
  room := fun _ z => by cases z
  rm := fun _ => hr
  roomH := L2H.roomH_of hr
  gua := hg
  tb := ht
  sc := rfl
  fn := fun x h => by
    simp only [Sx.fn, lamX, Bool.false_or] at h
    split at h
    · rename_i e
      exact absurd rfl (L.own _ (PySem.mem_of_lookup e)).2
    · cases h
  blt := g.blt
  glob := g.glob
  fns := g.fns
  excs := g.excs
  hots := g.hots
  lams := g.lams
  lam := fun _ z => by cases z
  news := g.news
  xc := g.xc
section
variable {C : Ck} {n : Nat} {S : Sx} {X : Cx} {T : Ap} {x : Str} {i : Nat}
theorem Gd.vis (g : Gd C n S T X) (h : visB S x = true) : Vis X.env.scope x := by
  rw [g.sc]
  unfold visB at h
  split at h
  · rename_i e; exact .inl e
  · rename_i e; exact .inr (.inl e)
  · rename_i e; exact .inr (.inr e)
  · cases h
theorem Gd.gl (g : Gd C n S T X) (h : glB S x = true) : Gl X x := by
  show X.env.scope.names.lookup x = some .globalImplicit
  rw [g.sc]
  unfold glB at h
  split at h
  · assumption
  · cases h
theorem Gd.isB {nm : Str} (g : Gd C n S T X) (h : isB S nm x = true) : x = nm ∧ Gl X nm := by
  unfold Ev.isB at h
  rw [Bool.and_eq_true, decide_eq_true_eq] at h
  exact ⟨h.1, g.gl h.2⟩
theorem not_t {b : Bool} (h : (!b) = true) : b = false := by cases b <;> first | rfl | cases h
theorem Gd.nm (g : Gd C n S T X) (h : nmB C S i x = true) : X.N[i]? = some x ∧ Vis X.env.scope x ∧ (x == ("__debug__" : Str)) = false ∧ (x == ("__classdict__" : Str)) = false := by
  unfold nmB at h
  simp only [Bool.and_eq_true, decide_eq_true_eq] at h
  rw [g.hN]
  exact ⟨h.1, g.vis h.2.1, not_t h.2.2.1, not_t h.2.2.2⟩
/-! ### targets -/
theorem Gd.loc (g : Gd C n S T X) (h : locB S x = true) : L2.Loc X.env.scope x ∧ (X.fn x = true ∨ X.env.scope.names.lookup x = some .local) := by
  rw [show X.env.scope = S.sc from g.sc]
  unfold locB at h
  split at h
  · rename_i e; exact ⟨.inl e, .inr e⟩
  · rename_i e; exact ⟨.inr e, .inl (g.fn _ h)⟩
  · cases h
theorem ae_cons {e : Expr} {es : List Expr} {env : PySem.Env} (h : notStarE e = true) : assignEach (e :: es) env = (false, assign e env) :: assignEach es env := by
  cases e <;> first | rfl | cases h
theorem listG_of : ∀ {gs : Tg} {es : List Expr}, chkGs C S gs es = true → listG gs = true
  | .nil, _, _ => rfl
  | .nm _, es, h => by cases es <;> simp only [chkGs] at h <;> cases h
  | .cons g gs, [], h => by simp only [chkGs] at h; cases h
  | .cons g gs, e :: es, h => by
    simp only [chkGs, Bool.and_eq_true] at h
    exact listG_of (gs := gs) h.2.2
theorem lenG_of {env : PySem.Env} : ∀ {gs : Tg} {es : List Expr}, chkGs C S gs es = true → (assignEach es env).length = lenG gs ∧ (assignEach es env).findIdx? (·.1) = none
  | .nil, [], _ => ⟨rfl, rfl⟩
  | .nil, _ :: _, h => by simp only [chkGs] at h; cases h
  | .nm _, es, h => by cases es <;> simp only [chkGs] at h <;> cases h
  | .cons g gs, [], h => by simp only [chkGs] at h; cases h
  | .cons g gs, e :: es, h => by
    simp only [chkGs, Bool.and_eq_true] at h
    obtain ⟨h1, h2⟩ := lenG_of (env := env) (gs := gs) h.2.2
    rw [ae_cons h.1]
    refine ⟨by simp [lenG, h1], ?_⟩
    rw [List.findIdx?_cons, h2]
    rfl
mutual
theorem chkG_ok (g : Gd C n S T X) : ∀ (tg : Tg) (x : Expr), chkG C S tg x = true → SndG X T x tg
  | .nm i, x, h => by
    cases x <;> simp only [chkG] at h <;> try cases h
    rename_i y p
    rw [Bool.and_eq_true, decide_eq_true_eq] at h
    obtain ⟨h1, h2⟩ := h
    obtain ⟨l1, l2⟩ := g.loc h2
    exact sg_nm g.nd (by rw [g.hN]; exact h1) l1 l2
  | .nil, x, h => by
    cases x <;> simp only [chkG] at h <;> try cases h
    rename_i es k p
    obtain ⟨hc, h⟩ := Bool.and_eq_true_iff.mp h
    cases es with
    | cons => cases h
    | nil => exact sg_tup (g.calm hc) rfl sgs_nil rfl rfl
  | .cons a b, x, h => by
    cases x <;> simp only [chkG] at h <;> try cases h
    rename_i es k p
    obtain ⟨hc, h⟩ := Bool.and_eq_true_iff.mp h
    obtain ⟨h1, h2⟩ := lenG_of (env := X.env) h
    exact sg_tup (g.calm hc) (listG_of h) (chkGs_ok g _ _ h) h1 h2
theorem chkGs_ok (g : Gd C n S T X) : ∀ (tg : Tg) (es : List Expr), chkGs C S tg es = true → PGs X es (gGs T tg)
  | .nil, [], _ => sgs_nil
  | .nil, _ :: _, h => by simp only [chkGs] at h; cases h
  | .nm _, es, h => by cases es <;> simp only [chkGs] at h <;> cases h
  | .cons a b, [], h => by simp only [chkGs] at h; cases h
  | .cons a b, e :: es, h => by
    simp only [chkGs, Bool.and_eq_true] at h
    exact sgs_cons (chkG_ok g a e h.2.1) (chkGs_ok g b es h.2.2) (by rw [ae_cons h.1]; rfl)
end
/-! ### operations -/
theorem bin_ok {o : Bop} {a b : Expr} {pos : Pos} {fa fb : Ro → Out D} {r : Bool} (ha : SndE X T true a fa) (hb : SndE X T true b fb) : SndE X T r (.BinOp a (bopA o) b pos) (fun ρ => (fa ρ).bind fun x => (fb ρ).bind fun y => binD o x y) := by
  cases o with
  | add => exact snd2 ha hb (fun ta tb pa pb => pe_op or_add pa pb) o2_add
  | sub => exact snd2 ha hb (fun ta tb pa pb => pe_op op_sub pa pb) o2_sub
  | mul => exact snd2 ha hb (fun ta tb pa pb => pe_op or_mulA pa pb) o2_mulA
  | fdiv => exact snd2 ha hb (fun ta tb pa pb => pe_op op_fdivW pa pb) o2_fdiv
  | mod => exact snd2 ha hb (fun ta tb pa pb => pe_op op_mod pa pb) o2_mod
  | pow => exact snd2 ha hb (fun ta tb pa pb => pe_op op_pow pa pb) o2_pow
theorem o2_mulF {K : PySem.W.Frag} : Op2F T (fun x y => match x with | .list _ => binD .mul x y | _ => .bad) (rMulD K) := by
  intro G H x y v u Q s t ix iy h
  cases x <;> cases y <;> simp only [binD] at h <;> try exact h.elim
  case list.int xs k =>
    rw [Out.All_guard] at h
    obtain ⟨hl, h⟩ := h
    simp only [Bool.and_eq_true, decide_eq_true_eq] at hl
    obtain ⟨l1, l2, l3⟩ := hl
    obtain ⟨p, vs, rfl, gp, iv⟩ := ix.list s
    refine .inr ⟨p, k, vs, rfl, iy.int, gp, by omega, by omega, ?_, fun p' hp => PostF.laid s t h hp (iv.rep _)⟩
    rw [iv.length, sizeLine_eq]
    have : xs.length * k.toNat ≤ 1000 * 1000 := Nat.mul_le_mul l1 (by omega)
    omega
theorem SndF.weaken {f g : Ro → Out D} {ast : Expr} (h : SndF X T ast f) (w : ∀ (ρ : Ro) (P : D → Prop), (g ρ).All P → (f ρ).All P) : SndF X T ast g := by
  obtain ⟨t, p, q⟩ := h
  exact ⟨t, p, fun G0 H0 ρ σ G H Q R h => q G0 H0 ρ σ G H Q R (w ρ _ h)⟩
theorem SndF.only {f : Ro → Out D} {ast : Expr} (h : SndF X T ast f) : SndF X T ast (onlyL f) := h.weaken fun ρ P q => (All_onlyL.mp q).mono fun d ⟨xs, e, hd⟩ => by rw [e]; exact hd
theorem binF_ok {o : Bop} {a b : Expr} {pos : Pos} {fa fb : Ro → Out D} (ho : o = .add ∨ o = .mul) (ha : SndE X T true a fa) (hb : SndE X T true b fb) : SndF X T (.BinOp a (bopA o) b pos) (onlyL fun ρ => (fa ρ).bind fun x => (fb ρ).bind fun y => binD o x y) := by
  rcases ho with rfl | rfl
  · refine SndF.weaken (snd2F ha hb (fun ta tb pa pb => pe_op or_add pa pb) o2_addF) fun ρ P h => ?_
    rw [All_onlyL, Out.All_bind] at h
    rw [Out.All_bind]
    refine h.mono fun x hx => ?_
    rw [Out.All_bind] at hx ⊢
    refine hx.mono fun y hy => ?_
    cases x <;> cases y <;> simp only [binD] at hy <;> try exact hy.elim
    case int.int => obtain ⟨xs, e, _⟩ := hy; cases e
    case tuple.tuple => rw [Out.All_guard] at hy; obtain ⟨_, xs, e, _⟩ := hy; cases e
    case list.list =>
      simp only [binD]
      exact hy.mono fun d ⟨xs, e, hd⟩ => by rw [e]; exact hd
  · refine SndF.weaken (snd2F ha hb (fun ta tb pa pb => pe_op or_mul pa pb) o2_mulF) fun ρ P h => ?_
    rw [All_onlyL, Out.All_bind] at h
    rw [Out.All_bind]
    refine h.mono fun x hx => ?_
    rw [Out.All_bind] at hx ⊢
    refine hx.mono fun y hy => ?_
    cases x <;> cases y <;> simp only [binD] at hy <;> try exact hy.elim
    case int.int => rw [Out.All_guard] at hy; obtain ⟨_, xs, e, _⟩ := hy; cases e
    case tuple.int => rw [Out.All_guard] at hy; obtain ⟨_, xs, e, _⟩ := hy; cases e
    case list.int =>
      simp only [binD]
      exact hy.mono fun d ⟨xs, e, hd⟩ => by rw [e]; exact hd
theorem Gd.u64 (g : Gd C n S T X) : X.A.units + 64 < cLine := by have := g.roomH.un; omega
theorem Gd.u1 (g : Gd C n S T X) : X.A.units + 1 < cLine := by have := g.roomH.un; omega
theorem Gd.u65 (g : Gd C n S T X) : X.A.units + 65 < cLine := by have := g.roomH.un; omega
theorem mark_of {op : CmpOp} {b : Expr} (h : notSetE b = true) : behindInMarks op b = false := by
  cases b <;> first | rfl | cases h
theorem cmp_ok {o : Cop} {a b : Expr} {fa fb : Ro → Out D} (g : Gd C n S T X) (ha : SndE X T true a fa) (hb : SndE X T true b fb) : SndC X T (copA o) a b (fun ρ => (fa ρ).bind fun x => (fb ρ).bind fun y => cmpD o x y) := by
  cases o with
  | eq => exact sc_op2 (op_eqD g.u64) ha hb o2_eq
  | ne => exact sc_op2 (op_neD g.u64) ha hb o2_ne
  | lt => exact sc_op2 op_lt ha hb o2_lt
  | le => exact sc_op2 op_le ha hb o2_le
  | gt => exact sc_op2 op_gt ha hb o2_gt
  | ge => exact sc_op2 op_ge ha hb o2_ge
  | inn => exact sc_op2 (op_inS g.u65) ha hb o2_in
  | nin => exact sc_op2 (op_ninS g.u65) ha hb o2_nin
/-- the rule of a comparison -/
theorem cop_rule (g : Gd C n S T X) (o : Cop) : ∃ q : R2, OpR X (compareOp (copA o)) q ∧ Op2 T (cmpD o) q := by
  cases o with
  | eq => exact ⟨_, op_eqD g.u64, o2_eq⟩
  | ne => exact ⟨_, op_neD g.u64, o2_ne⟩
  | lt => exact ⟨_, op_lt, o2_lt⟩
  | le => exact ⟨_, op_le, o2_le⟩
  | gt => exact ⟨_, op_gt, o2_gt⟩
  | ge => exact ⟨_, op_ge, o2_ge⟩
  | inn => exact ⟨_, op_inS g.u65, o2_in⟩
  | nin => exact ⟨_, op_ninS g.u65, o2_nin⟩
end
end Ev

set_option Elab.async false
set_option linter.all false
set_option autoImplicit false
set_option maxRecDepth 100000
set_option maxHeartbeats 4000000
namespace Ev
open PySem L2 PySem.Spec PyProof.Rows
/-! ### t[::-1] of a list, of a tuple -/
theorem adjust_back (n : Nat) : Builtin.Slice.sliceAdjust none none (-1) (n : Int) = ((n : Int) - 1, -1) := by
  unfold Builtin.Slice.sliceAdjust
  rw [if_pos (show (-1 : Int) < 0 by decide), if_pos (show (-1 : Int) < 0 by decide)]
  simp
theorem places_back (n : Nat) : Builtin.Slice.slicePlaces ((n : Int) - 1) (-1) (-1) = n := by
  unfold Builtin.Slice.slicePlaces
  rw [if_neg (show ¬ (-1 : Int) > 0 by decide)]
  by_cases h : (n : Int) - 1 > -1
  · rw [if_pos h, show (- -1 : Int) = 1 by decide, Int.ediv_one]
    omega
  · rw [if_neg h]
    omega
theorem fm_congr {α β : Type} {f g : α → Option β} : ∀ {l : List α}, (∀ x ∈ l, f x = g x) → l.filterMap f = l.filterMap g
  | [], _ => rfl
  | x :: r, h => by
    have e := h x List.mem_cons_self
    have ih := fm_congr (l := r) fun y hy => h y (List.mem_cons_of_mem _ hy)
    cases q : g x with
    | none => rw [List.filterMap_cons_none (e.trans q), List.filterMap_cons_none q, ih]
    | some b => rw [List.filterMap_cons_some (e.trans q), List.filterMap_cons_some q, ih]
theorem pick_back (xs : Array Value) : ((List.range xs.size).filterMap fun (k : Nat) => xs[((xs.size : Int) - 1 + (k : Int) * (-1)).toNat]?).toArray = xs.toList.reverse.toArray := by
  congr 1
  rw [← PySem.W.krv_all xs]
  rw [← List.filterMap_reverse]
  rw [← PySem.W.krv_range, List.filterMap_map]
  refine fm_congr fun k hk => ?_
  have := List.mem_range.mp hk
  show xs[((xs.size : Int) - 1 + (k : Int) * (-1)).toNat]? = xs[xs.size - 1 - k]?
  congr 1
  omega
section
variable {prog : Program} {w : World} {A : Around} {E : Value → Shared → Prop} {s : Shared}
theorem sliceApplied_back {sl : Addr} {vl vu vs : Value} {n : Nat} {Q : Int × Int × Nat → Shared → Prop} (hs : s.heap.IsSliceOf sl vl vu vs) (pl : IsPart vl none) (pu : IsPart vu none) (pk : IsPart vs (some (-1)))
    (h : Q ((n : Int) - 1, -1, n) s) : wpAny (model prog w) A (Builtin.Slice.sliceApplied (.ref sl) (pure (n : Int))) Q E s := by
  obtain ⟨os, hos, hcs, hds⟩ := id hs
  unfold Builtin.Slice.sliceApplied Builtin.Slice.sliceFields
  refine wpAny_bind (wpAny_bind (wpAny_field hos hds (x := vl) rfl (wpAny_bind (wpAny_field hos hds (x := vu) rfl (wpAny_bind (wpAny_field hos hds (x := vs) rfl (wpAny_pure ?_)))))))
  refine wpAny_bind (HT.slicePart_ pk ?_)
  show wpAny _ _ (if ((-1 : Int) == 0) = true then _ else _) _ _ s
  rw [if_neg (by decide)]
  refine wpAny_bind (HT.slicePart_ pl (wpAny_bind (HT.slicePart_ pu (wpAny_bind (wpAny_pure ?_)))))
  show wpAny _ _ (match Builtin.Slice.sliceAdjust none none (-1) (n : Int) with | (lo, hi) => pure (lo, (-1 : Int), Builtin.Slice.slicePlaces lo hi (-1))) _ _ s
  rw [adjust_back n]
  show wpAny _ _ (pure ((n : Int) - 1, (-1 : Int), Builtin.Slice.slicePlaces ((n : Int) - 1) (-1) (-1))) _ _ s
  rw [places_back]
  exact wpAny_pure h
theorem getItem_tuple_back {t sl : Addr} {items : Array Value} {vl vu vs : Value} {Q : Value → Shared → Prop} (ht : IsTup s.heap t items) (hs : s.heap.IsSliceOf sl vl vu vs) (pl : IsPart vl none) (pu : IsPart vu none) (pk : IsPart vs (some (-1)))
    (h : Q (.ref s.heap.objs.size) { s with heap := s.heap.push { cls := .type "tuple", data := .seq items.toList.reverse.toArray } })
    (hsz : items.size ≤ sizeLine) : wpAny (model prog w) A (getItem (.ref t) (.ref sl)) Q E s := by
  have htake : sizeOk (.seq items.toList.reverse.toArray) := by
    show items.toList.reverse.toArray.size ≤ sizeLine
    rw [List.size_toArray, List.length_reverse, Array.length_toList]
    exact hsz
  obtain ⟨os, hos, hcs, hds⟩ := id hs
  have hTs : s.TypeIs (.ref sl) "slice" := ⟨os, hos, hcs⟩
  unfold getItem
  try with_reducible refine wpAny_holding ?_
  first | refine wpAny_bind (wpAny_pure ?_) | skip
  refine wpAny_bind (wpAny_sequenceKey ht.typeIs (by decide) ?_)
  refine wpAny_bind (wpAny_callSpecial?_slot (name := Str.ofString "__getitem__") ht.typeIs PyProof.Rows.slot_tuple_getitem
    (wpAny_call_entry PyProof.Rows.slot_tuple_getitem ht.typeIs entry_tuple_getitem ?_ (args_tuple_getitem _ _)))
  show wpAny _ _ (Builtin.Tuple.tupleItemsOf (.ref t) >>= _) _ _ s
  refine wpAny_bind (tupleItemsOf_ ht ?_)
  refine wpAny_bind (wpAny_typeOf hTs ?_)
  rw [if_pos (by decide)]
  refine wpAny_bind (sliceApplied_back hs pl pu pk ?_)
  have hno : ¬ ((((items.size : Int) - 1) == 0 && (-1 : Int) == 1 && items.size == items.size) = true) := by
    intro q
    rw [Bool.and_eq_true, Bool.and_eq_true] at q
    exact absurd (eq_of_beq q.1.2) (by decide)
  show wpAny _ _ (if (((items.size : Int) - 1) == 0 && (-1 : Int) == 1 && items.size == items.size) = true then _ else _) _ _ s
  rw [if_neg hno, pick_back]
  first
    | exact wpAny_bind (m := Builtin.Tuple.tupleExact _) (wpAny_newObj_type (wpAny_pure ⟨_, rfl, wpAny_pure h⟩) htake)
    | exact wpAny_bind (m := Builtin.Tuple.tupleExact _) (wpAny_newObj_type (wpAny_bind (wpAny_pure (wpAny_pure ⟨_, rfl, wpAny_pure h⟩))) htake)
    | exact wpAny_bind (wpAny_bind (m := Builtin.Tuple.tupleExact _) (wpAny_newObj_type (wpAny_pure (wpAny_pure ⟨_, rfl, wpAny_pure h⟩)) htake))
    | exact wpAny_bind (wpAny_bind (m := Builtin.Tuple.tupleExact _) (wpAny_newObj_type (wpAny_pure ⟨_, rfl, wpAny_pure h⟩) htake))
end
section
variable {X : Cx} {T : Ap}
def tRevA (K : PySem.W.Frag) (te : TE) : TE := fun σ H Q => te σ H fun x H1 => ∃ a xs, x = .ref a ∧ ((SqL K H1 a xs ∧ ∀ p, H1 p = none → Q (.ref p) (upd H1 p (.lst xs.reverse))) ∨ (SqT K H1 a xs ∧ ∀ p, H1 p = none → Q (.ref p) (upd H1 p (.tup xs.reverse))))
theorem pe_revA {e : Expr} {te : TE} {k : Nat} {p1 p2 p3 pos : Pos} (he : PE X e te) : PE X (.Subscript e (.Slice none none (some (.UnaryOp .USub (.Constant (.int 1) k p1) p2)) p3) pos) (tRevA X.K te) := by
  refine ⟨fun pins s σ H Q I h => ?_⟩
  refine Subscript_ (thn (he.run pins s σ H _ I h) fun v s1 ⟨x, H1, I1, r1, q1⟩ => ?_)
  obtain ⟨a, xs, ex, hx⟩ := q1
  subst ex
  cases r1
  have hst : PO X (some (.UnaryOp .USub (.Constant (.int 1) k p1) p2)) (tPart (tUn (rU fun i => .int (-i)) (tC (.int 1)))) := po_some (pe_un un_neg pe_int)
  refine wpAny_Slice (thn (po_none.run pins s1 σ H1 (fun o H2 => o = none ∧ H2 = H1) I1 ⟨rfl, rfl⟩) fun vl s2 ⟨l, H2, I2, pl, el, e2⟩ => ?_)
  subst el e2
  refine thn (po_none.run pins s2 σ H2 (fun o H3 => o = none ∧ H3 = H2) I2 ⟨rfl, rfl⟩) fun vu s3 ⟨u, H3, I3, pu, eu, e3⟩ => ?_
  subst eu e3
  refine thn (hst.run pins s3 σ H3 (fun o H4 => o = some (-1) ∧ H4 = H3) I3 ⟨1, rfl, -1, rfl, rfl, rfl⟩) fun vs s4 ⟨o, H4, I4, ps, eo, e4⟩ => ?_
  subst eo e4
  have I5 : Inv X pins σ H4 { s4 with heap := s4.heap.push { cls := .type "slice", data := .fields #[vl, vu, vs] } } := I4.kept (t' := s4.toks) fun b ob q => Heap.get?_push_of_some _ q
  rcases hx with ⟨hx, q⟩ | ⟨hx, q⟩
  · obtain ⟨its, r, ht, hz⟩ := I5.list hx
    have hlen := r.length
    show wpAny (model X.prog X.w) X.A (subscriptTail e (.Slice none none (some (.UnaryOp .USub (.Constant (.int 1) k p1) p2)) p3) (.ref a) (.ref s4.heap.objs.size)) (EP X pins σ Q) X.xe { s4 with heap := s4.heap.push { cls := .type "slice", data := .fields #[vl, vu, vs] } }
    refine tail_any (ops := [.ref a, .ref s4.heap.objs.size]) ht.isList.typeIs (PySem.slot_list_getitem.lookup) ?_ (by with_unfolding_all rfl)
    refine wpAny_getItem_list_slice ht.isList (Heap.IsSliceOf.new _ vl vu vs) pl pu ps (by decide) ?_ (by rw [List.size_toArray]; omega)
    rw [PySem.W.krv_pick]
    refine ⟨.ref _, _, I5.laid (t' := s4.toks) (o := .lst xs.reverse) (fun b ob q => Heap.get?_push_of_some _ q) (Nat.le_refl _) ?_, rfl, q _ (I5.hok.fresh (Nat.le_refl _))⟩
    exact ⟨by rw [List.length_reverse]; exact hz, _, 0, r.reverse, Heap.get?_push_size _ rfl⟩
  · obtain ⟨its, r, ht, hz⟩ := I5.tuple hx
    have hlen := r.length
    show wpAny (model X.prog X.w) X.A (subscriptTail e (.Slice none none (some (.UnaryOp .USub (.Constant (.int 1) k p1) p2)) p3) (.ref a) (.ref s4.heap.objs.size)) (EP X pins σ Q) X.xe { s4 with heap := s4.heap.push { cls := .type "slice", data := .fields #[vl, vu, vs] } }
    refine tail_any (ops := [.ref a, .ref s4.heap.objs.size]) ht.typeIs (PyProof.Rows.slot_tuple_getitem.lookup) ?_ (by with_unfolding_all rfl)
    refine getItem_tuple_back ht (Heap.IsSliceOf.new _ vl vu vs) pl pu ps ?_ (by rw [List.size_toArray]; omega)
    refine ⟨.ref _, _, I5.laid (t' := s4.toks) (o := .tup xs.reverse) (fun b ob q => Heap.get?_push_of_some _ q) (Nat.le_refl _) ?_, rfl, q _ (I5.hok.fresh (Nat.le_refl _))⟩
    exact ⟨by rw [List.length_reverse]; exact hz, _, r.reverse, IsTup.new _ _⟩
theorem snd_revE {r : Bool} {a : Expr} {fa : Ro → Out D} {p1 p2 p3 pos : Pos} {k : Nat} (ha : SndE X T true a fa) : SndE X T r (.Subscript a (.Slice none none (some (.UnaryOp .USub (.Constant (.int 1) k p1) p2)) p3) pos) (fun ρ => (fa ρ).bind revD) := by
  obtain ⟨ta, pa, qa⟩ := ha
  refine ⟨_, pe_revA pa, fun G0 H0 ρ σ G H Q R h => ?_⟩
  rw [Out.All_bind] at h
  refine qa G0 H0 ρ σ G H _ R (h.mono fun x hx v G1 H1 k1 i1 => ?_)
  cases x <;> simp only [revD] at hx <;> try exact hx.elim
  · obtain ⟨p, vs, rfl, gp, iv⟩ := i1.list k1.gh
    exact ⟨p, vs, rfl, .inl ⟨.of gp, fun p' hp => PostF.laid k1.gh k1.tub (PostF.trans (PostE.ofF R.sub R.tub hx) k1 R.tub) hp iv.reverse⟩⟩
  · obtain ⟨p, vs, rfl, gp, iv⟩ := i1.tup
    exact ⟨p, vs, rfl, .inr ⟨.of (k1.gh _ _ gp), fun p' hp => PostE.laid k1.gh k1.tub (PostE.trans hx k1 R.tub) hp fun G' s' e => .tup e ((iv.mono s' _ _).reverse)⟩⟩
theorem snd_revO {a : Expr} {fa : Ro → Out D} {p1 p2 p3 pos : Pos} {k : Nat} (ha : SndE X T true a fa) : SndF X T (.Subscript a (.Slice none none (some (.UnaryOp .USub (.Constant (.int 1) k p1) p2)) p3) pos) (onlyL fun ρ => (fa ρ).bind revD) := by
  refine SndF.weaken (snd_revF ha) fun ρ P h => ?_
  obtain h := All_onlyL.mp h
  rw [Out.All_bind] at h ⊢
  refine h.mono fun x hx => ?_
  cases x <;> simp only [revD] at hx <;> try exact hx.elim
  · obtain ⟨xs, e, hd⟩ := hx
    cases e
    exact hd
  · obtain ⟨xs, e, hd⟩ := hx
    cases e
end
end Ev

set_option Elab.async false
set_option linter.all false
set_option autoImplicit false
set_option maxRecDepth 100000
set_option maxHeartbeats 4000000
namespace Ev
open PySem L2
section
variable {C : Ck} {n : Nat} {S : Sx} {X : Cx} {T : Ap}
theorem tOf_v {x : Expr} {f : Ro → Out D} {t : TE} (p : PT X x (tTest t)) (q : ∀ (G0 H0 : Hp) (ρ : Ro) (σ : Sg) (G H : Hp) (Q : VK), Rep T G0 H0 ρ σ G H → (f ρ).All (PostE false T G H Q) → t σ H Q) : SndT X T x (tst f) := by
  refine ⟨_, p, fun G0 H0 ρ σ G H Q R h => ?_⟩
  rw [All_tst] at h
  refine q G0 H0 ρ σ G H _ R (h.mono fun d ⟨bb, e, hd⟩ v G1 H1 k1 i1 => ?_)
  subst e
  exact ⟨bb, i1.bool, hd bb G1 H1 rfl k1⟩
theorem pt_ite {c a b : Expr} {pos : Pos} {tc ta tb : TT} (hc : PT X c tc) (ha : PT X a ta) (hb : PT X b tb) : PT X (.IfExp c a b pos) (fun σ H Q => tc σ H fun k H1 => if k = true then ta σ H1 Q else tb σ H1 Q) := by
  refine ⟨fun pins s σ H Q I h => PyProof.Rows.isTrue_IfExp (thn (hc.run pins s σ H _ I h) fun d s1 ⟨H1, I1, q1⟩ => ?_)⟩
  cases d with
  | true => exact ha.run pins s1 σ H1 Q I1 q1
  | false => exact hb.run pins s1 σ H1 Q I1 q1
theorem tst_ite {c a b : Expr} {pos : Pos} {fc fa fb : Ro → Out D} (hc : SndT X T c (tst fc)) (ha : SndT X T a (tst fa)) (hb : SndT X T b (tst fb)) : SndT X T (.IfExp c a b pos) (tst fun ρ => (fc ρ).bind fun x => (asBool x).bind fun
    | true => fa ρ
    | false => fb ρ) := by
  obtain ⟨tc, pc, qc⟩ := hc
  obtain ⟨ta, pa, qa⟩ := ha
  obtain ⟨tb, pb, qb⟩ := hb
  refine ⟨_, pt_ite pc pa pb, fun G0 H0 ρ σ G H Q R h => ?_⟩
  rw [All_tst, Out.All_bind] at h
  refine qc G0 H0 ρ σ G H _ R (All_tst.mpr (h.mono fun x hx => ?_))
  cases x <;> simp only [asBool] at hx <;> try exact hx.elim
  rename_i k
  refine ⟨k, rfl, fun k' G1 H1 e k1 => ?_⟩
  cases e
  cases k with
  | true =>
    rw [if_pos rfl]
    exact qa G0 H0 ρ σ G1 H1 _ (R.step k1) (All_tst.mpr (Out.All.mono (fun d ⟨bb, e, hd⟩ => ⟨bb, e, PostT.trans hd k1 R.tub⟩) hx))
  | false =>
    rw [if_neg Bool.false_ne_true]
    exact qb G0 H0 ρ σ G1 H1 _ (R.step k1) (All_tst.mpr (Out.All.mono (fun d ⟨bb, e, hd⟩ => ⟨bb, e, PostT.trans hd k1 R.tub⟩) hx))
/-! ### comprehensions -/
theorem pts_yes : PTs X [] (tT T fun _ => .ret (.bool true)) := by
  refine ⟨fun pins s σ H Q I ⟨G0, H0, ρ, G, R, h⟩ => pts_nil.run pins s σ H Q I ?_⟩
  exact (All_tst.mp h).elim fun b ⟨e, q⟩ => (by cases e; exact q true G H rfl (.refl R.sub R.tub))
theorem snd_lc {elt tg iter : Expr} {ifs : List Expr} {scope : Scope} {own : List (Str × Nat)} {pos : Pos} {fi fc fe : Ro → Out D} {g : Tg} (hc : X.calm = true) (hN : X.N.Nodup) (hi : SndI X T true tg iter fi) (ok : BlkOk X.N X.env.scope scope own)
    (hg : ∀ (s : Shared) (H : Hp) (c : Addr) (cl : List (Str × Addr)) (fp : List Addr), SndG (X.blk s H scope (compEnvC scope cl c X.env) fp) T tg g)
    (ht : ∀ (s : Shared) (H : Hp) (c : Addr) (cl : List (Str × Addr)) (fp : List Addr), PTs (X.blk s H scope (compEnvC scope cl c X.env) fp) ifs (tT T fc))
    (he : ∀ (s : Shared) (H : Hp) (c : Addr) (cl : List (Str × Addr)) (fp : List Addr), SndE (X.blk s H scope (compEnvC scope cl c X.env) fp) T false elt fe)
    (hs : ∀ x, foldedSetIterable iter X.env x = pure x) (hin : g.inside (own.map (·.2)) = true) :
    SndF X T (.ListComp elt [⟨tg, iter, ifs, 0⟩] scope pos) (fun ρ => (fi ρ).bind fun x => (itemsD x).bind fun xs => .guard (decide (xs.length ≤ lim)) (lcGo (lcTurn (own.map (·.2)) g fc fe ρ) xs [])) :=
  ⟨_, pe_lc hc hN hi.pi ok hg ht (fun s H c cl fp => (he s H c cl fp).pe) hs, fun G0 H0 ρ σ G H Q R h => lc_reads hin R h⟩
theorem folded_of {iter : Expr} (h : notSetE iter = true) (env : PySem.Env) (x : Value) : foldedSetIterable iter env x = pure x := by
  cases iter <;> first | rfl | cases h
/-! ### the main theorem for expressions -/
def SndN (X : Cx) (T : Ap) (Γ : Env) (E : E) : Nd → Prop
  | .e x => SE X T Γ E x
  | .i tg x => ∀ r, SndI X T r tg x (ev Γ r E)
  | .l xs => ∀ r, SndL X T r xs (ev Γ r E)
  | .k ks => SndK X T ks (ev Γ false E)
theorem ofX {Γ : Env} {E : E} {nd : Nd} {x : Expr} (h : nd.x = some x) (s : SE X T Γ E x) : SndN X T Γ E nd := by
  cases nd with
  | e y => cases h; exact s
  | i tg y => cases h; exact fun r => si_seq (s.e r)
  | l xs => cases h
  | k ks => cases h
theorem plain_name {x : Str} {p : Pos} : plainT (.Name x p) = true := rfl
end
end Ev

set_option Elab.async false
set_option linter.all false
set_option autoImplicit false
set_option maxRecDepth 100000
set_option maxHeartbeats 4000000
namespace Ev
open PySem L2
/-! ### comprehensions with two clauses -/
theorem loop_it {J : It} {n : Nat} {Gd : Hp → Prop} {Y : Nat → Hp → V → Hp → Prop} (w : Walk J n Gd Y) (Pv : Nat → Hp → Prop) {Body : (Hp → Prop) → V → Hp → Prop} {Fin : Hp → Prop} {H0 : Hp} (h0 : Pv 0 H0) (hG : ∀ i H, i ≤ n → Pv i H → Gd H)
    (hs : ∀ i x H H', i < n → Pv i H → Y i H x H' → Body (Pv (i + 1)) x H') (hd : ∀ H, Pv n H → Fin H) :
    ∃ W : Nat → Nat → Hp → Prop, (∃ m, W 0 m H0) ∧ ∀ i m H, W i m H → (J.stop i H ∧ Fin H) ∨ (J.go i H ∧ ∃ Nx : Hp → Prop, (∀ H', Nx H' → ∃ m', m' < m ∧ W (i + 1) m' H') ∧ ∀ x H', J.yld i H x H' → Body Nx x H') := by
  refine ⟨fun i m H => m = n - i ∧ i ≤ n ∧ Pv i H, ⟨n, rfl, Nat.zero_le _, h0⟩, ?_⟩
  rintro i m H ⟨em, hi, p⟩
  have g := hG i H hi p
  rcases Nat.lt_or_eq_of_le hi with lt | e
  · exact .inr ⟨w.goes i H lt g, Pv (i + 1), fun H' p' => ⟨n - (i + 1), by omega, rfl, lt, p'⟩, fun x H' y => hs i x H H' lt p (w.yields i H x H' lt g y)⟩
  · subst e
    exact .inl ⟨w.stops H g, hd H p⟩
section
variable {T : Ap} {G0 H0 G H G3 H3 : Hp} {ρ ρ2 : Ro} {σ σ2 : Sg}
theorem asgG_mut : ∀ (g : Tg) {d : D} {ρ ρ2 : Ro} {i : Nat} {s : Sl}, asgG g d ρ = some ρ2 → ρ2[i]? = some (some s) → s.mut = true → ρ[i]? = some (some s) ∧ i ∉ g.slots
  | .nm j, d, ρ, ρ2, i, s, h, e, m => by
    simp only [asgG] at h
    cases h
    by_cases hj : j = i
    · subst hj
      rw [List.getElem?_set] at e
      simp only [if_true] at e
      split at e
      · cases e; cases m
      · cases e
    · rw [List.getElem?_set_ne hj] at e
      exact ⟨e, by simp [Tg.slots, Ne.symm hj]⟩
  | .nil, d, ρ, ρ2, i, s, h, e, m => by
    obtain ⟨xs, rfl⟩ : ∃ xs, d = .tuple xs := by cases d <;> first | exact ⟨_, rfl⟩ | cases h
    cases xs with
    | nil => cases h; exact ⟨e, by simp [Tg.slots]⟩
    | cons a b => cases h
  | .cons g gs, d, ρ, ρ2, i, s, h, e, m => by
    obtain ⟨xs, rfl⟩ : ∃ xs, d = .tuple xs := by cases d <;> first | exact ⟨_, rfl⟩ | cases h
    cases xs with
    | nil => cases h
    | cons a b =>
      simp only [asgG, Option.bind_eq_some_iff] at h
      obtain ⟨ρ1, h1, h2⟩ := h
      obtain ⟨e1, n1⟩ := asgG_mut gs h2 e m
      obtain ⟨e2, n2⟩ := asgG_mut g h1 e1 m
      exact ⟨e2, by simp [Tg.slots, n1, n2]⟩
/-- the frame later on: what is owned as it stands now, the values as they were -/
theorem Rep.again (R : Rep T G0 H0 ρ σ G H) (R2 : Rep T G0 H0 ρ2 σ2 G3 H3) (sb : Sub G3 G) (hm : ∀ (i : Nat) (s : Sl), ρ2[i]? = some (some s) → s.mut = true → ρ[i]? = some (some s) ∧ σ2[i]? = σ[i]?) : Rep T G0 H0 ρ2 σ2 G H := by
  refine ⟨R.st, R.t0, R.tg, R2.len, fun i s e => ?_, fun i j si sj vi vj b h1 h2 e1 e2 a1 a2 => ?_⟩
  · cases hq : s.mut with
    | true =>
      obtain ⟨z1, z2⟩ := hm i s e hq
      rw [z2]
      exact R.sl i s z1
    | false =>
      obtain ⟨v, e1, e2⟩ := R2.sl i s e
      cases s with
      | val d => exact ⟨v, e1, Is.mono sb _ _ e2⟩
      | own xs => cases hq
      | dic t kvs => cases hq
      | own2 xss => cases hq
      | act => exact ⟨v, e1, e2⟩
  · have mt : ∀ {s : Sl} {v : V}, AtS H s v b → s.mut = true := fun {s v} a => by cases s <;> first | rfl | exact a.elim
    obtain ⟨z1, z2⟩ := hm i si h1 (mt a1)
    obtain ⟨z3, z4⟩ := hm j sj h2 (mt a2)
    rw [z2] at e1
    rw [z4] at e2
    exact R.apx i j si sj vi vj b z1 z3 e1 e2 a1 a2
end
section
variable {X : Cx} {T : Ap} {fi fi2 fe : Ro → Out D} {g g2 : Tg} {own own2 : List Nat}
abbrev yes : Ro → Out D := fun _ => .ret (.bool true)
def lcTurn2 (own own2 : List Nat) (g g2 : Tg) (fi2 fe : Ro → Out D) (ρ : Ro) : D → List D → Out (List D) := fun d acc => (Out.ofO (asgG g d (wipeR ρ own))).bind fun ρ2 => (fi2 ρ2).bind fun x2 => (itemsD x2).bind fun xs2 =>
  .guard (decide (acc.length + xs2.length ≤ lim)) (lcIn (fun d2 => (Out.ofO (asgG g2 d2 (wipeR ρ2 own2))).bind fun ρ3 => fe ρ3) xs2 acc)
theorem stay_at {Ga Ha Gb Hb : Hp} {Da : Addr} {vs : List V} (tD : T.tub ≠ some Da) (k : Stp T Ga Ha Gb Hb) (h : Ha Da = some (.lst vs)) (g : Ga Da = none) : Hb Da = some (.lst vs) ∧ Gb Da = none := by
  refine ⟨k.keep _ _ tD h, ?_⟩
  cases q : Gb Da with
  | none => rfl
  | some o =>
    rcases k.new _ _ q with z | z | ⟨ys, z⟩
    · rw [g] at z; cases z
    · rw [h] at z; cases z
    · rw [h] at z; cases z
theorem put_at {G1 H1 G5 H5 : Hp} {Da : Addr} {us vs : List V} (k : Stp T G1 H1 G5 H5) (hD : H1 Da = none) (gD : G5 Da = none) (tD : T.tub ≠ some Da) (hH : H5 Da = some (.lst vs)) : Stp T G1 H1 G5 (upd H5 Da (.lst us)) := k.poke tD hD gD hH
theorem lc2_reads {σ : Sg} {H : Hp} {Q : VK} {G0 H0 G : Hp} {ρ : Ro} (hin : g.inside own = true) (hin2 : g2.inside own2 = true) (R : Rep T G0 H0 ρ σ G H)
    (h : ((fi ρ).bind fun x => (itemsD x).bind fun xs => lcOut (lcTurn2 own own2 g g2 fi2 fe ρ) xs []).All (PostF T G H Q)) :
    tLc2 (tI T true fi) (gG T g) (tT T yes) (tI T false fi2) (gG T g2) (tT T yes) (tE T false fe) own own2 σ H Q := by
  rw [Out.All_bind] at h
  refine ⟨G0, H0, ρ, G, R, h.mono fun d hd => ?_⟩
  obtain ⟨xs, ex, hd⟩ := All_items hd
  refine ⟨xs, ex, fun J Gd Y G1 H1 k1 W S Da hD => ?_⟩
  have R1 := R.step k1
  have gD : G1 Da = none := by
    cases e : G1 Da with
    | none => rfl
    | some u => rw [k1.gh Da u e] at hD; cases hD
  have tD : T.tub ≠ some Da := R1.tub.off hD
  refine loop_it W.w (fun i H => ∃ (G : Hp) (vs : List V) (acc : List D), Stp T G1 H1 G H ∧ H Da = some (.lst vs) ∧ G Da = none ∧ IsAll T G vs acc.reverse ∧ (lcOut (lcTurn2 own own2 g g2 fi2 fe ρ) (xs.drop i) acc).All (PostF T G1 H1 Q)) ?_ ?_ ?_ ?_
  · exact ⟨G1, [], [], Stp.fresh R1.sub R1.tub hD, upd_same, gD, .nil, Out.All.mono (fun d h => h.trans k1 R.tub) hd⟩
  · rintro i H hi ⟨G, vs, acc, k, _⟩
    exact S H k.kp
  · rintro i x H H' hi ⟨G, vs, acc, k, hH, hG, iv, h⟩ y
    obtain ⟨G3, d, e, k3, id⟩ := W.item i H x H' G hi (S H k.kp) y k.gs k.gh k.tub
    have kk := k.trans k3 R1.tub
    have hx : xs.drop i = d :: xs.drop (i + 1) := by
      obtain ⟨hi', rfl⟩ := List.getElem?_eq_some_iff.mp e
      exact List.drop_eq_getElem_cons hi'
    rw [hx] at h
    simp only [lcOut] at h
    unfold lcTurn2 at h
    rw [Out.All_bind, Out.All_bind, Out.All_ofO] at h
    obtain ⟨ρ2, e2, h⟩ := h
    have Rw := (R1.step kk).wipe own
    refine ⟨G0, H0, wipeR ρ own, G3, d, ρ2, Rw, id, e2, fun σ2 R2 l2 s2 => ?_⟩
    have hsame : L2.wipe σ2 own = L2.wipe σ own := wipe_same l2 fun j hj => s2 j fun hm => hj (by
      have := List.all_eq_true.mp hin j hm
      exact of_decide_eq_true this)
    obtain ⟨a3, b3⟩ := stay_at tD k3 hH hG
    refine ⟨hsame, G0, H0, ρ2, G3, R2, All_tst.mpr ⟨true, rfl, fun b' G4 H4 eb k4 => ?_⟩⟩
    cases eb
    rw [if_pos rfl]
    obtain ⟨a4, b4⟩ := stay_at tD k4 a3 b3
    have R4 := R2.step k4
    rw [Out.All_bind] at h
    refine ⟨G0, H0, ρ2, G4, R4, h.mono fun x2 hx2 => ?_⟩
    obtain ⟨xs2, ex2, hx2⟩ := All_items hx2
    rw [Out.All_guard] at hx2
    obtain ⟨hlen, hx2⟩ := hx2
    have hlen := of_decide_eq_true hlen
    refine ⟨xs2, ex2, fun J1 Gd1 Y1 G5 H5 k5 W1 S1 => ?_⟩
    obtain ⟨a5, b5⟩ := stay_at tD k5 a4 b4
    have k15 := (kk.trans k4 R1.tub).trans k5 R1.tub
    refine loop_it W1.w (fun j H => ∃ (G : Hp) (vs : List V) (acc : List D), Stp T G1 H1 G H ∧ Sub G5 G ∧ H Da = some (.lst vs) ∧ G Da = none ∧ acc.length + (xs2.length - j) ≤ lim ∧ IsAll T G vs acc.reverse ∧
      (lcIn (fun d2 => (Out.ofO (asgG g2 d2 (wipeR ρ2 own2))).bind fun ρ3 => fe ρ3) (xs2.drop j) acc).All fun acc' => (lcOut (lcTurn2 own own2 g g2 fi2 fe ρ) (xs.drop (i + 1)) acc').All (PostF T G1 H1 Q)) ?_ ?_ ?_ ?_
    · refine ⟨G5, vs, acc, k15, .refl _, a5, b5, by simpa using hlen, ((iv.mono k3.gs _ _).mono k4.gs _ _).mono k5.gs _ _, ?_⟩
      exact hx2
    · rintro j H hj ⟨G, vs, acc, k, sG, _⟩
      exact S1 H (sG.trans k.gh)
    · rintro j x H H' hj ⟨G, vs, acc, k, sG, hH, hG, hl, iv, h⟩ y
      obtain ⟨G6, d2, e6, k6, id2⟩ := W1.item j H x H' G hj (S1 H (sG.trans k.gh)) y sG k.gh k.tub
      have kk6 := k.trans k6 R1.tub
      have hx : xs2.drop j = d2 :: xs2.drop (j + 1) := by
        obtain ⟨hj', rfl⟩ := List.getElem?_eq_some_iff.mp e6
        exact List.drop_eq_getElem_cons hj'
      rw [hx] at h
      simp only [lcIn] at h
      rw [Out.All_bind, Out.All_bind, Out.All_ofO] at h
      obtain ⟨ρ3, e3, h⟩ := h
      have Rj : Rep T G0 H0 ρ2 σ2 G6 H' := ((R1.step kk6).wipe own).again R2 ((((k4.gs.trans k5.gs).trans sG)).trans k6.gs) fun n s es m => by
        obtain ⟨z1, z2⟩ := asgG_mut g e2 es m
        exact ⟨z1, s2 n z2⟩
      have Rw2 := Rj.wipe own2
      refine ⟨G0, H0, wipeR ρ2 own2, G6, d2, ρ3, Rw2, id2, e3, fun σ3 R3 l3 s3 => ?_⟩
      have hsame2 : L2.wipe σ3 own2 = L2.wipe σ2 own2 := wipe_same l3 fun n hn => s3 n fun hm => hn (by
        have := List.all_eq_true.mp hin2 n hm
        exact of_decide_eq_true this)
      obtain ⟨a6, b6⟩ := stay_at tD k6 hH hG
      refine ⟨hsame2, G0, H0, ρ3, G6, R3, All_tst.mpr ⟨true, rfl, fun b' G7 H7 eb k7 => ?_⟩⟩
      cases eb
      rw [if_pos rfl]
      obtain ⟨a7, b7⟩ := stay_at tD k7 a6 b6
      refine ⟨G0, H0, ρ3, G7, R3.step k7, h.mono fun z hz v G8 H8 k8 i8 => ?_⟩
      obtain ⟨a8, b8⟩ := stay_at tD k8 a7 b7
      have el := iv.length
      rw [List.length_reverse] at el
      refine ⟨vs, a8, Nat.lt_of_lt_of_le (show vs.length < lim by omega) lim_le, ?_⟩
      have k18 := (kk6.trans k7 R1.tub).trans k8 R1.tub
      refine ⟨G8, vs ++ [v], z :: acc, put_at k18 hD b8 tD a8, ((sG.trans k6.gs).trans k7.gs).trans k8.gs, upd_same, b8, by simp; omega, ?_, hz⟩
      rw [List.reverse_cons]
      exact (((iv.mono k6.gs _ _).mono k7.gs _ _).mono k8.gs _ _).append (.cons i8.keep .nil)
    · rintro H ⟨G, vs, acc, k, sG, hH, hG, hl, iv, h⟩
      rw [List.drop_length] at h
      exact ⟨G, vs, acc, k, hH, hG, iv, h⟩
  · rintro H ⟨G, vs, acc, k, hH, hG, iv, h⟩
    rw [List.drop_length] at h
    exact h Da vs acc.reverse G H rfl k hD hG hH iv
theorem snd_lc2 {elt tg iter tg1 iter1 : Expr} {scope : Scope} {ow : List (Str × Nat)} {pos : Pos} (hc : X.calm = true) (hN : X.N.Nodup) (hi : SndI X T true tg iter fi) (ok : BlkOk X.N X.env.scope scope ow) (ho : ow.map (·.2) = own) (hv : ∀ i ∈ own2, i ∈ own)
    (hg : ∀ (s : Shared) (H : Hp) (c : Addr) (cl : List (Str × Addr)) (fp : List Addr), SndG (X.blk s H scope (compEnvC scope cl c X.env) fp) T tg g)
    (hi1 : ∀ (s : Shared) (H : Hp) (c : Addr) (cl : List (Str × Addr)) (fp : List Addr), SndI (X.blk s H scope (compEnvC scope cl c X.env) fp) T false tg1 iter1 fi2)
    (hg1 : ∀ (s : Shared) (H : Hp) (c : Addr) (cl : List (Str × Addr)) (fp : List Addr), SndG (X.blk s H scope (compEnvC scope cl c X.env) fp) T tg1 g2)
    (he : ∀ (s : Shared) (H : Hp) (c : Addr) (cl : List (Str × Addr)) (fp : List Addr), SndE (X.blk s H scope (compEnvC scope cl c X.env) fp) T false elt fe)
    (hs : ∀ x, foldedSetIterable iter X.env x = pure x) (hs1 : ∀ env x, foldedSetIterable iter1 env x = pure x) (hin : g.inside own = true) (hin2 : g2.inside own2 = true) :
    SndF X T (.ListComp elt [⟨tg, iter, [], 0⟩, ⟨tg1, iter1, [], 0⟩] scope pos) (fun ρ => (fi ρ).bind fun x => (itemsD x).bind fun xs => lcOut (lcTurn2 own own2 g g2 fi2 fe ρ) xs []) :=
  ⟨_, pe_lc2 hc hN hi.pi ok (by rw [ho]; exact hv) hg (fun _ _ _ _ _ => pts_yes) (fun s H c cl fp => (hi1 s H c cl fp).pi) hg1 (fun _ _ _ _ _ => pts_yes) (fun s H c cl fp => (he s H c cl fp).pe) hs hs1, fun G0 H0 ρ σ G H Q R h => by rw [ho]; exact lc2_reads hin hin2 R h⟩
end
end Ev

set_option Elab.async false
set_option linter.all false
set_option autoImplicit false
set_option maxRecDepth 100000
set_option maxHeartbeats 8000000
namespace Ev
open PySem L2
section
variable {C : Ck} {n : Nat} {S : Sx} {X : Cx} {T : Ap}
theorem bt {a b : Bool} (h : (a && b) = true) : a = true ∧ b = true := by cases a <;> cases b <;> first | exact ⟨rfl, rfl⟩ | cases h
theorem nf {P : Prop} {E : E} (h : frE E = false) (e : frE E = true) : P := by rw [h] at e; cases e
/-- nodes that read alike in both ways -/
theorem SE.one {Γ : Env} {E : E} {x : Expr} (h : ∀ r, SndE X T r x (ev Γ true E)) (hr : ∀ r, ev Γ r E = ev Γ true E) (hp : plainT x = true) (hf : frE E = true → SndF X T x (onlyL (ev Γ false E))) : SE X T Γ E x :=
  SE.plain (fun r => by rw [hr r]; exact h r) hp hf
theorem sd_con {d : D} {c : Const} {k : Nat} {p : Pos} (h : conB d c = true) {Γ : Env} : SE X T Γ (.con d) (.Constant c k p) := by
  refine SE.plain (fun r => ?_) rfl (nf rfl)
  cases d <;> cases c <;> simp only [conB] at h <;> try cases h
  case int.int i j => cases of_decide_eq_true h; exact snd_c pe_int fun G => .int _
  case bool.bool i j => cases eq_of_beq h; exact snd_c pe_bl fun G => .bl _
  case str.str i j => cases of_decide_eq_true h; exact snd_c pe_str fun G => .str _
  case none.none => exact snd_c pe_non fun G => .non
theorem sd_glb (g : Gd C n S T X) {x : Str} {p : Pos} (h1 : glB S x = true) (h2 : (x == ("__debug__" : Str)) = false) : SE X T (Γof C n) (.glb x) (.Name x p) := by
  refine SE.plain (fun r => ?_) rfl (nf rfl)
  show SndE X T r (.Name x p) (fun ρ => Out.ofO (C.τ.glob x))
  cases q : C.τ.glob x with
  | none =>
    refine ⟨fun _ _ _ => False, ⟨fun _ _ _ _ _ _ h => h.elim⟩, fun G0 H0 ρ σ G H Q R h => h.elim⟩
  | some d =>
    obtain ⟨u, v, h3, h4, h5⟩ := g.glob x d q
    exact snd_c (pe_glob (g.gl h1) h3 h4 h2) fun G => h5 T G
theorem sd_bin {o : Bop} {a b : E} {x y : Expr} {p : Pos} {Γ : Env} (ha : SE X T Γ a x) (hb : SE X T Γ b y) : SE X T Γ (.bin o a b) (.BinOp x (bopA o) y p) := by
  refine SE.plain (fun r => bin_ok (ha.e true) (hb.e true)) rfl fun e => ?_
  cases o <;> first | exact binF_ok (.inl rfl) (ha.e true) (hb.e true) | exact binF_ok (.inr rfl) (ha.e true) (hb.e true) | cases e
theorem sd_not {a : E} {x : Expr} {p : Pos} {Γ : Env} (ha : SE X T Γ a x) : SE X T Γ (.not a) (.UnaryOp .Not x p) :=
  ⟨fun r => snd_not (ha.e true), tt_not ha.t, nf rfl, fun _ _ _ e => (by cases e)⟩
theorem sd_and {a b : E} {x y : Expr} {rest : List Expr} {p : Pos} {Γ : Env} (ha : SE X T Γ a x) (hb : SE X T Γ b (tailE .And y p rest)) : SE X T Γ (.and a b) (.BoolOp .And (x :: y :: rest) p) := by
  have hw : SndW X T (.BoolOp .And (x :: y :: rest) p) (tst (ev Γ true (.and a b))) := by
    cases rest with
    | nil => exact tt_and ha.t (tt_one_and hb.t)
    | cons z r => exact tt_and ha.t (hb.w _ _ _ rfl)
  refine ⟨fun r => ?_, hw.t, nf rfl, fun op ys q e => by cases e; exact hw⟩
  cases rest with
  | nil => exact snd_and (ha.e true) (snd_one (hb.e true))
  | cons z rr => exact snd_and (ha.e true) (hb.e true)
theorem sd_or {a b : E} {x y : Expr} {rest : List Expr} {p : Pos} {Γ : Env} (ha : SE X T Γ a x) (hb : SE X T Γ b (tailE .Or y p rest)) : SE X T Γ (.or a b) (.BoolOp .Or (x :: y :: rest) p) := by
  have hw : SndW X T (.BoolOp .Or (x :: y :: rest) p) (tst (ev Γ true (.or a b))) := by
    cases rest with
    | nil => exact tt_or ha.t (tt_one_or hb.t)
    | cons z r => exact tt_or ha.t (hb.w _ _ _ rfl)
  refine ⟨fun r => ?_, hw.t, nf rfl, fun op ys q e => by cases e; exact hw⟩
  cases rest with
  | nil => exact snd_or (ha.e true) (snd_one (hb.e true))
  | cons z rr => exact snd_or (ha.e true) (hb.e true)
theorem last_of {op op' : CmpOp} {y z : Expr} (h : notSetE z = true) : lastMarks [op, op'] [y, z] = false := by
  show lastMarks [op'] [z] = false
  exact mark_of h
theorem sd_chain (g : Gd C n S T X) {o o' : Cop} {a b c : E} {x y z : Expr} {p : Pos} {Γ : Env} (ha : SE X T Γ a x) (hb : SE X T Γ b y) (hc : SE X T Γ c z) (hz : notSetE z = true) : SE X T Γ (.chain o o' a b c) (.Compare x [copA o, copA o'] [y, z] p) := by
  obtain ⟨q1, r1, s1⟩ := cop_rule (T := T) g o
  obtain ⟨q2, r2, s2⟩ := cop_rule (T := T) g o'
  obtain ⟨t, h1, h2, h3⟩ := snb_chain (pos := p) r1 r2 s1 s2 (ha.e true) (hb.e true) (hc.e true) (last_of hz)
  exact ⟨fun r => SndE.read ⟨t, h1, h3⟩, tOf_v h2 h3, nf rfl, fun _ _ _ e => (by cases e)⟩
theorem sd_ite {a b c : E} {x y z : Expr} {p : Pos} {Γ : Env} (hc : SE X T Γ c z) (ha : SE X T Γ a x) (hb : SE X T Γ b y) : SE X T Γ (.ite c a b) (.IfExp z x y p) :=
  ⟨fun r => tt_ite hc.t (ha.e r) (hb.e r), tst_ite hc.t ha.t hb.t, nf rfl, fun _ _ _ e => (by cases e)⟩
theorem sd_idx {a b : E} {x y : Expr} {p : Pos} {Γ : Env} (ha : SE X T Γ a x) (hb : SE X T Γ b y) (hi : plainIxB y = true) : SE X T Γ (.idx a b) (.Subscript x y p) := by
  refine SE.plain (fun r => ?_) rfl (nf rfl)
  refine snd2 (ha.e true) (hb.e true) (fun ta tb pa pb => pe_ix or_ix pa pb ?_) o2_ix
  intro o i
  cases y <;> first | rfl | cases hi
theorem sd_rev {a : E} {x : Expr} {k : Nat} {p1 p2 p3 pos : Pos} {Γ : Env} (ha : SE X T Γ a x) : SE X T Γ (.rev a) (.Subscript x (.Slice none none (some (.UnaryOp .USub (.Constant (.int 1) k p1) p2)) p3) pos) :=
  SE.plain (fun r => snd_revE (ha.e true)) rfl fun _ => snd_revO (ha.e true)
theorem star_none {xs : List Expr} (h : xs.all notStarE = true) {x : Expr} {r : List Expr} (e : xs = x :: r) : notStarE x = true ∧ r.all notStarE = true := by
  subst e
  rw [List.all_cons] at h
  exact bt h
theorem sd_call (g : Gd C n S T X) {f : Nat} {F : Fd} {a : E} {x : Str} {xs : List Expr} {p pos : Pos} (hcal : calB C f = true) (hF : C.τ.fns[f]? = some F) (hx : F.name = x) (h1 : glB S x = true) (h2 : (x == ("__debug__" : Str)) = false) (h3 : xs.all notStarE = true)
    (ha : SndL X T false xs (ev (Γof C n) false a)) (h0 : xs = [] → ∀ ρ, ev (Γof C n) false a ρ = .ret (.tuple [])) : SE X T (Γof C n) (.call f a) (.Call (.Name x p) xs [] pos) := by
  subst hx
  cases hm : C.cm with
  | true =>
    obtain ⟨ad, fd, k1, k2, k3, k4, k5⟩ := g.fns f F hF
    exact SE.plain (fun r => (snd_call (k1.doer (g.rm hm) g.gua g.tb) (g.gl h1) k2 k3 k4 ha h3 h2 h0).toE) rfl (nf rfl)
  | false =>
    have hh : f ∈ C.τ.hots := by
      unfold calB at hcal
      rw [hm] at hcal
      exact of_decide_eq_true hcal
    obtain ⟨ad, fd, k1, k2, k3, k4⟩ := g.hots f F hF hh
    exact SE.plain (fun r => (snd_call (k1.doer g.roomH g.gua g.tb) (g.gl h1) k2 k3 k4 ha h3 h2 h0).toE) rfl (nf rfl)
/-- .. that may raise -/
theorem sd_xcall (g : Gd C n S T X) {W : WX} (tk : Takes X W) (hm : C.cm = true) {f : Nat} {F : Fd} {a : E} {x : Str} {xs : List Expr} {p pos : Pos} (he : f ∈ C.τ.excs) (hF : C.τ.fns[f]? = some F) (hx : F.name = x) (h1 : glB S x = true) (h2 : (x == ("__debug__" : Str)) = false) (h3 : xs.all notStarE = true)
    (ha : SndL X T false xs (ev (Γof C n) false a)) (h0 : xs = [] → ∀ ρ, ev (Γof C n) false a ρ = .ret (.tuple [])) : SndP X T (PPX W) (.Call (.Name x p) xs [] pos) (ev (Γof C n) false (.xcall f a)) := by
  subst hx
  obtain ⟨ad, fd, k1, k2, k3, k4, k5⟩ := g.excs f F hF he
  exact snd_call (k1.doer (g.rm hm) g.gua g.tb tk) (g.gl h1) k2 k3 k4 ha h3 h2 h0
theorem sd_callk (g : Gd C n S T X) {f m k : Nat} {perm : List Nat} {F : Fd} {a b : E} {x : Str} {xs : List Expr} {ks : List Keyword} {l : List Str} {p pos : Pos} (hcm : C.cm = true) (hF : C.τ.fns[f]? = some F) (hx : F.name = x) (h1 : glB S x = true) (h2 : (x == ("__debug__" : Str)) = false) (h3 : xs.all notStarE = true)
    (ha : SndL X T false xs (ev (Γof C n) false a)) (hb : SndK X T ks (ev (Γof C n) false b)) (hk : kwNames ks = some l) (hm : (f, m, l, perm) ∈ C.kws) (hl : k = l.length) (hm1 : xs.length = m) (h0 : xs = [] → ∀ ρ, ev (Γof C n) false a ρ = .ret (.tuple [])) :
    SE X T (Γof C n) (.callk f m k perm a b) (.Call (.Name x p) xs ks pos) := by
  subst hx hl
  obtain ⟨ad, fd, k1, k2, k3, k4, k5⟩ := g.fns f F hF
  exact SE.plain (fun r => (snd_callk (k1.doer (g.rm hcm) g.gua g.tb) (g.gl h1) k2 k3 (k5 m l perm hm) ha hb hk h3 h2 h0 hm1).toE) rfl (nf rfl)
theorem sd_xcallk (g : Gd C n S T X) {W : WX} (tk : Takes X W) {f m k : Nat} {perm : List Nat} {F : Fd} {a b : E} {x : Str} {xs : List Expr} {ks : List Keyword} {l : List Str} {p pos : Pos} (hcm : C.cm = true) (he : f ∈ C.τ.excs) (hF : C.τ.fns[f]? = some F) (hx : F.name = x) (h1 : glB S x = true) (h2 : (x == ("__debug__" : Str)) = false) (h3 : xs.all notStarE = true)
    (ha : SndL X T false xs (ev (Γof C n) false a)) (hb : SndK X T ks (ev (Γof C n) false b)) (hk : kwNames ks = some l) (hm : (f, m, l, perm) ∈ C.kws) (hl : k = l.length) (hm1 : xs.length = m) (h0 : xs = [] → ∀ ρ, ev (Γof C n) false a ρ = .ret (.tuple [])) :
    SndP X T (PPX W) (.Call (.Name x p) xs ks pos) (ev (Γof C n) false (.xcallk f m k perm a b)) := by
  subst hx hl
  obtain ⟨ad, fd, k1, k2, k3, k4, k5⟩ := g.excs f F hF he
  exact snd_callk (k1.doer (g.rm hcm) g.gua g.tb tk) (g.gl h1) k2 k3 (k5 m l perm hm) ha hb hk h3 h2 h0 hm1
theorem boot_len' : bootBuiltins ("len" : Str) = some (.builtin "len") := by decide +kernel
theorem boot_sum' : bootBuiltins ("sum" : Str) = some (.builtin "sum") := by decide +kernel
theorem boot_max' : bootBuiltins ("max" : Str) = some (.builtin "max") := by decide +kernel
theorem boot_min' : bootBuiltins ("min" : Str) = some (.builtin "min") := by decide +kernel
theorem boot_all' : bootBuiltins ("all" : Str) = some (.builtin "all") := by decide +kernel
theorem boot_any' : bootBuiltins ("any" : Str) = some (.builtin "any") := by decide +kernel
theorem boot_tuple' : bootBuiltins ("tuple" : Str) = some (.type "tuple") := by decide +kernel
theorem boot_list' : bootBuiltins ("list" : Str) = some (.type "list") := by decide +kernel
theorem boot_sorted' : bootBuiltins ("sorted" : Str) = some (.builtin "sorted") := by decide +kernel
theorem boot_abs' : bootBuiltins ("abs" : Str) = some (.builtin "abs") := by decide +kernel
theorem boot_int' : bootBuiltins ("int" : Str) = some (.type "int") := by decide +kernel
theorem boot_divmod' : bootBuiltins ("divmod" : Str) = some (.builtin "divmod") := by decide +kernel
theorem boot_repr' : bootBuiltins ("repr" : Str) = some (.builtin "repr") := by decide +kernel
theorem Gd.mg (g : Gd C n S T X) {nm : Str} (h : decide (nm ∈ bltNames) = true) : X.mg nm = none := g.blt nm (of_decide_eq_true h)
theorem plain_args {es : List Expr} (h : es.all notStarE = true) {env : PySem.Env} {pos : Pos} : (backTo pos (starEach es env)).any (·.1) = false := any_plain h
theorem mkB {id : String} {q : List V → Hp → VK → Prop} {nm : Str} {y : Expr} {ys : List Expr} {p pos : Pos} {t : TA} (g : Gd C n S T X) (hc : CallR X (.builtin id) q) (hg : Gl X nm) (hm : decide (nm ∈ bltNames) = true) (hv : bootBuiltins nm = some (.builtin id)) (h1 : nm ≠ "__name__") (h2 : (nm == ("__debug__" : Str)) = false)
    (hns : (y :: ys).all notStarE = true) (ha : PA X (y :: ys) t) : PE X (.Call (.Name nm p) (y :: ys) [] pos) (tCB q t) :=
  pe_callB hc hg (g.mg hm) hv ha h1 h2 (starEach_cons (star_none hns rfl).1) (plain_args (star_none hns rfl).2)
theorem mkT {id : String} {q : List V → Hp → VK → Prop} {nm : Str} {y : Expr} {ys : List Expr} {p pos : Pos} {t : TA} (g : Gd C n S T X) (hc : CallR X (.type id) q) (hg : Gl X nm) (hm : decide (nm ∈ bltNames) = true) (hv : bootBuiltins nm = some (.type id)) (h1 : nm ≠ "__name__") (h2 : (nm == ("__debug__" : Str)) = false)
    (hns : (y :: ys).all notStarE = true) (ha : PA X (y :: ys) t) : PE X (.Call (.Name nm p) (y :: ys) [] pos) (tCB q t) :=
  pe_callTy hc hg (g.mg hm) hv ha h1 h2 (starEach_cons (star_none hns rfl).1) (plain_args (star_none hns rfl).2)
theorem call_max2D (hc : X.calm = true) : CallR X (.builtin "max") (rMax2 X.K) := CallR.or (call_max2 hc) (cr_max hc)
theorem call_min3I (hc : X.calm = true) : CallR X (.builtin "min") rMin3 := by
  intro pins s σ0 H xs us Q I r1 h
  obtain ⟨i, j, k, e, q⟩ := h
  refine call_min3Nu hc pins s σ0 H xs us Q I r1 ⟨_, _, _, _, e, ?_, q⟩
  simp only [nuMin3, nuMin2, nuLt, nuCB, Option.map_some, Option.bind_some, decide_eq_true_eq]
  split <;> (simp; split <;> rfl)
theorem call_min2D (hc : X.calm = true) : CallR X (.builtin "min") (rMin2 X.K) := CallR.or (call_min2 hc) (CallR.or (cr_min hc) (call_min3I hc))
end
end Ev

set_option Elab.async false
set_option linter.all false
set_option autoImplicit false
set_option maxRecDepth 100000
set_option maxHeartbeats 8000000
namespace Ev
open PySem L2

/-! ### keys -/
theorem flat_inj {a b : D} {p q : L2.Key} (ha : flatKey a = some p) (hb : flatKey b = some q) : sameD a b = true ↔ p = q := by
  cases a <;> simp only [flatKey] at ha <;> try (cases ha; done)
  all_goals
    cases ha
    cases b <;> simp only [flatKey] at hb <;> try (cases hb; done)
    all_goals
      cases hb
      simp [sameD]
theorem flats_inj : ∀ {xs ys : List D} {ps qs : List L2.Key}, flatKeys xs = some ps → flatKeys ys = some qs → (sameL xs ys = true ↔ ps = qs)
  | [], [], _, _, h1, h2 => by cases h1; cases h2; simp [sameL]
  | [], y :: ys, _, _, h1, h2 => by
    cases h1
    simp only [flatKeys, Option.bind_eq_some_iff, Option.map_eq_some_iff] at h2
    obtain ⟨k, _, l, _, rfl⟩ := h2
    simp [sameL]
  | x :: xs, [], _, _, h1, h2 => by
    cases h2
    simp only [flatKeys, Option.bind_eq_some_iff, Option.map_eq_some_iff] at h1
    obtain ⟨k, _, l, _, rfl⟩ := h1
    simp [sameL]
  | x :: xs, y :: ys, _, _, h1, h2 => by
    simp only [flatKeys, Option.bind_eq_some_iff, Option.map_eq_some_iff] at h1 h2
    obtain ⟨k, e1, l, e2, rfl⟩ := h1
    obtain ⟨k', e3, l', e4, rfl⟩ := h2
    have i1 := flat_inj e1 e3
    have i2 := flats_inj e2 e4
    simp only [sameL, Bool.and_eq_true, i1, i2, List.cons.injEq]
theorem tup_inj {a b : D} {p q : List L2.Key} (ha : tupKey a = some p) (hb : tupKey b = some q) : sameD a b = true ↔ p = q := by
  cases a <;> simp only [tupKey] at ha <;> try (cases ha; done)
  cases b <;> simp only [tupKey] at hb <;> try (cases hb; done)
  simp only [sameD]
  exact flats_inj ha hb
theorem flat_injK {a b : D} {p q : L2.Key} (ha : flatKey a = some p) (hb : flatKey b = some q) : keyEq a b = true ↔ p = q := by
  rw [keyEq_eq]
  exact flat_inj ha hb
theorem tup_injK {a b : D} {p q : List L2.Key} (ha : tupKey a = some p) (hb : tupKey b = some q) : keyEq a b = true ↔ p = q := by
  rw [keyEq_eq]
  exact tup_inj ha hb
theorem flat_of {d : D} (h : flatOk d = true) : ∃ q, flatKey d = some q := by
  cases d <;> first | exact ⟨_, rfl⟩ | cases h
theorem flats_of : ∀ {xs : List D}, xs.all flatOk = true → ∃ q, flatKeys xs = some q
  | [], _ => ⟨[], rfl⟩
  | x :: xs, h => by
    rw [List.all_cons] at h
    obtain ⟨p, e⟩ := flat_of (bt h).1
    obtain ⟨q, e2⟩ := flats_of (bt h).2
    exact ⟨p :: q, by simp [flatKeys, e, e2]⟩
section
variable {T : Ap} {G H : Hp}
theorem flat_val {d : D} {q : L2.Key} {v : V} (h : flatKey d = some q) (i : Is T G v d) : v = kV q := by
  cases d <;> simp only [flatKey] at h <;> try (cases h; done)
  all_goals
    cases h
    cases i
    rfl
theorem flats_val : ∀ {ds : List D} {q : List L2.Key} {vs : List V}, flatKeys ds = some q → IsAll T G vs ds → vs = q.map kV
  | [], _, _, h, i => by cases h; cases i; rfl
  | d :: ds, _, _, h, .cons i t => by
    simp only [flatKeys, Option.bind_eq_some_iff, Option.map_eq_some_iff] at h
    obtain ⟨k, e1, l, e2, rfl⟩ := h
    rw [List.map_cons, flat_val e1 i, flats_val e2 t]
theorem tup_val {d : D} {q : List L2.Key} {v : V} (h : tupKey d = some q) (i : Is T G v d) : ∃ b, v = V.ref b ∧ G b = some (.tup (q.map kV)) := by
  cases d <;> simp only [tupKey] at h <;> try (cases h; done)
  cases i with
  | tup e j => exact ⟨_, rfl, by rw [e, flats_val h j]⟩
theorem IsR.plain {r : Bool} {v : V} {d : D} (i : IsR r T G H v d) (h : ∀ xs, d ≠ .list xs) : Is T G v d := by
  rcases i with i | ⟨_, _, _, xs, e, _⟩
  · exact i
  · exact absurd e (h xs)
theorem flat_nl {d : D} {q : L2.Key} (h : flatKey d = some q) : ∀ xs, d ≠ .list xs := fun xs e => by subst e; cases h
theorem tup_nl {d : D} {q : List L2.Key} (h : tupKey d = some q) : ∀ xs, d ≠ .list xs := fun xs e => by subst e; cases h
/-! ### looking up -/
theorem look_some {κ : Type} [DecidableEq κ] {f : D → Option κ} (hf : ∀ {a b p q}, f a = some p → f b = some q → (keyEq a b = true ↔ p = q)) {x : D} {q : κ} (hx : f x = some q) : ∀ {kvs : List (D × D)} {ks : List (κ × V)}, KvF T G f kvs ks →
    (∀ d, dLook x kvs = some d → ∃ v, valV ks q = some v ∧ Is T G v d) ∧ (dLook x kvs = none → valV ks q = none)
  | _, _, .nil => ⟨fun d h => (by simp [dLook] at h), fun _ => rfl⟩
  | _, _, .cons (k := a) (x := d0) (q := p) (v := u) h1 h2 h3 => by
    obtain ⟨i1, i2⟩ := look_some hf hx h3
    have e := hf h1 hx
    by_cases c : p = q
    · subst c
      have hs := e.mpr rfl
      refine ⟨fun d h => ?_, fun h => ?_⟩
      · simp only [dLook, hs] at h
        cases h
        exact ⟨u, valV_pos rfl, h2⟩
      · simp only [dLook, hs] at h
        cases h
    · have hs : ¬ keyEq a x = true := fun z => c (e.mp z)
      refine ⟨fun d h => ?_, fun h => ?_⟩
      · simp only [dLook, Bool.eq_false_iff.mpr hs] at h
        rw [valV_neg c]
        exact i1 d h
      · simp only [dLook, Bool.eq_false_iff.mpr hs] at h
        rw [valV_neg c]
        exact i2 h
theorem map_kv {κ : Type} [DecidableEq κ] {f : D → Option κ} (hf : ∀ {a b p q}, f a = some p → f b = some q → (keyEq a b = true ↔ p = q)) {x y : D} {q : κ} {w : V} (hx : f x = some q) (iw : Is T G w y) : ∀ {kvs : List (D × D)} {ks : List (κ × V)}, KvF T G f kvs ks →
    KvF T G f (kvs.map fun p => if keyEq p.1 x = true then (p.1, y) else p) (ks.map fun kv => if kv.1 = q then (kv.1, w) else kv)
  | _, _, .nil => .nil
  | _, _, .cons (k := a) (x := d0) (q := p) (v := u) h1 h2 h3 => by
    have ih := map_kv hf hx iw h3
    have e := hf h1 hx
    rw [List.map_cons, List.map_cons]
    by_cases c : p = q
    · rw [if_pos (show keyEq (a, d0).1 x = true from e.mpr c), if_pos (show (p, u).1 = q from c)]
      exact .cons h1 iw ih
    · rw [if_neg (show ¬ keyEq (a, d0).1 x = true from fun z => c (e.mp z)), if_neg (show ¬ (p, u).1 = q from c)]
      exact .cons h1 h2 ih
theorem KvF.app {κ : Type} {f : D → Option κ} {x y : D} {q : κ} {w : V} (hx : f x = some q) (iw : Is T G w y) : ∀ {kvs : List (D × D)} {ks : List (κ × V)}, KvF T G f kvs ks → KvF T G f (kvs ++ [(x, y)]) (ks ++ [(q, w)])
  | _, _, .nil => .cons hx iw .nil
  | _, _, .cons h1 h2 h3 => .cons h1 h2 (KvF.app hx iw h3)
theorem put_kv {κ : Type} [DecidableEq κ] {f : D → Option κ} (hf : ∀ {a b p q}, f a = some p → f b = some q → (keyEq a b = true ↔ p = q)) {x y : D} {q : κ} {w : V} (hx : f x = some q) (iw : Is T G w y) {kvs : List (D × D)} {ks : List (κ × V)} (h : KvF T G f kvs ks) : KvF T G f (dPut x y kvs) (putK ks q w) := by
  obtain ⟨h1, h2⟩ := look_some hf hx h
  unfold dPut putK
  rw [valV_any]
  cases e : dLook x kvs with
  | none =>
    rw [h2 e]
    exact KvF.app hx iw h
  | some d =>
    obtain ⟨v, e2, _⟩ := h1 d e
    rw [e2]
    exact map_kv hf hx iw h
theorem KvF.length {κ : Type} {f : D → Option κ} : ∀ {kvs : List (D × D)} {ks : List (κ × V)}, KvF T G f kvs ks → ks.length = kvs.length
  | _, _, .nil => rfl
  | _, _, .cons _ _ t => by simp [KvF.length t]
/-- what stands at a key -/
theorem dic_get {a : Addr} {t : Bool} {kvs : List (D × D)} {x : D} {y : V} {r : Bool} (sub : Sub G H) (hd : DicOk T G H a t kvs) (hk : keyOk t x = true) (i : IsR r T G H y x) : ∃ o, DGet H a y o ∧ (∀ d, dLook x kvs = some d → ∃ v, o = some v ∧ Is T G v d) ∧ (dLook x kvs = none → o = none) := by
  rcases hd with ⟨rfl, ks, e1, e2⟩ | ⟨rfl, ks, e1, e2⟩
  · obtain ⟨q, hq⟩ := flat_of hk
    obtain ⟨l1, l2⟩ := look_some flat_injK hq e2
    rw [flat_val hq (i.plain (flat_nl hq))]
    exact ⟨_, .k e1, l1, l2⟩
  · have hk2 : ∃ q, tupKey x = some q := by
      cases x <;> simp only [keyOk] at hk <;> try (cases hk; done)
      exact flats_of hk
    obtain ⟨q, hq⟩ := hk2
    obtain ⟨l1, l2⟩ := look_some tup_injK hq e2
    obtain ⟨b, rfl, hb⟩ := tup_val hq (i.plain (tup_nl hq))
    exact ⟨_, .t e1 (sub _ _ hb), l1, l2⟩
theorem dic_put {a : Addr} {t : Bool} {kvs : List (D × D)} {x d : D} {y w : V} {r : Bool} (sub : Sub G H) (hga : G a = none) (hd : DicOk T G H a t kvs) (hk : keyOk t x = true) (i : IsR r T G H y x) (iw : Is T G w d) (hl : kvs.length < lim) :
    ∃ o, DPut H a y w (upd H a o) ∧ DicOk T G (upd H a o) a t (dPut x d kvs) := by
  rcases hd with ⟨rfl, ks, e1, e2⟩ | ⟨rfl, ks, e1, e2⟩
  · obtain ⟨q, hq⟩ := flat_of hk
    rw [flat_val hq (i.plain (flat_nl hq))]
    exact ⟨_, .k e1 (by rw [e2.length]; exact Nat.lt_of_lt_of_le hl lim_le), .inl ⟨rfl, _, upd_same, put_kv flat_injK hq iw e2⟩⟩
  · have hk2 : ∃ q, tupKey x = some q := by
      cases x <;> simp only [keyOk] at hk <;> try (cases hk; done)
      exact flats_of hk
    obtain ⟨q, hq⟩ := hk2
    obtain ⟨b, rfl, hb⟩ := tup_val hq (i.plain (tup_nl hq))
    exact ⟨_, .t e1 (sub _ _ hb) (by rw [e2.length]; exact Nat.lt_of_lt_of_le hl lim_le), .inr ⟨rfl, _, upd_same, put_kv tup_injK hq iw e2⟩⟩
theorem dicSlot_get {ρ : Ro} {i : Nat} {α : Type} {k : Bool × List (D × D) → Out α} {P : α → Prop} (h : ((dicOf ρ i).bind k).All P) : ∃ t kvs, ρ[i]? = some (some (.dic t kvs)) ∧ (k (t, kvs)).All P := by
  unfold dicOf slot at h
  rw [Out.bind_assoc, Out.All_bind, Out.All_ofO] at h
  obtain ⟨s, e, h⟩ := h
  have e' : ρ[i]? = some (some s) := by
    cases q : ρ[i]? with
    | none => rw [q] at e; cases e
    | some o => rw [q] at e; simp at e; rw [e]
  cases s with
  | own xs => exact h.elim
  | val d => exact h.elim
  | own2 xss => exact h.elim
  | act => exact h.elim
  | dic t kvs => exact ⟨t, kvs, e', h⟩
end
section
variable {X : Cx} {T : Ap} {r : Bool} {a b : Expr} {pos : Pos} {fk fz : Ro → Out D} {i : Nat} {x : Str} {p1 : Pos}
theorem sc_din {g : Bool} (hu : X.A.units + 1 < cLine) (hN : X.N[i]? = some x) (hv : Vis X.env.scope x) (h1 : (x == ("__debug__" : Str)) = false) (h2 : (x == ("__classdict__" : Str)) = false) (hk : SndE X T true a fk) :
    SndC X T (if g then .NotIn else .In) a (.Name x p1) (fun ρ => (fk ρ).bind fun k => (dicOf ρ i).bind fun kvs => .guard (keyOk kvs.1 k) (.ret (.bool (if (dLook k kvs.2).isSome then !g else g)))) := by
  obtain ⟨tk, pk, qk⟩ := hk
  have core : ∀ {G0 H0 G H G1 H1 : Hp} {ρ : Ro} {σ : Sg} {Q : VK} {d : D} {y : V}, Rep T G0 H0 ρ σ G H → Stp T G H G1 H1 → IsR true T G1 H1 y d →
      ((dicOf ρ i).bind fun kvs => Out.guard (keyOk kvs.1 d) (.ret (.bool (if (dLook d kvs.2).isSome then !g else g)))).All (PostE false T G H Q) →
      ∃ v, σ[i]? = some (some v) ∧ ∃ ad o, v = V.ref ad ∧ DGet H1 ad y o ∧ Q (.bl (if o.isSome then !g else g)) H1 := fun {G0 H0 G H G1 H1 ρ σ Q d y} R k iy h => by
    obtain ⟨t, kvs, e, h⟩ := dicSlot_get h
    rw [Out.All_guard] at h
    have R1 := R.step k
    obtain ⟨v, ev, ad, rfl, _, _, _, hd⟩ := R1.sl i _ e
    obtain ⟨o, g1, g2, g3⟩ := dic_get R1.sub hd h.1 iy
    have eo : o.isSome = (dLook d kvs).isSome := by
      cases q : dLook d kvs with
      | none => rw [g3 q]; rfl
      | some d' => obtain ⟨v, e5, _⟩ := g2 d' q; rw [e5]; rfl
    refine ⟨_, ev, ad, o, rfl, g1, ?_⟩
    rw [eo]
    exact PostE.now k.gh k.tub (PostE.trans h.2 k R.tub) (.bl _)
  cases g with
  | false =>
    refine ⟨_, pc_din hu pk (pe_var hN hv h1 h2), fun G0 H0 ρ σ G H Q R h => ?_⟩
    rw [Out.All_bind] at h
    refine qk G0 H0 ρ σ G H _ R (h.mono fun d hd y G1 H1 k iy => ?_)
    obtain ⟨v, e1, ad, o, e2, e3, e4⟩ := core R k iy hd
    refine ⟨v, e1, ad, o, e2, e3, ?_⟩
    cases o <;> exact e4
  | true =>
    refine ⟨_, pc_dnotin hu pk (pe_var hN hv h1 h2), fun G0 H0 ρ σ G H Q R h => ?_⟩
    rw [Out.All_bind] at h
    refine qk G0 H0 ρ σ G H _ R (h.mono fun d hd y G1 H1 k iy => ?_)
    obtain ⟨v, e1, ad, o, e2, e3, e4⟩ := core R k iy hd
    refine ⟨v, e1, ad, o, e2, e3, ?_⟩
    cases o <;> exact e4
theorem snd_dget (hu : X.A.units + 1 < cLine) (hN : X.N[i]? = some x) (hv : Vis X.env.scope x) (h1 : (x == ("__debug__" : Str)) = false) (h2 : (x == ("__classdict__" : Str)) = false) (hk : SndE X T true a fk) (hs : plainIxB a = true) :
    SndE X T r (.Subscript (.Name x p1) a pos) (fun ρ => (dicOf ρ i).bind fun kvs => (fk ρ).bind fun k => .guard (keyOk kvs.1 k) (.ofO (dLook k kvs.2))) := by
  refine SndE.read ?_
  obtain ⟨tk, pk, qk⟩ := hk
  refine ⟨_, pe_dget hu (pe_var hN hv h1 h2) pk (by intro o j; cases a <;> first | rfl | cases hs), fun G0 H0 ρ σ G H Q R h => ?_⟩
  obtain ⟨t, kvs, e, h⟩ := dicSlot_get h
  obtain ⟨v, ev, ad, rfl, _⟩ := R.sl i _ e
  refine ⟨_, ev, ?_⟩
  rw [Out.All_bind] at h
  refine qk G0 H0 ρ σ G H _ R (h.mono fun d hd y G1 H1 k iy => ?_)
  rw [Out.All_guard, Out.All_ofO] at hd
  obtain ⟨hko, d2, e2, hd⟩ := hd
  have R1 := R.step k
  obtain ⟨v, ev2, ad2, e3, _, _, _, hdic⟩ := R1.sl i _ e
  subst e3
  rw [ev] at ev2
  cases ev2
  obtain ⟨o, g1, g2, g3⟩ := dic_get R1.sub hdic hko iy
  obtain ⟨w, e5, iw⟩ := g2 d2 e2
  subst e5
  exact ⟨ad, w, rfl, g1, PostE.now k.gh k.tub (PostE.trans hd k R.tub) iw⟩
theorem isD_of {G H : Hp} {ad : Addr} {t : Bool} {kvs : List (D × D)} (h : DicOk T G H ad t kvs) : IsD H ad := by
  rcases h with ⟨_, ks, e, _⟩ | ⟨_, ks, e, _⟩
  · exact .inl ⟨ks, .inl e⟩
  · exact .inr ⟨ks, .inl e⟩
theorem snd_dgetd {apos cpos : Pos} (hu : X.A.units + 1 < cLine) (hN : X.N[i]? = some x) (hv : Vis X.env.scope x) (h1 : (x == ("__debug__" : Str)) = false) (h2 : (x == ("__classdict__" : Str)) = false) (hk : SndE X T true a fk) (hz : SndE X T false b fz) (na : notStarE a = true) (nb : notStarE b = true) (hl : (apos.endLine == cpos.line) = true) :
    SndE X T r (.Call (.Attribute (.Name x p1) "get" apos) [a, b] [] cpos) (fun ρ => (dicOf ρ i).bind fun kvs => (fk ρ).bind fun k => (fz ρ).bind fun w => .guard (keyOk kvs.1 k) (.ret ((dLook k kvs.2).getD w))) := by
  refine SndE.read ?_
  obtain ⟨tk, pk, qk⟩ := hk
  obtain ⟨tz, pz, qz⟩ := hz
  have hst : starEach [a, b] X.env = [(false, eval a X.env), (false, eval b X.env)] := by rw [starEach_cons na, starEach_cons nb]; rfl
  refine ⟨_, pe_dget2 hu (pe_var hN hv h1 h2) pk pz ⟨rfl, by rw [hst]; rfl, hl, by rw [hst]; rfl⟩, fun G0 H0 ρ σ G H Q R h => ?_⟩
  obtain ⟨t, kvs, e, h⟩ := dicSlot_get h
  obtain ⟨v, ev, ad, rfl, _, _, _, hd0⟩ := R.sl i _ e
  refine ⟨_, ev, ad, rfl, isD_of hd0, ?_⟩
  rw [Out.All_bind] at h
  refine qk G0 H0 ρ σ G H _ R (h.mono fun d hd y G1 H1 k iy => ?_)
  rw [Out.All_bind] at hd
  refine qz G0 H0 ρ σ G1 H1 _ (R.step k) (hd.mono fun w hw u G2 H2 k2 iu => ?_)
  rw [Out.All_guard] at hw
  have kk := k.trans k2 R.tub
  have R2 := R.step kk
  obtain ⟨v, ev2, ad2, e3, _, _, _, hdic⟩ := R2.sl i _ e
  subst e3
  rw [ev] at ev2
  cases ev2
  obtain ⟨o, g1, g2, g3⟩ := dic_get R2.sub hdic hw.1 (iy.step k2)
  refine ⟨o, g1, ?_⟩
  have hp := PostE.trans hw.2 kk R.tub
  cases q : dLook d kvs with
  | none =>
    rw [g3 q]
    rw [q] at hp
    exact PostE.now kk.gh kk.tub hp iu.keep
  | some d2 =>
    obtain ⟨w2, e5, iw⟩ := g2 d2 q
    rw [e5]
    rw [q] at hp
    exact PostE.now kk.gh kk.tub hp iw
theorem snd_dlen {p2 : Pos} (hg : Gl X "len") (hm : X.mg "len" = none) (hN : X.N[i]? = some x) (hv : Vis X.env.scope x) (h1 : (x == ("__debug__" : Str)) = false) (h2 : (x == ("__classdict__" : Str)) = false) :
    SndE X T r (.Call (.Name "len" p2) [.Name x p1] [] pos) (fun ρ => (dicOf ρ i).bind fun kvs => .ret (.int kvs.2.length)) := by
  refine SndE.read ?_
  refine ⟨_, pe_callB (CallR.or call_lenD call_len_dT) hg hm boot_len' (pa_cons (pe_var hN hv h1 h2) pa_nil rfl) (by decide +kernel) (by decide +kernel) rfl rfl, fun G0 H0 ρ σ G H Q R h => ?_⟩
  obtain ⟨t, kvs, e, h⟩ := dicSlot_get h
  obtain ⟨v, ev, ad, rfl, _, _, _, hd0⟩ := R.sl i _ e
  refine ⟨_, ev, ?_⟩
  rcases hd0 with ⟨rfl, ks, e1, e2⟩ | ⟨rfl, ks, e1, e2⟩
  · refine .inl ⟨ad, ks, rfl, e1, ?_⟩
    rw [e2.length]
    exact PostE.now R.sub R.tub h (.int _)
  · refine .inr ⟨ad, ks, rfl, e1, ?_⟩
    rw [e2.length]
    exact PostE.now R.sub R.tub h (.int _)
end
end Ev

set_option Elab.async false
set_option linter.all false
set_option autoImplicit false
set_option maxRecDepth 100000
set_option maxHeartbeats 8000000
namespace Ev
open PySem L2
/-! ### tuples are data -/
def frzTups (G H : Hp) : Hp := fun b => match H b with
  | some (.tup xs) => some (.tup xs)
  | _ => G b
section
variable {T : Ap} {G H : Hp}
theorem frzTups_at {b : Addr} {xs : List V} (h : H b = some (.tup xs)) : frzTups G H b = some (.tup xs) := by unfold frzTups; rw [h]
theorem stp_tups (s : Sub G H) (t : TubOk T H) : Stp T G H (frzTups G H) H := by
  refine ⟨fun b o e => ?_, fun b o e => ?_, fun _ _ _ _ h => h, fun _ ps h => ⟨ps, h⟩, fun b o e => ?_, t⟩
  · have q := s b o e
    unfold frzTups
    split
    · rename_i xs hx
      rw [hx] at q
      exact q
    · exact e
  · unfold frzTups at e
    split at e
    · rename_i xs hx
      rw [hx, ← e]
    · exact s b o e
  · unfold frzTups at e
    split at e
    · rename_i xs hx
      exact .inr (.inr ⟨xs, hx⟩)
    · exact .inl e
theorem is_flat {d : D} {q : L2.Key} (h : flatKey d = some q) : Is T G (kV q) d := by
  cases d <;> simp only [flatKey] at h <;> try (cases h; done)
  · cases h; exact .int _
  · cases h; exact .str _
theorem is_flats : ∀ {ds : List D} {q : List L2.Key}, flatKeys ds = some q → IsAll T G (q.map kV) ds
  | [], _, h => by cases h; exact .nil
  | d :: ds, _, h => by
    simp only [flatKeys, Option.bind_eq_some_iff, Option.map_eq_some_iff] at h
    obtain ⟨k, e1, l, e2, rfl⟩ := h
    exact .cons (is_flat e1) (is_flats e2)
theorem is_tup {d : D} {q : List L2.Key} {b : Addr} (h : tupKey d = some q) (hb : G b = some (.tup (q.map kV))) : Is T G (.ref b) d := by
  cases d <;> simp only [tupKey] at h <;> try (cases h; done)
  exact .tup hb (is_flats h)
theorem keysK : ∀ {kvs : List (D × D)} {ks : List (L2.Key × V)}, KvF T G flatKey kvs ks → IsAll T G (ks.map fun p => kV p.1) (kvs.map (·.1))
  | _, _, .nil => .nil
  | _, _, .cons h _ t => .cons (is_flat h) (keysK t)
theorem keysT {G' : Hp} : ∀ {kvs : List (D × D)} {ks : List (List L2.Key × V)} {bs : List Addr}, KvF T G tupKey kvs ks → IsKeys H ks bs → IsAll T (frzTups G' H) (bs.map V.ref) (kvs.map (·.1))
  | _, _, _, .nil, .nil => .nil
  | _, _, _, .cons h _ t, .cons hb tb => .cons (is_tup h (frzTups_at hb)) (keysT t tb)
end
/-! ### sorted(dict) -/
mutual
theorem reads_live {h : Heap} : ∀ {d : PyData} {v : Value} {as : List Addr}, Reads h v d as → ∀ a ∈ as, a < h.objs.size
  | _, _, _, .none, a, m => by cases m
  | _, _, _, .bool _, a, m => by cases m
  | _, _, _, .int _ _, a, m => by cases m
  | _, _, _, .str _ _, a, m => by cases m
  | _, _, _, .list h1 _ _ h4, a, m => by
    rcases List.mem_cons.mp m with rfl | m
    · exact Heap.lt_size h1
    · exact readsAll_live h4 a m
  | _, _, _, .tuple _ _ _ h4, a, m => readsAll_live h4 a m
  | _, _, _, .dict h1 _ _ h4 h5, a, m => by
    rcases List.mem_append.mp m with m | m
    · rcases List.mem_cons.mp m with rfl | m
      · exact Heap.lt_size h1
      · exact readsAll_live h4 a m
    · exact readsAll_live h5 a m
theorem readsAll_live {h : Heap} : ∀ {ds : List PyData} {vs : List Value} {as : List Addr}, ReadsAll h vs ds as → ∀ a ∈ as, a < h.objs.size
  | _, _, _, .nil, a, m => by cases m
  | _, _, _, .cons h1 h2, a, m => by
    rcases List.mem_append.mp m with m | m
    · exact reads_live h1 a m
    · exact readsAll_live h2 a m
end
theorem each_reads2 {h : Heap} {x : Addr} (hx : h.objs.size ≤ x) : ∀ {xs : List V} {us : List Value} {ds : List D} {as : List Addr}, Vals xs us → xs.length = ds.length → ReadsAll h us ds as → PySem.W.EachIs (fun u (b : V × D) => ∃ as, Reads h u b.2 as ∧ x ∉ as) us (xs.zip ds)
  | [], _, ds, _, r, _, _ => by cases r; exact .nil
  | y :: xs, _, d :: ds, _, .cons r rs, h, .cons h1 h2 => .cons ⟨_, h1, fun m => absurd (reads_live h1 x m) (Nat.not_lt.mpr hx)⟩ (each_reads2 hx rs (by simpa using h) h2)
theorem each_up {h h' : Heap} {x : Addr} (k : ∀ b o, h.get? b = some o → h'.get? b = some o) {us : List Value} {bs : List (V × D)} (e : PySem.W.EachIs (fun u (b : V × D) => ∃ as, Reads h u b.2 as ∧ x ∉ as) us bs) : PySem.W.EachIs (fun u (b : V × D) => ∃ as, Reads h' u b.2 as ∧ x ∉ as) us bs :=
  e.mono fun _ _ ⟨as, r, m⟩ => ⟨as, PyProof.Rows.Reads.keeps k r, m⟩
/-- what is left to show of the sorted values -/
def SortTail (K : PySem.W.Frag) (xs : List V) (ds : List D) (H : Hp) (Q : VK) : Prop := xs.length = ds.length ∧ ds.length ≤ lim ∧
  ((ds.length ≤ 1 ∧ ∀ p, H p = none → Q (.ref p) (upd H p (.lst xs))) ∨
   (DpAll K H xs ds ∧ PySem.W.AllAlike ds ∧ PySem.W.Sortable ds ∧ (∀ d ∈ ds, d.depth ≤ 64) ∧ ∀ p, H p = none → Q (.ref p) (upd H p (.lst (((xs.zip ds).mergeSort (PySem.W.dataLe false (·.2))).map (·.1))))))
section
variable {X : Cx} {pins : List (Addr × Obj)} {σ : Sg} {H : Hp} {s : Shared} {Q : VK}
theorem sort_src {n m : Nat} {d : Addr} {P : Nat → Value → Prop} {OK : Heap → Prop} {xs : List V} {ds : List D} (hr : Room n X.A) (I : Inv X pins σ H s) (S : PySem.W.KdlSrc X.prog X.w "dict" d d m P OK) (hok : OK s.heap) (hm : m = ds.length)
    (hv : ∀ acc : List Value, acc.length = m → (∀ j v, acc[j]? = some v → P j v) → Vals xs acc) (hT : SortTail X.K xs ds H Q) : wpAny (model X.prog X.w) X.A (call (.builtin "sorted") [.ref d]) (EP X pins σ Q) X.xe s := by
  obtain ⟨hlen, hz, hT⟩ := hT
  have hzz : lim ≤ sizeLine := lim_le
  refine Calls.call_function_entry PyProof.Rows.kind_sorted PyProof.Rows.plain_sorted PyProof.Rows.entry_sorted (PyProof.Rows.args_sorted1 _) ?_
  unfold Builtin.«sorted»
  refine wpAny_bind (m := checkCount "sorted" 1 1 _) (wpAny_pure (wpAny_bind (PySem.W.kdu_collect (A := X.A.in1) S hr.hd hok (by omega) fun h1 tk acc kp itm => ?_)))
  have rv : Vals xs acc.toList := hv _ (by rw [Array.length_toList]; exact itm.1) fun j v e => itm.2 j v (by rw [← Array.getElem?_toList]; exact e)
  have lv := rv.length
  have lv2 : xs.length = acc.size := by rw [lv, Array.length_toList]
  have J : Inv X pins σ H { s with heap := h1, toks := tk } := I.kept kp
  refine wpAny_bind (wpAny_newList ?_ (by omega))
  have at1 : (h1.push (PyProof.Rows.seqObj "list" acc.toList.toArray 0)).get? h1.objs.size = some (PyProof.Rows.seqObj "list" acc.toList.toArray 0) := Heap.get?_push_size _ rfl
  show wpAny _ _ _ _ _ { s with heap := h1.push (PyProof.Rows.seqObj "list" acc.toList.toArray 0), toks := tk }
  have fin : ∀ {ys : List V} {out : List Value}, Vals ys out → out.length = acc.toList.length → Q (.ref h1.objs.size) (upd H h1.objs.size (.lst ys)) →
      EP X pins σ Q (.ref h1.objs.size) { s with heap := PyProof.Rows.sortedHeap (h1.push (PyProof.Rows.seqObj "list" acc.toList.toArray 0)) h1.objs.size acc.toList out.toArray, toks := tk } := fun {ys out} r2 lo q => by
    obtain ⟨e2, at2⟩ := PyProof.Rows.sortedHeap_at (vs := acc.toList) (out := out.toArray) at1
    refine ⟨.ref h1.objs.size, _, J.laid (t' := tk) (o := .lst ys) (fun b u e => ?_) (Nat.le_refl _) ⟨?_, out, e2, r2, at2⟩, rfl, q⟩
    · have hb : b < h1.objs.size := Heap.lt_size e
      rw [PyProof.Rows.sortedHeap_old (Nat.ne_of_lt hb) (by rw [PyProof.Rows.size_push']; exact Nat.lt_succ_of_lt hb)]
      exact Heap.get?_push_of_some _ e
    · have := r2.length
      omega
  rcases hT with ⟨hone, q⟩ | ⟨hd, hal, hk, h64, q⟩
  · refine wpAny_bind (wpAny_holding (wpAny_call_entry PyProof.Rows.slot_list_sort ⟨_, at1, rfl⟩ PyProof.Rows.entry_list_sort (Srt.list_sort_any at1 (by omega) (fun h2 => absurd h2 (by omega)) fun out ho => ⟨_, rfl, ?_⟩) (PyProof.Rows.args_list_sort _)))
    have e : out = acc.toList := by
      cases hacc : acc.toList with
      | nil => rw [hacc] at ho; exact ho.eq_nil
      | cons u t =>
        rw [hacc] at ho
        cases t with
        | nil => exact List.perm_singleton.mp ho
        | cons u2 t2 => rw [hacc] at lv; simp at lv; omega
    subst e
    exact wpAny_pure ⟨_, rfl, fin rv rfl (q _ (J.hok.fresh (Nat.le_refl _)))⟩
  · obtain ⟨as, hr1⟩ := Dp.readsAll J ds xs acc.toList hd rv
    have e2 : (xs.zip ds).map (·.2) = ds := List.map_snd_zip (by omega)
    have hu := hr.un
    refine wpAny_bind (wpAny_holding (PySem.W.list_sort_data (A := X.A.in1) (β := V × D) (bs := xs.zip ds) (enc := (·.2)) (R := fun u (b : V × D) => RelV b.1 u) at1 (paired_each rv hlen) (each_up (fun b o e => Heap.get?_push_of_some _ e) (each_reads2 (Nat.le_refl _) rv hlen hr1)) (by rw [e2]; exact hal) (by rw [e2]; exact hk) (by simp; omega) (fun b hb => ?_) fun out ho hq => ?_))
    · have := h64 b.2 (List.of_mem_zip hb).2
      show X.A.units + 1 + 1 + _ < _
      omega
    · exact wpAny_pure ⟨_, rfl, fin (each_vals hq) (by rw [ho]; simp; omega) (q _ (J.hok.fresh (Nat.le_refl _)))⟩
def rSortDic (K : PySem.W.Frag) : List V → Hp → VK → Prop := fun vs H Q => ∃ (a : Addr) (ds : List D), vs = [V.ref a] ∧
  ((∃ kvs : List (L2.Key × V), H a = some (.dK kvs) ∧ SortTail K (kvs.map fun p => kV p.1) ds H Q) ∨ ∃ kvs : List (List L2.Key × V), H a = some (.dT kvs) ∧ kvs.length = ds.length ∧ ∀ bs, IsKeys H kvs bs → SortTail K (bs.map V.ref) ds H Q)
theorem cr_sortDic {n : Nat} (hr : Room n X.A) : CallR X (.builtin "sorted") (rSortDic X.K) := by
  intro pins s σ H vs us Q I r h
  obtain ⟨a, ds, rfl, h⟩ := h
  rw [Vals.ref1 r]
  rcases h with ⟨kvs, ha, hT⟩ | ⟨kvs, ha, hkl, hT⟩
  · obtain ⟨z, lo, ws, rel, dd⟩ := dk_of I.hok ha
    obtain ⟨ep, hat⟩ := dd.dictAt
    have l1 : kvs.length = ws.length := Paired.length rel
    have hl := hT.1
    rw [List.length_map] at hl
    refine sort_src hr I (PySem.W.kdl_dict (knd := mixKind X.prog X.w) (kvs := ws) (ep := ep) lo) hat (by omega) (fun acc hacc hP => ?_) hT
    have ek : (kvs.map fun p => kV p.1) = ws.map fun p => kV p.1 := by
      have e := congrArg (List.map kV) rel.keys
      rw [List.map_map, List.map_map] at e
      exact e
    rw [ek]
    exact keys_at hacc hP
  · obtain ⟨z, hs, ks, pr, o, es, ep, ho, hx, hdt, he, hn⟩ := (show ObjOk X.prog X.w H s.heap a (.dT kvs) from I.hok a _ ha)
    have l1 : es.size = ks.length := size_of_entries he
    have l2 : kvs.length = ks.length := Paired.length pr
    refine sort_src hr I (kdl_raw (o := o) (es := es) (ep := ep) hs hx hdt) ho (by omega) (fun acc hacc hP => ?_) (hT _ (isKeys_of pr))
    have ea : acc = (ks.map fun x => x.2.1).map Value.ref := by
      refine List.ext_getElem? fun j => ?_
      rw [List.map_map, List.getElem?_map]
      cases hj : acc[j]? with
      | none =>
        have h1 := List.getElem?_eq_none_iff.mp hj
        rw [List.getElem?_eq_none (by omega)]
        rfl
      | some v =>
        obtain ⟨en, hen, rfl⟩ := hP j v hj
        have qe := entry_at he j
        rw [hen] at qe
        cases hb : ks[j]? with
        | none => rw [hb] at qe; cases qe
        | some b => rw [hb] at qe; cases qe; rfl
    rw [ea]
    exact vals_refs _
theorem tail_of {T : Ap} {G G' : Hp} {K : PySem.W.Frag} {xs : List V} {ds : List D} (k : Stp T G H G' H) (tb : TubOk T H) (iv : IsAll T G' xs ds) (ho : sortOk ds = true) (hp : PostF T G H Q (.list (ds.mergeSort dataLe))) : SortTail K xs ds H Q := by
  unfold sortOk at ho
  simp only [Bool.and_eq_true, decide_eq_true_eq, Bool.or_eq_true] at ho
  obtain ⟨l1, lay, l2, l3, l4⟩ := ho
  have h := PostF.trans hp k tb
  refine ⟨iv.length, l1, ?_⟩
  rcases l4 with l4 | l4
  · rw [one_sorted ds l4] at h
    exact .inl ⟨l4, fun p' hp' => PostF.laid k.gh k.tub h hp' iv⟩
  · have hal : PySem.W.AllAlike ds := fun d hd e he => List.all_eq_true.mp (List.all_eq_true.mp l2 d hd) e he
    refine .inr ⟨iv.dp k.gh _ _ lay, hal, ?_, fun d hd => of_decide_eq_true (List.all_eq_true.mp l3 d hd), fun p' hp' => PostF.laid k.gh k.tub h hp' ?_⟩
    · rcases l4 with l4 | l4
      · refine .inl fun d hd => ?_
        have := List.all_eq_true.mp l4 d hd
        cases d <;> try exact absurd this Bool.false_ne_true
        rename_i ys
        cases ys with
        | nil => exact absurd this Bool.false_ne_true
        | cons => exact ⟨_, _, rfl⟩
      · refine .inr fun d hd => ?_
        have := List.all_eq_true.mp l4 d hd
        cases d <;> first | exact absurd this Bool.false_ne_true | exact ⟨by simp, by simp⟩
    · have e2 : (xs.zip ds).map (·.2) = ds := List.map_snd_zip (by rw [iv.length]; exact Nat.le_refl _)
      have e3 : (((xs.zip ds).mergeSort (PySem.W.dataLe false (·.2))).map (·.2)) = ds.mergeSort dataLe := by
        rw [List.map_mergeSort (s := dataLe) (fun a _ b _ => dataLe_snd a b), e2]
      rw [← e3]
      exact isAll_maps fun b hb => zip_is iv b ((List.mergeSort_perm _ _).mem_iff.mp hb)
theorem snd_dsort {n : Nat} {T : Ap} {i : Nat} {x : Str} {p1 p2 pos : Pos} (hr : Room n X.A) (hg : Gl X "sorted") (hm : X.mg "sorted" = none) (hN : X.N[i]? = some x) (hv : Vis X.env.scope x) (h1 : (x == ("__debug__" : Str)) = false) (h2 : (x == ("__classdict__" : Str)) = false) :
    SndF X T (.Call (.Name "sorted" p2) [.Name x p1] [] pos) (fun ρ => (dicOf ρ i).bind fun kvs => sortD (kvs.2.map (·.1))) := by
  refine ⟨_, pe_callB (cr_sortDic hr) hg hm boot_sorted' (pa_cons (pe_var hN hv h1 h2) pa_nil rfl) (by decide +kernel) (by decide +kernel) rfl rfl, fun G0 H0 ρ σ G H Q R h => ?_⟩
  obtain ⟨t, kvs, e, h⟩ := dicSlot_get h
  obtain ⟨v, ev, ad, rfl, _, _, _, hd0⟩ := R.sl i _ e
  unfold sortD at h
  rw [Out.All_guard, isort_eq] at h
  refine ⟨_, ev, ad, kvs.map (·.1), rfl, ?_⟩
  rcases hd0 with ⟨rfl, ks, e1, e2⟩ | ⟨rfl, ks, e1, e2⟩
  · exact .inl ⟨ks, e1, tail_of (.refl R.sub R.tub) R.tub (keysK e2) h.1 h.2⟩
  · exact .inr ⟨ks, e1, by rw [e2.length, List.length_map], fun bs hbs => tail_of (stp_tups R.sub R.tub) R.tub (keysT e2 hbs) h.1 h.2⟩
end
end Ev

set_option Elab.async false
set_option linter.all false
set_option autoImplicit false
set_option maxRecDepth 100000
set_option maxHeartbeats 4000000
namespace Ev
open PySem L2
/-! ### lists of one's own in a list of one's own: looked at; list(range(..)) -/
theorem own2_get {ρ : Ro} {i : Nat} {α : Type} {k : List (List D) → Out α} {P : α → Prop} (h : ((own2Of ρ i).bind k).All P) : ∃ xss, ρ[i]? = some (some (.own2 xss)) ∧ (k xss).All P := by
  unfold own2Of slot at h
  rw [Out.bind_assoc, Out.All_bind, Out.All_ofO] at h
  obtain ⟨s, e, h⟩ := h
  have e' : ρ[i]? = some (some s) := by
    cases q : ρ[i]? with
    | none => rw [q] at e; cases e
    | some o => rw [q] at e; simp at e; rw [e]
  cases s with
  | own xs => exact h.elim
  | val d => exact h.elim
  | dic t kvs => exact h.elim
  | own2 xss => exact ⟨xss, e', h⟩
  | act => exact h.elim
theorem atI_of {xs : List V} {n : Nat} {z : Int} {j : Nat} {v : V} (hn : xs.length = n) (h : L2.ixN n z = some j) (e : xs[j]? = some v) : L2.atI xs z = some v := by
  unfold L2.atI
  rw [hn, h]
  exact e
section
variable {X : Cx} {T : Ap} {r : Bool} {a b ix : Expr} {pos : Pos} {fa fb fi : Ro → Out D} {i : Nat} {x : Str} {p1 p2 p3 : Pos}
theorem ix_plain {ix : Expr} (h : plainIxB ix = true) : PlainIx ix := by
  intro env d
  cases ix <;> first | rfl | cases h
theorem snd_row (hN : X.N[i]? = some x) (hv : Vis X.env.scope x) (h1 : (x == ("__debug__" : Str)) = false) (h2 : (x == ("__classdict__" : Str)) = false) (hi : SndE X T true ix fi) (hpi : plainIxB ix = true) :
    SndE X T r (.Subscript (.Name x p1) ix p3) (fun ρ => .guard r ((own2Of ρ i).bind fun xss => (fi ρ).bind fun k => (asInt k).bind fun z => (Out.ofO (L2.ixN xss.length z)).bind fun j => (Out.ofO xss[j]?).bind fun xs => .ret (.list xs))) := by
  obtain ⟨ti, pi, qi⟩ := hi
  refine ⟨_, pe_ix ix_list (pe_var hN hv h1 h2) pi (ix_plain hpi), fun G0 H0 ρ σ G H Q R h => ?_⟩
  rw [Out.All_guard] at h
  obtain ⟨hr, h⟩ := h
  obtain ⟨xss, e, h⟩ := own2_get h
  obtain ⟨w, ew, a, as, rfl, ga, h0, hT, hH, nd, iv⟩ := R.sl i _ e
  refine ⟨_, ew, ?_⟩
  rw [Out.All_bind] at h
  refine qi G0 H0 ρ σ G H _ R (h.mono fun y hy yv G2 H2 k2 iy => ?_)
  obtain ⟨z, rfl, hy2⟩ := All_asInt hy
  rw [Out.All_bind, Out.All_ofO] at hy2
  obtain ⟨j, ej, hy3⟩ := hy2
  rw [Out.All_bind, Out.All_ofO] at hy3
  obtain ⟨xs, ex, hy4⟩ := hy3
  have R2 := R.step k2
  obtain ⟨w1, ew1, a1, as1, e1, ga1, h01, hT1, hH1, nd1, iv1⟩ := R2.sl i _ e
  subst e1
  rw [ew] at ew1
  cases ew1
  obtain ⟨b, vs, eb, gb, h0b, hTb, hHb, ivb⟩ := iv1.get ex
  refine ⟨a, as1.map V.ref, z, .ref b, rfl, iy.int, .of hH1, atI_of (n := xss.length) (by rw [List.length_map, iv1.length]) ej (by rw [List.getElem?_map, eb]; rfl), ?_⟩
  exact hy4 (.ref b) G2 H2 k2 (.inr ⟨hr, b, vs, xs, rfl, rfl, hTb, hHb, ivb⟩)
theorem snd_rows (hg : Gl X "len") (hm : X.mg "len" = none) (hN : X.N[i]? = some x) (hv : Vis X.env.scope x) (h1 : (x == ("__debug__" : Str)) = false) (h2 : (x == ("__classdict__" : Str)) = false) :
    SndE X T r (.Call (.Name "len" p2) [.Name x p1] [] pos) (fun ρ => (own2Of ρ i).bind fun xss => .ret (.int xss.length)) := by
  refine SndE.read ?_
  refine ⟨_, pe_callB call_len_seq hg hm boot_len' (pa_cons (pe_var hN hv h1 h2) pa_nil rfl) (by decide +kernel) (by decide +kernel) rfl rfl, fun G0 H0 ρ σ G H Q R h => ?_⟩
  obtain ⟨xss, e, h⟩ := own2_get h
  obtain ⟨v, ev, a, as, rfl, ga, h0, hT, hH, nd, iv⟩ := R.sl i _ e
  refine ⟨_, ev, a, as.map V.ref, rfl, .inl (.of hH), ?_⟩
  rw [List.length_map, iv.length]
  exact PostE.now R.sub R.tub h (.int _)
theorem rgV_is {G : Hp} (i j : Int) : IsAll T G (rgV i j) (rngL i (j - i).toNat) := by
  refine IsAll.of_get (by rw [rgV_length, rngL_length]) fun k v d h1 h2 => ?_
  have hk : k < (j - i).toNat := by
    have := (List.getElem?_eq_some_iff.mp h1).1
    rwa [rgV_length] at this
  rw [rngL_get _ _ _ hk] at h2
  cases h2
  unfold rgV at h1
  rw [List.getElem?_map, List.getElem?_range hk] at h1
  cases h1
  exact .int _
theorem snd_lrng (hc : X.calm = true) (hl : Gl X "list") (hml : X.mg "list" = none) (hg : Gl X "range") (hm : X.mg "range" = none) (ha : SndE X T true a fa) (hb : SndE X T true b fb) (na : notStarE a = true) (nb : notStarE b = true) :
    SndF X T (.Call (.Name "list" p1) [.Call (.Name "range" p2) [a, b] [] p3] [] pos) (fun ρ => (fa ρ).bind fun x => (fb ρ).bind fun y => (asInt x).bind fun i => (asInt y).bind fun j =>
      .guard (small62 i && (small62 j && decide ((j - i).toNat ≤ lim))) (.ret (.list (rngL i (j - i).toNat)))) := by
  obtain ⟨ta, pa, qa⟩ := ha
  obtain ⟨tb, pb, qb⟩ := hb
  refine ⟨_, pe_listRg hc hl hml (prg_2 hg hm pa pb (starEach_cons na) (starEach_cons nb) (by rw [starEach_cons nb]; rfl)) rfl, fun G0 H0 ρ σ G H Q R h => ?_⟩
  rw [Out.All_bind] at h
  refine qa G0 H0 ρ σ G H _ R (h.mono fun d hd v G1 H1 k i1 => ?_)
  rw [Out.All_bind] at hd
  refine qb G0 H0 ρ σ G1 H1 _ (R.step k) (hd.mono fun d' hd u G2 H2 k2 j1 => ?_)
  obtain ⟨z, rfl, hd1⟩ := All_asInt hd
  obtain ⟨z', rfl, hd2⟩ := All_asInt hd1
  rw [Out.All_guard, Bool.and_eq_true, Bool.and_eq_true] at hd2
  obtain ⟨⟨hz, hz', hl⟩, hd3⟩ := hd2
  obtain ⟨s1, s2⟩ := small62_of hz
  obtain ⟨s3, s4⟩ := small62_of hz'
  have hl := of_decide_eq_true hl
  refine ⟨z, z', i1.int, j1.int, ⟨s1, s2, s3, s4, Nat.le_trans hl (by decide)⟩, fun q hq => ?_⟩
  have kk := k.trans k2 R.tub
  have R2 := R.step kk
  have hq0 : H q = none := kk.back R.tub hq
  refine hd3 q (rgV z z') _ G2 _ rfl (kk.trans (Stp.fresh R2.sub R2.tub hq) R.tub) hq0 ?_ upd_same (rgV_is z z')
  cases e : G2 q with
  | none => rfl
  | some o => rw [R2.sub q o e] at hq; cases hq
end
end Ev

set_option Elab.async false
set_option linter.all false
set_option autoImplicit false
set_option maxRecDepth 100000
set_option maxHeartbeats 4000000
namespace Ev
open PySem L2 Exn
/-! ### own exceptions: made, asked, a field read -/
section
variable {X : Cx} {T : Ap} {r : Bool} {a e : Expr} {pos p1 p2 p kp : Pos} {fa : Ro → Out D} {x : Str}
/-- two new objects, frozen at once -/
theorem xc1_post {G H : Hp} {Q : VK} {v : V} {d : D} {C : Addr} {fld : Str} (s : Sub G H) (t : TubOk T H) (i : Is T G v d) (h : (Out.guard (atomD d) (.ret (xcD C fld d)) : Out D).All (PostE r T G H Q)) :
    ∀ a dx, H a = none → H dx = none → dx ≠ a → Q (.ref a) (upd (upd H dx (exd dx [(fld, v)])) a (exo a C (some dx))) := fun a dx ha hd ne => by
  rw [Out.All_guard] at h
  obtain ⟨hA, h⟩ := h
  have k1 : Stp T G H (upd G dx (exd dx [(fld, v)])) (upd H dx (exd dx [(fld, v)])) := .laid s t hd
  have ha1 : upd H dx (exd dx [(fld, v)]) a = none := by rw [upd_ne (Ne.symm ne)]; exact ha
  have k2 := Stp.laid (o := exo a C (some dx)) k1.gh k1.tub ha1
  have k := k1.trans k2 t
  refine h (.ref a) _ _ k (.inl (.xc1 upd_same (.inl rfl) ?_ (i.mono' k.gs)))
  rw [upd_ne ne, upd_same]
theorem snd_mkx {C fI : Addr} {B newId i : String} {bmB : List Value} {par fld : Str} {fd : FuncData} (F : MkFacts X.prog X.K C fI B newId i bmB par fld fd) (hs : X.mg "super" = none) (room : X.A.depth + 1 < recursionLimit) (hg : Gl X x) (hm : X.mg x = some (.ref C))
    (he : SndE X T false e fa) (hns : notStarE e = true) (hdb : (x == ("__debug__" : Str)) = false) : SndE X T r (.Call (.Name x p) [e] [] pos) (fun ρ => (fa ρ).bind fun d => .guard (atomD d) (.ret (xcD C fld d))) := by
  obtain ⟨te, pe, qe⟩ := he
  refine ⟨_, pe_mkp F hs room hg hm pe (starEach_cons hns) hdb, fun G0 H0 ρ σ G H Q R h => ?_⟩
  rw [Out.All_bind] at h
  exact qe G0 H0 ρ σ G H _ R (h.mono fun d hd v G1 H1 k1 i1 => xc1_post k1.gh k1.tub i1.keep (hd.mono fun d hd => hd.trans k1 R.tub))
theorem snd_mkk {C fI : Addr} {B newId i : String} {bmB : List Value} {par fld : Str} {fd : FuncData} (F : MkFacts X.prog X.K C fI B newId i bmB par fld fd) (hs : X.mg "super" = none) (room : X.A.depth + 1 < recursionLimit) (hg : Gl X x) (hm : X.mg x = some (.ref C))
    (he : SndE X T false e fa) (hdb : (x == ("__debug__" : Str)) = false) : SndE X T r (.Call (.Name x p) [] [⟨some par, e, kp⟩] pos) (fun ρ => (fa ρ).bind fun d => .guard (atomD d) (.ret (xcD C fld d))) := by
  obtain ⟨te, pe, qe⟩ := he
  refine ⟨_, pe_mkk F hs room hg hm pe hdb, fun G0 H0 ρ σ G H Q R h => ?_⟩
  rw [Out.All_bind] at h
  exact qe G0 H0 ρ σ G H _ R (h.mono fun d hd v G1 H1 k1 i1 => xc1_post k1.gh k1.tub i1.keep (hd.mono fun d hd => hd.trans k1 R.tub))
theorem snd_mk0 {C : Addr} {B newId i : String} {bmB : List Value} (F : Mk0Facts X.K C B newId i bmB) (hg : Gl X x) (hm : X.mg x = some (.ref C)) (hdb : (x == ("__debug__" : Str)) = false) : SndE X T r (.Call (.Name x p) [] [] pos) (fun _ => .ret (xc0 C)) :=
  ⟨_, pe_mk0 F hg hm hdb, fun G0 H0 ρ σ G H Q R h a ha => h (.ref a) _ _ (.laid R.sub R.tub ha) (.inl (.xc0 upd_same (.inl rfl)))⟩
/-- an exception in hand -/
theorem isr_x0 {G H : Hp} {v : V} {c : Int} (s : Sub G H) (i : IsR true T G H v (.dict [(.int c, .none)])) : ∃ (a C : Addr), c = (C : Int) ∧ v = V.ref a ∧ ExAt H a C := by
  rcases i with i | ⟨_, a, vs, xs, e, _⟩
  · cases i with
    | xc0 e x => exact ⟨_, _, rfl, rfl, _, s _ _ e, .inl x⟩
  · cases e
theorem isr_x1 {G H : Hp} {v : V} {c : Int} {f : Str} {d : D} (s : Sub G H) (i : IsR true T G H v (.dict [(.int c, .tuple [.str f, d])])) : ∃ (a C dx : Addr) (o : HO) (u : V), c = (C : Int) ∧ v = V.ref a ∧ H a = some o ∧ Exo o a C (some dx) ∧ H dx = some (exd dx [(f, u)]) ∧ Is T G u d := by
  rcases i with i | ⟨_, a, vs, xs, e, _⟩
  · cases i with
    | xc1 e1 x e2 q => exact ⟨_, _, _, _, _, rfl, rfl, s _ _ e1, x, s _ _ e2, q⟩
  · cases e
theorem any_nat {l : List Nat} {c : Nat} (h : (l.any fun n => decide ((n : Int) = (c : Int))) = true) : c ∈ l := by
  obtain ⟨n, hn, e⟩ := List.any_eq_true.mp h
  have : (n : Int) = (c : Int) := of_decide_eq_true e
  rw [← Int.ofNat.inj this]
  exact hn
theorem isx_say {yes no : List Nat} {c : Nat} {P : D → Prop} (h : (isxV yes no (c : Int)).All P) : ∃ b : Bool, P (.bool b) ∧ ((b = true ∧ c ∈ yes) ∨ (b = false ∧ c ∈ no)) := by
  unfold isxV at h
  split at h
  · rename_i q
    exact ⟨true, h, .inl ⟨rfl, any_nat q⟩⟩
  · rw [Out.All_guard] at h
    exact ⟨false, h.2, .inr ⟨rfl, any_nat h.1⟩⟩
theorem snd_isx {yes no : List Nat} {cv : Value} (hgl : Gl X "isinstance") (hm : X.mg "isinstance" = none) (hb : ∃ c : V, (∀ u, RelV c u → u = cv) ∧ PE X (.Name x p2) (tC c))
    (hy : ∀ c ∈ yes, ExcC X.K c ∧ PySem.W.kitOne X.K (.ref c) cv = some true) (hn : ∀ c ∈ no, ExcC X.K c ∧ PySem.W.kitOne X.K (.ref c) cv = some false) (ha : SndE X T true a fa) (hns : notStarE a = true) :
    SndE X T r (.Call (.Name "isinstance" p1) [a, .Name x p2] [] pos) (fun ρ => (fa ρ).bind (isxD yes no)) := by
  refine SndE.read ?_
  obtain ⟨ta, pa, qa⟩ := ha
  obtain ⟨cc, hcc, hb⟩ := hb
  have hp : PA X [a, .Name x p2] (tCons ta (tCons (tC cc) tNil)) := pa_cons pa (pa_cons hb pa_nil rfl) (starEach_cons hns)
  refine ⟨_, pe_callB call_isx hgl hm PyProof.Rows.Boot.«isinstance» hp (by decide) (by decide) (starEach_cons hns) rfl, fun G0 H0 ρ σ G H Q R h => ?_⟩
  rw [Out.All_bind] at h
  refine qa G0 H0 ρ σ G H _ R (h.mono fun d hd v G1 H1 k1 i1 => ?_)
  have core : ∀ {a C : Addr}, v = V.ref a → ExAt H1 a C → (isxV yes no (C : Int)).All (PostE false T G H Q) → rIsx X.K [v, cc] H1 Q := fun {a C} ev ex hq => by
    obtain ⟨b, q, hbc⟩ := isx_say hq
    refine ⟨a, C, cc, cv, b, by rw [ev], ex, ?_, hcc, ?_, PostE.now k1.gh k1.tub (q.trans k1 R.tub) (.bl _)⟩
    · rcases hbc with ⟨_, z⟩ | ⟨_, z⟩
      · exact (hy C z).1
      · exact (hn C z).1
    · rcases hbc with ⟨rfl, z⟩ | ⟨rfl, z⟩
      · exact (hy C z).2
      · exact (hn C z).2
  unfold isxD at hd
  split at hd
  · obtain ⟨a, C, rfl, ev, ex⟩ := isr_x0 k1.gh i1
    exact core ev ex hd
  · obtain ⟨a, C, dx, o, u, rfl, ev, e1, x, e2, _⟩ := isr_x1 k1.gh i1
    exact core ev ⟨o, e1, .inr ⟨dx, _, x, e2⟩⟩ hd
  · exact hd.elim
theorem snd_xat {f : Str} {cs : List Nat} (hx : ∀ c ∈ cs, XfC X.K c ∧ PySem.W.findIn X.K (.ref c) f = some none) (he : SndE X T true e fa) (hb : attributeBase e f X.env (eval e X.env) = eval e X.env) :
    SndE X T r (.Attribute e f pos) (fun ρ => (fa ρ).bind (xatD f cs)) := by
  refine SndE.read ?_
  obtain ⟨te, pe, qe⟩ := he
  refine ⟨_, pe_xat pe hb, fun G0 H0 ρ σ G H Q R h => ?_⟩
  rw [Out.All_bind] at h
  refine qe G0 H0 ρ σ G H _ R (h.mono fun d hd v G1 H1 k1 i1 => ?_)
  unfold xatD at hd
  split at hd
  · rename_i c g d
    rw [Out.All_guard, Bool.and_eq_true, decide_eq_true_eq] at hd
    obtain ⟨⟨hc, rfl⟩, hd⟩ := hd
    obtain ⟨a, C, dx, o, u, rfl, ev, e1, x, e2, iu⟩ := isr_x1 k1.gh i1
    have hC := hx C (any_nat hc)
    exact ⟨a, C, dx, o, _, u, ev, e1, x, e2, hC.1, hC.2, by simp [List.lookup], PostE.now k1.gh k1.tub (PostE.trans hd k1 R.tub) iu⟩
  · exact hd.elim
end
end Ev

set_option Elab.async false
set_option linter.all false
set_option autoImplicit false
set_option maxRecDepth 100000
set_option maxHeartbeats 4000000
namespace Ev
open PySem L2 PyProof.Rows
section
variable {X : Cx} {T : Ap} {r : Bool} {ast a b e : Expr} {pos p1 p2 q1 q2 : Pos} {f g fa fb : Ro → Out D}
/-! ### the written form as a value -/
def rRepX (K : PySem.W.Frag) : List V → Hp → VK → Prop := fun xs H Q =>
  rRepD K xs H Q ∨ (∃ v d, xs = [v] ∧ ((v = .non ∧ d = .none) ∨ (∃ b, v = .bl b ∧ d = .bool b) ∨ (∃ i, v = .int i ∧ d = .int i ∧ i.natAbs.log2 < 1920) ∨ ∃ x, v = .str x ∧ d = .str x ∧ (PySem.reprText x).length ≤ sizeLine) ∧ Q (.str (reprT d)) H) ∨
    ∃ p, xs = [.ref p] ∧ H p = some (.dK []) ∧ Q (.str "{}") H
theorem call_repX {n : Nat} (hr : L2H.RoomH n X.A) (hg : X.A.guards = some []) : CallR X (.builtin "repr") (rRepX X.K) := by
  intro pins s σ H xs us Q I rv h
  rcases h with h | ⟨v, d, rfl, h, q⟩ | ⟨p, rfl, hp, q⟩
  · exact call_repD hr hg pins s σ H xs us Q I rv h
  · obtain ⟨u, rfl, ru⟩ := vals1 rv
    rcases h with ⟨rfl, rfl⟩ | ⟨b, rfl, rfl⟩ | ⟨i, rfl, rfl, hi⟩ | ⟨x, rfl, rfl, hx⟩
    · cases (show u = Value.none from ru)
      exact PySem.P.repr_of_none ⟨.str _, H, I.tok _, ⟨_, rfl⟩, q⟩
    · cases (show u = Value.bool b from ru)
      exact PySem.P.repr_of_bool ⟨.str _, H, I.tok _, ⟨_, rfl⟩, q⟩
    · obtain ⟨t, rfl⟩ := (show ∃ t, u = Value.int i t from ru)
      exact PySem.P.repr_of_int hi ⟨.str _, H, I.tok _, ⟨_, rfl⟩, q⟩
    · obtain ⟨t, rfl⟩ := (show ∃ t, u = Value.str x t from ru)
      exact PySem.P.repr_of_str ⟨.str _, H, I.tok _, ⟨_, rfl⟩, q⟩ hx
  · obtain ⟨u, rfl, ru⟩ := vals1 rv
    obtain rfl : u = Value.ref p := ru
    have ok : ObjOk X.prog X.w H s.heap p (.dK []) := I.hok p _ hp
    obtain ⟨_, sys, vs, kv, o, es, ep, ho, ex, hd, hk, hpair, _⟩ := ok
    cases kv
    have e0 : es.toList = [] := by
      cases q2 : es.toList with
      | nil => rfl
      | cons z zs => rw [q2] at hpair; cases hpair
    have rd : Reads s.heap (.ref p) (.dict []) ([p] ++ []) := .dict ho ex.1 hd (by rw [e0]; exact .nil) (by rw [e0]; exact .nil)
    have hu := hr.un
    refine repr_of_reads' rd rfl (fun _ => ?_) hg (by show _ + (_ + 1) < _; simp only [PyData.depth, PyData.depthKv]; omega) (fun _ _ e => e) (fun h' t tk kp => ?_) (by decide +kernel)
    · intro hm
      rw [List.append_nil, List.mem_singleton] at hm
      rw [← hm] at sys
      exact absurd sys (by simp)
    · exact ⟨.str "{}", H, I.kept kp, ⟨_, rfl⟩, q⟩
theorem snd_reprX {n : Nat} (hr : L2H.RoomH n X.A) (hg : X.A.guards = some []) (hgl : Gl X "repr") (hm : X.mg "repr" = none) (hb : bootBuiltins "repr" = some (.builtin "repr")) (ha : SndE X T true a fa) (hns : notStarE a = true) :
    SndE X T r (.Call (.Name "repr" p1) [a] [] q1) (fun ρ => (fa ρ).bind reprD) := by
  refine SndE.read ?_
  obtain ⟨ta, pa, qa⟩ := ha
  have hp : PA X [a] (tCons ta tNil) := pa_cons pa pa_nil (starEach_cons hns)
  refine ⟨_, pe_callB (call_repX hr hg) hgl hm hb hp (by decide) (by decide) (starEach_cons hns) rfl, fun G0 H0 ρ σ G H Q R h => ?_⟩
  rw [Out.All_bind] at h
  refine qa G0 H0 ρ σ G H _ R (h.mono fun x hx v G1 H1 k1 i1 => ?_)
  unfold reprD at hx
  rw [Out.All_guard] at hx
  obtain ⟨ho, hx⟩ := hx
  have fin : Q (.str (reprT x)) H1 := PostE.now k1.gh k1.tub (PostE.trans hx k1 R.tub) (.str _)
  have seq : isSeqD x = true → repOk x = true → reprT x = x.shown → rRepX X.K [v] H1 Q := fun hs hr e => by
    unfold repOk at hr
    rw [Bool.and_eq_true, Bool.and_eq_true] at hr
    obtain ⟨h1, h2, h3⟩ := hr
    cases hw : wtD x with
    | none => rw [hw] at h3; cases h3
    | some m =>
      rw [hw] at h3
      refine .inl ⟨v, x, m, rfl, i1.dp k1.gh (wtD_ok hw).2.2.1, h1, of_decide_eq_true h2, hw, of_decide_eq_true h3, ?_⟩
      rw [← e]
      exact fin
  cases x with
  | none => exact .inr (.inl ⟨v, _, rfl, .inl ⟨i1.none, rfl⟩, fin⟩)
  | bool b => exact .inr (.inl ⟨v, _, rfl, .inr (.inl ⟨b, i1.bool, rfl⟩), fin⟩)
  | int i => exact .inr (.inl ⟨v, _, rfl, .inr (.inr (.inl ⟨i, i1.int, rfl, of_decide_eq_true ho⟩)), fin⟩)
  | str x =>
    obtain ⟨h1, h2⟩ := Bool.and_eq_true_iff.mp (show (x.cps.all (· < 0x110000) && decide (x.length ≤ 1000000)) = true from ho)
    have ev : v = .str x := by
      rcases i1 with i1 | ⟨_, a, vs, ys, e1, _⟩
      · cases i1; rfl
      · cases e1
    refine .inr (.inl ⟨v, _, rfl, .inr (.inr (.inr ⟨x, ev, rfl, ?_⟩)), fin⟩)
    have hl := PySem.StrLaws.reprText_len x fun c hc => by
      have := Array.all_eq_true_iff_forall_mem.mp h1 c (Array.mem_toList_iff.mp hc)
      have h2 : c < 1114112 := of_decide_eq_true this
      omega
    have h2 := of_decide_eq_true h2
    rw [sizeLine_eq]
    omega
  | list xs => exact seq rfl ho rfl
  | tuple xs => exact seq rfl ho rfl
  | dict kvs =>
    refine .inr (.inr ?_)
    unfold reprOk at ho
    split at ho <;> try (cases ho; done)
    all_goals (rename_i e0; first | (cases e0; done) | skip)
    rename_i ps
    cases e0
    rcases i1 with i1 | ⟨_, a, vs, ys, e1, _⟩
    · cases i1 with
      | @dk a l e =>
        cases l with
        | nil => exact ⟨a, rfl, k1.gh _ _ e, fin⟩
        | cons z zs => cases ho
    · cases e1
/-! ### l.index(x), l.count(x) -/
theorem ixOf_spec {p : D → Bool} : ∀ {xs : List D} {k j : Nat}, ixOf p xs k = some j → k ≤ j ∧ ∃ z, xs[j - k]? = some z ∧ p z = true ∧ ∀ (m : Nat) (z' : D), m < j - k → xs[m]? = some z' → p z' = false
  | [], k, j, h => by cases h
  | x :: xs, k, j, h => by
    simp only [ixOf] at h
    cases q : p x with
    | true =>
      rw [q] at h
      cases h
      refine ⟨Nat.le_refl _, x, by simp, q, fun m z' hm => ?_⟩
      rw [Nat.sub_self] at hm
      exact absurd hm (Nat.not_lt_zero _)
    | false =>
      rw [q] at h
      obtain ⟨h1, z, h2, h3, h4⟩ := ixOf_spec h
      have e : j - k = (j - (k + 1)) + 1 := by omega
      refine ⟨by omega, z, by rw [e]; simpa using h2, h3, fun m z' hm hz => ?_⟩
      cases m with
      | zero => simp at hz; subst hz; exact q
      | succ m => exact h4 m z' (by omega) (by simpa using hz)
theorem asLst_ret {d : D} {P : List D → Prop} (h : (asLst d).All P) : ∃ xs, d = .list xs ∧ P xs := by
  cases d with
  | list xs => exact ⟨xs, rfl, h⟩
  | _ => exact h.elim
theorem snd_lidx {y : Str} {py apos cpos : Pos} {x : Expr} (hu : X.A.units + 65 < cLine) (ha : SndE X T true (.Name y py) fa) (hb : SndE X T true x fb) (hns : notStarE x = true) (hl : (apos.endLine == cpos.line) = true) :
    SndE X T r (.Call (.Attribute (.Name y py) "index" apos) [x] [] cpos) (fun ρ => (fa ρ).bind fun u => (asLst u).bind fun xs => (fb ρ).bind fun w => lidxD xs w) := by
  refine SndE.read ?_
  obtain ⟨ta, pa, qa⟩ := ha
  obtain ⟨tb, pb, qb⟩ := hb
  refine ⟨_, pe_bm PySem.F.plainAttrs_list PySem.F.slot_list_index PySem.F.type_list_index (mt_indexD hu) pa (pa_cons pb pa_nil (starEach_cons hns)) rfl (by rw [starEach_cons hns]; rfl) hl (starEach_cons hns) rfl, fun G0 H0 ρ σ G H Q R h => ?_⟩
  rw [Out.All_bind] at h
  refine qa G0 H0 ρ σ G H _ R (h.mono fun u hu v G1 H1 k1 i1 => ?_)
  rw [Out.All_bind] at hu
  obtain ⟨xs, rfl, hu2⟩ := asLst_ret hu
  rw [Out.All_bind] at hu2
  obtain ⟨p, vs, rfl, hp, iv⟩ := i1.list k1.gh
  refine ⟨.inl ⟨rfl, vs, .of hp⟩, ?_⟩
  refine qb G0 H0 ρ σ G1 H1 _ (R.step k1) (hu2.mono fun w hw z G2 H2 k2 i2 => ?_)
  unfold lidxD at hw
  rw [Out.All_guard, Bool.and_eq_true, Out.All_bind, Out.All_ofO] at hw
  obtain ⟨⟨s1, s2⟩, k, e, hw⟩ := hw
  obtain ⟨_, y', h2, h3, h4⟩ := ixOf_spec e
  have kk := k1.trans k2 R.tub
  refine ⟨p, z, w, xs, k, y', rfl, rfl, (i1.step k2).dp k2.gh (SeqAt.canLay_of_shaped s1), i2.dp k2.gh (SeqAt.canLay_of_shaped s2), s1, s2, by simpa using h2, h3, fun m z' hm hz => h4 m z' (by simpa using hm) hz, ?_⟩
  exact PostE.now k2.gh k2.tub (PostE.trans hw kk R.tub) (.int _)
def rCntD (K : PySem.W.Frag) : V → List V → Hp → VK → Prop := fun x xs H Q => ∃ (a : Addr) (y : V) (vs : List V) (d : D) (ds : List D), x = V.ref a ∧ xs = [y] ∧ SqL K H a vs ∧ DpAll K H vs ds ∧ Dp K H y d ∧
  PyData.plainAll ds = true ∧ d.plain = true ∧ d.depth ≤ 60 ∧ Q (.int ((ds.countP fun z => PyData.eqv z d : Nat) : Int)) H
theorem mt_cntD (hu : X.A.units + 65 < cLine) : MtR X "list.count" (rCntD X.K) := by
  intro pins s σ H x xs v us Q I rx rxs h
  obtain ⟨a, y, vs, d, ds, rfl, rfl, hl, hds, hd, p1, p2, p3, q⟩ := h
  cases rx
  cases rxs with
  | cons ry rt =>
    rename_i uy ut
    cases rt
    obtain ⟨bs, r1⟩ := Dp.reads I d y uy hd ry
    obtain ⟨its, rv, il, hlen⟩ := I.list hl
    obtain ⟨as, r2⟩ := Dp.readsAll I ds vs its hds rv
    refine PySem.SeqAt.count_list_data (vs := its.toArray) il.isList r2 r1 p1 p2 (by have := Nat.min_le_right (PyData.depthAll ds) d.depth; omega) ⟨.int _, H, I.tok _, ⟨_, rfl⟩, q⟩
theorem snd_lcnt {y : Str} {py apos cpos : Pos} {x : Expr} (hu : X.A.units + 65 < cLine) (ha : SndE X T true (.Name y py) fa) (hb : SndE X T true x fb) (hns : notStarE x = true) (hl : (apos.endLine == cpos.line) = true) :
    SndE X T r (.Call (.Attribute (.Name y py) "count" apos) [x] [] cpos) (fun ρ => (fa ρ).bind fun u => (asLst u).bind fun xs => (fb ρ).bind fun w => lcntD xs w) := by
  refine SndE.read ?_
  obtain ⟨ta, pa, qa⟩ := ha
  obtain ⟨tb, pb, qb⟩ := hb
  refine ⟨_, pe_bm PySem.F.plainAttrs_list PySem.F.slot_list_count PySem.F.type_list_count (mt_cntD hu) pa (pa_cons pb pa_nil (starEach_cons hns)) rfl (by rw [starEach_cons hns]; rfl) hl (starEach_cons hns) rfl, fun G0 H0 ρ σ G H Q R h => ?_⟩
  rw [Out.All_bind] at h
  refine qa G0 H0 ρ σ G H _ R (h.mono fun u hu v G1 H1 k1 i1 => ?_)
  rw [Out.All_bind] at hu
  obtain ⟨xs, rfl, hu2⟩ := asLst_ret hu
  rw [Out.All_bind] at hu2
  obtain ⟨p, vs, rfl, hp, iv⟩ := i1.list k1.gh
  refine ⟨.inl ⟨rfl, vs, .of hp⟩, ?_⟩
  refine qb G0 H0 ρ σ G1 H1 _ (R.step k1) (hu2.mono fun w hw z G2 H2 k2 i2 => ?_)
  unfold lcntD at hw
  rw [Out.All_guard, Bool.and_eq_true, Bool.and_eq_true, Bool.and_eq_true, Bool.and_eq_true] at hw
  obtain ⟨⟨⟨s1, s2⟩, p1, p2, p3⟩, hw⟩ := hw
  have kk := k1.trans k2 R.tub
  obtain ⟨p', vs', e1, hp', iv'⟩ := (i1.step k2).list k2.gh
  cases e1
  exact ⟨p, z, vs', w, xs, rfl, rfl, .of hp', iv'.dp k2.gh _ _ s1, i2.dp k2.gh s2, p1, p2, of_decide_eq_true p3, PostE.now k2.gh k2.tub (PostE.trans hw kk R.tub) (.int _)⟩
theorem snd_dk0 {r : Bool} {dp : Pos} {d : D} (h : dk0B d = true) : SndE X T r (.Dict [] [] dp) (fun _ => .ret d) := by
  unfold dk0B at h
  split at h
  · exact ⟨_, pe_dnewK, fun G0 H0 ρ σ G H Q R hq p hp => hq (.ref p) _ _ (.laid R.sub R.tub hp) (.inl (.dk (l := []) upd_same))⟩
  · cases h
end
end Ev

set_option Elab.async false
set_option linter.all false
set_option autoImplicit false
set_option maxRecDepth 100000
set_option maxHeartbeats 8000000
namespace Ev
open PySem L2
section
variable {C : Ck} {n : Nat} {S : Sx} {X : Cx} {T : Ap}
theorem sd_blt (g : Gd C n S T X) {b : Blt} {a : E} {y : Expr} {ys : List Expr} {p pos : Pos} {Γ : Env} (hl : (C.cm || lenB b) = true) (hg : Gl X (bltN b)) (hns : (y :: ys).all notStarE = true) (ha : ∀ r, SndL X T r (y :: ys) (ev Γ r a)) : SE X T Γ (.blt b a) (.Call (.Name (bltN b) p) (y :: ys) [] pos) := by
  have hc : lenB b = false → X.calm = true := fun e => g.calm (by rw [e, Bool.or_false] at hl; exact hl)
  have hrm : lenB b = false → Room (3 * n) X.A := fun e => g.rm (by rw [e, Bool.or_false] at hl; exact hl)
  cases b with
  | len => exact SE.plain (fun r => snd_blt (ha true) (fun t pa => mkB g call_len_seq hg (by decide +kernel) boot_len' (by decide +kernel) (by decide +kernel) hns pa) oc_len) rfl (nf rfl)
  | sum => exact SE.plain (fun r => snd_blt (ha true) (fun t pa => mkB g (cr_sumT (hc rfl)) hg (by decide +kernel) boot_sum' (by decide +kernel) (by decide +kernel) hns pa) oc_sum) rfl (nf rfl)
  | max => exact SE.plain (fun r => snd_blt (ha true) (fun t pa => mkB g (call_max2D (hc rfl)) hg (by decide +kernel) boot_max' (by decide +kernel) (by decide +kernel) hns pa) oc_max) rfl (nf rfl)
  | min => exact SE.plain (fun r => snd_blt (ha true) (fun t pa => mkB g (call_min2D (hc rfl)) hg (by decide +kernel) boot_min' (by decide +kernel) (by decide +kernel) hns pa) oc_min) rfl (nf rfl)
  | all => exact SE.plain (fun r => snd_blt (ha true) (fun t pa => mkB g (cr_all (hc rfl)) hg (by decide +kernel) boot_all' (by decide +kernel) (by decide +kernel) hns pa) oc_all) rfl (nf rfl)
  | any => exact SE.plain (fun r => snd_blt (ha true) (fun t pa => mkB g (cr_any (hc rfl)) hg (by decide +kernel) boot_any' (by decide +kernel) (by decide +kernel) hns pa) oc_any) rfl (nf rfl)
  | tuple => exact SE.plain (fun r => snd_blt (ha true) (fun t pa => mkT g call_tuple_of hg (by decide +kernel) boot_tuple' (by decide +kernel) (by decide +kernel) hns pa) oc_tuple) rfl (nf rfl)
  | list =>
    have hf : SndF X T (.Call (.Name (bltN .list) p) (y :: ys) [] pos) (ev Γ false (.blt .list a)) := snd_bltF (ha true) (fun t pa => mkT g call_list_of hg (by decide +kernel) boot_list' (by decide +kernel) (by decide +kernel) hns pa) oc_list
    exact SE.plain (fun r => hf.e) rfl fun _ => hf.only
  | sorted =>
    have hf : SndF X T (.Call (.Name (bltN .sorted) p) (y :: ys) [] pos) (ev Γ false (.blt .sorted a)) := snd_bltF (ha true) (fun t pa => mkB g (cr_sortD (hrm rfl)) hg (by decide +kernel) boot_sorted' (by decide +kernel) (by decide +kernel) hns pa) (oc_sorted (X := X))
    exact SE.plain (fun r => hf.e) rfl fun _ => hf.only
  | abs => exact SE.plain (fun r => snd_blt (ha true) (fun t pa => mkB g call_abs hg (by decide +kernel) boot_abs' (by decide +kernel) (by decide +kernel) hns pa) oc_abs) rfl (nf rfl)
  | int => exact SE.plain (fun r => snd_blt (ha true) (fun t pa => mkT g call_int1 hg (by decide +kernel) boot_int' (by decide +kernel) (by decide +kernel) hns pa) oc_int) rfl (nf rfl)
  | divmod => exact SE.plain (fun r => snd_blt (ha true) (fun t pa => mkB g call_divmod hg (by decide +kernel) boot_divmod' (by decide +kernel) (by decide +kernel) hns pa) oc_divmod) rfl (nf rfl)
theorem room1 {n : Nat} {A : Around} (r : L2H.RoomH n A) : A.depth + 1 < recursionLimit := by
  have := r.dp
  omega
theorem base_of {e : Expr} {f : Str} {env : PySem.Env} (h : baseB e = true) : attributeBase e f env (eval e env) = eval e env := by
  cases e <;> first | rfl | cases h
theorem bt3 {a b c : Bool} (h : (a && (b && c)) = true) : a = true ∧ b = true ∧ c = true := ⟨(bt h).1, (bt (bt h).2).1, (bt (bt h).2).2⟩
theorem chk_nil_of {E : E} (h : chk C E S (.l []) = true) {Γ : Env} {r : Bool} : ∀ ρ, ev Γ r E ρ = .ret (.tuple []) := by
  cases E <;> first | (intro ρ; rfl) | (simp only [chk, Nd.x] at h; cases h)
theorem yes_of {c : E} (h : yesE c = true) {Γ : Env} : ev Γ true c = fun _ => .ret (.bool true) := by
  cases c <;> try exact absurd h Bool.false_ne_true
  rename_i d
  cases d <;> try exact absurd h Bool.false_ne_true
  rename_i b
  cases b
  · exact absurd h Bool.false_ne_true
  · rfl
theorem tub_get {ρ : Ro} {i : Nat} {α : Type} {k : Unit → Out α} {P : α → Prop} (h : ((tubOf ρ i).bind k).All P) : ρ[i]? = some (some (.val (.dict []))) ∧ (k ()).All P := by
  unfold tubOf slot at h
  rw [Out.bind_assoc, Out.All_bind, Out.All_ofO] at h
  obtain ⟨s, e, h⟩ := h
  have e' : ρ[i]? = some (some s) := by
    cases q : ρ[i]? with
    | none => rw [q] at e; cases e
    | some o => rw [q] at e; simp at e; rw [e]
  cases s with
  | own xs => exact h.elim
  | dic t kvs => exact h.elim
  | own2 xss => exact h.elim
  | act => exact h.elim
  | val d =>
    cases d <;> try exact h.elim
    rename_i kvs
    cases kvs with
    | cons => exact h.elim
    | nil => exact ⟨e', h⟩
theorem tub_at {G0 H0 G H : Hp} {ρ : Ro} {σ : Sg} {i : Nat} (R : Rep T G0 H0 ρ σ G H) (e : ρ[i]? = some (some (.val (.dict [])))) : ∃ a, T.tub = some a ∧ σ[i]? = some (some (V.ref a)) ∧ ∃ ns : List Int, ns.length = 3 ∧ H a = some (.lst (ns.map V.int)) ∧ ∀ y, ns[1]? = some y → tubB y = true := by
  obtain ⟨v, e1, e2⟩ := R.sl i _ e
  have e3 : Is T G v (.dict []) := e2
  cases e3 with
  | tub hT =>
    obtain ⟨x, y, z, q, hb⟩ := R.tub.1 _ hT
    exact ⟨_, hT, e1, [x, y, z], rfl, q, fun w e => by cases e; exact hb⟩
theorem snd_tix {i j : Nat} {x : Str} {k : Nat} {p1 p2 p3 : Pos} {r : Bool} (hN : X.N[i]? = some x) (hv : Vis X.env.scope x) (h1 : (x == ("__debug__" : Str)) = false) (h2 : (x == ("__classdict__" : Str)) = false) :
    SndE X T r (.Subscript (.Name x p1) (.Constant (.int (j : Int)) k p2) p3) (fun ρ => (tubOf ρ i).bind fun _ => .guard (decide (j < 3)) (.any fun z => .ret (.int (tixV j z)))) := by
  refine ⟨_, pe_ix ix_list (pe_var hN hv h1 h2) pe_int (by intro _ _; rfl), fun G0 H0 ρ σ G H Q R h => ?_⟩
  obtain ⟨e, h⟩ := tub_get h
  obtain ⟨a, hT, e1, ns, hl, hH, hb⟩ := tub_at R e
  rw [Out.All_guard] at h
  have hj : j < 3 := of_decide_eq_true h.1
  refine ⟨_, e1, a, ns.map V.int, (j : Int), .int ns[j], rfl, rfl, .of hH, ?_, ?_⟩
  · unfold atI ixN
    have hz : (j : Int) < 3 := by omega
    simp [hl, hj, hz]
  · have hv : tixV j ns[j] = ns[j] := by
      unfold tixV
      split
      · rename_i e
        have := hb ns[j] (by subst e; exact List.getElem?_eq_getElem _)
        unfold tubB at this
        rw [Bool.and_eq_true, decide_eq_true_eq, decide_eq_true_eq] at this
        omega
      · rfl
    have h2 : (Out.ret (PyData.int (tixV j ns[j]))).All _ := h.2 ns[j]
    rw [hv] at h2
    exact PostE.now R.sub R.tub h2 (.int _)
theorem fnB_ok {f : Nat} {x : Str} (h : fnB C f x = true) : ∃ F, C.τ.fns[f]? = some F ∧ F.name = x := by
  unfold fnB at h
  split at h
  · rename_i F e
    exact ⟨F, e, of_decide_eq_true h⟩
  · cases h
theorem snd_pure {W : WX} {x : Expr} {f : Ro → Out D} (h : SndE X T false x f) : SndP X T (PPX W) x (fun ρ => (f ρ).bind fun d => .ret (.tuple [d])) := by
  obtain ⟨t, p, q⟩ := h
  refine ⟨t, p, fun G0 H0 ρ σ G H Q R h => q G0 H0 ρ σ G H Q R ?_⟩
  rw [Out.All_bind] at h
  exact h.mono fun d hd => hd
theorem lamB_cm {gi : Nat} {y : Str} {prm : Arguments} {sc : Scope} (h : lamB C S gi y prm sc = true) : C.cm = true := by
  unfold lamB at h
  exact (bt h).1
theorem chk_lam {gi : Nat} {dfl : Bool} {e : E} {nd : Nd} (h : chk C (.lam gi dfl e) S nd = true) : ∃ y p prm body sc lp pos, nd.x = some (.Call (.Name y p) [.Lambda prm body sc lp] [] pos) ∧ lamB C S gi y prm sc = true ∧ chkX C (lamX sc) e body = true := by
  simp only [chk] at h
  split at h
  · rename_i y p prm body sc lp pos q
    obtain ⟨h1, h2⟩ := bt h
    obtain ⟨h2, h3⟩ := bt h2
    refine ⟨y, p, prm, body, sc, lp, pos, q, h2, ?_⟩
    unfold chkX
    cases e <;> first | exact h3 | cases h3
  · cases h
theorem lam_no {gi : Nat} {dfl : Bool} {e : E} {nd : Nd} (n : ∀ (C : Ck) (S : Sx) (b : Expr), chkX C S e b = false) (h : chk C (.lam gi dfl e) S nd = true) : False := by
  obtain ⟨y, p, prm, body, sc, lp, pos, _, _, q⟩ := chk_lam h
  rw [n] at q
  cases q
theorem sd_lam (g : Gd C n S T X) {gi : Nat} {dfl : Bool} {e : E} {y : Str} {prm : Arguments} {body : Expr} {sc : Scope} {p lp pos : Pos} (h : lamB C S gi y prm sc = true)
    (hb : ∀ (T' : Ap) (X' : Cx) (W : WX), Gd C n (lamX sc) T' X' → Takes X' W → SndP X' T' (PPX W) body (ev (Γof C n) false e)) : SE X T (Γof C n) (.lam gi dfl e) (.Call (.Name y p) [.Lambda prm body sc lp] [] pos) := by
  unfold lamB at h
  obtain ⟨h1, h2, h3⟩ := bt3 h
  obtain ⟨h4, h5, h6⟩ := bt3 h3
  obtain ⟨h7, h8, h9⟩ := bt3 h6
  obtain ⟨h10, h11⟩ := bt h2
  obtain ⟨h9, h14⟩ := bt h9
  have hp : prm = ⟨[], [], none, [], [], none, []⟩ := by
    unfold noPrm at h9
    split at h9
    · rfl
    · cases h9
  subst hp
  cases hF : C.τ.fns[gi]? with
  | none => rw [hF] at h4; cases h4
  | some F =>
    rw [hF] at h4
    obtain ⟨h12, h13⟩ := bt h4
    cases of_decide_eq_true h12
    obtain ⟨par, hpar⟩ : ∃ par, F.ps = [par] := by
      have hl := of_decide_eq_true h13
      match q : F.ps, hl with
      | [par], _ => exact ⟨par, rfl⟩
    obtain ⟨a, fd, k1, k2, k3, k4⟩ := g.lams gi F par hF (of_decide_eq_true h5) hpar
    rw [hpar] at k4
    obtain ⟨c, P, l1, l2, l3, l4⟩ := g.lam h10 h11
    have L : LamX.LamS X.env.scope sc := by
      rw [g.sc]
      exact LamX.lamS_by h14
    exact SE.plain (fun r => snd_lam g.tb k1 (g.room h1 h11) g.gua (g.gl h7) k2 k3 k4 (not_t h8) l2 l1 l3 l4 L fun f c' T' _ ht A outer s1 H1 E hr hg => hb T' _ _ (g.lamd L hr hg (ht.trans g.tb)) lam_takes) rfl (nf rfl)
theorem sound : ∀ (E : E) {S : Sx} {nd : Nd} {T : Ap} {X : Cx}, Gd C n S T X → chk C E S nd = true → SndN X T (Γof C n) E nd
  | .con d, S, nd, T, X, g, h => by
    simp only [chk] at h
    split at h
    · rename_i e; exact ofX e (sd_con h)
    · rename_i e; exact ofX e (SE.plain (fun r => snd_dk0 h) rfl (nf rfl))
    · cases h
  | .glb x, S, nd, T, X, g, h => by
    simp only [chk] at h
    split at h
    · rename_i e
      obtain ⟨h1, h2, h3⟩ := bt3 h
      cases of_decide_eq_true h1
      exact ofX e (sd_glb g h2 (not_t h3))
    · cases h
  | .var i, S, nd, T, X, g, h => by
    simp only [chk] at h
    split at h
    · rename_i e
      obtain ⟨h1, h2, h3, h4⟩ := g.nm h
      exact ofX e (SE.plain (fun r => snd_var h1 h2 h3 h4) rfl (nf rfl))
    · cases h
  | .pk i, S, nd, T, X, g, h => by
    simp only [chk] at h
    split at h
    · rename_i e
      obtain ⟨h1, h2, h3, h4⟩ := g.nm h
      exact ofX e (SE.plain (fun r => snd_pk h1 h2 h3 h4) rfl (nf rfl))
    · cases h
  | .bin o a b, S, nd, T, X, g, h => by
    simp only [chk] at h
    split at h
    · rename_i e
      obtain ⟨h1, h2, h3⟩ := bt3 h
      rw [of_decide_eq_true h1] at e
      exact ofX e (sd_bin (sound a g h2) (sound b g h3))
    · cases h
  | .neg a, S, nd, T, X, g, h => by
    simp only [chk] at h
    split at h
    · rename_i e
      obtain ⟨h1, h2⟩ := bt h
      rw [of_decide_eq_true h1] at e
      exact ofX e (SE.plain (fun r => snd_neg ((sound a g h2).e true)) rfl (nf rfl))
    · cases h
  | .not a, S, nd, T, X, g, h => by
    simp only [chk] at h
    split at h
    · rename_i e
      obtain ⟨h1, h2⟩ := bt h
      rw [of_decide_eq_true h1] at e
      exact ofX e (sd_not (sound a g h2))
    · cases h
  | .and a b, S, nd, T, X, g, h => by
    simp only [chk] at h
    split at h
    · rename_i e
      obtain ⟨h1, h2, h3⟩ := bt3 h
      rw [of_decide_eq_true h1] at e
      exact ofX e (sd_and (sound a g h2) (sound b g h3))
    · cases h
  | .or a b, S, nd, T, X, g, h => by
    simp only [chk] at h
    split at h
    · rename_i e
      obtain ⟨h1, h2, h3⟩ := bt3 h
      rw [of_decide_eq_true h1] at e
      exact ofX e (sd_or (sound a g h2) (sound b g h3))
    · cases h
  | .cmp o a b, S, nd, T, X, g, h => by
    simp only [chk] at h
    split at h
    · rename_i e
      obtain ⟨h1, h2, h34⟩ := bt3 h
      obtain ⟨h3, h4⟩ := bt h34
      rw [of_decide_eq_true h1] at e
      have ha := sound a g h3
      have hb := sound b g h4
      exact ofX e (SE.cmp (cmp_ok g (ha.e true) (hb.e true)) (fun r => rfl) (mark_of h2) rfl)
    · cases h
  | .chain o p a b c, S, nd, T, X, g, h => by
    simp only [chk] at h
    split at h
    · rename_i e
      obtain ⟨h1, h2, h3⟩ := bt3 h
      obtain ⟨h3, h4, h5⟩ := bt3 h3
      obtain ⟨h5, h6⟩ := bt h5
      rw [of_decide_eq_true h1, of_decide_eq_true h2] at e
      exact ofX e (sd_chain g (sound a g h4) (sound b g h5) (sound c g h6) h3)
    · cases h
  | .isn gg a, S, nd, T, X, g, h => by
    simp only [chk] at h
    split at h
    · rename_i e
      obtain ⟨h1, h2⟩ := bt h
      rw [of_decide_eq_true h1] at e
      have ha := sound a g h2
      exact ofX e (SE.cmp (sc_isn (ha.e true)) (fun r => rfl) (mark_of rfl) rfl)
    · cases h
  | .ist gg a b, S, nd, T, X, g, h => by
    simp only [chk] at h
    split at h
    · rename_i e
      obtain ⟨h1, h2, h3⟩ := bt3 h
      rw [of_decide_eq_true h1] at e
      cases eq_of_beq h2
      have ha := sound a g h3
      exact ofX e (SE.cmp (sc_ist (ha.e true)) (fun r => rfl) (mark_of rfl) rfl)
    · cases h
  | .ite c a b, S, nd, T, X, g, h => by
    simp only [chk] at h
    split at h
    · rename_i e
      obtain ⟨h1, h2, h3⟩ := bt3 h
      exact ofX e (sd_ite (sound c g h1) (sound a g h2) (sound b g h3))
    · cases h
  | .nil, S, nd, T, X, g, h => by
    simp only [chk] at h
    split at h
    · exact fun r => sl_nil
    · exact sk_nil
    · cases h
  | .cons a b, S, nd, T, X, g, h => by
    simp only [chk] at h
    split at h
    · obtain ⟨h1, h2, h3⟩ := bt3 h
      have ha := sound a g h2
      have hb := sound b g h3
      exact fun r => sl_cons (ha.e r) (hb r) (starEach_cons h1)
    · rename_i kw kws
      obtain ⟨h1, h2⟩ := bt h
      have ha := sound a g h1
      have hb := sound b g h2
      cases kw
      exact sk_cons (ha.e false) hb
    · cases h
  | .star a b, S, nd, T, X, g, h => by
    simp only [chk] at h
    split at h
    · obtain ⟨h1, h2⟩ := bt h
      have ha := sound a g h1
      have hb := sound b g h2
      exact fun r => sl_star (ha.e true) (hb r)
    · cases h
  | .tup a, S, nd, T, X, g, h => by
    simp only [chk] at h
    split at h
    · rename_i e
      have ha := sound a g h
      exact ofX e (SE.plain (fun r => snd_tup (ha false)) rfl (nf rfl))
    · cases h
  | .lst a, S, nd, T, X, g, h => by
    simp only [chk] at h
    split at h
    · rename_i xs pos e
      have ha := sound a g h
      have hf := snd_lst (pos := pos) (ha false)
      exact ofX e (SE.plain (fun r => hf.e) rfl fun _ => hf.only)
    · cases h
  | .idx a b, S, nd, T, X, g, h => by
    simp only [chk] at h
    split at h
    · rename_i e
      obtain ⟨h1, h2, h3⟩ := bt3 h
      exact ofX e (sd_idx (sound a g h2) (sound b g h3) h1)
    · cases h
  | .slc a lo hi, S, nd, T, X, g, h => by
    simp only [chk] at h
    split at h
    · rename_i x l hh p2 pos e
      obtain ⟨h1, h2, h3⟩ := bt3 h
      have ha := sound a g h1
      refine ofX e (SE.plain (fun r => snd_slc (ha.e true) ?_ ?_) rfl (nf rfl))
      · cases l with
        | none => exact h2
        | some y =>
          obtain ⟨h4, h5⟩ := bt h2
          have hl := sound lo g h5
          exact ⟨not_t h4, hl.e true⟩
      · cases hh with
        | none => exact h3
        | some y =>
          obtain ⟨h4, h5⟩ := bt h3
          have hl := sound hi g h5
          exact ⟨not_t h4, hl.e true⟩
    · cases h
  | .rev a, S, nd, T, X, g, h => by
    simp only [chk] at h
    split at h
    · rename_i e
      obtain ⟨h1, h2⟩ := bt h
      rw [of_decide_eq_true h1] at e
      exact ofX e (sd_rev (sound a g h2))
    · cases h
  | .call f a, S, nd, T, X, g, h => by
    simp only [chk] at h
    split at h
    · rename_i x p xs pos e
      obtain ⟨h1, h2, h3⟩ := bt3 h
      obtain ⟨h3, h4, h5⟩ := bt3 h3
      obtain ⟨hcal, h1⟩ := bt h1
      have ha := sound a g h5
      cases hF : C.τ.fns[f]? with
      | none => rw [fnB, hF] at h1; cases h1
      | some F =>
        rw [fnB, hF] at h1
        exact ofX e (sd_call g hcal hF (of_decide_eq_true h1) h2 (not_t h3) h4 (ha false) fun e2 => by subst e2; exact chk_nil_of h5)
    · cases h
  | .callk f m k perm a b, S, nd, T, X, g, h => by
    simp only [chk] at h
    split at h
    · rename_i x p xs ks pos e
      obtain ⟨h1, h2, h3⟩ := bt3 h
      obtain ⟨h3, h4, h5⟩ := bt3 h3
      obtain ⟨h5, h67, h8⟩ := bt3 h5
      obtain ⟨h6, h7⟩ := bt h67
      obtain ⟨hcal, h1⟩ := bt h1
      have ha := sound a g h5
      have hb := sound b g h6
      cases hF : C.τ.fns[f]? with
      | none => rw [fnB, hF] at h1; cases h1
      | some F =>
        rw [fnB, hF] at h1
        cases hk : kwNames ks with
        | none => rw [hk] at h7; cases h7
        | some l =>
          rw [hk] at h7
          obtain ⟨h9, h10⟩ := bt h7
          exact ofX e (sd_callk g hcal hF (of_decide_eq_true h1) h2 (not_t h3) h4 (ha false) hb hk (of_decide_eq_true h9) (of_decide_eq_true h10) (of_decide_eq_true h8) fun e2 => by subst e2; exact chk_nil_of h5)
    · cases h
  | .blt b a, S, nd, T, X, g, h => by
    simp only [chk] at h
    split at h
    · rename_i x p y ys pos e
      obtain ⟨h1, h2, h3⟩ := bt3 h
      obtain ⟨hcal, h1⟩ := bt h1
      obtain ⟨h4, h5⟩ := g.isB h1
      subst h4
      have ha := sound a g h3
      exact ofX e (sd_blt g hcal h5 h2 ha)
    · cases h
  | .isi t a, S, nd, T, X, g, h => by
    simp only [chk] at h
    split at h
    · rename_i e
      obtain ⟨h1, h2, h3⟩ := bt3 h
      obtain ⟨h3, h4⟩ := bt h3
      obtain ⟨h5, h6⟩ := g.isB h1
      obtain ⟨h7, h8⟩ := g.isB h2
      subst h5 h7
      have ha := sound a g h4
      exact ofX e (SE.plain (fun r => snd_isi h6 (g.mg (by decide +kernel)) h8 (g.mg (by cases t <;> decide +kernel)) (ha.e true) h3) rfl (nf rfl))
    · cases h
  | .repEq gg a b, S, nd, T, X, g, h => by
    simp only [chk] at h
    split at h
    · rename_i e
      obtain ⟨h1, h2, h3⟩ := bt3 h
      obtain ⟨h3, h4, h5⟩ := bt3 h3
      obtain ⟨h5, h6, h7⟩ := bt3 h5
      obtain ⟨e1, h8⟩ := g.isB h2
      obtain ⟨e2, h9⟩ := g.isB h3
      subst e1 e2
      have ha := sound a g h6
      have hb := sound b g h7
      exact ofX e (SE.cmp (sc_repEq (of_decide_eq_true h1) g.roomH g.gua h8 (g.mg (by decide +kernel)) boot_repr' (ha.e true) (hb.e true) h4 h5) (fun r => rfl) (mark_of rfl) rfl)
    · cases h
  | .lc own gg it c elt, S, nd, T, X, g, h => by
    simp only [chk] at h
    split at h
    · rename_i y tg iter ifs z scope pos e
      obtain ⟨h1, h2, h3⟩ := bt3 h
      obtain ⟨h3, h4, h5⟩ := bt3 h3
      obtain ⟨h5, h6, h7⟩ := bt3 h5
      obtain ⟨hcal, h1⟩ := bt h1
      rw [of_decide_eq_true h1] at e
      have hi := sound it g h3
      have hown : (own.map fun i => (((C.N[i]?).getD "", i) : Str × Nat)).map (·.2) = own := by
        rw [List.map_map]
        exact List.map_id _
      have hf : SndF X T (.ListComp y [⟨tg, iter, ifs, 0⟩] scope pos) (ev (Γof C n) false (.lc own gg it c elt)) := by
        obtain ⟨h8, h9⟩ := bt h7
        have ht : ∀ (s : Shared) (H : Hp) (cc : Addr) (cl : List (Str × Addr)) (fp : List Addr), PTs (X.blk s H scope (compEnvC scope cl cc X.env) fp) ifs (tT T (ev (Γof C n) true c)) := fun s H cc cl fp => by
          split at h8
          · rw [yes_of h8]; exact pts_yes
          · have hc := sound c (g.blk s H scope cl cc fp) h8
            exact pts_one hc.t.pt
          · cases h8
        have he : ∀ (s : Shared) (H : Hp) (cc : Addr) (cl : List (Str × Addr)) (fp : List Addr), SndE (X.blk s H scope (compEnvC scope cl cc X.env) fp) T false y (ev (Γof C n) false elt) := fun s H cc cl fp => by
          have he := sound elt (g.blk s H scope cl cc fp) h9
          exact he.e false
        have := snd_lc (pos := pos) (T := T) (g := gg) (g.calm hcal) g.nd (hi true) (by rw [g.hN, g.sc]; exact blkOk_by h4) (fun s H cc cl fp => chkG_ok (g.blk s H scope cl cc fp) gg tg h5)
          ht he (folded_of h2 _) (by rw [hown]; exact h6)
        rw [hown] at this
        exact this
      exact ofX e (SE.plain (fun r => hf.e) rfl fun _ => hf.only)
    · cases h
  | .lc2 own own2 gg it gg2 it2 elt, S, nd, T, X, g, h => by
    simp only [chk] at h
    split at h
    · rename_i y tg iter z tg1 iter1 z1 scope pos e
      obtain ⟨a1, a2, h⟩ := bt3 h
      obtain ⟨a3, a4, h⟩ := bt3 h
      obtain ⟨a5, a6, h⟩ := bt3 h
      obtain ⟨a7, a8, h⟩ := bt3 h
      obtain ⟨a9, a10, h⟩ := bt3 h
      obtain ⟨a11, a12, a13⟩ := bt3 h
      obtain ⟨hcal, a1⟩ := bt a1
      rw [of_decide_eq_true a1, of_decide_eq_true a2] at e
      have hi := sound it g a5
      have hown : (own.map fun i => (((C.N[i]?).getD "", i) : Str × Nat)).map (·.2) = own := by
        rw [List.map_map]
        exact List.map_id _
      have hf : SndF X T (.ListComp y [⟨tg, iter, [], 0⟩, ⟨tg1, iter1, [], 0⟩] scope pos) (ev (Γof C n) false (.lc2 own own2 gg it gg2 it2 elt)) := by
        have hi1 : ∀ (s : Shared) (H : Hp) (cc : Addr) (cl : List (Str × Addr)) (fp : List Addr), SndI (X.blk s H scope (compEnvC scope cl cc X.env) fp) T false tg1 iter1 (ev (Γof C n) false it2) := fun s H cc cl fp => by
          have q := sound it2 (g.blk s H scope cl cc fp) a12
          exact q false
        have he : ∀ (s : Shared) (H : Hp) (cc : Addr) (cl : List (Str × Addr)) (fp : List Addr), SndE (X.blk s H scope (compEnvC scope cl cc X.env) fp) T false y (ev (Γof C n) false elt) := fun s H cc cl fp => by
          have he := sound elt (g.blk s H scope cl cc fp) a13
          exact he.e false
        exact snd_lc2 (pos := pos) (T := T) (g := gg) (g2 := gg2) (g.calm hcal) g.nd (hi true) (by rw [g.hN, g.sc]; exact blkOk_by a6) hown (fun i hi => of_decide_eq_true (List.all_eq_true.mp a11 i hi)) (fun s H cc cl fp => chkG_ok (g.blk s H scope cl cc fp) gg tg a7)
          hi1 (fun s H cc cl fp => chkG_ok (g.blk s H scope cl cc fp) gg2 tg1 a9) he (folded_of a3 _) (fun env => folded_of a4 env) a8 a10
      exact ofX e (SE.plain (fun r => hf.e) rfl fun _ => hf.only)
    · cases h
  | .rng1 a, S, nd, T, X, g, h => by
    simp only [chk] at h
    split at h
    · obtain ⟨h1, h2, h3⟩ := bt3 h
      obtain ⟨h4, h5⟩ := g.isB h1
      subst h4
      have ha := sound a g h3
      exact fun r => si_rng1 h5 (g.mg (by decide +kernel)) (ha.e true) (by rw [starEach_cons h2]; rfl)
    · cases h
  | .rng2 a b, S, nd, T, X, g, h => by
    simp only [chk] at h
    split at h
    · obtain ⟨h1, h2, h3⟩ := bt3 h
      obtain ⟨h3, h6, h7⟩ := bt3 h3
      obtain ⟨h4, h5⟩ := g.isB h1
      subst h4
      have ha := sound a g h6
      have hb := sound b g h7
      exact fun r => si_rng2 h5 (g.mg (by decide +kernel)) (ha.e true) (hb.e true) (by rw [starEach_cons h2, starEach_cons h3]; rfl) (by rw [starEach_cons h3]; rfl)
    · cases h
  | .rng3 a b c, S, nd, T, X, g, h => by
    simp only [chk] at h
    split at h
    · obtain ⟨h1, h2, h3⟩ := bt3 h
      obtain ⟨h3, h6, h7⟩ := bt3 h3
      obtain ⟨h7, h8, h9⟩ := bt3 h7
      obtain ⟨h4, h5⟩ := g.isB h1
      subst h4
      have ha := sound a g h7
      have hb := sound b g h8
      have hc := sound c g h9
      exact fun r => si_rng3 h5 (g.mg (by decide +kernel)) (ha.e true) (hb.e true) (hc.e true) (starEach_cons h2) (starEach_cons h3) (by rw [starEach_cons h6]; rfl)
    · cases h
  | .enum a, S, nd, T, X, g, h => by
    simp only [chk] at h
    split at h
    · obtain ⟨h1, h2, h3⟩ := bt3 h
      obtain ⟨h4, h5⟩ := g.isB h1
      subst h4
      have ha := sound a g h3
      exact fun r => si_enum h5 (g.mg (by decide +kernel)) (ha.e r) (by rw [starEach_cons h2]; rfl)
    · cases h
  | .zip a b, S, nd, T, X, g, h => by
    simp only [chk] at h
    split at h
    · obtain ⟨h1, h2, h4⟩ := bt3 h
      obtain ⟨h3, h5⟩ := bt h4
      obtain ⟨h6, h7⟩ := g.isB h1
      subst h6
      obtain ⟨h8, h9⟩ := bt h5
      have ha := sound a g h8
      have hb := sound b g h9
      exact fun r => si_zip h7 (g.mg (by decide +kernel)) (ha.e r) (hb.e r) (by rw [starEach_cons h2]) (by rw [starEach_cons h3]; rfl)
    · cases h
  | .din gg k i, S, nd, T, X, g, h => by
    simp only [chk] at h
    split at h
    · rename_i e
      obtain ⟨h1, h2, h3⟩ := bt3 h
      rw [of_decide_eq_true h1] at e
      obtain ⟨l1, l2, l3, l4⟩ := g.nm h2
      have hk := sound k g h3
      exact ofX e (SE.cmp (sc_din g.u1 l1 l2 l3 l4 (hk.e true)) (fun r => rfl) (mark_of rfl) rfl)
    · cases h
  | .dget i k, S, nd, T, X, g, h => by
    simp only [chk] at h
    split at h
    · rename_i e
      obtain ⟨h1, h2, h3⟩ := bt3 h
      obtain ⟨l1, l2, l3, l4⟩ := g.nm h1
      have hk := sound k g h3
      exact ofX e (SE.plain (fun r => snd_dget g.u1 l1 l2 l3 l4 (hk.e true) h2) rfl (nf rfl))
    · cases h
  | .dgetd i k z, S, nd, T, X, g, h => by
    simp only [chk] at h
    split at h
    · rename_i e
      obtain ⟨h1, h2, h3⟩ := bt3 h
      obtain ⟨h3, h4, h5⟩ := bt3 h3
      obtain ⟨h5, h6, h7⟩ := bt3 h5
      rw [of_decide_eq_true h1] at e
      obtain ⟨l1, l2, l3, l4⟩ := g.nm h2
      have hk := sound k g h6
      have hz := sound z g h7
      exact ofX e (SE.plain (fun r => snd_dgetd g.u1 l1 l2 l3 l4 (hk.e true) (hz.e false) h4 h5 h3) rfl (nf rfl))
    · cases h
  | .dlen i, S, nd, T, X, g, h => by
    simp only [chk] at h
    split at h
    · rename_i e
      obtain ⟨h1, h2⟩ := bt h
      obtain ⟨h3, h4⟩ := g.isB h1
      subst h3
      obtain ⟨l1, l2, l3, l4⟩ := g.nm h2
      exact ofX e (SE.plain (fun r => snd_dlen h4 (g.mg (by decide +kernel)) l1 l2 l3 l4) rfl (nf rfl))
    · cases h
  | .dsort i, S, nd, T, X, g, h => by
    simp only [chk] at h
    split at h
    · rename_i e
      obtain ⟨h1, h2⟩ := bt h
      obtain ⟨hcal, h1⟩ := bt h1
      obtain ⟨h3, h4⟩ := g.isB h1
      subst h3
      obtain ⟨l1, l2, l3, l4⟩ := g.nm h2
      exact ofX e (SE.plain (fun r => (snd_dsort (g.rm hcal) h4 (g.mg (by decide +kernel)) l1 l2 l3 l4).e) rfl fun _ => (snd_dsort (g.rm hcal) h4 (g.mg (by decide +kernel)) l1 l2 l3 l4).only)
    · cases h
  | .drw fr ft a, S, nd, T, X, g, h => by
    simp only [chk] at h
    split at h
    · rename_i x2 p2 x p y ys pos pos2 e
      obtain ⟨h1, h2, w1⟩ := bt3 h
      obtain ⟨q3, q4, w2⟩ := bt3 w1
      obtain ⟨q5, q6, w3⟩ := bt3 w2
      obtain ⟨q7, q8, q9⟩ := bt3 w3
      obtain ⟨hcal, h1⟩ := bt h1
      have ha := sound a g q9
      cases hF : C.τ.fns[fr]? with
      | none => rw [fnB, hF] at h1; cases h1
      | some F =>
        rw [fnB, hF] at h1
        cases hL : C.τ.fns[ft]? with
        | none => rw [fnB, hL] at h2; cases h2
        | some F2 =>
          rw [fnB, hL] at h2
          cases of_decide_eq_true h1
          cases of_decide_eq_true h2
          obtain ⟨a1, d1, k1, k2, k3, k4, _⟩ := g.fns fr F hF
          obtain ⟨a2, d2, m1, m2, m3, m4⟩ := g.news ft F2 hL (of_decide_eq_true q3)
          exact ofX e (SE.plain (fun r => snd_drw g.tb m1 k1 (g.rm hcal) g.gua (g.gl q4) m2 m3 m4 (g.gl q5) k2 k3 k4 (ha false) q8 (not_t q6) (not_t q7)) rfl (nf rfl))
    · cases h
  | .row i ix, S, nd, T, X, g, h => by
    simp only [chk] at h
    split at h
    · rename_i e
      obtain ⟨h1, h2, h3⟩ := bt3 h
      obtain ⟨l1, l2, l3, l4⟩ := g.nm h1
      have hi := sound ix g h3
      exact ofX e (SE.plain (fun r => snd_row l1 l2 l3 l4 (hi.e true) h2) rfl (nf rfl))
    · cases h
  | .rows i, S, nd, T, X, g, h => by
    simp only [chk] at h
    split at h
    · rename_i e
      obtain ⟨h1, h2⟩ := bt h
      obtain ⟨h3, h4⟩ := g.isB h1
      subst h3
      obtain ⟨l1, l2, l3, l4⟩ := g.nm h2
      exact ofX e (SE.plain (fun r => snd_rows h4 (g.mg (by decide +kernel)) l1 l2 l3 l4) rfl (nf rfl))
    · cases h
  | .lrng a b, S, nd, T, X, g, h => by
    simp only [chk] at h
    split at h
    · rename_i e
      obtain ⟨h1, h2, h3⟩ := bt3 h
      obtain ⟨h4, h5, h6⟩ := bt3 h3
      obtain ⟨h7, h8⟩ := bt h6
      obtain ⟨hcal, h1⟩ := bt h1
      obtain ⟨q1, q2⟩ := g.isB h1
      obtain ⟨q3, q4⟩ := g.isB h2
      subst q1 q3
      have ha := sound a g h7
      have hb := sound b g h8
      have hf (p1 p2 p3 pos : Pos) := snd_lrng (T := T) (p1 := p1) (p2 := p2) (p3 := p3) (pos := pos) (g.calm hcal) q2 (g.mg (by decide +kernel)) q4 (g.mg (by decide +kernel)) (ha.e true) (hb.e true) h4 h5
      exact ofX e (SE.plain (fun r => (hf _ _ _ _).e) rfl fun _ => (hf _ _ _ _).only)
    · cases h
  | .mkx x k par fld kw a, S, nd, T, X, g, h => by
    simp only [chk] at h
    split at h
    · rename_i e
      obtain ⟨_, h2, h3⟩ := bt3 h
      obtain ⟨h4, h5, h6⟩ := bt3 h3
      obtain ⟨h8, h9⟩ := bt h6
      have h9 := bt h9
      cases of_decide_eq_true h2
      obtain ⟨hm, hs, fI, B, newId, i, bmB, fd, F⟩ := g.xc.mks _ _ _ _ (of_decide_eq_true h8)
      have ha := sound a g h9.2
      exact ofX e (SE.plain (fun r => snd_mkx F hs (room1 g.roomH) (g.gl h4) hm (ha.e false) h9.1 (not_t h5)) rfl (nf rfl))
    · rename_i e
      obtain ⟨_, h2, h3⟩ := bt3 h
      obtain ⟨h4, h5, h6⟩ := bt3 h3
      obtain ⟨h7, h8, h9⟩ := bt3 h6
      cases of_decide_eq_true h2
      cases of_decide_eq_true h4
      obtain ⟨hm, hs, fI, B, newId, i, bmB, fd, F⟩ := g.xc.mks _ _ _ _ (of_decide_eq_true h8)
      have ha := sound a g h9
      exact ofX e (SE.plain (fun r => snd_mkk F hs (room1 g.roomH) (g.gl h5) hm (ha.e false) (not_t h7)) rfl (nf rfl))
    · cases h
  | .mk0 x k, S, nd, T, X, g, h => by
    simp only [chk] at h
    split at h
    · rename_i e
      obtain ⟨h2, h3, h4⟩ := bt3 h
      obtain ⟨h5, h6⟩ := bt h4
      cases of_decide_eq_true h2
      obtain ⟨hm, B, newId, i, bmB, F⟩ := g.xc.mk0s _ _ (of_decide_eq_true h6)
      exact ofX e (SE.plain (fun r => snd_mk0 F (g.gl h3) hm (not_t h5)) rfl (nf rfl))
    · cases h
  | .isx x yes no a, S, nd, T, X, g, h => by
    simp only [chk] at h
    split at h
    · rename_i e
      obtain ⟨h1, h2, h3⟩ := bt3 h
      obtain ⟨h4, h5, h6⟩ := bt3 h3
      obtain ⟨h7, h8, h9⟩ := bt3 h6
      obtain ⟨q1, q2⟩ := g.isB h1
      subst q1
      cases of_decide_eq_true h2
      obtain ⟨cv, hcv, hy, hn⟩ := g.xc.isxs _ _ _ (of_decide_eq_true h7)
      have ha := sound a g h9
      refine ofX e (SE.plain (fun r => snd_isx q2 (g.mg (by decide +kernel)) ?_ hy hn (ha.e true) h8) rfl (nf rfl))
      rcases hcv with ⟨k, rfl, hm⟩ | ⟨t, rfl, hm, hb, hne⟩
      · exact ⟨.ref k, fun u r => r, pe_glob (g.gl h4) hm rfl (not_t h5)⟩
      · exact ⟨.ty t, fun u r => r, pe_bltn (g.gl h4) hm hb rfl hne (not_t h5)⟩
    · cases h
  | .xat f cs a, S, nd, T, X, g, h => by
    simp only [chk] at h
    split at h
    · rename_i e
      obtain ⟨h1, h2, h3⟩ := bt3 h
      obtain ⟨h4, h5⟩ := bt h3
      cases of_decide_eq_true h1
      have ha := sound a g h5
      exact ofX e (SE.plain (fun r => snd_xat (g.xc.xats _ _ (of_decide_eq_true h2)) (ha.e true) (base_of h4)) rfl (nf rfl))
    · cases h
  | .tix i j, S, nd, T, X, g, h => by
    simp only [chk] at h
    split at h
    · rename_i e
      obtain ⟨h1, h2⟩ := bt h
      rw [of_decide_eq_true h1] at e
      obtain ⟨l1, l2, l3, l4⟩ := g.nm h2
      exact ofX e (SE.plain (fun r => snd_tix l1 l2 l3 l4) rfl (nf rfl))
    · cases h
  | .repr a, S, nd, T, X, g, h => by
    simp only [chk] at h
    split at h
    · rename_i e
      obtain ⟨h1, h2, h3⟩ := bt3 h
      obtain ⟨e1, h4⟩ := g.isB h1
      subst e1
      have ha := sound a g h3
      exact ofX e (SE.plain (fun r => snd_reprX g.roomH g.gua h4 (g.mg (by decide +kernel)) boot_repr' (ha.e true) h2) rfl (nf rfl))
    · cases h
  | .lidx a b, S, nd, T, X, g, h => by
    simp only [chk] at h
    split at h
    · rename_i e
      obtain ⟨h1, h2, h3⟩ := bt3 h
      obtain ⟨h4, h5, h6⟩ := bt3 h3
      rw [of_decide_eq_true h1] at e
      have ha := sound a g h5
      have hb := sound b g h6
      exact ofX e (SE.plain (fun r => snd_lidx g.u65 (ha.e true) (hb.e true) h2 h4) rfl (nf rfl))
    · cases h
  | .lcnt a b, S, nd, T, X, g, h => by
    simp only [chk] at h
    split at h
    · rename_i e
      obtain ⟨h1, h2, h3⟩ := bt3 h
      obtain ⟨h4, h5, h6⟩ := bt3 h3
      rw [of_decide_eq_true h1] at e
      have ha := sound a g h5
      have hb := sound b g h6
      exact ofX e (SE.plain (fun r => snd_lcnt g.u65 (ha.e true) (hb.e true) h2 h4) rfl (nf rfl))
    · cases h
  | .fld .., S, nd, T, X, g, h => by simp only [chk] at h; cases h
  | .prp .., S, nd, T, X, g, h => by simp only [chk] at h; cases h
  | .meth .., S, nd, T, X, g, h => by simp only [chk] at h; cases h
  | .stat .., S, nd, T, X, g, h => by simp only [chk] at h; cases h
  | .new .., S, nd, T, X, g, h => by simp only [chk] at h; cases h
  | .oeq .., S, nd, T, X, g, h => by simp only [chk] at h; cases h
  | .isc .., S, nd, T, X, g, h => by simp only [chk] at h; cases h
  | .xpure .., S, nd, T, X, g, h => by simp only [chk] at h; cases h
  | .xcall .., S, nd, T, X, g, h => by simp only [chk] at h; cases h
  | .xcallk .., S, nd, T, X, g, h => by simp only [chk] at h; cases h
  | .xact .., S, nd, T, X, g, h => by simp only [chk] at h; cases h
  | .xnew .., S, nd, T, X, g, h => by simp only [chk] at h; cases h
  | .xmeth .., S, nd, T, X, g, h => by simp only [chk] at h; cases h
  | .lam gi dfl (.xcall f a), S, nd, T, X, g, h => by
    obtain ⟨y, p, prm, body, sc, lp, pos, e, hl, hx⟩ := chk_lam (e := .xcall f a) h
    refine ofX e (sd_lam g hl (fun T' X' W g' tk => ?_))
    simp only [chkX] at hx
    split at hx
    · obtain ⟨h1, h2, h3⟩ := bt3 hx
      obtain ⟨h4, h5, h6⟩ := bt3 h3
      obtain ⟨h7, h8⟩ := bt h1
      have ha := sound a g' h6
      obtain ⟨F, hF, hn⟩ := fnB_ok h8
      exact sd_xcall g' tk (lamB_cm hl) (of_decide_eq_true h7) hF hn h2 (not_t h4) h5 (ha false) fun e2 => by subst e2; exact chk_nil_of h6
    · cases hx
  | .lam gi dfl (.xcallk f m k perm a b), S, nd, T, X, g, h => by
    obtain ⟨y, p, prm, body, sc, lp, pos, e, hl, hx⟩ := chk_lam (e := .xcallk f m k perm a b) h
    refine ofX e (sd_lam g hl (fun T' X' W g' tk => ?_))
    simp only [chkX] at hx
    split at hx
    · obtain ⟨h1, h2, h3⟩ := bt3 hx
      obtain ⟨h3, h4, h5⟩ := bt3 h3
      obtain ⟨h5, h67, h8⟩ := bt3 h5
      obtain ⟨h6, h7⟩ := bt h67
      obtain ⟨hm, h1⟩ := bt h1
      have ha := sound a g' h5
      have hb := sound b g' h6
      obtain ⟨F, hF, hn⟩ := fnB_ok h1
      split at h7
      · rename_i l hk
        obtain ⟨h9, h10⟩ := bt h7
        exact sd_xcallk g' tk (lamB_cm hl) (of_decide_eq_true hm) hF hn h2 (not_t h3) h4 (ha false) hb hk (of_decide_eq_true h9) (of_decide_eq_true h10) (of_decide_eq_true h8) fun e2 => by subst e2; exact chk_nil_of h5
      · cases h7
    · cases hx
  | .lam gi dfl (.xpure a), S, nd, T, X, g, h => by
    obtain ⟨y, p, prm, body, sc, lp, pos, e, hl, hx⟩ := chk_lam (e := .xpure a) h
    refine ofX e (sd_lam g hl (fun T' X' W g' tk => ?_))
    have ha := sound a g' (show chk C a (lamX sc) (.e body) = true from hx)
    exact snd_pure (ha.e false)
  | .lam gi dfl (.con ..), S, nd, T, X, g, h => (lam_no (by intro C S b; rfl) h).elim
  | .lam gi dfl (.glb ..), S, nd, T, X, g, h => (lam_no (by intro C S b; rfl) h).elim
  | .lam gi dfl (.var ..), S, nd, T, X, g, h => (lam_no (by intro C S b; rfl) h).elim
  | .lam gi dfl (.pk ..), S, nd, T, X, g, h => (lam_no (by intro C S b; rfl) h).elim
  | .lam gi dfl (.bin ..), S, nd, T, X, g, h => (lam_no (by intro C S b; rfl) h).elim
  | .lam gi dfl (.neg ..), S, nd, T, X, g, h => (lam_no (by intro C S b; rfl) h).elim
  | .lam gi dfl (.not ..), S, nd, T, X, g, h => (lam_no (by intro C S b; rfl) h).elim
  | .lam gi dfl (.and ..), S, nd, T, X, g, h => (lam_no (by intro C S b; rfl) h).elim
  | .lam gi dfl (.or ..), S, nd, T, X, g, h => (lam_no (by intro C S b; rfl) h).elim
  | .lam gi dfl (.cmp ..), S, nd, T, X, g, h => (lam_no (by intro C S b; rfl) h).elim
  | .lam gi dfl (.chain ..), S, nd, T, X, g, h => (lam_no (by intro C S b; rfl) h).elim
  | .lam gi dfl (.isn ..), S, nd, T, X, g, h => (lam_no (by intro C S b; rfl) h).elim
  | .lam gi dfl (.ist ..), S, nd, T, X, g, h => (lam_no (by intro C S b; rfl) h).elim
  | .lam gi dfl (.ite ..), S, nd, T, X, g, h => (lam_no (by intro C S b; rfl) h).elim
  | .lam gi dfl (.nil ..), S, nd, T, X, g, h => (lam_no (by intro C S b; rfl) h).elim
  | .lam gi dfl (.cons ..), S, nd, T, X, g, h => (lam_no (by intro C S b; rfl) h).elim
  | .lam gi dfl (.star ..), S, nd, T, X, g, h => (lam_no (by intro C S b; rfl) h).elim
  | .lam gi dfl (.tup ..), S, nd, T, X, g, h => (lam_no (by intro C S b; rfl) h).elim
  | .lam gi dfl (.lst ..), S, nd, T, X, g, h => (lam_no (by intro C S b; rfl) h).elim
  | .lam gi dfl (.idx ..), S, nd, T, X, g, h => (lam_no (by intro C S b; rfl) h).elim
  | .lam gi dfl (.slc ..), S, nd, T, X, g, h => (lam_no (by intro C S b; rfl) h).elim
  | .lam gi dfl (.rev ..), S, nd, T, X, g, h => (lam_no (by intro C S b; rfl) h).elim
  | .lam gi dfl (.call ..), S, nd, T, X, g, h => (lam_no (by intro C S b; rfl) h).elim
  | .lam gi dfl (.callk ..), S, nd, T, X, g, h => (lam_no (by intro C S b; rfl) h).elim
  | .lam gi dfl (.blt ..), S, nd, T, X, g, h => (lam_no (by intro C S b; rfl) h).elim
  | .lam gi dfl (.isi ..), S, nd, T, X, g, h => (lam_no (by intro C S b; rfl) h).elim
  | .lam gi dfl (.repEq ..), S, nd, T, X, g, h => (lam_no (by intro C S b; rfl) h).elim
  | .lam gi dfl (.lc ..), S, nd, T, X, g, h => (lam_no (by intro C S b; rfl) h).elim
  | .lam gi dfl (.lc2 ..), S, nd, T, X, g, h => (lam_no (by intro C S b; rfl) h).elim
  | .lam gi dfl (.rng1 ..), S, nd, T, X, g, h => (lam_no (by intro C S b; rfl) h).elim
  | .lam gi dfl (.rng2 ..), S, nd, T, X, g, h => (lam_no (by intro C S b; rfl) h).elim
  | .lam gi dfl (.rng3 ..), S, nd, T, X, g, h => (lam_no (by intro C S b; rfl) h).elim
  | .lam gi dfl (.enum ..), S, nd, T, X, g, h => (lam_no (by intro C S b; rfl) h).elim
  | .lam gi dfl (.zip ..), S, nd, T, X, g, h => (lam_no (by intro C S b; rfl) h).elim
  | .lam gi dfl (.din ..), S, nd, T, X, g, h => (lam_no (by intro C S b; rfl) h).elim
  | .lam gi dfl (.dget ..), S, nd, T, X, g, h => (lam_no (by intro C S b; rfl) h).elim
  | .lam gi dfl (.dgetd ..), S, nd, T, X, g, h => (lam_no (by intro C S b; rfl) h).elim
  | .lam gi dfl (.dlen ..), S, nd, T, X, g, h => (lam_no (by intro C S b; rfl) h).elim
  | .lam gi dfl (.dsort ..), S, nd, T, X, g, h => (lam_no (by intro C S b; rfl) h).elim
  | .lam gi dfl (.tix ..), S, nd, T, X, g, h => (lam_no (by intro C S b; rfl) h).elim
  | .lam gi dfl (.drw ..), S, nd, T, X, g, h => (lam_no (by intro C S b; rfl) h).elim
  | .lam gi dfl (.row ..), S, nd, T, X, g, h => (lam_no (by intro C S b; rfl) h).elim
  | .lam gi dfl (.rows ..), S, nd, T, X, g, h => (lam_no (by intro C S b; rfl) h).elim
  | .lam gi dfl (.lrng ..), S, nd, T, X, g, h => (lam_no (by intro C S b; rfl) h).elim
  | .lam gi dfl (.mkx ..), S, nd, T, X, g, h => (lam_no (by intro C S b; rfl) h).elim
  | .lam gi dfl (.mk0 ..), S, nd, T, X, g, h => (lam_no (by intro C S b; rfl) h).elim
  | .lam gi dfl (.isx ..), S, nd, T, X, g, h => (lam_no (by intro C S b; rfl) h).elim
  | .lam gi dfl (.xat ..), S, nd, T, X, g, h => (lam_no (by intro C S b; rfl) h).elim
  | .lam gi dfl (.repr ..), S, nd, T, X, g, h => (lam_no (by intro C S b; rfl) h).elim
  | .lam gi dfl (.lidx ..), S, nd, T, X, g, h => (lam_no (by intro C S b; rfl) h).elim
  | .lam gi dfl (.lcnt ..), S, nd, T, X, g, h => (lam_no (by intro C S b; rfl) h).elim
  | .lam gi dfl (.fld ..), S, nd, T, X, g, h => (lam_no (by intro C S b; rfl) h).elim
  | .lam gi dfl (.prp ..), S, nd, T, X, g, h => (lam_no (by intro C S b; rfl) h).elim
  | .lam gi dfl (.meth ..), S, nd, T, X, g, h => (lam_no (by intro C S b; rfl) h).elim
  | .lam gi dfl (.stat ..), S, nd, T, X, g, h => (lam_no (by intro C S b; rfl) h).elim
  | .lam gi dfl (.new ..), S, nd, T, X, g, h => (lam_no (by intro C S b; rfl) h).elim
  | .lam gi dfl (.oeq ..), S, nd, T, X, g, h => (lam_no (by intro C S b; rfl) h).elim
  | .lam gi dfl (.isc ..), S, nd, T, X, g, h => (lam_no (by intro C S b; rfl) h).elim
  | .lam gi dfl (.xact ..), S, nd, T, X, g, h => by
    simp only [chk] at h
    split at h
    · cases (bt (bt h).2).2
    · cases h
  | .lam gi dfl (.xnew ..), S, nd, T, X, g, h => (lam_no (by intro C S b; rfl) h).elim
  | .lam gi dfl (.xmeth ..), S, nd, T, X, g, h => (lam_no (by intro C S b; rfl) h).elim
  | .lam gi dfl (.lam ..), S, nd, T, X, g, h => (lam_no (by intro C S b; rfl) h).elim
end
end Ev

set_option Elab.async false
set_option linter.all false
set_option autoImplicit false
set_option maxRecDepth 100000
set_option maxHeartbeats 8000000
namespace Ev
open PySem L2

/-! ### statements -/
def EndR (fr : Bool) (T : Ap) (G0 H0 : Hp) (Q : VK) (d : D) : Prop := match fr with
  | false => ∀ v G' H', Stp T G0 H0 G' H' → Is T G' v d → Q v H'
  | true => ∃ xs, d = .list xs ∧ PostF T G0 H0 Q (.list xs)
def EndOf (Z : WX) (fr : Bool) (T : Ap) (G0 H0 G : Hp) (D : Ends) : Fl → Prop
  | .xc d ρ' => ∀ σ' G' H' cls dx, Rep T G0 H0 ρ' σ' G' H' → Sub G G' → IsX T G' cls dx d → Z cls dx σ' H'
  | .nx ρ' => ∀ σ' G' H', Rep T G0 H0 ρ' σ' G' H' → Sub G G' → D.nx σ' H'
  | .bk ρ' => ∀ σ' G' H', Rep T G0 H0 ρ' σ' G' H' → Sub G G' → D.bk σ' H'
  | .ct ρ' => ∀ σ' G' H', Rep T G0 H0 ρ' σ' G' H' → Sub G G' → D.ct σ' H'
  | .rt d => EndR fr T G0 H0 D.rt d
theorem EndOf.up {Z : WX} {fr : Bool} {T : Ap} {G0 H0 G G1 : Hp} {D : Ends} (s : Sub G G1) : ∀ {f : Fl}, EndOf Z fr T G0 H0 G D f → EndOf Z fr T G0 H0 G1 D f
  | .xc _ _, h => fun σ' G' H' cls dx R q i => h σ' G' H' cls dx R (s.trans q) i
  | .nx _, h => fun σ' G' H' R q => h σ' G' H' R (s.trans q)
  | .bk _, h => fun σ' G' H' R q => h σ' G' H' R (s.trans q)
  | .ct _, h => fun σ' G' H' R q => h σ' G' H' R (s.trans q)
  | .rt _, h => h
def SndS (X : Cx) (T : Ap) (Z : WX) (fr : Bool) (st : Stmt) (f : Ro → Out Fl) : Prop :=
  ∃ t : TS, PS X st t ∧ ∀ (G0 H0 : Hp) (ρ : Ro) (σ : Sg) (G H : Hp) (D : Ends), Rep T G0 H0 ρ σ G H → (f ρ).All (EndOf Z fr T G0 H0 G D) → t D σ H
def SndSs (X : Cx) (T : Ap) (Z : WX) (fr : Bool) (sts : List Stmt) (f : Ro → Out Fl) : Prop :=
  ∃ t : TS, PSs X sts t ∧ ∀ (G0 H0 : Hp) (ρ : Ro) (σ : Sg) (G H : Hp) (D : Ends), Rep T G0 H0 ρ σ G H → (f ρ).All (EndOf Z fr T G0 H0 G D) → t D σ H
section
variable {X : Cx} {T : Ap} {Z : WX} {fr : Bool} {st : Stmt} {sts : List Stmt} {pos : Pos}
theorem ss_nil : SndSs X T Z fr [] (fun ρ => .ret (.nx ρ)) := ⟨_, pss_nil, fun G0 H0 ρ σ G H D R h => h σ G H R (.refl G)⟩
theorem ss_cons {f g : Ro → Out Fl} (h1 : SndS X T Z fr st f) (h2 : SndSs X T Z fr sts g) : SndSs X T Z fr (st :: sts) (fun ρ => (f ρ).bind fun
    | .nx ρ1 => g ρ1
    | fl => .ret fl) := by
  obtain ⟨t, p, q⟩ := h1
  obtain ⟨u, p2, q2⟩ := h2
  refine ⟨_, pss_cons p p2, fun G0 H0 ρ σ G H D R h => ?_⟩
  rw [Out.All_bind] at h
  refine q G0 H0 ρ σ G H _ R (h.mono fun fl hf => ?_)
  cases fl with
  | nx ρ1 => exact fun σ' G' H' R' s => q2 G0 H0 ρ1 σ' G' H' D R' (Out.All.mono (fun fl h => h.up s) hf)
  | bk ρ1 => exact hf
  | ct ρ1 => exact hf
  | rt d => exact hf
  | xc d ρ1 => exact hf
/-- a frozen list first -/
theorem ss_frz {i : Nat} {g : Ro → Out Fl} (h2 : SndSs X T Z fr sts g) : SndSs X T Z fr sts (fun ρ => ((ownOf ρ i).bind fun xs => .ret (Fl.nx (ρ.set i (some (.val (.list xs)))))).bind fun
    | .nx ρ1 => g ρ1
    | fl => .ret fl) := by
  obtain ⟨u, p2, q2⟩ := h2
  refine ⟨_, p2, fun G0 H0 ρ σ G H D R h => ?_⟩
  rw [Out.All_bind, Out.All_bind] at h
  unfold ownOf slot at h
  rw [Out.All_bind, Out.All_ofO] at h
  obtain ⟨s, e, h⟩ := h
  have e' : ρ[i]? = some (some s) := by
    cases q : ρ[i]? with
    | none => rw [q] at e; cases e
    | some o => rw [q] at e; simp at e; rw [e]
  cases s with
  | val d => exact h.elim
  | dic t kvs => exact h.elim
  | own2 xss => exact h.elim
  | act => exact h.elim
  | own xs =>
    obtain ⟨G', hs, R'⟩ := R.freeze e'
    exact q2 G0 H0 _ σ G' H D R' (Out.All.mono (fun fl h => h.up hs) h)
/-- slots forgotten first -/
theorem wipeR_same {ρ : Ro} {i : Nat} {s : Sl} : ∀ {vs : List Nat}, (wipeR ρ vs)[i]? = some (some s) → ρ[i]? = some (some s)
  | [], h => h
  | v :: vs, h => by
    unfold wipeR at h
    rw [List.getElem?_set] at h
    split at h
    · split at h <;> cases h
    · exact wipeR_same h
theorem ss_wip {vs : List Nat} {g : Ro → Out Fl} (h2 : SndSs X T Z fr sts g) : SndSs X T Z fr sts (fun ρ => (Out.ret (Fl.nx (wipeR ρ vs))).bind fun
    | .nx ρ1 => g ρ1
    | fl => .ret fl) := by
  obtain ⟨u, p2, q2⟩ := h2
  refine ⟨_, p2, fun G0 H0 ρ σ G H D R h => ?_⟩
  exact q2 G0 H0 _ σ G H D (R.forget (by rw [wipeR_len, R.len]) fun i s e => ⟨wipeR_same e, rfl⟩) h
theorem slot_get {ρ : Ro} {i : Nat} {α : Type} {k : Sl → Out α} {P : α → Prop} (h : ((slot ρ i).bind k).All P) : ∃ s, ρ[i]? = some (some s) ∧ (k s).All P := by
  unfold slot at h
  rw [Out.All_bind, Out.All_ofO] at h
  obtain ⟨s, e, h⟩ := h
  refine ⟨s, ?_, h⟩
  cases q : ρ[i]? with
  | none => rw [q] at e; cases e
  | some o => rw [q] at e; simp at e; rw [e]
theorem own_get {ρ : Ro} {i : Nat} {α : Type} {k : List D → Out α} {P : α → Prop} (h : ((ownOf ρ i).bind k).All P) : ∃ xs, ρ[i]? = some (some (.own xs)) ∧ (k xs).All P := by
  unfold ownOf at h
  rw [Out.bind_assoc] at h
  obtain ⟨s, e, h⟩ := slot_get h
  cases s with
  | val d => exact h.elim
  | dic t kvs => exact h.elim
  | own2 xss => exact h.elim
  | act => exact h.elim
  | own xs => exact ⟨xs, e, h⟩
/-- name = value: what is laid into the slot -/
def SetE (X : Cx) (T : Ap) (i : Nat) (st : Stmt) (f : Ro → Out D) : Prop :=
  ∃ te : TE, PS X st (tAsg te (gName i)) ∧ ∀ (G0 H0 : Hp) (ρ : Ro) (σ : Sg) (G H : Hp) (Q : VK), Rep T G0 H0 ρ σ G H → (f ρ).All (PostE false T G H Q) → te σ H Q
def SetF (X : Cx) (T : Ap) (i : Nat) (st : Stmt) (f : Ro → Out D) : Prop :=
  ∃ te : TE, PS X st (tAsg te (gName i)) ∧ ∀ (G0 H0 : Hp) (ρ : Ro) (σ : Sg) (G H : Hp) (Q : VK), Rep T G0 H0 ρ σ G H → (f ρ).All (PostF T G H Q) → te σ H Q
theorem SetF.e {i : Nat} {f : Ro → Out D} (h : SetF X T i st f) : SetE X T i st f := by
  obtain ⟨te, p, q⟩ := h
  exact ⟨te, p, fun G0 H0 ρ σ G H Q R h => q G0 H0 ρ σ G H Q R (h.mono fun d hd => hd.ofF R.sub R.tub)⟩
theorem ss_setE {i : Nat} {f : Ro → Out D} (h : SetE X T i st f) : SndS X T Z fr st (fun ρ => (f ρ).bind fun d => (Out.ofO (asgG (.nm i) d ρ)).bind fun ρ1 => .ret (.nx ρ1)) := by
  obtain ⟨te, p, q⟩ := h
  refine ⟨_, p, fun G0 H0 ρ σ G H D R h => ?_⟩
  rw [Out.All_bind] at h
  refine q G0 H0 ρ σ G H _ R (h.mono fun d hd v G1 H1 k iv => ?_)
  rw [Out.All_bind, Out.All_ofO] at hd
  obtain ⟨ρ2, e, hd⟩ := hd
  cases e
  exact hd _ G1 H1 ((R.step k).setVal iv.keep) k.gs
theorem fresh_not {G0 H0 G H G1 H1 : Hp} {ρ : Ro} {σ : Sg} {p : Addr} (R : Rep T G0 H0 ρ σ G H) (k : Stp T G H G1 H1) (hp : H p = none) (j : Nat) (sj : Sl) (vj : V) (e : ρ[j]? = some (some sj)) (es : σ[j]? = some (some vj)) : ¬ AtS H1 sj vj p := fun a2 => by
  obtain ⟨v, e1, e2⟩ := R.sl j sj e
  rw [es] at e1
  cases e1
  obtain ⟨_, _, _, o, q, _, _⟩ := e2.mine (a2.back e2 fun b hb => (stp_at e2 k b hb).2.2)
  rw [hp] at q; cases q
theorem fresh_slot {G0 H0 G H G1 H1 : Hp} {ρ : Ro} {σ : Sg} {p : Addr} {i : Nat} {s : Sl} (R : Rep T G0 H0 ρ σ G H) (k : Stp T G H G1 H1) (hp : H p = none) (hf : s.flat = true := by rfl) :
    H0 p = none ∧ T.tub ≠ some p ∧ ∀ (j : Nat) (sj : Sl) (vj : V) (b : Addr), ρ[j]? = some (some sj) → σ[j]? = some (some vj) → AtS H1 s (.ref p) b → AtS H1 sj vj b → j = i := by
  have hT : T.tub ≠ some p := R.tub.off hp
  refine ⟨?_, hT, fun j sj vj b e es a1 a2 => ?_⟩
  · exact R.st.back R.t0 hp
  · rw [a1.one hf] at a2
    exact absurd a2 (fresh_not R k hp j sj vj e es)
theorem ss_setF {i : Nat} {f : Ro → Out D} (h : SetF X T i st (onlyL f)) : SndS X T Z fr st (fun ρ => (f ρ).bind fun d => (asList d).bind fun xs => .ret (.nx (ρ.set i (some (.own xs))))) := by
  obtain ⟨te, p, q⟩ := h
  refine ⟨_, p, fun G0 H0 ρ σ G H D R h => ?_⟩
  rw [Out.All_bind] at h
  refine q G0 H0 ρ σ G H _ R (All_onlyL.mpr (h.mono fun d hd => ?_))
  cases d <;> simp only [asList] at hd <;> try exact hd.elim
  rename_i xs
  refine ⟨xs, rfl, fun p vs xs' G1 H1 e k hp gp hH iv => ?_⟩
  cases e
  obtain ⟨f1, f2, f3⟩ := fresh_slot (i := i) (s := .own xs) R k hp
  exact hd _ G1 H1 ((R.step k).setMut (s := .own xs) ⟨p, vs, rfl, gp, f1, f2, hH, iv⟩ f3) k.gs
theorem ss_asg {g : Tg} {tg v : Expr} {f : Ro → Out D} (he : SndE X T false v f) (hg : SndG X T tg g) (h1 : swapsWithSole [tg] v pos.line X.env = pure false) (h2 : swappedStores [tg] v X.env = pure none) (h3 : (assignEach [tg] X.env).map (·.2) = [assign tg X.env]) :
    SndS X T Z fr (.Assign [tg] v pos) (fun ρ => (f ρ).bind fun d => (Out.ofO (asgG g d ρ)).bind fun ρ1 => .ret (.nx ρ1)) := by
  obtain ⟨te, p, q⟩ := he
  refine ⟨_, ps_asg p hg h1 h2 h3, fun G0 H0 ρ σ G H D R h => ?_⟩
  rw [Out.All_bind] at h
  refine q G0 H0 ρ σ G H _ R (h.mono fun d hd v G1 H1 k iv => ?_)
  rw [Out.All_bind, Out.All_ofO] at hd
  obtain ⟨ρ2, e, hd⟩ := hd
  exact ⟨G0, H0, ρ, G1, d, ρ2, R.step k, iv.keep, e, fun σ2 R2 l k2 => hd σ2 G1 H1 R2 k.gs⟩
theorem ss_ret {v : Expr} {f : Ro → Out D} (he : SndE X T false v f) : SndS X T Z false (.Return (some v) pos) (fun ρ => (f ρ).bind fun d => .ret (.rt d)) := by
  obtain ⟨te, p, q⟩ := he
  refine ⟨_, ps_ret p, fun G0 H0 ρ σ G H D R h => ?_⟩
  rw [Out.All_bind] at h
  exact q G0 H0 ρ σ G H _ R (h.mono fun d hd v G1 H1 k iv => hd v G1 H1 (R.st.trans k R.t0) iv.keep)
theorem ss_retF {v : Expr} {f : Ro → Out D} (he : SndF X T v (onlyL f)) : SndS X T Z true (.Return (some v) pos) (fun ρ => (f ρ).bind fun d => .ret (.rt d)) := by
  obtain ⟨te, p, q⟩ := he
  refine ⟨_, ps_ret p, fun G0 H0 ρ σ G H D R h => ?_⟩
  rw [Out.All_bind] at h
  refine q G0 H0 ρ σ G H _ R (All_onlyL.mpr (h.mono fun d hd => ?_))
  obtain ⟨xs, e, hd⟩ := hd
  exact ⟨xs, e, PostF.trans hd R.st R.t0⟩
theorem ss_expr {v : Expr} {f : Ro → Out D} (he : SndE X T false v f) (hs : swapsWith v none pos.line X.env = pure false) : SndS X T Z fr (.Expr v pos) (fun ρ => (f ρ).bind fun _ => .ret (.nx ρ)) := by
  obtain ⟨te, p, q⟩ := he
  refine ⟨_, ps_expr p hs, fun G0 H0 ρ σ G H D R h => ?_⟩
  rw [Out.All_bind] at h
  exact q G0 H0 ρ σ G H _ R (h.mono fun d hd v G1 H1 k iv => hd σ G1 H1 (R.step k) k.gs)
theorem ss_brk : SndS X T Z fr (.Break pos) (fun ρ => .ret (.bk ρ)) := ⟨_, ps_break, fun G0 H0 ρ σ G H D R h => h σ G H R (.refl G)⟩
theorem ss_cnt : SndS X T Z fr (.Continue pos) (fun ρ => .ret (.ct ρ)) := ⟨_, ps_continue, fun G0 H0 ρ σ G H D R h => h σ G H R (.refl G)⟩
theorem ss_pass : SndS X T Z fr (.Pass pos) (fun ρ => .ret (.nx ρ)) := ⟨_, ps_pass, fun G0 H0 ρ σ G H D R h => h σ G H R (.refl G)⟩
theorem ss_never : SndS X T Z fr st (fun ρ => .bad) := ⟨_, ps_never, fun G0 H0 ρ σ G H D R h => h.elim⟩
theorem ss_if {c : Expr} {p q : List Stmt} {fc : Ro → Out D} {f g : Ro → Out Fl} (hc : SndT X T c (tst fc)) (hp : SndSs X T Z fr p f) (hq : SndSs X T Z fr q g) : SndS X T Z fr (.If c p q pos) (fun ρ => (fc ρ).bind fun x => (asBool x).bind fun
    | true => f ρ
    | false => g ρ) := by
  obtain ⟨tc, pc, qc⟩ := hc
  obtain ⟨t1, p1, q1⟩ := hp
  obtain ⟨t2, p2, q2⟩ := hq
  refine ⟨_, ps_if pc p1 p2, fun G0 H0 ρ σ G H D R h => ?_⟩
  rw [Out.All_bind] at h
  refine qc G0 H0 ρ σ G H _ R (All_tst.mpr (h.mono fun x hx => ?_))
  cases x <;> simp only [asBool] at hx <;> try exact hx.elim
  rename_i k
  refine ⟨k, rfl, fun k' G1 H1 e k1 => ?_⟩
  cases e
  cases k with
  | true =>
    rw [if_pos rfl]
    exact q1 G0 H0 ρ σ G1 H1 D (R.step k1) (Out.All.mono (fun fl h => h.up k1.gs) hx)
  | false =>
    rw [if_neg Bool.false_ne_true]
    exact q2 G0 H0 ρ σ G1 H1 D (R.step k1) (Out.All.mono (fun fl h => h.up k1.gs) hx)
theorem ss_while {c : Expr} {p : List Stmt} {fc : Ro → Out D} {f : Ro → Out Fl} {W : Nat} (hx : PassesOwn (model X.prog X.w) X.A X.env X.xe) (hc : SndT X T c (tst fc)) (hp : SndSs X T Z fr p f) : SndS X T Z fr (.While c p [] pos) (fun ρ => whlGo fc f W ρ) := by
  obtain ⟨tc, pc, qc⟩ := hc
  obtain ⟨t1, p1, q1⟩ := hp
  refine ⟨_, ps_while hx pc p1, fun G0 H0 ρ σ G H D R h => ?_⟩
  refine ⟨fun m σ' H' => ∃ ρ' G', Rep T G0 H0 ρ' σ' G' H' ∧ Sub G G' ∧ (whlGo fc f m ρ').All (EndOf Z fr T G0 H0 G D), ⟨W, ρ, G, R, .refl G, h⟩, ?_⟩
  rintro m σ' H' ⟨ρ', G', R', s', h'⟩
  cases m with
  | zero => exact h'.elim
  | succ m =>
    simp only [whlGo] at h'
    rw [Out.All_bind] at h'
    refine qc G0 H0 ρ' σ' G' H' _ R' (All_tst.mpr (h'.mono fun x hx => ?_))
    cases x <;> simp only [asBool] at hx <;> try exact hx.elim
    rename_i k
    refine ⟨k, rfl, fun k' G1 H1 e k1 => ?_⟩
    cases e
    have R1 := R'.step k1
    have s1 := s'.trans k1.gs
    cases k with
    | false =>
      rw [if_neg Bool.false_ne_true]
      exact hx σ' G1 H1 R1 s1
    | true =>
      rw [if_pos rfl]
      refine ⟨fun σ2 H2 => ∃ m', m' < m + 1 ∧ ∃ ρ' G', Rep T G0 H0 ρ' σ2 G' H2 ∧ Sub G G' ∧ (whlGo fc f m' ρ').All (EndOf Z fr T G0 H0 G D), fun σ2 H2 q => q, ?_⟩
      simp only [Out.bind_ret] at hx
      rw [Out.All_bind] at hx
      refine q1 G0 H0 ρ' σ' G1 H1 _ R1 (hx.mono fun fl hf => ?_)
      cases fl with
      | nx ρ2 => exact fun σ2 G2 H2 R2 s2 => ⟨m, Nat.lt_succ_self m, ρ2, G2, R2, s1.trans s2, hf⟩
      | ct ρ2 => exact fun σ2 G2 H2 R2 s2 => ⟨m, Nat.lt_succ_self m, ρ2, G2, R2, s1.trans s2, hf⟩
      | bk ρ2 => exact fun σ2 G2 H2 R2 s2 => hf σ2 G2 H2 R2 (s1.trans s2)
      | rt d => exact hf
      | xc d ρ2 => exact fun σ2 G2 H2 cls dx R2 s2 i => hf σ2 G2 H2 cls dx R2 (s1.trans s2) i
theorem for_core {g : Tg} {f : Ro → Out Fl} {t1 : TS} {J : It} {xs : List D} {Gd : Hp → Prop} {Y : Nat → Hp → V → Hp → Prop} {G0 H0 G G1 H1 : Hp} {ρ : Ro} {σ : Sg} {D : Ends} (q1 : ∀ (G0 H0 : Hp) (ρ : Ro) (σ : Sg) (G H : Hp) (D : Ends), Rep T G0 H0 ρ σ G H → (f ρ).All (EndOf Z fr T G0 H0 G D) → t1 D σ H)
    (W : WalkOf T G1 H1 J xs Gd Y) (hG : ∀ ρ' σ' G' H', Rep T G0 H0 ρ' σ' G' H' → Sub G1 G' → Gd H') (R1 : Rep T G0 H0 ρ σ G1 H1) (k1 : Sub G G1) (hd : (forGo g f xs ρ).All (EndOf Z fr T G0 H0 G D)) :
    ∃ W : Nat → Nat → St → Hp → Prop, (∃ m, W 0 m σ H1) ∧ ∀ i m σ H, W i m σ H →
      (J.stop i H ∧ D.nx σ H) ∨ (J.go i H ∧ ∃ N : St → Hp → Prop, (∀ σ' H', N σ' H' → ∃ m', m' < m ∧ W (i + 1) m' σ' H') ∧ ∀ x H', J.yld i H x H' → gG T g x σ H' fun σ2 H2 => t1 { D with nx := N, ct := N, bk := D.nx } σ2 H2) := by
  refine ⟨fun i m σ' H' => m = xs.length - i ∧ i ≤ xs.length ∧ ∃ ρ' G', Rep T G0 H0 ρ' σ' G' H' ∧ Sub G1 G' ∧ (forGo g f (xs.drop i) ρ').All (EndOf Z fr T G0 H0 G D), ⟨xs.length, by simp, Nat.zero_le _, ρ, G1, R1, .refl G1, hd⟩, ?_⟩
  rintro i m σ' H' ⟨rfl, hi, ρ', G', R', s', h'⟩
  have gd : Gd H' := hG _ _ _ _ R' s'
  by_cases hlt : i < xs.length
  · refine .inr ⟨W.w.goes i H' hlt gd, fun σ2 H2 => ∃ m', m' < xs.length - i ∧ (m' = xs.length - (i + 1) ∧ i + 1 ≤ xs.length ∧ ∃ ρ' G', Rep T G0 H0 ρ' σ2 G' H2 ∧ Sub G1 G' ∧ (forGo g f (xs.drop (i + 1)) ρ').All (EndOf Z fr T G0 H0 G D)), fun σ2 H2 q => q, fun x H2 y => ?_⟩
    obtain ⟨G3, d', e, k3, id⟩ := W.item i H' x H2 G' hlt gd (W.w.yields i H' x H2 hlt gd y) s' R'.sub R'.tub
    have hdr : xs.drop i = d' :: xs.drop (i + 1) := by
      obtain ⟨hi', rfl⟩ := List.getElem?_eq_some_iff.mp e
      exact List.drop_eq_getElem_cons hi'
    rw [hdr] at h'
    simp only [forGo] at h'
    rw [Out.All_bind, Out.All_ofO] at h'
    obtain ⟨ρ1, e1, h'⟩ := h'
    refine ⟨G0, H0, ρ', G3, d', ρ1, R'.step k3, id, e1, fun σ2 R2 l2 _ => ?_⟩
    rw [Out.All_bind] at h'
    have s3 := s'.trans k3.gs
    refine q1 G0 H0 ρ1 σ2 G3 H2 _ R2 (h'.mono fun fl hf => ?_)
    have gg : Sub G G3 := k1.trans s3
    cases fl with
    | nx ρ2 => exact fun σ4 G4 H4 R4 s4 => ⟨_, by omega, rfl, hlt, ρ2, G4, R4, s3.trans s4, hf⟩
    | ct ρ2 => exact fun σ4 G4 H4 R4 s4 => ⟨_, by omega, rfl, hlt, ρ2, G4, R4, s3.trans s4, hf⟩
    | bk ρ2 => exact fun σ4 G4 H4 R4 s4 => hf σ4 G4 H4 R4 (gg.trans s4)
    | rt d => exact hf
    | xc d ρ2 => exact fun σ4 G4 H4 cls dx R4 s4 i => hf σ4 G4 H4 cls dx R4 (gg.trans s4) i
  · have e : i = xs.length := by omega
    subst e
    rw [List.drop_length] at h'
    exact .inl ⟨W.w.stops H' gd, h' σ' G' H' R' (k1.trans s')⟩
theorem ss_for {g : Tg} {tg iter : Expr} {p : List Stmt} {fi : Ro → Out D} {f : Ro → Out Fl} (hx : PassesOwn (model X.prog X.w) X.A X.env X.xe) (hc : X.calm = true) (hi : SndI X T false tg iter fi) (hg : SndG X T tg g) (hp : SndSs X T Z fr p f)
    (hs : ∀ x, foldedSetIterable iter X.env x = pure x) : SndS X T Z fr (.For tg iter p [] pos) (fun ρ => (fi ρ).bind fun x => (itemsD x).bind fun xs => forGo g f xs ρ) := by
  obtain ⟨wi, pi, qi⟩ := hi
  obtain ⟨t1, p1, q1⟩ := hp
  refine ⟨_, ps_for hx hc pi hg p1 hs, fun G0 H0 ρ σ G H D R h => ?_⟩
  rw [Out.All_bind] at h
  refine qi G0 H0 ρ σ G H _ R (h.mono fun d hd => ?_)
  obtain ⟨xs, ex, hd⟩ := All_items hd
  exact ⟨xs, ex, fun J Gd Y G1 H1 k1 W S => for_core q1 W (fun ρ' σ' G' H' R' s' => S H' (s'.trans R'.sub)) (R.step k1) k1.gs hd⟩
end
end Ev

set_option Elab.async false
set_option linter.all false
set_option autoImplicit false
set_option maxRecDepth 100000
set_option maxHeartbeats 8000000
namespace Ev
open PySem L2
def compB : Expr → Bool
  | .ListComp .. => true
  | .SetComp .. => true
  | .DictComp .. => true
  | _ => false
theorem sw_plain {v : Expr} {t : Option Expr} {l : Nat} {env : PySem.Env} (h : compB v = false) : swapsWith v t l env = pure false := by
  cases v <;> first | rfl | cases h
theorem sw_tup {v : Expr} {t : Expr} {l : Nat} {env : PySem.Env} (h : compB v = false ∨ ∀ y p, t ≠ .Name y p) : swapsWithSole [t] v l env = pure false := by
  show swapsWith v (some t) l env = pure false
  rcases h with h | h
  · exact sw_plain h
  · cases v <;> first | rfl | (cases t <;> first | rfl | exact absurd rfl (h _ _))
def isTupE : Expr → Bool
  | .Tuple .. => true
  | _ => false
theorem ss_none {t v : Expr} {env : PySem.Env} (h : isTupE v = false) : swappedStores [t] v env = pure none := by
  cases t <;> first | rfl | (cases v <;> first | rfl | cases h)
section
variable {X : Cx} {T : Ap} {Z : WX} {fr : Bool} {st : Stmt} {sts : List Stmt} {pos : Pos}
theorem ss_app {i : Nat} {x : Str} {v : Expr} {p1 apos cpos : Pos} {f : Ro → Out D} (hN : X.N[i]? = some x) (hv : Vis X.env.scope x) (h1 : (x == ("__debug__" : Str)) = false) (h2 : (x == ("__classdict__" : Str)) = false) (he : SndE X T false v f) (hns : notStarE v = true) (hl : (apos.endLine == cpos.line) = true) :
    SndS X T Z fr (.Expr (.Call (.Attribute (.Name x p1) "append" apos) [v] [] cpos) pos) (fun ρ => (ownOf ρ i).bind fun xs => (f ρ).bind fun d => .guard (decide (xs.length < lim)) (.ret (.nx (ρ.set i (some (.own (xs ++ [d]))))))) := by
  obtain ⟨tv, pv, qv⟩ := he
  have ha : PA X [v] (tCons tv tNil) := pa_cons pv pa_nil (starEach_cons hns)
  refine ⟨_, ps_expr (pe_bm PySem.F.plainAttrs_list PySem.F.slot_list_append PySem.F.type_list_append mt_append (pe_var hN hv h1 h2) ha rfl (by rw [starEach_cons hns]; rfl) hl (starEach_cons hns) rfl) rfl, fun G0 H0 ρ σ G H D R h => ?_⟩
  obtain ⟨xs, e, h⟩ := own_get h
  obtain ⟨w, ew, a, vs, rfl, ga, h0, hT, hH, iv⟩ := R.sl i _ e
  refine ⟨_, ew, .inl ⟨rfl, vs, .of hH⟩, ?_⟩
  rw [Out.All_bind] at h
  refine qv G0 H0 ρ σ G H _ R (h.mono fun d hd u G1 H1 k iu => ?_)
  rw [Out.All_guard] at hd
  obtain ⟨hz, hd⟩ := hd
  have R1 := R.step k
  obtain ⟨w1, ew1, a1, vs1, e1, ga1, h01, hT1, hH1, iv1⟩ := R1.sl i _ e
  subst e1
  rw [ew] at ew1
  cases ew1
  refine ⟨a, vs1, u, rfl, rfl, hH1, ?_, ?_⟩
  · rw [iv1.length]
    exact Nat.lt_of_lt_of_le (of_decide_eq_true hz) lim_le
  · exact hd σ G1 _ (R1.change (s := .own xs) (s' := .own (xs ++ [d])) e rfl ew ⟨a, vs1 ++ [u], rfl, ga1, h01, hT1, upd_same, iv1.append (.cons iu.keep .nil)⟩ rfl) k.gs
theorem dropLast_is {G : Hp} {vs : List V} {xs : List D} (h : IsAll T G vs xs) : IsAll T G vs.dropLast xs.dropLast := by
  rw [List.dropLast_eq_take, List.dropLast_eq_take, h.length]
  exact h.take _
theorem ss_pop {g : Tg} {tg : Expr} {i : Nat} {x : Str} {p1 apos cpos : Pos} (hN : X.N[i]? = some x) (hv : Vis X.env.scope x) (h1 : (x == ("__debug__" : Str)) = false) (h2 : (x == ("__classdict__" : Str)) = false) (hg : SndG X T tg g) (hl : (apos.endLine == cpos.line) = true) (h3 : (assignEach [tg] X.env).map (·.2) = [assign tg X.env]) :
    SndS X T Z fr (.Assign [tg] (.Call (.Attribute (.Name x p1) "pop" apos) [] [] cpos) pos) (fun ρ => (ownOf ρ i).bind fun xs => (Out.ofO xs.getLast?).bind fun d => (Out.ofO (asgG g d (ρ.set i (some (.own xs.dropLast))))).bind fun ρ1 => .ret (.nx ρ1)) := by
  refine ⟨_, ps_asg (pe_bm0 PySem.F.plainAttrs_list PySem.F.slot_list_pop PySem.F.type_list_pop mt_pop (pe_var hN hv h1 h2) rfl hl) hg rfl (by cases tg <;> rfl) h3, fun G0 H0 ρ σ G H D R h => ?_⟩
  obtain ⟨xs, e, h⟩ := own_get h
  obtain ⟨w, ew, a, vs, rfl, ga, h0, hT, hH, iv⟩ := R.sl i _ e
  rw [Out.All_bind, Out.All_ofO] at h
  obtain ⟨d, ed, h⟩ := h
  rw [Out.All_bind, Out.All_ofO] at h
  obtain ⟨ρ2, e2, h⟩ := h
  rw [List.getLast?_eq_getElem?] at ed
  obtain ⟨u, eu, iu⟩ := iv.get ed
  refine ⟨_, ew, .inl ⟨rfl, vs, .of hH⟩, a, vs, u, rfl, rfl, hH, by rw [iv.length]; exact eu, ?_⟩
  have R1 := R.change (s := .own xs) (s' := .own xs.dropLast) (o := .lst vs.dropLast) e rfl ew ⟨a, vs.dropLast, rfl, ga, h0, hT, upd_same, dropLast_is iv⟩ rfl
  exact ⟨G0, H0, _, G, d, ρ2, R1, iu, e2, fun σ2 R2 l k2 => h σ2 G _ R2 (.refl G)⟩
theorem ixN_len {α β : Type} {xs : List α} {ys : List β} (h : xs.length = ys.length) (k : Int) : L2.ixN xs.length k = L2.ixN ys.length k := by rw [h]
theorem ss_setix {i : Nat} {x : Str} {v ix : Expr} {p1 p2 : Pos} {f fi : Ro → Out D} (hN : X.N[i]? = some x) (hv : Vis X.env.scope x) (h1 : (x == ("__debug__" : Str)) = false) (h2 : (x == ("__classdict__" : Str)) = false) (he : SndE X T false v f) (hi : SndE X T true ix fi) (hpi : plainIxB ix = true) (hs : swapsWithSole [.Subscript (.Name x p1) ix p2] v pos.line X.env = pure false) :
    SndS X T Z fr (.Assign [.Subscript (.Name x p1) ix p2] v pos) (fun ρ => (f ρ).bind fun d => (ownOf ρ i).bind fun xs => (fi ρ).bind fun k => (asInt k).bind fun z => (Out.ofO (L2.ixN xs.length z)).bind fun j => .ret (.nx (ρ.set i (some (.own (xs.set j d)))))) := by
  obtain ⟨tv, pv, qv⟩ := he
  obtain ⟨ti, pi, qi⟩ := hi
  refine ⟨_, ps_asg pv (pg_sub (pe_var hN hv h1 h2) pi set_list (by intro _; cases ix <;> first | rfl | cases hpi)) hs (by cases v <;> rfl) rfl, fun G0 H0 ρ σ G H D R h => ?_⟩
  rw [Out.All_bind] at h
  refine qv G0 H0 ρ σ G H _ R (h.mono fun d hd u G1 H1 k iu => ?_)
  have R1 := R.step k
  obtain ⟨xs, e, hd⟩ := own_get hd
  obtain ⟨w, ew, a, vs, rfl, ga, h0, hT, hH, iv⟩ := R1.sl i _ e
  refine ⟨_, ew, ?_⟩
  rw [Out.All_bind] at hd
  refine qi G0 H0 ρ σ G1 H1 _ R1 (hd.mono fun y hy yv G2 H2 k2 iy => ?_)
  obtain ⟨z, rfl, hy2⟩ := All_asInt hy
  rw [Out.All_bind, Out.All_ofO] at hy2
  obtain ⟨j, ej, hy3⟩ := hy2
  have R2 := R1.step k2
  obtain ⟨w1, ew1, a1, vs1, e1, ga1, h01, hT1, hH1, iv1⟩ := R2.sl i _ e
  subst e1
  rw [ew] at ew1
  cases ew1
  refine ⟨a, vs1, z, j, rfl, iy.int, hH1, by rw [ixN_len iv1.length]; exact ej, ?_⟩
  exact hy3 σ G2 _ (R2.change (s := .own xs) (s' := .own (xs.set j d)) e rfl ew ⟨a, vs1.set j u, rfl, ga1, h01, hT1, upd_same, iv1.set j (Is.mono k2.gs _ _ iu.keep)⟩ rfl) (k.gs.trans k2.gs)
theorem tub_put {G0 H0 G H : Hp} {ρ : Ro} {σ : Sg} {a : Addr} {ns : List Int} (R : Rep T G0 H0 ρ σ G H) (hT : T.tub = some a) (hl : ns.length = 3) (hg : G a = none) (hb : ∀ y, ns[1]? = some y → tubB y = true) : Rep T G0 H0 ρ σ G (upd H a (.lst (ns.map V.int))) := by
  obtain ⟨x0, y0, z0, h0, _⟩ := R.tub.1 a hT
  have ne : ∀ {b : Addr} {o : HO}, H b = some o → (∀ xs, o ≠ .lst xs) → b ≠ a := fun {b o} e n z => by
    rw [z, h0] at e
    exact n _ (Option.some.inj e).symm
  have k : Stp T G H G (upd H a (.lst (ns.map V.int))) := by
    refine ⟨.refl G, fun b o e => ?_, fun b o hb _ e => ?_, fun b ps e => ⟨ps, ?_⟩, fun b o e => .inl e, fun b hb => ?_, fun p hp => ?_, fun p hp => ?_⟩
    · rw [upd_ne (fun z => by rw [z, hg] at e; cases e)]; exact R.sub b o e
    · rw [upd_ne (fun z => hb (by rw [z]; exact hT))]; exact e
    · rw [upd_ne (ne e fun xs z => by cases z)]; exact e
    · rw [hT] at hb
      cases hb
      match ns, hl with
      | [x, y, z], _ => exact ⟨x, y, z, upd_same, hb y rfl⟩
    · obtain ⟨ps, e1, e2, e3⟩ := R.tub.2.1 p hp
      refine ⟨ps, ?_, e2, fun pos cv hc => ?_⟩
      · rw [upd_ne (ne e1 fun xs z => by cases z)]; exact e1
      · obtain ⟨c, q1, q2⟩ := e3 pos cv hc
        exact ⟨c, q1, by rw [upd_ne (ne q2 fun xs z => by cases z)]; exact q2⟩
    · have q2 := R.tub.2.2 p hp
      rw [upd_ne (ne q2 fun xs z => by cases z)]; exact q2
  exact R.step k
theorem ixN3 {ns : List Int} {j : Nat} (hl : ns.length = 3) (hj : j < 3) : L2.ixN (ns.map V.int).length (j : Int) = some j := by
  unfold L2.ixN
  have hz : (j : Int) < 3 := by omega
  simp [hl, hj, hz]
theorem set_ints (ns : List Int) (j : Nat) (z : Int) : (ns.map V.int).set j (V.int z) = (ns.set j z).map V.int := by
  rw [List.map_set]
theorem set_tub {ns : List Int} {j : Nat} {v : Int} (hb : ∀ y, ns[1]? = some y → tubB y = true) (h : tsOk j v = true) : ∀ y, (ns.set j v)[1]? = some y → tubB y = true := fun y e => by
  rw [List.getElem?_set] at e
  unfold tsOk at h
  rw [Bool.or_eq_true, decide_eq_true_eq] at h
  split at e
  · split at e
    · cases e
      rcases h with h | h
      · rename_i z _; exact absurd z h
      · exact h
    · cases e
  · exact hb y e
theorem ss_tset {i j : Nat} {x : Str} {k : Nat} {p1 p2 p3 : Pos} {v : Expr} {f : Ro → Out D} (hN : X.N[i]? = some x) (hv : Vis X.env.scope x) (h1 : (x == ("__debug__" : Str)) = false) (h2 : (x == ("__classdict__" : Str)) = false) (he : SndE X T false v f) :
    SndS X T Z fr (.Assign [.Subscript (.Name x p1) (.Constant (.int (j : Int)) k p2) p3] v pos) (fun ρ => (f ρ).bind fun d => (asInt d).bind fun v => (tubOf ρ i).bind fun _ => .guard (decide (j < 3) && tsOk j v) (.ret (.nx ρ))) := by
  obtain ⟨tv, pv, qv⟩ := he
  refine ⟨_, ps_asg pv (pg_sub (pe_var hN hv h1 h2) pe_int set_list (by intro _; rfl)) (sw_tup (.inr fun y p e => by cases e)) (by cases v <;> rfl) rfl, fun G0 H0 ρ σ G H D R h => ?_⟩
  rw [Out.All_bind] at h
  refine qv G0 H0 ρ σ G H _ R (h.mono fun d hd u G1 H1 kk iu => ?_)
  obtain ⟨z, rfl, hd2⟩ := All_asInt hd
  obtain ⟨e, hd3⟩ := tub_get hd2
  have R1 := R.step kk
  obtain ⟨a, hT, e1, ns, hl, hH, hb⟩ := tub_at R1 e
  rw [Out.All_guard, Bool.and_eq_true] at hd3
  have hj : j < 3 := of_decide_eq_true hd3.1.1
  refine ⟨_, e1, a, ns.map V.int, (j : Int), j, rfl, rfl, hH, ixN3 hl hj, ?_⟩
  rw [iu.keep.int_eq, set_ints]
  exact hd3.2 σ G1 _ (tub_put R1 hT (by simp [hl]) (R1.tg.1 a (.inl hT)) (set_tub hb hd3.1.2)) kk.gs
theorem ss_tdvm {i j : Nat} {x : Str} {k kk2 : Nat} {p1 p2 p3 p4 : Pos} {v t : Expr} {g : Tg} {f : Ro → Out D} (hc : X.calm = true) (hN : X.N[i]? = some x) (hv : Vis X.env.scope x) (h1 : (x == ("__debug__" : Str)) = false) (h2 : (x == ("__classdict__" : Str)) = false) (he : SndE X T false v f)
    (hg : SndG X T t g) (hns : notStarE t = true) (hv1 : compB v = false) (hv2 : isTupE v = false) :
    SndS X T Z fr (.Assign [.Tuple [.Subscript (.Name x p1) (.Constant (.int (j : Int)) k p2) p3, t] kk2 p4] v pos) (fun ρ => (f ρ).bind fun
      | .tuple [.int v, d] => (tubOf ρ i).bind fun _ => .guard (decide (j < 3) && tsOk j v) ((Out.ofO (asgG g d ρ)).bind fun ρ1 => .ret (.nx ρ1))
      | _ => .bad) := by
  obtain ⟨tv, pv, qv⟩ := he
  have hst : assignEach [.Subscript (.Name x p1) (.Constant (.int (j : Int)) k p2) p3, t] X.env = [(false, assign (.Subscript (.Name x p1) (.Constant (.int (j : Int)) k p2) p3) X.env), (false, assign t X.env)] := by
    rw [ae_cons rfl, ae_cons hns]; rfl
  refine ⟨_, ps_asg pv (pg_tup (n := 2) hc (pgs_cons (pg_sub (pe_var hN hv h1 h2) pe_int set_list (by intro _; rfl)) (pgs_cons hg pgs_nil (by rw [ae_cons hns]; rfl)) (by rw [ae_cons rfl]; rfl)) (by rw [hst]; rfl) (by rw [hst]; rfl)) (sw_tup (.inl hv1)) (ss_none hv2) rfl, fun G0 H0 ρ σ G H D R h => ?_⟩
  rw [Out.All_bind] at h
  refine qv G0 H0 ρ σ G H _ R (h.mono fun d hd u G1 H1 kk iu => ?_)
  match d, hd with
  | .tuple [.int z, d2], hd =>
    obtain ⟨e, hd3⟩ := tub_get hd
    have R1 := R.step kk
    obtain ⟨a, hT, e1, ns, hl, hH, hb⟩ := tub_at R1 e
    rw [Out.All_guard, Bool.and_eq_true] at hd3
    have hj : j < 3 := of_decide_eq_true hd3.1.1
    obtain ⟨b, ws, rfl, gb, iw⟩ := iu.tup
    cases iw with
    | cons i1 i2 =>
      cases i2 with
      | cons i2 i3 =>
        cases i3
        refine ⟨b, _, rfl, .of (R1.sub _ _ gb), rfl, _, _, rfl, _, e1, a, ns.map V.int, (j : Int), j, rfl, rfl, hH, ixN3 hl hj, ?_⟩
        rw [i1.int_eq, set_ints]
        have R2 := tub_put (ns := ns.set j z) R1 hT (by simp [hl]) (R1.tg.1 a (.inl hT)) (set_tub hb hd3.1.2)
        have hd4 := hd3.2
        rw [Out.All_bind, Out.All_ofO] at hd4
        obtain ⟨ρ1, e4, hd5⟩ := hd4
        exact ⟨_, _, rfl, G0, H0, ρ, G1, d2, ρ1, R2, i2, e4, fun σ2 R3 l3 k3 => ⟨rfl, hd5 σ2 G1 _ R3 kk.gs⟩⟩
theorem set_vals {G0 H0 G H : Hp} {ρ : Ro} {σ : Sg} {i j : Nat} {d e : D} {v u : V} (R : Rep T G0 H0 ρ σ G H) (a : Is T G v d) (b : Is T G u e) : Rep T G0 H0 ((ρ.set i (some (.val d))).set j (some (.val e))) ((σ.set i (some v)).set j (some u)) G H := (R.setVal a).setVal b
theorem ss_par {i j : Nat} {x y : Str} {a b : Expr} {px py pt : Pos} {kt k2 : Nat} {pt2 : Pos} {fa fb : Ro → Out D} (hc : X.calm = true) (hN : X.N.Nodup) (hi : X.N[i]? = some x) (hj : X.N[j]? = some y) (hij : i ≠ j)
    (hx : X.env.scope.names.lookup x = some .local) (hy : X.env.scope.names.lookup y = some .local) (ha : SndE X T false a fa) (hb : SndE X T false b fb) (na : notStarE a = true) (nb : notStarE b = true)
    (hw : swappedStores [.Tuple [.Name x px, .Name y py] kt pt] (.Tuple [a, b] k2 pt2) X.env = pure (some [x, y])) :
    SndS X T Z fr (.Assign [.Tuple [.Name x px, .Name y py] kt pt] (.Tuple [a, b] k2 pt2) pos) (fun ρ => (fa ρ).bind fun z => (slOf false z).bind fun sx => (fb ρ).bind fun w => (slOf false w).bind fun sy => .ret (.nx ((ρ.set i (some sx)).set j (some sy)))) := by
  obtain ⟨ta, pa, qa⟩ := ha
  obtain ⟨tb, pb, qb⟩ := hb
  refine ⟨_, ps_par hc hN hi hj hij hx hy (pa_cons pa (pa_cons pb pa_nil (starEach_cons nb)) (starEach_cons na)) hw rfl, fun G0 H0 ρ σ G H D R h => ?_⟩
  rw [Out.All_bind] at h
  refine qa G0 H0 ρ σ G H _ R (h.mono fun d hd u G1 H1 k iu => ?_)
  have hd : ((fb ρ).bind fun w => (slOf false w).bind fun sy => .ret (Fl.nx ((ρ.set i (some (.val d))).set j (some sy)))).All _ := hd
  rw [Out.All_bind] at hd
  refine qb G0 H0 ρ σ G1 H1 _ (R.step k) (hd.mono fun d2 hd2 u2 G2 H2 k2 iu2 => ?_)
  refine ⟨u, u2, rfl, ?_⟩
  exact hd2 _ G2 H2 (set_vals ((R.step k).step k2) (Is.mono k2.gs _ _ iu.keep) iu2.keep) (k.gs.trans k2.gs)
end
theorem ss_folded {t : Expr} {vs : List Expr} {k : Nat} {p : Pos} {env : PySem.Env} (h : vs.all (foldedForSure 8) = true) : swappedStores [t] (.Tuple vs k p) env = pure none := by
  cases t <;> try rfl
  all_goals
    unfold swappedStores
    simp only [pure_bind]
    split
    · rfl
    · split
      · rfl
      · split
        · rfl
        · simp only [h, if_true]
def namesOf (S : Scope) (line : Nat) : Expr → Option Str
  | .Name id pos => if (S.names.lookup id == some .local && pos.line == line) = true then some id else none
  | _ => none
theorem star_f {a : Expr} (h : notStarE a = true) : (match (generalizing := false) a with | .Starred value pos => true | x => false) = false := by
  cases a <;> first | rfl | cases h
theorem ss_two {x y : Str} {px py pt pt2 : Pos} {kt k2 : Nat} {a b : Expr} {env : PySem.Env} (hk : env.scope.kind = .function) (hx : env.scope.names.lookup x = some .local) (hy : env.scope.names.lookup y = some .local) (hxy : (y == x) = false) (hl : (py.line == px.line) = true)
    (na : notStarE a = true) (nb : notStarE b = true) (h1 : [a, b].all (foldedForSure 8) = false) (h2 : [a, b].all (constantsAlone 8) = false) : swappedStores [.Tuple [.Name x px, .Name y py] kt pt] (.Tuple [a, b] k2 pt2) env = pure (some [x, y]) := by
  have hb : env.blockKind = .function := by unfold Env.blockKind; rw [hk]; rfl
  have kx : env.kindOf x = some .local := hx
  have ky : env.kindOf y = some .local := hy
  have cx : (env.kindOf x == some .local && px.line == px.line) = true := by rw [kx]; simp
  have cy : (env.kindOf y == some .local && py.line == px.line) = true := by rw [ky, hl]; rfl
  have hn : ([x, y].eraseDups.length != [x, y].length) = false := by
    simp [List.eraseDups, List.eraseDupsBy, List.eraseDupsBy.loop, hxy]
  have c0 : (!(([Expr.Name x px, Expr.Name y py].length == 2) || ([Expr.Name x px, Expr.Name y py].length == 3)) || [a, b].length != [Expr.Name x px, Expr.Name y py].length || env.blockKind != .function) = false := by rw [hb]; rfl
  unfold swappedStores
  simp only [pure_bind, h1, h2]
  rw [if_neg (by rw [c0]; exact Bool.false_ne_true)]
  simp only [List.any_cons, List.any_nil, star_f na, star_f nb, List.filterMap_cons, List.filterMap_nil, List.head?_cons, Option.map_some, Option.getD_some, Expr.pos, cx, cy, if_true]
  refine (if_neg fun h => ?_).trans ((if_neg fun h => ?_).trans rfl)
  · exact Bool.false_ne_true ((Bool.or_eq_false_iff.mpr ⟨star_f na, Bool.or_eq_false_iff.mpr ⟨star_f nb, rfl⟩⟩).symm.trans h)
  · have e : ([x, y].length != [Expr.Name x px, Expr.Name y py].length) = false := rfl
    rw [e, hn] at h
    cases h
theorem fm_lt {α β : Type} (f : α → Option β) : ∀ l : List α, (∃ x ∈ l, f x = none) → (l.filterMap f).length < l.length
  | [], h => by obtain ⟨x, hx, _⟩ := h; cases hx
  | a :: r, h => by
    have hle := List.length_filterMap_le f r
    cases e : f a with
    | none => rw [List.filterMap_cons_none e]; simp only [List.length_cons]; omega
    | some b =>
      rw [List.filterMap_cons_some e]
      obtain ⟨x, hx, hn⟩ := h
      rcases List.mem_cons.mp hx with rfl | hx
      · rw [e] at hn; cases hn
      · have := fm_lt f r ⟨x, hx, hn⟩
        simp only [List.length_cons]; omega
def cellB (sc : Scope) : Expr → Bool
  | .Name x _ => sc.names.lookup x == some .cell
  | _ => false
/-- a target that is captured is not stored the swift way -/
theorem ss_cell {ts vs : List Expr} {k k2 : Nat} {p p2 : Pos} {env : PySem.Env} (h : ts.any (cellB env.scope) = true) : swappedStores [.Tuple ts k p] (.Tuple vs k2 p2) env = pure none := by
  unfold swappedStores
  simp only [pure_bind]
  split
  · rfl
  · split
    · rfl
    · split
      · rfl
      · rename_i hn
        exfalso
        apply hn
        rw [Bool.or_eq_true]
        left
        obtain ⟨e, he, hc⟩ := List.any_eq_true.mp h
        refine bne_iff_ne.mpr (Nat.ne_of_lt (fm_lt _ ts ⟨e, he, ?_⟩))
        cases e <;> simp only [cellB] at hc <;> try (cases hc; done)
        rename_i x px
        have hc : env.kindOf x = some .cell := eq_of_beq hc
        simp only [hc]
        rfl
def okSwap (sc : Scope) : Expr → Expr → Bool
  | .Tuple ts _ _, .Tuple vs _ _ => vs.all (foldedForSure 8) || ts.any (cellB sc)
  | t, v => !isTupE v
theorem ss_swap {t v : Expr} {env : PySem.Env} (h : okSwap env.scope t v = true) : swappedStores [t] v env = pure none := by
  cases v <;> first | exact ss_none rfl | skip
  cases t <;> first | cases h | skip
  simp only [okSwap, Bool.or_eq_true] at h
  rcases h with h | h
  · exact ss_folded h
  · exact ss_cell h
end Ev

set_option Elab.async false
set_option linter.all false
set_option autoImplicit false
set_option maxRecDepth 100000
set_option maxHeartbeats 8000000
namespace Ev
open PySem L2
section
variable {X : Cx} {T : Ap} {Z : WX} {fr : Bool} {pos : Pos}
/-! ### the new dicts -/
theorem lay_dic {G0 H0 G H : Hp} {ρ : Ro} {σ : Sg} {p : Addr} {i : Nat} {t : Bool} {kvs : List (D × D)} {o : HO} (R : Rep T G0 H0 ρ σ G H) (hp : H p = none) (hd : DicOk T G (upd H p o) p t kvs) : Rep T G0 H0 (ρ.set i (some (.dic t kvs))) (σ.set i (some (.ref p))) G (upd H p o) := by
  have k : Stp T G H G (upd H p o) := Stp.fresh R.sub R.tub hp
  obtain ⟨f1, f2, f3⟩ := fresh_slot (i := i) (s := .dic t kvs) R k hp
  have gp : G p = none := by
    cases q : G p with
    | none => rfl
    | some u => rw [R.sub p u q] at hp; cases hp
  exact (R.step k).setMut (s := .dic t kvs) ⟨p, rfl, gp, f1, f2, hd⟩ f3
theorem ss_dnew {i : Nat} {t : Bool} {y : Str} {py pd : Pos} (hN : X.N.Nodup) (hi : X.N[i]? = some y) (hx : L2.Loc X.env.scope y) (hf : X.fn y = true ∨ X.env.scope.names.lookup y = some .local) :
    SndS X T Z fr (.Assign [.Name y py] (.Dict [] [] pd) pos) (fun ρ => .ret (.nx (ρ.set i (some (.dic t []))))) := by
  cases t with
  | false => exact ⟨_, ps_set hN hi hx pe_dnewK rfl hf, fun G0 H0 ρ σ G H D R h p hp => h _ G _ (lay_dic R hp (.inl ⟨rfl, [], upd_same, .nil⟩)) (.refl G)⟩
  | true => exact ⟨_, ps_set hN hi hx pe_dnewT rfl hf, fun G0 H0 ρ σ G H D R h p hp => h _ G _ (lay_dic R hp (.inr ⟨rfl, [], upd_same, .nil⟩)) (.refl G)⟩
/-! ### d[k] = v -/
theorem sw_sub {v o k : Expr} {p : Pos} {l : Nat} {env : PySem.Env} : swapsWith v (some (.Subscript o k p)) l env = pure false := by cases v <;> rfl
theorem ss_dset {i : Nat} {x : Str} {v kx : Expr} {p1 p2 : Pos} {f fk : Ro → Out D} (hu : X.A.units + 1 < cLine) (hN : X.N[i]? = some x) (hv : Vis X.env.scope x) (h1 : (x == ("__debug__" : Str)) = false) (h2 : (x == ("__classdict__" : Str)) = false) (he : SndE X T false v f) (hk : SndE X T true kx fk) :
    SndS X T Z fr (.Assign [.Subscript (.Name x p1) kx p2] v pos) (fun ρ => (f ρ).bind fun y => (dicOf ρ i).bind fun kvs => (fk ρ).bind fun k => .guard (keyOk kvs.1 k && decide (kvs.2.length < lim)) (.ret (.nx (ρ.set i (some (.dic kvs.1 (dPut k y kvs.2))))))) := by
  obtain ⟨tv, pv, qv⟩ := he
  obtain ⟨tk, pk, qk⟩ := hk
  refine ⟨_, ps_dput hu (pe_var hN hv h1 h2) pk pv sw_sub, fun G0 H0 ρ σ G H D R h => ?_⟩
  rw [Out.All_bind] at h
  refine qv G0 H0 ρ σ G H _ R (h.mono fun d hd u G1 H1 k iu => ?_)
  have R1 := R.step k
  obtain ⟨t, kvs, e, hd⟩ := dicSlot_get hd
  obtain ⟨w, ev, ad, rfl, ga, h0, hT, hdic⟩ := R1.sl i _ e
  refine ⟨_, ev, ?_⟩
  rw [Out.All_bind] at hd
  refine qk G0 H0 ρ σ G1 H1 _ R1 (hd.mono fun kd hkd yk G2 H2 k2 ik => ?_)
  rw [Out.All_guard] at hkd
  obtain ⟨hg, hkd⟩ := hkd
  obtain ⟨hko, hlen⟩ := bt hg
  have R2 := R1.step k2
  obtain ⟨w2, ev2, ad2, e3, ga2, h02, hT2, hdic2⟩ := R2.sl i _ e
  subst e3
  rw [ev] at ev2
  cases ev2
  obtain ⟨o, hput, hnew⟩ := dic_put R2.sub ga2 hdic2 hko ik (Is.mono k2.gs _ _ iu.keep) (of_decide_eq_true hlen)
  exact ⟨ad, _, rfl, hput, hkd σ G2 _ (R2.change (s := .dic t kvs) (s' := .dic t (dPut kd d kvs)) e rfl ev ⟨ad, rfl, ga2, h02, hT2, hnew⟩ rfl) (k.gs.trans k2.gs)⟩
/-! ### a = d -/
theorem ss_dmov {i j : Nat} {x y : Str} {px py : Pos} (hnd : X.N.Nodup) (hi : X.N[i]? = some x) (hx : L2.Loc X.env.scope x) (hf : X.fn x = true ∨ X.env.scope.names.lookup x = some .local)
    (hN : X.N[j]? = some y) (hv : Vis X.env.scope y) (h1 : (y == ("__debug__" : Str)) = false) (h2 : (y == ("__classdict__" : Str)) = false) :
    SndS X T Z fr (.Assign [.Name x px] (.Name y py) pos) (fun ρ => (dicOf ρ j).bind fun kvs => .ret (.nx ((ρ.set j none).set i (some (.dic kvs.1 kvs.2))))) := by
  refine ⟨_, ps_set hnd hi hx (pe_var hN hv h1 h2) rfl hf, fun G0 H0 ρ σ G H D R h => ?_⟩
  obtain ⟨t, kvs, e, h⟩ := dicSlot_get h
  obtain ⟨w, ev, ad, rfl, ga, h0, hT, hdic⟩ := R.sl j _ e
  refine ⟨_, ev, ?_⟩
  have hjl : j < ρ.length := (List.getElem?_eq_some_iff.mp e).1
  have R1 : Rep T G0 H0 (ρ.set j none) σ G H := R.forget (by simp [R.len]) fun n s hs => by
    by_cases hn : j = n
    · subst hn
      rw [List.getElem?_set_self hjl] at hs
      cases hs
    · rw [List.getElem?_set_ne hn] at hs
      exact ⟨hs, rfl⟩
  refine h _ G H (R1.setMut (s := .dic t kvs) ⟨ad, rfl, ga, h0, hT, hdic⟩ fun n sn vn b hs hσ a1 a2 => ?_) (.refl G)
  exfalso
  by_cases hn : j = n
  · subst hn
    rw [List.getElem?_set_self hjl] at hs
    cases hs
  · rw [List.getElem?_set_ne hn] at hs
    exact hn (R.apx j n _ sn _ vn b e hs ev hσ a1 a2)
/-! ### for k in d: the dict is used up -/
theorem walkOf_keysK {G1 H1 : Hp} {a : Addr} {o : Obj} {ks : List (L2.Key × V)} {kvs : List (D × D)} (h : H1 a = some (.frz o (.dK ks))) (kv : KvF T G1 flatKey kvs ks) : WalkOf T G1 H1 (Itk a o ks) (kvs.map (·.1)) (fun H => H a = some (.frz o (.dK ks))) (fun i H x H' => H' = H ∧ ∃ k v, ks[i]? = some (k, v) ∧ x = kV k) := by
  refine ⟨⟨fun i H hi hg => ⟨hg, by rw [List.length_map] at hi; rw [kv.length]; exact hi⟩, fun H hg => ⟨hg, by rw [kv.length, List.length_map]; exact Nat.le_refl _⟩, fun i H x H' hi hg y => y⟩, h, fun j H x H' G2 hj hG y s1 s2 t => ?_⟩
  obtain ⟨rfl, k, v, e, rfl⟩ := y
  have i := keysK (kv.mono s1)
  obtain ⟨d, e2, hd⟩ := i.get' (i := j) (v := kV k) (by rw [List.getElem?_map, e]; rfl)
  exact ⟨G2, d, e2, .refl s2 t, hd⟩
theorem walkOf_keysT {G1 H1 : Hp} {a : Addr} {o : Obj} {ks : List (List L2.Key × V)} {kvs : List (D × D)} (h : H1 a = some (.frz o (.dT ks))) (kv : KvF T G1 tupKey kvs ks) : WalkOf T G1 H1 (Itkt a o ks) (kvs.map (·.1)) (fun H => H a = some (.frz o (.dT ks))) (fun i H x H' => H' = H ∧ ∃ (k : List L2.Key) (v : V) (q : Addr), ks[i]? = some (k, v) ∧ x = .ref q ∧ H q = some (.tup (k.map kV))) := by
  refine ⟨⟨fun i H hi hg => ⟨hg, by rw [List.length_map] at hi; rw [kv.length]; exact hi⟩, fun H hg => ⟨hg, by rw [kv.length, List.length_map]; exact Nat.le_refl _⟩, fun i H x H' hi hg y => y⟩, h, fun j H x H' G2 hj hG y s1 s2 t => ?_⟩
  obtain ⟨rfl, k, v, q, e, rfl, hq⟩ := y
  have key : ∀ {kvs : List (D × D)} {ks : List (List L2.Key × V)} {j : Nat}, KvF T G1 tupKey kvs ks → ks[j]? = some (k, v) → ∃ d, (kvs.map (·.1))[j]? = some d ∧ tupKey d = some k := by
    intro kvs ks j h
    induction h generalizing j with
    | nil => intro e; simp at e
    | cons h1 h2 h3 ih =>
      intro e
      cases j with
      | zero => simp at e; obtain ⟨rfl, rfl⟩ := e; exact ⟨_, rfl, h1⟩
      | succ j => exact ih (by simpa using e)
  obtain ⟨d, e2, e3⟩ := key kv e
  exact ⟨frzTups G2 H', d, e2, stp_tups s2 t, is_tup e3 (frzTups_at hq)⟩
/-- a dict is locked for good: the slot forgets it -/
theorem Rep.lock {G0 H0 G H : Hp} {ρ : Ro} {σ : Sg} {i : Nat} {a : Addr} {t : Bool} {kvs : List (D × D)} {o : HO} (R : Rep T G0 H0 ρ σ G H) (e : ρ[i]? = some (some (.dic t kvs))) (hσ : σ[i]? = some (some (.ref a))) : Rep T G0 H0 (ρ.set i none) σ G (upd H a o) := by
  obtain ⟨w, ev, e0⟩ := R.sl i _ e
  obtain ⟨ad, e2, ga, h0, hT, hdic⟩ := id e0
  rw [hσ] at ev
  cases ev
  cases e2
  have hil : i < ρ.length := (List.getElem?_eq_some_iff.mp e).1
  have gne : ∀ b o', G b = some o' → b ≠ a := fun b o' q z => by rw [z, ga] at q; cases q
  have back : ∀ {j : Nat} {sj : Sl}, (ρ.set i none)[j]? = some (some sj) → i ≠ j ∧ ρ[j]? = some (some sj) := fun {j sj} hs => by
    by_cases hj : i = j
    · subst hj
      rw [List.getElem?_set_self hil] at hs
      cases hs
    · rw [List.getElem?_set_ne hj] at hs; exact ⟨hj, hs⟩
  have oth : ∀ {j : Nat} {sj : Sl} {vj : V}, i ≠ j → ρ[j]? = some (some sj) → σ[j]? = some (some vj) → ∀ c, AtS H sj vj c → G c = none ∧ H0 c = none ∧ upd H a o c = H c := fun {j sj vj} hj hs hv c hc => by
    obtain ⟨w, e1, e2⟩ := R.sl j sj hs
    rw [hv] at e1; cases e1
    obtain ⟨c1, c2, _⟩ := e2.mine hc
    exact ⟨c1, c2, upd_ne fun z => by subst z; exact hj (R.apx i j (.dic t kvs) sj _ _ _ e hs hσ hv rfl hc)⟩
  have old : ∀ {j : Nat} {sj : Sl} {vj : V}, i ≠ j → ρ[j]? = some (some sj) → σ[j]? = some (some vj) → ∀ c, AtS (upd H a o) sj vj c → AtS H sj vj c := fun {j sj vj} hj hs hv c hc => by
    obtain ⟨w, e1, e2⟩ := R.sl j sj hs
    rw [hv] at e1; cases e1
    exact hc.back e2 fun c hc => (oth hj hs hv c hc).2.2
  obtain ⟨_, _, _, o0, hb0, _, _, nt, nx⟩ := e0.mine (show AtS H (.dic t kvs) (.ref a) a from rfl)
  refine ⟨⟨R.st.gs, fun b u q => ?_, fun b u hb n q => ?_, fun b ps q => ?_, R.st.new, R.tub.poke hT hb0 nt nx⟩, R.t0, R.tg, by simp [R.len], fun j s hs => ?_, fun j k sj sk vj vk c h1 h2 e1 e2 a1 a2 => ?_⟩
  · rw [upd_ne (gne b u q)]; exact R.sub b u q
  · rw [upd_ne (fun z => by rw [z, h0] at q; cases q)]; exact R.st.kp b u hb n q
  · rw [upd_ne (fun z => by rw [z, h0] at q; cases q)]; exact R.st.tbl b ps q
  · obtain ⟨hj, hs⟩ := back hs
    obtain ⟨v, e1, e2⟩ := R.sl j s hs
    exact ⟨v, e1, e2.move (.refl G) (oth hj hs e1)⟩
  · obtain ⟨n1, h1⟩ := back h1
    obtain ⟨n2, h2⟩ := back h2
    exact R.apx j k sj sk vj vk c h1 h2 e1 e2 (old n1 h1 e1 c a1) (old n2 h2 e2 c a2)
theorem unlock_step {G0 H0 G' H' : Hp} {d : Addr} {od : Obj} {u : HO} (k : Stp T G0 (upd H0 d (.frz od u)) G' H') (h0 : H0 d = none) (g0 : G0 d = none) (hT : T.tub ≠ some d) : H' d = some (.frz od u) ∧ G' d = none ∧ Stp T G0 H0 G' (upd H' d u) := by
  have hd : H' d = some (.frz od u) := k.keep d _ hT upd_same
  have gd : G' d = none := by
    cases q : G' d with
    | none => rfl
    | some o =>
      rcases k.new d o q with z | z | ⟨xs, z⟩
      · rw [g0] at z; cases z
      · rw [upd_same] at z; cases z
      · rw [upd_same] at z; cases z
  refine ⟨hd, gd, k.gs, fun b o e => ?_, fun b o hb n e => ?_, fun b ps e => ?_, fun b o e => ?_, ?_⟩
  · rw [upd_ne (fun z => by rw [z, gd] at e; cases e)]; exact k.gh b o e
  · have hne : b ≠ d := fun z => by rw [z, h0] at e; cases e
    rw [upd_ne hne]
    exact k.kp b o hb n (by rw [upd_ne hne]; exact e)
  · have hne : b ≠ d := fun z => by rw [z, h0] at e; cases e
    rw [upd_ne hne]
    exact k.tbl b ps (by rw [upd_ne hne]; exact e)
  · have hne : b ≠ d := fun z => by rw [z, gd] at e; cases e
    rcases k.new b o e with z | z | ⟨xs, z⟩
    · exact .inl z
    · rw [upd_ne hne] at z; exact .inr (.inl z)
    · rw [upd_ne hne] at z; exact .inr (.inr ⟨xs, z⟩)
  · exact k.tub.poke hT hd (nt_of rfl) fun φ z => by cases z
theorem not_frz {H0 G H : Hp} {s : Sl} {v : V} {b d : Addr} {od : Obj} {u : HO} (h : SlOk T H0 G H s v) (a : AtS H s v b) (hd : H d = some (.frz od u)) : b ≠ d := fun z => by
  subst z
  obtain ⟨_, _, _, o, q, _, q2, _⟩ := h.mine a
  rw [hd] at q
  cases q
  exact q2 _ _ rfl
theorem Rep.base {G0 H0 G H : Hp} {ρ : Ro} {σ : Sg} {d : Addr} {od : Obj} {u : HO} (R : Rep T G0 H0 ρ σ G H) (hd : H d = some (.frz od u)) (h0 : H0 d = none) (gd : G d = none) (hT : T.tub ≠ some d) : Rep T G0 (upd H0 d (.frz od u)) ρ σ G H := by
  refine ⟨⟨R.st.gs, R.st.gh, fun b o hb n e => ?_, fun b ps e => ?_, fun b o e => ?_, R.st.tub⟩, R.t0.ext fun b o e => ?_, R.tg, R.len, fun j s hs => ?_, R.apx⟩
  · by_cases hne : b = d
    · subst hne; rw [upd_same] at e; cases e; exact hd
    · rw [upd_ne hne] at e; exact R.st.kp b o hb n e
  · by_cases hne : b = d
    · subst hne; rw [upd_same] at e; cases e
    · rw [upd_ne hne] at e; exact R.st.tbl b ps e
  · have hne : b ≠ d := fun z => by rw [z, gd] at e; cases e
    rw [upd_ne hne]; exact R.st.new b o e
  · rw [upd_ne (fun z => by rw [z, h0] at e; cases e)]; exact e
  · obtain ⟨v, e1, e2⟩ := R.sl j s hs
    exact ⟨v, e1, e2.move (.refl G) fun b hb => ⟨(e2.mine hb).1, by rw [upd_ne (not_frz e2 hb hd)]; exact (e2.mine hb).2.1, rfl⟩⟩
theorem Rep.unlock {G0 H0 G H : Hp} {ρ : Ro} {σ : Sg} {d : Addr} {od : Obj} {u : HO} (R : Rep T G0 (upd H0 d (.frz od u)) ρ σ G H) (h0 : H0 d = none) (g0 : G0 d = none) (hT : T.tub ≠ some d) : Rep T G0 H0 ρ σ G (upd H d u) := by
  obtain ⟨hd, gd, k⟩ := unlock_step R.st h0 g0 hT
  refine ⟨k, R.t0.drop, R.tg, R.len, fun j s hs => ?_, fun i j si sj vi vj b h1 h2 e1 e2 a1 a2 => ?_⟩
  · obtain ⟨v, e1, e2⟩ := R.sl j s hs
    refine ⟨v, e1, e2.move (.refl G) fun b hb => ?_⟩
    have hne := not_frz e2 hb hd
    obtain ⟨c1, c2, _⟩ := e2.mine hb
    rw [upd_ne hne] at c2
    exact ⟨c1, c2, upd_ne hne⟩
  · obtain ⟨wi, f1, q1⟩ := R.sl i si h1
    obtain ⟨wj, f2, q2⟩ := R.sl j sj h2
    rw [e1] at f1; cases f1
    rw [e2] at f2; cases f2
    exact R.apx i j si sj vi vj b h1 h2 e1 e2 (a1.back q1 fun b a => upd_ne (not_frz q1 a hd)) (a2.back q2 fun b a => upd_ne (not_frz q2 a hd))
/-- what is wanted behind the locked loop -/
def lockD (d : Addr) (od : Obj) (u : HO) (D : Ends) : Ends := ⟨fun σ' H' => H' d = some (.frz od u) ∧ D.nx σ' (upd H' d u), fun v H' => H' d = some (.frz od u) ∧ D.rt v (upd H' d u), fun σ' H' => H' d = some (.frz od u) ∧ D.bk σ' (upd H' d u), fun σ' H' => H' d = some (.frz od u) ∧ D.ct σ' (upd H' d u)⟩
theorem EndOf.lock {G0 H0 G : Hp} {d : Addr} {od : Obj} {u : HO} {D : Ends} (h0 : H0 d = none) (g0 : G0 d = none) (hT : T.tub ≠ some d) : ∀ {fl : Fl}, (noX fl).All (EndOf Z fr T G0 H0 G D) → EndOf Z fr T G0 (upd H0 d (.frz od u)) G (lockD d od u D) fl
  | .xc _ _, h => h.elim
  | .nx _, h => fun σ' G' H' R s => ⟨(unlock_step R.st h0 g0 hT).1, h σ' G' _ (R.unlock h0 g0 hT) s⟩
  | .bk _, h => fun σ' G' H' R s => ⟨(unlock_step R.st h0 g0 hT).1, h σ' G' _ (R.unlock h0 g0 hT) s⟩
  | .ct _, h => fun σ' G' H' R s => ⟨(unlock_step R.st h0 g0 hT).1, h σ' G' _ (R.unlock h0 g0 hT) s⟩
  | .rt x, h => by
    cases fr with
    | false =>
      intro v G' H' k iv
      obtain ⟨hd, gd, k2⟩ := unlock_step k h0 g0 hT
      exact ⟨hd, h v G' _ k2 iv⟩
    | true =>
      obtain ⟨xs, e, h⟩ := h
      refine ⟨xs, e, fun p vs ys G' H' e2 k hp gp hH iv => ?_⟩
      obtain ⟨hd, gd, k2⟩ := unlock_step k h0 g0 hT
      have hne : p ≠ d := fun z => by rw [z, hd] at hH; cases hH
      exact ⟨hd, h p vs ys G' _ e2 k2 (by rw [upd_ne hne] at hp; exact hp) gp (by rw [upd_ne hne]; exact hH) iv⟩
theorem ss_fork {g : Tg} {tg : Expr} {i : Nat} {x : Str} {p1 : Pos} {p : List Stmt} {f : Ro → Out Fl} (hx : PassesOwn (model X.prog X.w) X.A X.env X.xe) (hc : X.calm = true) (hN : X.N[i]? = some x) (hv : Vis X.env.scope x) (h1 : (x == ("__debug__" : Str)) = false) (h2 : (x == ("__classdict__" : Str)) = false) (hg : SndG X T tg g) (hp : SndSs X T Z fr p f) :
    SndS X T Z fr (.For tg (.Name x p1) p [] pos) (fun ρ => (dicOf ρ i).bind fun kvs => (forGo g f (kvs.2.map (·.1)) (ρ.set i none)).bind noX) := by
  obtain ⟨t1, p1, q1⟩ := hp
  refine ⟨_, ps_lock (ps_for hx hc (pi_keys (pe_var hN hv h1 h2)) hg p1 (by intro _; rfl)), fun G0 H0 ρ σ G H D R h => ?_⟩
  obtain ⟨t, kvs, e, h⟩ := dicSlot_get h
  rw [Out.All_bind] at h
  obtain ⟨w, ev, ad, rfl, ga, h0, hT, hdic⟩ := R.sl i _ e
  have g0 : G0 ad = none := by
    cases q : G0 ad with
    | none => rfl
    | some o => rw [R.st.gs _ _ q] at ga; cases ga
  have fin : ∀ (u : HO) (od : Obj), Rep T G0 (upd H0 ad (.frz od u)) (ρ.set i none) σ G (upd H ad (.frz od u)) := fun u od => (R.lock (o := .frz od u) e ev).base upd_same h0 ga hT
  have stay : ∀ (u : HO) (od : Obj) (ρ' : Ro) (σ' : Sg) (G' H' : Hp), Rep T G0 (upd H0 ad (.frz od u)) ρ' σ' G' H' → H' ad = some (.frz od u) := fun u od ρ' σ' G' H' R' => R'.st.keep ad _ hT upd_same
  rcases hdic with ⟨rfl, ks, e1, e2⟩ | ⟨rfl, ks, e1, e2⟩
  · refine ⟨ad, .dK ks, e1, trivial, fun od => ⟨_, ev, ad, od, rfl, .inl ⟨ks, upd_same, ?_⟩⟩⟩
    exact for_core (D := lockD ad od (.dK ks) D) q1 (walkOf_keysK upd_same e2) (fun ρ' σ' G' H' R' _ => stay _ _ _ _ _ _ R') (fin _ _) (.refl G) (Out.All.mono (fun fl hf => EndOf.lock h0 g0 hT hf) h)
  · refine ⟨ad, .dT ks, e1, trivial, fun od => ⟨_, ev, ad, od, rfl, .inr ⟨ks, upd_same, ?_⟩⟩⟩
    exact for_core (D := lockD ad od (.dT ks) D) q1 (walkOf_keysT upd_same e2) (fun ρ' σ' G' H' R' _ => stay _ _ _ _ _ _ R') (fin _ _) (.refl G) (Out.All.mono (fun fl hf => EndOf.lock h0 g0 hT hf) h)
/-! ### dict(pairs) -/
def mergeT {κ : Type} [DecidableEq κ] (kvs more : List (κ × V)) : List (κ × V) := more.foldl (fun acc kv => putK acc kv.1 kv.2) kvs
theorem length_mergeT {κ : Type} [DecidableEq κ] : ∀ (more kvs : List (κ × V)), (mergeT kvs more).length ≤ kvs.length + more.length
  | [], kvs => by simp [mergeT]
  | p :: r, kvs => by
    have h1 := length_mergeT r (putK kvs p.1 p.2)
    have h2 := length_putK kvs p.1 p.2
    simp only [mergeT, List.foldl_cons, List.length_cons] at h1 ⊢
    omega
/-- the pairs as the library tells them -/
theorem tpairs_of {pins : List (Addr × Obj)} {σ : St} {H : Hp} {s : Shared} (I : Inv X pins σ H s) : ∀ {ps : List Addr} {kvs : List (List L2.Key × V)}, Paired (fun p kv => ∃ b, SqT X.K H p [.ref b, kv.2] ∧ H b = some (.tup (kv.1.map kV))) ps kvs →
    ∃ prs : List (List L2.Key × Addr × Value), KT H kvs prs ∧ prs.length = ps.length ∧ ∀ (j : Nat) (q : List L2.Key × Addr × Value), prs[j]? = some q → ∃ b, ps[j]? = some b ∧ s.heap.IsTuple b #[.ref q.2.1, q.2.2]
  | _, _, .nil => ⟨[], .nil, rfl, fun j q e => by simp at e⟩
  | _, _, .cons (a := p) (b := kv) ⟨kb, h, hk⟩ t => by
    obtain ⟨prs, r, hl, hp⟩ := tpairs_of I t
    obtain ⟨its, rv, ht, _⟩ := I.tuple h
    obtain ⟨u, y, ei, ru, ry⟩ := vals2 rv
    subst ei
    cases (show u = Value.ref kb from ru)
    refine ⟨(kv.1, kb, y) :: prs, .cons ⟨rfl, hk, ry⟩ r, by rw [List.length_cons, List.length_cons, hl], fun j q e => ?_⟩
    cases j with
    | zero => simp at e; subst e; exact ⟨p, rfl, ht⟩
    | succ j => exact hp j q (by simpa using e)
theorem merge_kt {H : Hp} : ∀ {more : List (List L2.Key × V)} {rs : List (List L2.Key × Addr × Value)} {kvs : List (List L2.Key × V)} {xs : List (List L2.Key × Addr × Value)}, KT H more rs → KT H kvs xs → KT H (mergeT kvs more) (storedAllH xs rs)
  | _, _, _, _, .nil, h => h
  | _, _, _, xs, .cons (a := p) (b := q) ⟨e1, e2, e3⟩ t, h => by
    have h2 := KT.put h p.1 e2 e3
    have e4 : storedH xs p.1 q.2.1 q.2.2 = storedH xs q.1 q.2.1 q.2.2 := by rw [e1]
    rw [e4] at h2
    have h3 := merge_kt t h2
    exact h3
theorem call_dictT {n : Nat} (hr : Room n X.A) : CallR X (.type "dict") (fun xs H Q => ∃ (a : Addr) (ps : List Addr) (kvs : List (List L2.Key × V)), xs = [.ref a] ∧ SqL X.K H a (ps.map V.ref) ∧ Paired (fun p kv => ∃ b, SqT X.K H p [.ref b, kv.2] ∧ H b = some (.tup (kv.1.map kV))) ps kvs ∧
    ∀ p, H p = none → Q (.ref p) (upd H p (.dT (mergeT [] kvs)))) := by
  intro pins s σ H xs us Q I r q
  obtain ⟨a, ps, kvs, ex, hq, hp, q⟩ := q
  subst ex
  rw [Vals.ref1 r]
  obtain ⟨its, rv, pl, hz⟩ := I.list hq
  have ei := refs_at rv
  subst ei
  rw [List.length_map] at hz
  obtain ⟨prs, rel, hl, hpr⟩ := tpairs_of I hp
  obtain ⟨o, k0, ho, hc, hd, hdat⟩ := pl
  have hlk : kvs.length = prs.length := Paired.length rel
  have his : ∀ x ∈ prs, (tupleKind (mixKind X.prog X.w)).is s.heap x.1 x.2.1 := by
    have all : ∀ {l : List (List L2.Key × V)} {m : List (List L2.Key × Addr × Value)}, KT H l m → ∀ x ∈ m, (tupleKind (mixKind X.prog X.w)).is s.heap x.1 x.2.1 := by
      intro l m h
      induction h with
      | nil => intro x hx; cases hx
      | cons h1 h2 ih =>
        intro x hx
        rcases List.mem_cons.mp hx with rfl | hx
        · rw [← h1.1]; exact key_of I.hok h1.2.1
        · exact ih x hx
    exact all rel
  have hu := hr.un
  refine call_dict_pairsH (knd := tupleKind (mixKind X.prog X.w)) (ps := prs) (PairArg.list a (ps.map Value.ref).toArray (fun j => (ps[j]?).getD 0) (prs.map fun x => (Value.ref x.2.1, x.2.2))) hr.hd (tupleKind_room_in1 (A := X.A.in1) (by show X.A.units + 1 + 1 < cLine; omega)) ⟨⟨o, k0, ho, hc, hd, hdat⟩, ⟨by simp [hl], fun j k v e => ?_⟩⟩
    ⟨by simp, fun j k v e => ?_⟩ (fun h' hk x hx => ?_) (by simp; omega) fun h' tk hd' k => ?_
  · rw [List.getElem?_map] at e
    cases hj : prs[j]? with
    | none => rw [hj] at e; cases e
    | some z =>
      rw [hj] at e
      cases e
      obtain ⟨b, e1, e2⟩ := hpr j z hj
      exact ⟨by simp [e1], .inl (by simp only [e1, Option.getD_some]; exact e2)⟩
  · have e : (prs.map fun x => (Value.ref x.2.1, x.2.2))[j]? = some (k, v) := e
    rw [List.getElem?_map] at e
    cases hj : prs[j]? with
    | none => rw [hj] at e; cases e
    | some z =>
      rw [hj] at e
      cases e
      exact ⟨z.1, z.2.1, rfl, rfl⟩
  · obtain ⟨ob, its, m, e1, e2, e3, e4⟩ := his x hx
    exact ⟨ob, its, m, hk _ _ (Nat.ne_of_lt (Heap.lt_size e1)) (by simp) e1, e2, e3, e4⟩
  · have hm : (s.heap.objs.size == sysModules) = false := beq_eq_false_iff_ne.mpr (Nat.ne_of_gt I.big)
    have hlen : (mergeT [] kvs).length ≤ sizeLine := by
      have := length_mergeT kvs []
      simp at this
      omega
    have hk : ∀ b o, s.heap.get? b = some o → h'.get? b = some o := fun b o e => k b o (by simp) e
    obtain ⟨o', es, ep, h1, h2, h3, h4, h5, h6⟩ := hd'
    have hfr : H s.heap.objs.size = none := I.hok.fresh (Nat.le_refl _)
    refine ⟨.ref s.heap.objs.size, _, I.laid (t' := tk) (o := .dT (mergeT [] kvs)) hk (Nat.le_refl _) ⟨hlen, hm, storedAllH [] prs, (merge_kt rel .nil).keeps fun b ys e => ?_, o', es, ep, h1, h2, h3, h4, h6⟩, rfl, q _ hfr⟩
    rw [upd_ne (ne_of_none e hfr)]; exact e
theorem dpairs_K {G H : Hp} (sub : Sub G H) {P : List (D × D) → Prop} : ∀ {xs : List D} {acc : List (D × D)} {vs : List V} {aks : List (L2.Key × V)}, (dPairs false xs acc).All P → IsAll T G vs xs → KvF T G flatKey acc aks →
    ∃ (ps : List Addr) (kvs : List (L2.Key × V)) (out : List (D × D)), vs = ps.map V.ref ∧ Paired (fun p kv => SqT X.K H p [kV kv.1, kv.2]) ps kvs ∧ P out ∧ KvF T G flatKey out (mergeK aks kvs)
  | [], acc, _, aks, h, .nil, ha => ⟨[], [], acc, rfl, .nil, h, ha⟩
  | d :: r, acc, _, aks, h, .cons (v := v) i t, ha => by
    match d, i, h with
    | .tuple [k, x], i, h =>
      simp only [dPairs] at h
      rw [Out.All_guard] at h
      obtain ⟨hk, h⟩ := h
      cases i with
      | tup gp j =>
        cases j with
        | cons jk j2 =>
          cases j2 with
          | cons jx j3 =>
            cases j3
            obtain ⟨q, hq⟩ := flat_of hk
            obtain ⟨ps, kvs, out, e1, e2, e3, e4⟩ := dpairs_K sub h t (put_kv flat_injK hq jx ha)
            have ek := flat_val hq jk
            subst ek
            exact ⟨_ :: ps, (q, _) :: kvs, out, by rw [e1]; rfl, .cons (.of (sub _ _ gp)) e2, e3, e4⟩
theorem dpairs_T {G H : Hp} (sub : Sub G H) {P : List (D × D) → Prop} : ∀ {xs : List D} {acc : List (D × D)} {vs : List V} {aks : List (List L2.Key × V)}, (dPairs true xs acc).All P → IsAll T G vs xs → KvF T G tupKey acc aks →
    ∃ (ps : List Addr) (kvs : List (List L2.Key × V)) (out : List (D × D)), vs = ps.map V.ref ∧ Paired (fun p kv => ∃ b, SqT X.K H p [.ref b, kv.2] ∧ H b = some (.tup (kv.1.map kV))) ps kvs ∧ P out ∧ KvF T G tupKey out (mergeT aks kvs)
  | [], acc, _, aks, h, .nil, ha => ⟨[], [], acc, rfl, .nil, h, ha⟩
  | d :: r, acc, _, aks, h, .cons (v := v) i t, ha => by
    match d, i, h with
    | .tuple [k, x], i, h =>
      simp only [dPairs] at h
      rw [Out.All_guard] at h
      obtain ⟨hk, h⟩ := h
      cases i with
      | tup gp j =>
        cases j with
        | cons jk j2 =>
          cases j2 with
          | cons jx j3 =>
            cases j3
            have hk2 : ∃ q, tupKey k = some q := by
              cases k <;> simp only [keyOk] at hk <;> try (cases hk; done)
              exact flats_of hk
            obtain ⟨q, hq⟩ := hk2
            obtain ⟨ps, kvs, out, e1, e2, e3, e4⟩ := dpairs_T sub h t (put_kv tup_injK hq jx ha)
            obtain ⟨b, rfl, hb⟩ := tup_val hq jk
            exact ⟨_ :: ps, (q, _) :: kvs, out, by rw [e1]; rfl, .cons ⟨b, .of (sub _ _ gp), sub _ _ hb⟩ e2, e3, e4⟩
theorem ss_dof {n : Nat} {i : Nat} {t : Bool} {y : Str} {py p2 pc : Pos} {v : Expr} {f : Ro → Out D} (hr : Room n X.A) (hcalm : X.calm = true) (hg : Gl X "dict") (hm : X.mg "dict" = none) (hbt : bootBuiltins "dict" = some (.type "dict")) (hN : X.N.Nodup) (hi : X.N[i]? = some y) (hx : L2.Loc X.env.scope y) (hf : X.fn y = true ∨ X.env.scope.names.lookup y = some .local)
    (he : SndE X T false v f) (hns : notStarE v = true) :
    SndS X T Z fr (.Assign [.Name y py] (.Call (.Name "dict" p2) [v] [] pc) pos) (fun ρ => (f ρ).bind fun d => (asList d).bind fun xs => .guard (decide (xs.length ≤ lim)) ((dPairs t xs []).bind fun kvs => .ret (.nx (ρ.set i (some (.dic t kvs)))))) := by
  obtain ⟨te, pe, qe⟩ := he
  have rule : CallR X (.type "dict") _ := CallR.or (call_dictP hcalm) (call_dictT hr)
  refine ⟨_, ps_set hN hi hx (pe_callTy rule hg hm hbt (pa_cons pe pa_nil (starEach_cons hns)) (by decide +kernel) (by decide +kernel) (starEach_cons hns) rfl) rfl hf, fun G0 H0 ρ σ G H D R h => ?_⟩
  rw [Out.All_bind] at h
  refine qe G0 H0 ρ σ G H _ R (h.mono fun d hd u G1 H1 k iu => ?_)
  cases d <;> simp only [asList] at hd <;> try exact hd.elim
  rename_i xs
  simp only [Out.bind_ret] at hd
  rw [Out.All_guard, Out.All_bind] at hd
  obtain ⟨hl, hd⟩ := hd
  have R1 := R.step k
  obtain ⟨a, vs, rfl, ga, iv⟩ := iu.list R1.sub
  cases t with
  | false =>
    obtain ⟨ps, kvs, out, rfl, e2, e3, e4⟩ := dpairs_K (X := X) R1.sub hd iv .nil
    refine .inl ⟨a, ps, kvs, rfl, .of ga, e2, fun p hp => ?_⟩
    exact e3 _ G1 _ (lay_dic R1 hp (.inl ⟨rfl, _, upd_same, e4⟩)) k.gs
  | true =>
    obtain ⟨ps, kvs, out, rfl, e2, e3, e4⟩ := dpairs_T (X := X) R1.sub hd iv .nil
    refine .inr ⟨a, ps, kvs, rfl, .of ga, e2, fun p hp => ?_⟩
    exact e3 _ G1 _ (lay_dic R1 hp (.inr ⟨rfl, _, upd_same, e4⟩)) k.gs
/-! ### {k: v}, one pair, the key a tuple -/
theorem vv_one {x y : V} {ws : List (Value × Value)} (h : VV [(x, y)] ws) : ∃ w1 w2, ws = [(w1, w2)] ∧ RelV x w1 ∧ RelV y w2 := by
  cases h with
  | @cons a b l m r t =>
    cases t
    exact ⟨b.1, b.2, rfl, r.1, r.2⟩
def tDisp1T (tk tv : TE) : TE := fun σ H Q => ∀ p, H p = none → tPairs [(tk, tv)] σ (upd H p (.dT [])) fun ps H2 => H2 p = some (.dT []) ∧ ∃ (q : List L2.Key) (b : Addr) (y : V), ps = [(.ref b, y)] ∧ H2 b = some (.tup (q.map kV)) ∧ Q (.ref p) (upd H2 p (.dT [(q, y)]))
theorem pe_disp1T {k v : Expr} {pd : Pos} {tk tv : TE} (hu : X.A.units + 1 < cLine) (hk : PE X k tk) (hv : PE X v tv) : PE X (.Dict [some k] [v] pd) (tDisp1T tk tv) := by
  refine ⟨fun pins s σ H Q I q => ?_⟩
  have hfr := I.hok.fresh (Nat.le_refl s.heap.objs.size)
  have I1 := I.laid (a := s.heap.objs.size) (o := .dT []) (h' := s.heap.push { cls := .type "dict", data := .dict #[] }) (t' := s.toks) (fun _ _ q => Heap.get?_push_of_some _ q) (Nat.le_refl _) (dt_empty s.heap I.big)
  rw [arm_eval_Dict]
  rw [zip_pairTrees [some k] [v] X.env pd rfl rfl, dictDisplay_pairs (pairTrees [some k] [v] X.env pd) (fun z => by cases z) (show (1 : Nat) < 17 by decide)]
  have hroom : (tupleKind (mixKind X.prog X.w)).room X.A := (show X.A.units < cLine by omega)
  refine wpAny_bind (wpAny_standAt (wpAny_bind (wpAny_subDictH (knd := tupleKind (mixKind X.prog X.w)) (Q := fun d s' => wpAny (model X.prog X.w) X.A (pure (Value.ref d)) _ _ s') hroom (show (1 : Nat) ≤ 15 by decide) ?_)))
  refine thn ((pps_cons hk hv pps_nil).run pins _ σ _ _ I1 (q _ hfr)) fun ws s2 ⟨ps, H2, I2, rel, e, qq, b, y, ep, hb, fin⟩ => ?_
  subst ep
  obtain ⟨w1, w2, rfl, ra, rb⟩ := vv_one rel
  cases (show w1 = Value.ref b from ra)
  obtain ⟨z, hd, xs, rel0, dd⟩ := dt_of I2.hok e
  cases rel0
  refine ⟨[(qq, b, w2)], ⟨rfl, rfl, key_of I2.hok hb, trivial⟩, dd, fun h' tk' hm hs => wpAny_pure ⟨.ref s.heap.objs.size, _, ?_, rfl, fin⟩⟩
  obtain ⟨o', es, ep, a1, a2, a3, a4, a5, a6⟩ := hm
  refine d_write (t' := tk') I2 (by rw [e]; exact True.intro) hs ⟨o', a1⟩ ⟨by rw [sizeLine_eq]; simp, hd, [(qq, b, w2)], .cons ⟨rfl, ?_, rb⟩ .nil, o', es, ep, a1, a2, a3, a4, a6⟩
  rw [upd_ne (ne_of hb e (fun z => nomatch z))]
  exact hb
theorem laid2 {G H G2 H2 : Hp} {p : Addr} {kvs : List (List L2.Key × V)} {o : HO} (k : Stp T G (upd H p (.dT kvs)) G2 H2) (hp : H p = none) (gp : G p = none) (hT : T.tub ≠ some p) : Stp T G H G2 (upd H2 p o) ∧ G2 p = none := by
  have g2 : G2 p = none := by
    cases q : G2 p with
    | none => rfl
    | some u =>
      rcases k.new p u q with z | z | ⟨xs, z⟩
      · rw [gp] at z; cases z
      · rw [upd_same] at z; cases z
      · rw [upd_same] at z; cases z
  have hd : H2 p = some (.dT kvs) := k.keep p _ hT upd_same
  refine ⟨⟨k.gs, fun b u e => ?_, fun b u hb n e => ?_, fun b ps e => ?_, fun b u e => ?_, k.tub.poke hT hd (nt_of rfl) fun φ z => by cases z⟩, g2⟩
  · rw [upd_ne (fun z => by rw [z, g2] at e; cases e)]; exact k.gh b u e
  · have hne : b ≠ p := fun z => by rw [z, hp] at e; cases e
    rw [upd_ne hne]; exact k.kp b u hb n (by rw [upd_ne hne]; exact e)
  · have hne : b ≠ p := fun z => by rw [z, hp] at e; cases e
    rw [upd_ne hne]; exact k.tbl b ps (by rw [upd_ne hne]; exact e)
  · have hne : b ≠ p := fun z => by rw [z, g2] at e; cases e
    rcases k.new b u e with z | z | ⟨xs, z⟩
    · exact .inl z
    · rw [upd_ne hne] at z; exact .inr (.inl z)
    · rw [upd_ne hne] at z; exact .inr (.inr ⟨xs, z⟩)
theorem ss_dnew1T {i : Nat} {y : Str} {py pd : Pos} {k v : Expr} {fk fv : Ro → Out D} (hu : X.A.units + 1 < cLine) (hN : X.N.Nodup) (hi : X.N[i]? = some y) (hx : L2.Loc X.env.scope y) (hf : X.fn y = true ∨ X.env.scope.names.lookup y = some .local) (hk : SndE X T false k fk) (hv : SndE X T false v fv) :
    SndS X T Z fr (.Assign [.Name y py] (.Dict [some k] [v] pd) pos) (fun ρ => (fk ρ).bind fun x => (fv ρ).bind fun w => .guard (keyOk true x) (.ret (.nx (ρ.set i (some (.dic true [(x, w)])))))) := by
  obtain ⟨tk, pk, qk⟩ := hk
  obtain ⟨tv, pv, qv⟩ := hv
  refine ⟨_, ps_set hN hi hx (pe_disp1T hu pk pv) rfl hf, fun G0 H0 ρ σ G H D R h p hp => ?_⟩
  rw [Out.All_bind] at h
  have R0 := lay_dic (i := i) (t := true) (kvs := []) (o := .dT []) R hp (.inr ⟨rfl, [], upd_same, .nil⟩)
  have hT : T.tub ≠ some p := (fresh_slot (i := i) (s := .own []) R (Stp.refl R.sub R.tub) hp).2.1
  have k0 : Stp T G H G (upd H p (.dT [])) := Stp.fresh R.sub R.tub hp
  refine qk G0 H0 ρ σ G _ _ (R.step k0) (h.mono fun x hx u G1 H1 k1 iu => ?_)
  rw [Out.All_bind] at hx
  refine qv G0 H0 ρ σ G1 H1 _ ((R.step k0).step k1) (hx.mono fun w hw u2 G2 H2 k2 iu2 => ?_)
  rw [Out.All_guard] at hw
  obtain ⟨hko, hw⟩ := hw
  have hk2 : ∃ q, tupKey x = some q := by
    cases x <;> simp only [keyOk] at hko <;> try (cases hko; done)
    exact flats_of hko
  obtain ⟨q, hq⟩ := hk2
  have ix : Is T G2 u x := Is.mono k2.gs _ _ iu.keep
  obtain ⟨b, rfl, hb⟩ := tup_val hq ix
  have R2 := ((R.step k0).step k1).step k2
  have kk := k1.trans k2 k0.tub
  have gp : G p = none := by
    cases z : G p with
    | none => rfl
    | some u => rw [R.sub p u z] at hp; cases hp
  obtain ⟨k3, g2⟩ := laid2 (o := .dT [(q, u2)]) kk hp gp hT
  obtain ⟨f1, f2, f3⟩ := fresh_slot (i := i) (s := .dic true [(x, w)]) R k3 hp
  refine ⟨kk.keep p _ hT upd_same, q, b, u2, rfl, R2.sub _ _ hb, ?_⟩
  exact hw _ G2 _ ((R.step k3).setMut (s := .dic true [(x, w)]) ⟨p, rfl, g2, f1, f2, .inr ⟨rfl, [(q, u2)], upd_same, .cons hq iu2.keep .nil⟩⟩ f3) k3.gs
end
end Ev

set_option Elab.async false
set_option linter.all false
set_option autoImplicit false
set_option maxRecDepth 100000
set_option maxHeartbeats 4000000
namespace Ev
open PySem L2 PySem.Calls PyProof.Rows PyProof.V PySem.Spec
/-! ### for k, v in d.items(), the keys tuples -/
abbrev TKv := List (List L2.Key × V)
theorem frzTV {X : Cx} {pins : List (Addr × Obj)} {σ : Sg} {H : Hp} {s : Shared} {d : Addr} {o : Obj} {kvs : TKv} (I : Inv X pins σ H s) (h : H d = some (.frz o (.dT kvs))) :
    (d == sysModules) = false ∧ s.heap.get? d = some o ∧ o.ExactDict ∧ ∃ (es : Array DictEntry) (ep : Nat), o.data = .dict es ep ∧ es.size = kvs.length ∧
      ∀ (i : Nat) (k : List L2.Key) (v : V), kvs[i]? = some (k, v) → ∃ (en : DictEntry) (q : Addr), es[i]? = some en ∧ en.key = .ref q ∧ H q = some (.tup (k.map kV)) ∧ RelV v en.val := by
  obtain ⟨e0, z, hs, xs, pr, o', es, ep, ho, hx, hdt, he, _⟩ := I.hok d _ h
  rw [e0] at ho
  cases ho
  refine ⟨hs, e0, hx, es, ep, hdt, ?_, fun i k v e => ?_⟩
  · have l1 : es.size = xs.length := size_of_entries he
    have l2 : kvs.length = xs.length := Paired.length pr
    omega
  · obtain ⟨b, hb, e1, e2, e3⟩ := paired_get pr e
    have q := entry_at he i
    rw [hb] at q
    exact ⟨_, b.2.1, q, rfl, e2, e3⟩
def ItiT (d : Addr) (o : Obj) (kvs : TKv) : It :=
  ⟨fun i H => H d = some (.frz o (.dT kvs)) ∧ i < kvs.length, fun i H x H' => ∃ (T : Addr) (k : List L2.Key) (v : V) (q : Addr), kvs[i]? = some (k, v) ∧ H q = some (.tup (k.map kV)) ∧ x = .ref T ∧ H T = none ∧ H' = upd H T (.tup [.ref q, v]), fun i H => H d = some (.frz o (.dT kvs)) ∧ kvs.length ≤ i⟩
theorem turn_itemsT {P : Program} {w : World} {K : PySem.W.Frag} {d : Addr} {o : Obj} {es : Array DictEntry} {ep : Nat} {kvs : TKv} {elts : List Expr} {kk : Nat} {tpos : Pos} (it : Addr) (hod : o.data = .dict es ep) :
    Turn P w K (.Tuple elts kk tpos) (ItiT d o kvs) [it] it (fun i h => ∃ ok ov, IsItemIter h it d i kvs.length ep ok ov) where
  mem := by simp
  obj := fun i h st b hb => by
    obtain rfl : b = it := by simpa using hb
    obtain ⟨ok, ov, e⟩ := st
    exact ⟨_, e, fun v z => nomatch z⟩
  keep := fun i h h' st k => st.elim fun ok st => st.elim fun ov e => ⟨ok, ov, k it (by simp) _ e⟩
  item := by
    intro X zP zw zK hc i pins s σ H E I hf st hg
    subst zP zw zK
    obtain ⟨e1, hi⟩ := hg
    obtain ⟨hs, hgd, hx, es', ep', hdt, hsz, ent⟩ := frzTV I e1
    obtain ⟨rfl, rfl⟩ := L2.dict_ep hod hdt
    obtain ⟨⟨k, v⟩, hat⟩ : ∃ p, kvs[i]? = some p := ⟨kvs[i], List.getElem?_eq_getElem hi⟩
    obtain ⟨en, q, hen, hkey, hq, hv⟩ := ent i k v hat
    obtain ⟨hie, heq⟩ := Array.getElem?_eq_some_iff.mp hen
    obtain ⟨ok, ov, he⟩ := st
    rw [← hsz] at he
    have hil : it < s.heap.objs.size := Heap.lt_size he
    refine DT.nextI he ⟨o, hgd, hx, hod⟩ hie fun h' ho hT hz hk => ?_
    rw [heq] at ho hT
    refine ⟨_, rfl, wpAny_letOwnedTupleGo_items (s := { s with heap := h' }) ho fun h'' he' sb => ?_⟩
    have hN2 : h''.get? s.heap.objs.size = some { cls := .type "tuple", data := .seq #[en.key, en.val] } := (sb.2 _ (Nat.ne_of_gt hil)).trans hT
    rw [hkey] at hN2
    have fresh : ObjOk X.prog X.w (upd H s.heap.objs.size (.tup [.ref q, v])) h'' s.heap.objs.size (.tup [.ref q, v]) :=
      ⟨by show 2 ≤ sizeLine; decide, [.ref q, en.val], .cons rfl (.cons hv .nil), ⟨_, hN2, rfl, _, rfl⟩⟩
    have I1 : Inv X pins σ (upd H s.heap.objs.size (.tup [.ref q, v])) { s with heap := h'' } :=
      I.turnedNew (t' := s.toks) (ch := [it]) (fun b u hb e => (sb.2 b (by simpa using hb)).trans (hk b u (by simpa using hb) e)) hf (Nat.le_refl _) fresh
    refine ⟨.ref s.heap.objs.size, _, I1, rfl, ⟨_, k, v, q, hat, hq, rfl, I.hok.fresh (Nat.le_refl _), rfl⟩, ⟨en.key, en.val, by rw [← hsz]; exact he'⟩, fun b hb => ?_⟩
    obtain rfl : b = it := by simpa using hb
    rw [upd_ne (Nat.ne_of_lt hil)]
    exact (hf b (by simp)).1
  done := by
    intro X zP zw zK hc i pins s σ H E I hf st hg
    subst zP zw zK
    obtain ⟨e1, hi⟩ := hg
    obtain ⟨m0, m1, m2, m3, m4, m5⟩ := hf it (by simp)
    obtain ⟨hs, hgd, hx, es', ep', hdt, hsz, ent⟩ := frzTV I e1
    obtain ⟨rfl, rfl⟩ := L2.dict_ep hod hdt
    obtain ⟨ok, ov, he⟩ := st
    rw [← hsz] at he
    exact DT.endI (I.ok.hd hc) he ⟨o, hgd, hx, hod⟩ (by omega) fun h' eb => ⟨rfl, I.turned (t' := s.toks) (fun b u hb e => eb b u hb e) m0 m1 m3 m4 m5⟩
  self := fun A i s Q E st h => st.elim fun _ st => st.elim fun _ e => PySem.W.kcp_self e h
section
variable {X : Cx} {tg e : Expr} {td : TE} {apos cpos : Pos}
theorem pi_itemsT {elts : List Expr} {kk : Nat} {tpos : Pos} (he : PE X e td) (hbase : attributeBase e "items" X.env (eval e X.env) = eval e X.env) (hline : (apos.endLine == cpos.line) = true) :
    PI X (.Tuple elts kk tpos) (.Call (.Attribute e "items" apos) [] [] cpos) (fun σ H R => td σ H fun x H1 => ∃ d o kvs, x = .ref d ∧ H1 d = some (.frz o (.dT kvs)) ∧ R (ItiT d o kvs) H1) := by
  refine ⟨fun pins s σ H R I h => ?_⟩
  refine wpAny_Call_method (T := "dict") (id := "dict.items") hbase rfl hline F.plainAttrs_dict F.slot_dict_items F.type_dict_items (thn (he.run pins s σ H _ I h) fun u s1 ⟨x, H1, I1, rx, d, o, kvs, ex, hd, q⟩ => ?_)
  obtain rfl := ex
  cases (show u = Value.ref d from rx)
  obtain ⟨hs, hgd, hx, es, ep, hdt, hsz, _⟩ := frzTV I1 hd
  have raw : DT.Raw s1.heap d es ep := ⟨o, hgd, hx, hdt⟩
  refine ⟨raw.typeIs, (fun b z => by cases z; exact ⟨o, hgd, hx.2.1⟩), ?_⟩
  have I2 : Inv X pins σ H1 { s1 with heap := s1.heap.push { cls := .type "dict_items", data := .fields #[.ref d] } } := I1.kept (t' := s1.toks) fun b u z => Heap.get?_push_of_some _ z
  have fin : wpAny (model X.prog X.w) X.A (pyIter (.ref s1.heap.objs.size)) (PIE X pins σ (.Tuple elts kk tpos) R) X.xe { s1 with heap := s1.heap.push { cls := .type "dict_items", data := .fields #[.ref d] } } := by
    refine DT.iterI (d := d) ⟨_, Heap.get?_push_size _ rfl, rfl, rfl⟩ (raw.push _) (pi_one (tk := s1.toks) I2 _ (turn_itemsT _ hdt) ⟨.none, .none, ?_⟩ q)
    rw [← hsz]
    exact Heap.get?_push_size _ rfl
  show wpAny _ _ (callWith cpos (.builtin "dict.items") [.ref d] [] []) _ X.xe s1
  exact method_meetsIn F.slot_dict_items F.entry_dict_items rfl (PySem.evalArgs_none ⟨rfl, raw.typeIs, F.args_dict_items_1 _, _, DT.meetsItems (es := es) (ep := ep) hs, raw, fin⟩)
end
section
variable {X : Cx} {T : Ap} {Z : WX} {fr : Bool} {pos : Pos}
theorem kvT_get {G1 : Hp} {k : List L2.Key} {v : V} : ∀ {kvs : List (D × D)} {ks : TKv} {j : Nat}, KvF T G1 tupKey kvs ks → ks[j]? = some (k, v) → ∃ d e, kvs[j]? = some (d, e) ∧ tupKey d = some k ∧ Is T G1 v e := by
  intro kvs ks j h
  induction h generalizing j with
  | nil => intro e; simp at e
  | cons h1 h2 h3 ih =>
    intro e
    cases j with
    | zero => simp at e; obtain ⟨rfl, rfl⟩ := e; exact ⟨_, _, rfl, h1, h2⟩
    | succ j => exact ih (by simpa using e)
theorem walkOf_itemsT {G1 H1 : Hp} {a : Addr} {o : Obj} {ks : TKv} {kvs : List (D × D)} (h : H1 a = some (.frz o (.dT ks))) (kv : KvF T G1 tupKey kvs ks) : WalkOf T G1 H1 (ItiT a o ks) (kvs.map fun p => .tuple [p.1, p.2]) (fun H => H a = some (.frz o (.dT ks)))
    (fun i H x H' => ∃ (T : Addr) (k : List L2.Key) (v : V) (q : Addr), ks[i]? = some (k, v) ∧ H q = some (.tup (k.map kV)) ∧ x = .ref T ∧ H T = none ∧ H' = upd H T (.tup [.ref q, v])) := by
  refine ⟨⟨fun i H hi hg => ⟨hg, by rw [List.length_map] at hi; rw [kv.length]; exact hi⟩, fun H hg => ⟨hg, by rw [kv.length, List.length_map]; exact Nat.le_refl _⟩, fun i H x H' hi hg y => y⟩, h, fun j H x H' G2 hj hG y s1 s2 t => ?_⟩
  obtain ⟨t0, k, v, q, e, hq, rfl, hn, hH⟩ := y
  obtain ⟨d, z, e2, e3, iz⟩ := kvT_get kv e
  have kk := stp_tups (T := T) s2 t
  have ik : Is T (frzTups G2 H) (.ref q) d := is_tup e3 (frzTups_at hq)
  obtain ⟨G3, k3, i3⟩ := pair_step kk.gh kk.tub hn hH ik (Is.mono kk.gs _ _ (Is.mono s1 _ _ iz))
  exact ⟨G3, _, by rw [List.getElem?_map, e2]; rfl, kk.trans k3 t, i3⟩
theorem ss_fori {g : Tg} {elts : List Expr} {kk : Nat} {tpos : Pos} {i : Nat} {x : Str} {p1 apos cpos : Pos} {p : List Stmt} {f : Ro → Out Fl} (hx : PassesOwn (model X.prog X.w) X.A X.env X.xe) (hc : X.calm = true) (hN : X.N[i]? = some x) (hv : Vis X.env.scope x) (h1 : (x == ("__debug__" : Str)) = false) (h2 : (x == ("__classdict__" : Str)) = false) (hl : (apos.endLine == cpos.line) = true)
    (hg : SndG X T (.Tuple elts kk tpos) g) (hp : SndSs X T Z fr p f) :
    SndS X T Z fr (.For (.Tuple elts kk tpos) (.Call (.Attribute (.Name x p1) "items" apos) [] [] cpos) p [] pos) (fun ρ => (dicOf ρ i).bind fun kvs => .guard kvs.1 ((forGo g f (kvs.2.map fun p => .tuple [p.1, p.2]) (ρ.set i none)).bind noX)) := by
  obtain ⟨t1, p1, q1⟩ := hp
  refine ⟨_, ps_lock (ps_for hx hc (pi_itemsT (pe_var hN hv h1 h2) (by rfl) hl) hg p1 (by intro _; rfl)), fun G0 H0 ρ σ G H D R h => ?_⟩
  obtain ⟨t, kvs, e, h⟩ := dicSlot_get h
  rw [Out.All_guard, Out.All_bind] at h
  obtain ⟨et, h⟩ := h
  obtain ⟨w, ev, ad, rfl, ga, h0, hT, hdic⟩ := R.sl i _ e
  have g0 : G0 ad = none := by
    cases q : G0 ad with
    | none => rfl
    | some o => rw [R.st.gs _ _ q] at ga; cases ga
  rcases hdic with ⟨ef, ks, e1, e2⟩ | ⟨_, ks, e1, e2⟩
  · rw [ef] at et; cases et
  · refine ⟨ad, .dT ks, e1, trivial, fun od => ⟨_, ev, ad, od, ks, rfl, upd_same, ?_⟩⟩
    exact for_core (D := lockD ad od (.dT ks) D) q1 (walkOf_itemsT upd_same e2) (fun ρ' σ' G' H' R' _ => R'.st.keep ad _ hT upd_same) ((R.lock (o := .frz od (.dT ks)) e ev).base upd_same h0 ga hT) (.refl G) (Out.All.mono (fun fl hf => EndOf.lock h0 g0 hT hf) h)
/-- a, b = x, y: the first a new list -/
theorem ss_parF {i j : Nat} {x y : Str} {a b : Expr} {px py pt : Pos} {kt k2 : Nat} {pt2 : Pos} {fa fb : Ro → Out D} (hc : X.calm = true) (hN : X.N.Nodup) (hi : X.N[i]? = some x) (hj : X.N[j]? = some y) (hij : i ≠ j)
    (hx : X.env.scope.names.lookup x = some .local) (hy : X.env.scope.names.lookup y = some .local) (ha : SndF X T a (onlyL fa)) (hb : SndE X T false b fb) (na : notStarE a = true) (nb : notStarE b = true)
    (hw : swappedStores [.Tuple [.Name x px, .Name y py] kt pt] (.Tuple [a, b] k2 pt2) X.env = pure (some [x, y])) :
    SndS X T Z fr (.Assign [.Tuple [.Name x px, .Name y py] kt pt] (.Tuple [a, b] k2 pt2) pos) (fun ρ => (fa ρ).bind fun z => (slOf true z).bind fun sx => (fb ρ).bind fun w => (slOf false w).bind fun sy => .ret (.nx ((ρ.set i (some sx)).set j (some sy)))) := by
  obtain ⟨ta, pa, qa⟩ := ha
  obtain ⟨tb, pb, qb⟩ := hb
  refine ⟨_, ps_par hc hN hi hj hij hx hy (pa_cons pa (pa_cons pb pa_nil (starEach_cons nb)) (starEach_cons na)) hw rfl, fun G0 H0 ρ σ G H D R h => ?_⟩
  rw [Out.All_bind] at h
  refine qa G0 H0 ρ σ G H _ R (All_onlyL.mpr (h.mono fun d hd => ?_))
  cases d <;> try exact hd.elim
  rename_i xs
  refine ⟨xs, rfl, fun p vs xs' G1 H1 e k hp gp hH iv => ?_⟩
  cases e
  have hd : ((fb ρ).bind fun w => (slOf false w).bind fun sy => .ret (Fl.nx ((ρ.set i (some (.own xs))).set j (some sy)))).All _ := hd
  rw [Out.All_bind] at hd
  have R1 := R.step k
  refine qb G0 H0 ρ σ G1 H1 _ R1 (hd.mono fun d2 hd2 u2 G2 H2 k2 iu2 => ?_)
  refine ⟨.ref p, u2, rfl, ?_⟩
  have kk := k.trans k2 R.tub
  obtain ⟨f1, f2, f3⟩ := fresh_slot (i := i) (s := .own xs) R kk hp
  have g2 : G2 p = none := by
    cases q : G2 p with
    | none => rfl
    | some o =>
      rcases k2.new p o q with z | z | ⟨ys, z⟩
      · rw [gp] at z; cases z
      · rw [hH] at z; cases z
      · rw [hH] at z; cases z
  have R2 := (R.step kk).setMut (s := .own xs) ⟨p, vs, rfl, g2, f1, f2, k2.keep p _ f2 hH, iv.mono k2.gs _ _⟩ f3
  exact hd2 _ G2 H2 (R2.setVal iu2.keep) kk.gs
/-- a, b, .. = a list -/
theorem ss_unl {g : Tg} {es : List Expr} {k : Nat} {tp : Pos} {v : Expr} {f : Ro → Out D} (hc : X.calm = true) (he : SndE X T false v f) (hg : PGs X es (gGs T g)) (hl : listG g = true) (hn : (assignEach es X.env).length = lenG g) (hst : (assignEach es X.env).findIdx? (·.1) = none)
    (h1 : swapsWithSole [.Tuple es k tp] v pos.line X.env = pure false) (h2 : swappedStores [.Tuple es k tp] v X.env = pure none) (h3 : (assignEach [.Tuple es k tp] X.env).map (·.2) = [assign (.Tuple es k tp) X.env]) :
    SndS X T Z fr (.Assign [.Tuple es k tp] v pos) (fun ρ => (f ρ).bind fun d => (asList d).bind fun xs => (Out.ofO (asgG g (.tuple xs) ρ)).bind fun ρ1 => .ret (.nx ρ1)) := by
  obtain ⟨te, p, q⟩ := he
  refine ⟨_, ps_asg p (pg_unl hc hg hn hst) h1 h2 h3, fun G0 H0 ρ σ G H D R h => ?_⟩
  rw [Out.All_bind] at h
  refine q G0 H0 ρ σ G H _ R (h.mono fun d hd v G1 H1 kk iv => ?_)
  cases d <;> try exact hd.elim
  rename_i xs
  have hd : ((Out.ofO (asgG g (.tuple xs) ρ)).bind fun ρ1 => .ret (Fl.nx ρ1)).All _ := hd
  rw [Out.All_bind, Out.All_ofO] at hd
  obtain ⟨ρ2, e, hd⟩ := hd
  obtain ⟨a, vs, rfl, ga, ia⟩ := iv.list kk.gh
  exact ⟨a, vs, rfl, .of ga, by rw [ia.length]; exact asgG_len hl e, G0, H0, ρ, G1, xs, ρ2, R.step kk, ia, e, fun σ2 R2 l k2 => hd σ2 G1 H1 R2 kk.gs⟩
end
end Ev

set_option Elab.async false
set_option linter.all false
set_option autoImplicit false
set_option maxRecDepth 100000
set_option maxHeartbeats 8000000
namespace Ev
open PySem L2
/-! ### lists of one's own in a list of one's own: statements -/
theorem InnAll.step {T : Ap} {H0 G H G' H' : Hp} {as : List Addr} {xss : List (List D)} (h : InnAll T H0 G H as xss) (k : Stp T G H G' H') : InnAll T H0 G' H' as xss := h.move k.gs fun b hb => by
  obtain ⟨g, h0, hT, vs, hH⟩ := h.at hb
  refine ⟨?_, h0, (k.keep b _ hT hH).trans hH.symm⟩
  cases q : G' b with
  | none => rfl
  | some o =>
    rcases k.new b o q with z | z | ⟨ys, z⟩
    · rw [g] at z; cases z
    · rw [hH] at z; cases z
    · rw [hH] at z; cases z
structure O2 (T : Ap) (H0 G H : Hp) (a : Addr) (as : List Addr) (xss : List (List D)) : Prop where
  g : G a = none
  h0 : H0 a = none
  hT : T.tub ≠ some a
  hH : H a = some (.lst (as.map V.ref))
  nd : (a :: as).Nodup
  iv : InnAll T H0 G H as xss
section
variable {T : Ap} {G0 H0 G H G' H' : Hp} {ρ : Ro} {σ : Sg} {a : Addr} {as : List Addr} {xss : List (List D)}
theorem O2.of {v : V} (h : SlOk T H0 G H (.own2 xss) v) : ∃ a as, v = V.ref a ∧ O2 T H0 G H a as xss := by
  obtain ⟨a, as, e, g, h0, hT, hH, nd, iv⟩ := h
  exact ⟨a, as, e, g, h0, hT, hH, nd, iv⟩
theorem O2.sl (h : O2 T H0 G H a as xss) : SlOk T H0 G H (.own2 xss) (.ref a) := ⟨a, as, rfl, h.g, h.h0, h.hT, h.hH, h.nd, h.iv⟩
theorem O2.step (h : O2 T H0 G H a as xss) (k : Stp T G H G' H') : O2 T H0 G' H' a as xss := by
  obtain ⟨g1, _, e⟩ := stp_at h.sl k a (.inl rfl)
  exact ⟨g1, h.h0, h.hT, e.trans h.hH, h.nd, h.iv.step k⟩
theorem O2.at (h : O2 T H0 G H a as xss) {b : Addr} (hb : b ∈ as) : AtS H (.own2 xss) (.ref a) b := .inr ⟨a, as, rfl, h.hH, hb⟩
theorem O2.get (h : O2 T H0 G H a as xss) {z : Int} {j : Nat} {xs : List D} (ej : L2.ixN xss.length z = some j) (ex : xss[j]? = some xs) : ∃ b vs, as[j]? = some b ∧ H b = some (.lst vs) ∧ IsAll T G vs xs ∧ L2.atI (as.map V.ref) z = some (.ref b) := by
  obtain ⟨b, vs, eb, gb, h0b, hTb, hHb, ivb⟩ := h.iv.get ex
  exact ⟨b, vs, eb, hHb, ivb, atI_of (n := xss.length) (by rw [List.length_map, h.iv.length]) ej (by rw [List.getElem?_map, eb]; rfl)⟩
/-- an inner list is changed -/
theorem Rep.poke2 (R : Rep T G0 H0 ρ σ G H) {i j : Nat} {b : Addr} {vs : List V} {xs : List D} (hi : ρ[i]? = some (some (.own2 xss))) (hσ : σ[i]? = some (some (.ref a))) (o : O2 T H0 G H a as xss) (eb : as[j]? = some b) (hv : IsAll T G vs xs) :
    Rep T G0 H0 (ρ.set i (some (.own2 (xss.set j xs)))) σ G (upd H b (.lst vs)) := by
  have hb : b ∈ as := List.mem_of_getElem? eb
  have hne : a ≠ b := fun z => by subst z; exact (List.nodup_cons.mp o.nd).1 hb
  have hH' : upd H b (.lst vs) a = some (.lst (as.map V.ref)) := (upd_ne hne).trans o.hH
  refine R.poke hi hσ (o.at hb) ⟨a, as, rfl, o.g, o.h0, o.hT, hH', o.nd, o.iv.set hv (List.nodup_cons.mp o.nd).2 eb⟩ fun c hc => .inl ?_
  rcases hc with hc | ⟨a2, as2, e, e2, hc⟩
  · exact .inl hc
  · cases e
    rw [hH'] at e2
    cases map_ref_inj (HO.lst.inj (Option.some.inj e2))
    exact o.at hc
/-- a new inner list -/
theorem Rep.grow2 (R : Rep T G0 H0 ρ σ G H) {i : Nat} {p : Addr} {G1 H1 : Hp} (k : Stp T G H G1 H1) (hp : H p = none) (gp : G1 p = none) (hp1 : H1 p = some (.lst [])) (hi : ρ[i]? = some (some (.own2 xss))) (hσ : σ[i]? = some (some (.ref a))) (o : O2 T H0 G H a as xss) :
    Rep T G0 H0 (ρ.set i (some (.own2 (xss ++ [[]])))) σ G1 (upd H1 a (.lst ((as ++ [p]).map V.ref))) := by
  have R1 := R.step k
  have o1 := o.step k
  have hT : T.tub ≠ some p := R.tub.off hp
  have h0 : H0 p = none := R.st.back R.t0 hp
  have pa : p ≠ a := fun z => by subst z; rw [o.hH] at hp; cases hp
  have ps : p ∉ as := fun z => by
    obtain ⟨_, _, _, vs, q⟩ := o.iv.at z
    rw [hp] at q; cases q
  have nd : (a :: (as ++ [p])).Nodup := by
    have := List.nodup_cons.mp o.nd
    refine List.nodup_cons.mpr ⟨fun z => ?_, ?_⟩
    · rcases List.mem_append.mp z with z | z
      · exact this.1 z
      · exact pa (List.mem_singleton.mp z).symm
    · refine List.nodup_append.mpr ⟨this.2, List.nodup_cons.mpr ⟨fun z => (by cases z), List.nodup_nil⟩, fun x hx y hy z => ?_⟩
      rw [List.mem_singleton.mp hy] at z
      exact ps (z ▸ hx)
  have iv : InnAll T H0 G1 (upd H1 a (.lst ((as ++ [p]).map V.ref))) (as ++ [p]) (xss ++ [[]]) := by
    refine InnAll.append (o1.iv.move (.refl G1) fun b hb => ?_) (.cons gp h0 hT ((upd_ne pa).trans hp1) .nil .nil)
    obtain ⟨g, h0, _⟩ := o1.iv.at hb
    exact ⟨g, h0, upd_ne fun z => by subst z; exact (List.nodup_cons.mp o.nd).1 hb⟩
  refine R1.poke hi hσ (.inl rfl) ⟨a, as ++ [p], rfl, o1.g, o1.h0, o1.hT, upd_same, nd, iv⟩ fun c hc => ?_
  rcases hc with hc | ⟨a2, as2, e, e2, hc⟩
  · exact .inl (.inl hc)
  · cases e
    rw [upd_same] at e2
    cases map_ref_inj (HO.lst.inj (Option.some.inj e2))
    rcases List.mem_append.mp hc with z | z
    · exact .inl (o1.at z)
    · rw [List.mem_singleton.mp z]
      exact .inr fun j sj vj h1 h2 => fresh_not R k hp j sj vj h1 h2
end
section
variable {X : Cx} {T : Ap} {Z : WX} {fr : Bool} {st : Stmt} {sts : List Stmt} {pos : Pos}
theorem ss_frz2 {i : Nat} {g : Ro → Out Fl} (h2 : SndSs X T Z fr sts g) : SndSs X T Z fr sts (fun ρ => ((own2Of ρ i).bind fun xss => .ret (Fl.nx (ρ.set i (some (.val (.list (xss.map PyData.list))))))).bind fun
    | .nx ρ1 => g ρ1
    | fl => .ret fl) := by
  obtain ⟨u, p2, q2⟩ := h2
  refine ⟨_, p2, fun G0 H0 ρ σ G H D R h => ?_⟩
  have h := h
  simp only [Out.bind_assoc] at h
  obtain ⟨xss, e, h⟩ := own2_get h
  obtain ⟨G', hs, R'⟩ := R.freeze2 e
  exact q2 G0 H0 _ σ G' H D R' (Out.All.mono (fun fl h => h.up hs) h)
theorem ss_app2 {i : Nat} {x : Str} {v jx : Expr} {p1 p3 apos cpos : Pos} {f fj : Ro → Out D} (hN : X.N[i]? = some x) (hv : Vis X.env.scope x) (h1 : (x == ("__debug__" : Str)) = false) (h2 : (x == ("__classdict__" : Str)) = false) (hj : SndE X T true jx fj) (hpj : plainIxB jx = true) (he : SndE X T false v f) (hns : notStarE v = true) (hl : (apos.endLine == cpos.line) = true) :
    SndS X T Z fr (.Expr (.Call (.Attribute (.Subscript (.Name x p1) jx p3) "append" apos) [v] [] cpos) pos) (fun ρ => (own2Of ρ i).bind fun xss => (fj ρ).bind fun k => (asInt k).bind fun z => (Out.ofO (L2.ixN xss.length z)).bind fun j => (Out.ofO xss[j]?).bind fun xs => (f ρ).bind fun d =>
      .guard (decide (xs.length < lim)) (.ret (.nx (ρ.set i (some (.own2 (xss.set j (xs ++ [d])))))))) := by
  obtain ⟨tv, pv, qv⟩ := he
  obtain ⟨tj, pj, qj⟩ := hj
  have ha : PA X [v] (tCons tv tNil) := pa_cons pv pa_nil (starEach_cons hns)
  refine ⟨_, ps_expr (pe_bm PySem.F.plainAttrs_list PySem.F.slot_list_append PySem.F.type_list_append mt_append (pe_ix ix_list (pe_var hN hv h1 h2) pj (ix_plain hpj)) ha rfl (by rw [starEach_cons hns]; rfl) hl (starEach_cons hns) rfl) rfl, fun G0 H0 ρ σ G H D R h => ?_⟩
  obtain ⟨xss, e, h⟩ := own2_get h
  obtain ⟨w, ew, q⟩ := R.sl i _ e
  obtain ⟨a, as, rfl, o⟩ := O2.of q
  refine ⟨_, ew, ?_⟩
  rw [Out.All_bind] at h
  refine qj G0 H0 ρ σ G H _ R (h.mono fun y hy yv G2 H2 k2 iy => ?_)
  obtain ⟨z, rfl, hy2⟩ := All_asInt hy
  rw [Out.All_bind, Out.All_ofO] at hy2
  obtain ⟨j, ej, hy3⟩ := hy2
  rw [Out.All_bind, Out.All_ofO] at hy3
  obtain ⟨xs, ex, hy4⟩ := hy3
  have R2 := R.step k2
  have o2 := o.step k2
  obtain ⟨b, vs, eb, hHb, ivb, hat⟩ := o2.get ej ex
  refine ⟨a, as.map V.ref, z, .ref b, rfl, iy.int, .of o2.hH, hat, .inl ⟨rfl, vs, .of hHb⟩, ?_⟩
  rw [Out.All_bind] at hy4
  refine qv G0 H0 ρ σ G2 H2 _ R2 (hy4.mono fun d hd u G3 H3 k3 iu => ?_)
  rw [Out.All_guard] at hd
  obtain ⟨hz, hd⟩ := hd
  have R3 := R2.step k3
  have o3 := o2.step k3
  obtain ⟨b3, vs3, eb3, hHb3, ivb3, _⟩ := o3.get ej ex
  rw [eb] at eb3
  cases eb3
  refine ⟨b, vs3, u, rfl, rfl, hHb3, ?_, ?_⟩
  · rw [ivb3.length]
    exact Nat.lt_of_lt_of_le (of_decide_eq_true hz) lim_le
  · exact hd σ G3 _ (R3.poke2 e ew o3 eb (ivb3.append (.cons iu.keep .nil))) (k2.gs.trans k3.gs)
theorem ss_new2 {i : Nat} {x : Str} {v : Expr} {p1 apos cpos : Pos} {f : Ro → Out D} (hN : X.N[i]? = some x) (hv : Vis X.env.scope x) (h1 : (x == ("__debug__" : Str)) = false) (h2 : (x == ("__classdict__" : Str)) = false) (he : SndF X T v f) (hf : ∀ ρ, f ρ = .ret (.list [])) (hns : notStarE v = true) (hl : (apos.endLine == cpos.line) = true) :
    SndS X T Z fr (.Expr (.Call (.Attribute (.Name x p1) "append" apos) [v] [] cpos) pos) (fun ρ => (own2Of ρ i).bind fun xss => .guard (decide (xss.length < lim)) (.ret (.nx (ρ.set i (some (.own2 (xss ++ [[]]))))))) := by
  obtain ⟨tv, pv, qv⟩ := he
  have ha : PA X [v] (tCons tv tNil) := pa_cons pv pa_nil (starEach_cons hns)
  refine ⟨_, ps_expr (pe_bm PySem.F.plainAttrs_list PySem.F.slot_list_append PySem.F.type_list_append mt_append (pe_var hN hv h1 h2) ha rfl (by rw [starEach_cons hns]; rfl) hl (starEach_cons hns) rfl) rfl, fun G0 H0 ρ σ G H D R h => ?_⟩
  obtain ⟨xss, e, h⟩ := own2_get h
  obtain ⟨w, ew, q⟩ := R.sl i _ e
  obtain ⟨a, as, rfl, o⟩ := O2.of q
  refine ⟨_, ew, .inl ⟨rfl, _, .of o.hH⟩, ?_⟩
  rw [Out.All_guard] at h
  obtain ⟨hz, hd⟩ := h
  refine qv G0 H0 ρ σ G H _ R ?_
  rw [hf]
  intro p vs xs' G1 H1 e1 k hp gp hH iv
  cases e1
  cases iv
  refine ⟨a, as.map V.ref, .ref p, rfl, rfl, (o.step k).hH, ?_, ?_⟩
  · rw [List.length_map, o.iv.length]
    exact Nat.lt_of_lt_of_le (of_decide_eq_true hz) lim_le
  · have := R.grow2 k hp gp hH e ew o
    rw [List.map_append] at this
    exact hd σ G1 _ this k.gs
theorem ss_popx {i : Nat} {x : Str} {p1 apos cpos : Pos} (hN : X.N[i]? = some x) (hv : Vis X.env.scope x) (h1 : (x == ("__debug__" : Str)) = false) (h2 : (x == ("__classdict__" : Str)) = false) (hl : (apos.endLine == cpos.line) = true) :
    SndS X T Z fr (.Expr (.Call (.Attribute (.Name x p1) "pop" apos) [] [] cpos) pos) (fun ρ => (ownOf ρ i).bind fun xs => .guard (decide (0 < xs.length)) (.ret (.nx (ρ.set i (some (.own xs.dropLast)))))) := by
  refine ⟨_, ps_expr (pe_bm0 PySem.F.plainAttrs_list PySem.F.slot_list_pop PySem.F.type_list_pop mt_pop (pe_var hN hv h1 h2) rfl hl) rfl, fun G0 H0 ρ σ G H D R h => ?_⟩
  obtain ⟨xs, e, h⟩ := own_get h
  obtain ⟨w, ew, a, vs, rfl, ga, h0, hT, hH, iv⟩ := R.sl i _ e
  rw [Out.All_guard] at h
  obtain ⟨hz, hd⟩ := h
  have hz := of_decide_eq_true hz
  obtain ⟨u, eu⟩ : ∃ u, vs[vs.length - 1]? = some u := ⟨vs[vs.length - 1]'(by rw [iv.length]; omega), List.getElem?_eq_getElem _⟩
  refine ⟨_, ew, .inl ⟨rfl, vs, .of hH⟩, a, vs, u, rfl, rfl, hH, eu, ?_⟩
  exact hd σ G _ (R.change (s := .own xs) (s' := .own xs.dropLast) (o := .lst vs.dropLast) e rfl ew ⟨a, vs.dropLast, rfl, ga, h0, hT, upd_same, dropLast_is iv⟩ rfl) (.refl G)
end
end Ev

set_option Elab.async false
set_option linter.all false
set_option autoImplicit false
set_option maxRecDepth 100000
set_option maxHeartbeats 8000000
namespace Ev
open PySem L2
/-! ### a comprehension of new lists; stores into an inner list; two names at once -/
def noName : Expr → Bool
  | .Name .. => false
  | _ => true
/-- a target that is no name is not stored the swift way -/
theorem ss_noName {ts : List Expr} {v : Expr} {k : Nat} {p : Pos} {env : PySem.Env} (h : ts.any noName = true) : swappedStores [.Tuple ts k p] v env = pure none := by
  cases v <;> first | rfl | skip
  unfold swappedStores
  simp only [pure_bind]
  split
  · rfl
  · split
    · rfl
    · split
      · rfl
      · rename_i hn
        exfalso
        apply hn
        rw [Bool.or_eq_true]
        left
        obtain ⟨e, he, hc⟩ := List.any_eq_true.mp h
        refine bne_iff_ne.mpr (Nat.ne_of_lt (fm_lt _ ts ⟨e, he, ?_⟩))
        cases e <;> first | rfl | cases hc
section
variable {X : Cx} {T : Ap} {Z : WX} {fr : Bool} {st : Stmt} {sts : List Stmt} {pos : Pos}
theorem ss_swp2 {k i : Nat} {y x : Str} {py p1 p2 p3 pt : Pos} {kt : Nat} {v jx ix : Expr} {f fj fi : Ro → Out D} (hc : X.calm = true) (hy : SndG X T (.Name y py) (.nm k)) (hN : X.N[i]? = some x) (hv : Vis X.env.scope x) (h1 : (x == ("__debug__" : Str)) = false) (h2 : (x == ("__classdict__" : Str)) = false)
    (he : SndE X T false v f) (hj : SndE X T true jx fj) (hpj : plainIxB jx = true) (hi : SndE X T true ix fi) (hpi : plainIxB ix = true) (hv1 : compB v = false) :
    SndS X T Z fr (.Assign [.Tuple [.Name y py, .Subscript (.Subscript (.Name x p1) jx p2) ix p3] kt pt] v pos) (fun ρ => (f ρ).bind fun
      | .tuple [d1, d2] => swpIn i d2 (ρ.set k (some (.val d1))) fj fi
      | _ => .bad) := by
  obtain ⟨tv, pv, qv⟩ := he
  obtain ⟨tj, pj, qj⟩ := hj
  obtain ⟨ti, pi, qi⟩ := hi
  have hst : assignEach [.Name y py, .Subscript (.Subscript (.Name x p1) jx p2) ix p3] X.env = [(false, assign (.Name y py) X.env), (false, assign (.Subscript (.Subscript (.Name x p1) jx p2) ix p3) X.env)] := by
    rw [ae_cons rfl, ae_cons rfl]; rfl
  refine ⟨_, ps_asg pv (pg_tup (n := 2) hc (pgs_cons hy (pgs_cons (pg_sub (pe_ix ix_list (pe_var hN hv h1 h2) pj (ix_plain hpj)) pi set_list (by intro _; cases ix <;> first | rfl | cases hpi)) pgs_nil (by rw [ae_cons rfl]; rfl)) (by rw [ae_cons rfl]; rfl)) (by rw [hst]; rfl) (by rw [hst]; rfl)) (sw_tup (.inl hv1)) (ss_noName rfl) rfl, fun G0 H0 ρ σ G H D R h => ?_⟩
  rw [Out.All_bind] at h
  refine qv G0 H0 ρ σ G H _ R (h.mono fun d hd u G1 H1 kk iu => ?_)
  match d, hd with
  | .tuple [d1, d2], hd =>
    have R1 := R.step kk
    obtain ⟨b, ws, rfl, gb, iw⟩ := iu.tup
    cases iw with
    | cons i1 i2 =>
      cases i2 with
      | cons i2 i3 =>
        cases i3
        refine ⟨b, _, rfl, .of (R1.sub _ _ gb), rfl, _, _, rfl, G0, H0, ρ, G1, d1, _, R1, i1, rfl, fun σ2 R2 l2 s2 => ?_⟩
        refine ⟨_, _, rfl, ?_⟩
        have hd : (swpIn i d2 (ρ.set k (some (.val d1))) fj fi).All _ := hd
        unfold swpIn at hd
        obtain ⟨xss, e, hd⟩ := own2_get hd
        obtain ⟨w, ew, q⟩ := R2.sl i _ e
        obtain ⟨a, as, rfl, o⟩ := O2.of q
        refine ⟨_, ew, ?_⟩
        rw [Out.All_bind] at hd
        refine qj G0 H0 _ σ2 G1 H1 _ R2 (hd.mono fun y hy yv G3 H3 k3 iy => ?_)
        obtain ⟨z, rfl, hy2⟩ := All_asInt hy
        rw [Out.All_bind, Out.All_ofO] at hy2
        obtain ⟨j, ej, hy3⟩ := hy2
        rw [Out.All_bind, Out.All_ofO] at hy3
        obtain ⟨xs, ex, hy4⟩ := hy3
        have R3 := R2.step k3
        have o3 := o.step k3
        obtain ⟨c, vs, eb, hHb, ivb, hat⟩ := o3.get ej ex
        refine ⟨a, as.map V.ref, z, .ref c, rfl, iy.int, .of o3.hH, hat, ?_⟩
        rw [Out.All_bind] at hy4
        refine qi G0 H0 _ σ2 G3 H3 _ R3 (hy4.mono fun m hm mv G4 H4 k4 im => ?_)
        obtain ⟨z2, rfl, hm2⟩ := All_asInt hm
        rw [Out.All_bind, Out.All_ofO] at hm2
        obtain ⟨n, en, hm3⟩ := hm2
        have R4 := R3.step k4
        have o4 := o3.step k4
        obtain ⟨c4, vs4, eb4, hHb4, ivb4, _⟩ := o4.get ej ex
        rw [eb] at eb4
        cases eb4
        refine ⟨c, vs4, z2, n, rfl, im.int, hHb4, by rw [ivb4.length]; exact en, ?_⟩
        exact ⟨rfl, hm3 σ2 G4 _ (R4.poke2 e ew o4 eb (ivb4.set n (Is.mono (k3.gs.trans k4.gs) _ _ i2))) (kk.gs.trans (k3.gs.trans k4.gs))⟩
/-- x, y = a, [] -/
theorem ss_par0 {i j : Nat} {x y : Str} {a b : Expr} {px py pt : Pos} {kt k2 : Nat} {pt2 : Pos} {fa fb : Ro → Out D} (hc : X.calm = true) (hN : X.N.Nodup) (hi : X.N[i]? = some x) (hj : X.N[j]? = some y) (hij : i ≠ j)
    (hx : X.env.scope.names.lookup x = some .local) (hy : X.env.scope.names.lookup y = some .local) (ha : SndE X T false a fa) (hb : SndF X T b fb) (hf : ∀ ρ, fb ρ = .ret (.list [])) (na : notStarE a = true) (nb : notStarE b = true)
    (hw : swappedStores [.Tuple [.Name x px, .Name y py] kt pt] (.Tuple [a, b] k2 pt2) X.env = pure (some [x, y])) :
    SndS X T Z fr (.Assign [.Tuple [.Name x px, .Name y py] kt pt] (.Tuple [a, b] k2 pt2) pos) (fun ρ => (fa ρ).bind fun z => .ret (.nx ((ρ.set i (some (.val z))).set j (some (.own2 []))))) := by
  obtain ⟨ta, pa, qa⟩ := ha
  obtain ⟨tb, pb, qb⟩ := hb
  refine ⟨_, ps_par hc hN hi hj hij hx hy (pa_cons pa (pa_cons pb pa_nil (starEach_cons nb)) (starEach_cons na)) hw rfl, fun G0 H0 ρ σ G H D R h => ?_⟩
  rw [Out.All_bind] at h
  refine qa G0 H0 ρ σ G H _ R (h.mono fun d hd u G1 H1 k iu => ?_)
  refine qb G0 H0 ρ σ G1 H1 _ (R.step k) ?_
  rw [hf]
  intro p vs xs' G2 H2 e k2 hp gp hH iv
  cases e
  cases iv
  refine ⟨u, .ref p, rfl, ?_⟩
  have R1 := (R.step k).setVal (i := i) iu.keep
  obtain ⟨f1, f2, _⟩ := fresh_slot (i := j) (s := .own []) R1 k2 hp
  refine hd _ G2 H2 ((R1.step k2).setMut (s := .own2 []) ⟨p, [], rfl, gp, f1, f2, hH, List.nodup_cons.mpr ⟨fun z => (by cases z), List.nodup_nil⟩, .nil⟩ fun n sn vn c h1 h2 a1 a2 => ?_) (k.gs.trans k2.gs)
  have hcp : c = p := by
    rcases a1 with a1 | ⟨a', as, e, e2, hm⟩
    · exact (V.ref.inj a1).symm
    · cases e
      rw [hH] at e2
      cases map_ref_inj (as := []) (HO.lst.inj (Option.some.inj e2))
      cases hm
  subst hcp
  exact absurd a2 (fresh_not R1 k2 hp n sn vn h1 h2)
/-- x, y = {k: v}, b -/
theorem ss_pdl {i j : Nat} {x y : Str} {kx vx b : Expr} {px py pt pd : Pos} {kt k2 : Nat} {pt2 : Pos} {fk fv fb : Ro → Out D} (hu : X.A.units + 1 < cLine) (hc : X.calm = true) (hN : X.N.Nodup) (hi : X.N[i]? = some x) (hj : X.N[j]? = some y) (hij : i ≠ j)
    (hx : X.env.scope.names.lookup x = some .local) (hy : X.env.scope.names.lookup y = some .local) (hk : SndE X T false kx fk) (hv : SndE X T false vx fv) (hb : SndE X T false b fb) (nb : notStarE b = true)
    (hw : swappedStores [.Tuple [.Name x px, .Name y py] kt pt] (.Tuple [.Dict [some kx] [vx] pd, b] k2 pt2) X.env = pure (some [x, y])) :
    SndS X T Z fr (.Assign [.Tuple [.Name x px, .Name y py] kt pt] (.Tuple [.Dict [some kx] [vx] pd, b] k2 pt2) pos) (fun ρ => (fk ρ).bind fun q => (fv ρ).bind fun w => .guard (keyOk true q) ((fb ρ).bind fun z => .ret (.nx ((ρ.set i (some (.dic true [(q, w)]))).set j (some (.val z)))))) := by
  obtain ⟨tk, pk, qk⟩ := hk
  obtain ⟨tv, pv, qv⟩ := hv
  obtain ⟨tb, pb, qb⟩ := hb
  refine ⟨_, ps_par hc hN hi hj hij hx hy (pa_cons (pe_disp1T hu pk pv) (pa_cons pb pa_nil (starEach_cons nb)) (starEach_cons rfl)) hw rfl, fun G0 H0 ρ σ G H D R h p hp => ?_⟩
  rw [Out.All_bind] at h
  have hT : T.tub ≠ some p := (fresh_slot (i := i) (s := .own []) R (Stp.refl R.sub R.tub) hp).2.1
  have k0 : Stp T G H G (upd H p (.dT [])) := Stp.fresh R.sub R.tub hp
  refine qk G0 H0 ρ σ G _ _ (R.step k0) (h.mono fun q hq u G1 H1 k1 iu => ?_)
  rw [Out.All_bind] at hq
  refine qv G0 H0 ρ σ G1 H1 _ ((R.step k0).step k1) (hq.mono fun w hw u2 G2 H2 k2 iu2 => ?_)
  rw [Out.All_guard] at hw
  obtain ⟨hko, hw⟩ := hw
  have hk2 : ∃ z, tupKey q = some z := by
    cases q <;> simp only [keyOk] at hko <;> try (cases hko; done)
    exact flats_of hko
  obtain ⟨z, hz⟩ := hk2
  have ix : Is T G2 u q := Is.mono k2.gs _ _ iu.keep
  obtain ⟨b, rfl, hb⟩ := tup_val hz ix
  have R2 := ((R.step k0).step k1).step k2
  have kk := k1.trans k2 k0.tub
  have gp : G p = none := by
    cases e : G p with
    | none => rfl
    | some u => rw [R.sub p u e] at hp; cases hp
  obtain ⟨k3, g2⟩ := laid2 (o := .dT [(z, u2)]) kk hp gp hT
  refine ⟨kk.keep p _ hT upd_same, z, b, u2, rfl, R2.sub _ _ hb, ?_⟩
  have R3 := R.step k3
  rw [Out.All_bind] at hw
  refine qb G0 H0 ρ σ G2 _ _ R3 (hw.mono fun d hd u3 G4 H4 k4 iu3 => ?_)
  refine ⟨.ref p, u3, rfl, ?_⟩
  have k34 := k3.trans k4 R.tub
  obtain ⟨f1, f2, f3⟩ := fresh_slot (i := i) (s := .dic true [(q, w)]) R k34 hp
  have hH4 : H4 p = some (.dT [(z, u2)]) := k4.keep p _ hT upd_same
  have g4 : G4 p = none := by
    cases e : G4 p with
    | none => rfl
    | some o =>
      rcases k4.new p o e with y | y | ⟨ys, y⟩
      · rw [g2] at y; cases y
      · rw [upd_same] at y; cases y
      · rw [upd_same] at y; cases y
  have R4 := (R.step k34).setMut (s := .dic true [(q, w)]) ⟨p, rfl, g4, f1, f2, .inr ⟨rfl, [(z, u2)], hH4, .cons hz (Is.mono k4.gs _ _ iu2.keep) .nil⟩⟩ f3
  exact hd _ G4 H4 (R4.setVal iu3.keep) k34.gs
/-! ### x = [list(e) for g in it] -/
def tF (T : Ap) (f : Ro → Out D) : TE := fun σ H Q => ∃ (G0 H0 : Hp) (ρ : Ro) (G : Hp), Rep T G0 H0 ρ σ G H ∧ (f ρ).All (PostF T G H Q)
theorem SndF.pe {ast : Expr} {f : Ro → Out D} (h : SndF X T ast f) : PE X ast (tF T f) := by
  obtain ⟨t, p, q⟩ := h
  exact ⟨fun pins s σ H Q I ⟨G0, H0, ρ, G, R, h⟩ => p.run pins s σ H Q I (q G0 H0 ρ σ G H Q R h)⟩
/-- new lists in a new list -/
def PostN (T : Ap) (G H : Hp) (Q : VK) (xss : List (List D)) : Prop := ∀ (p : Addr) (as : List Addr) (G' H' : Hp), Stp T G H G' H' → H p = none → G' p = none → H' p = some (.lst (as.map V.ref)) → (p :: as).Nodup → (∀ b ∈ as, H b = none) →
  InnAll T (fun _ => none) G' H' as xss → Q (.ref p) H'
theorem PostN.trans {G H G' H' : Hp} {Q : VK} {xss : List (List D)} (h : PostN T G H Q xss) (k : Stp T G H G' H') (t : TubOk T H) : PostN T G' H' Q xss := fun p as G2 H2 k2 hp gp hH nd hb iv => h p as G2 H2 (k.trans k2 t) (k.back t hp) gp hH nd (fun b m => k.back t (hb b m)) iv
def lcTurnF (own : List Nat) (g : Tg) (fe : Ro → Out D) (ρ : Ro) : D → Out (List D) := fun d => (Out.ofO (asgG g d (wipeR ρ own))).bind fun ρ2 => (fe ρ2).bind asList
theorem lcl2_reads {fi fe : Ro → Out D} {g : Tg} {own : List Nat} {σ : Sg} {H : Hp} {Q : VK} {G0 H0 G : Hp} {ρ : Ro} (hin : g.inside own = true) (R : Rep T G0 H0 ρ σ G H)
    (h : ((fi ρ).bind fun x => (itemsD x).bind fun xs => .guard (decide (xs.length ≤ lim)) (lcl2Go (lcTurnF own g fe ρ) xs [])).All (PostN T G H Q)) :
    tLc (tI T true fi) (gG T g) (tT T yes) (tF T (onlyL fe)) own σ H Q := by
  rw [Out.All_bind] at h
  refine ⟨G0, H0, ρ, G, R, h.mono fun d hd => ?_⟩
  obtain ⟨xs, ex, hd⟩ := All_items hd
  rw [Out.All_guard] at hd
  obtain ⟨hlen, hd⟩ := hd
  have hlen := of_decide_eq_true hlen
  refine ⟨xs, ex, fun J Gd Y G1 H1 k1 W S Da hD => ?_⟩
  have R1 := R.step k1
  have gD : G1 Da = none := by
    cases e : G1 Da with
    | none => rfl
    | some u => rw [k1.gh Da u e] at hD; cases hD
  have tD : T.tub ≠ some Da := R1.tub.off hD
  refine lc_it W.w (fun i H => ∃ (G : Hp) (as : List Addr) (acc : List (List D)), Stp T G1 H1 G H ∧ H Da = some (.lst (as.map V.ref)) ∧ G Da = none ∧ acc.length ≤ i ∧ (Da :: as).Nodup ∧ (∀ b ∈ as, H1 b = none) ∧ InnAll T (fun _ => none) G H as acc ∧ (lcl2Go (lcTurnF own g fe ρ) (xs.drop i) acc).All (PostN T G1 H1 Q)) ?_ ?_ ?_ ?_
  · exact ⟨G1, [], [], Stp.fresh R1.sub R1.tub hD, upd_same, gD, Nat.le_refl _, List.nodup_cons.mpr ⟨fun z => (by cases z), List.nodup_nil⟩, fun b hb => (by cases hb), .nil, Out.All.mono (fun d h => h.trans k1 R.tub) hd⟩
  · rintro i H hi ⟨G, as, acc, k, _⟩
    exact S H k.kp
  · rintro i x H H' hi ⟨G, as, acc, k, hH, hG, ha, nd, hb, iv, h⟩ y
    obtain ⟨G3, d, e, k3, id⟩ := W.item i H x H' G hi (S H k.kp) y k.gs k.gh k.tub
    have kk := k.trans k3 R1.tub
    have hx : xs.drop i = d :: xs.drop (i + 1) := by
      obtain ⟨hi', rfl⟩ := List.getElem?_eq_some_iff.mp e
      exact List.drop_eq_getElem_cons hi'
    rw [hx] at h
    simp only [lcl2Go] at h
    unfold lcTurnF at h
    rw [Out.All_bind, Out.All_bind, Out.All_ofO] at h
    obtain ⟨ρ2, e2, h⟩ := h
    have Rw := (R1.step kk).wipe own
    refine ⟨G0, H0, wipeR ρ own, G3, d, ρ2, Rw, id, e2, fun σ2 R2 l2 s2 => ?_⟩
    have hsame : L2.wipe σ2 own = L2.wipe σ own := wipe_same l2 fun j hj => s2 j fun hm => hj (by
      have := List.all_eq_true.mp hin j hm
      exact of_decide_eq_true this)
    obtain ⟨a3, b3⟩ := stay_at tD k3 hH hG
    refine ⟨hsame, G0, H0, ρ2, G3, R2, All_tst.mpr ⟨true, rfl, fun b' G4 H4 eb k4 => ?_⟩⟩
    cases eb
    rw [if_pos rfl]
    obtain ⟨a4, b4⟩ := stay_at tD k4 a3 b3
    rw [Out.All_bind] at h
    refine ⟨G0, H0, ρ2, G4, R2.step k4, All_onlyL.mpr (h.mono fun v hv => ?_)⟩
    cases v <;> simp only [asList] at hv <;> try exact hv.elim
    rename_i zs
    refine ⟨zs, rfl, fun p vs zs' G5 H5 ez k5 hp gp hH5 ivz => ?_⟩
    cases ez
    obtain ⟨a5, b5⟩ := stay_at tD k5 a4 b4
    have k14 := kk.trans k4 R1.tub
    have k15 := k14.trans k5 R1.tub
    have iv5 := ((iv.step k3).step k4).step k5
    have pD : p ≠ Da := fun z => by subst z; rw [a4] at hp; cases hp
    have ps : p ∉ as := fun z => by
      obtain ⟨_, _, _, us, q⟩ := ((iv.step k3).step k4).at z
      rw [hp] at q; cases q
    have hp1 : H1 p = none := k14.back R1.tub hp
    have pT : T.tub ≠ some p := R1.tub.off hp1
    have nd2 := List.nodup_cons.mp nd
    refine ⟨as.map V.ref, a5, ?_, ?_⟩
    · rw [List.length_map, iv.length]
      exact Nat.lt_of_lt_of_le (show acc.length < lim by omega) lim_le
    · refine ⟨G5, as ++ [p], acc ++ [zs], put_at k15 hD b5 tD a5, by rw [List.map_append]; exact upd_same, b5, by simp; omega, ?_, ?_, ?_, hv⟩
      · refine List.nodup_cons.mpr ⟨fun z => ?_, List.nodup_append.mpr ⟨nd2.2, List.nodup_cons.mpr ⟨fun z => (by cases z), List.nodup_nil⟩, fun x hx y hy z => ?_⟩⟩
        · rcases List.mem_append.mp z with z | z
          · exact nd2.1 z
          · exact pD (List.mem_singleton.mp z).symm
        · rw [List.mem_singleton.mp hy] at z
          exact ps (z ▸ hx)
      · intro b m
        rcases List.mem_append.mp m with m | m
        · exact hb b m
        · rw [List.mem_singleton.mp m]; exact hp1
      · refine InnAll.append (iv5.move (.refl G5) fun b m => ?_) (.cons gp rfl pT ((upd_ne pD).trans hH5) ivz .nil)
        obtain ⟨g, h0, _⟩ := iv5.at m
        exact ⟨g, h0, upd_ne fun z => by subst z; exact nd2.1 m⟩
  · rintro H ⟨G, as, acc, k, hH, hG, ha, nd, hb, iv, h⟩
    rw [List.drop_length] at h
    exact h Da as G H k hD hG hH nd hb iv
theorem ss_setN {i : Nat} {st : Stmt} {te : TE} {f : Ro → Out (List (List D))} (p : PS X st (tAsg te (gName i))) (q : ∀ (G0 H0 : Hp) (ρ : Ro) (σ : Sg) (G H : Hp) (Q : VK), Rep T G0 H0 ρ σ G H → (f ρ).All (PostN T G H Q) → te σ H Q) :
    SndS X T Z fr st (fun ρ => (f ρ).bind fun xss => .ret (.nx (ρ.set i (some (.own2 xss))))) := by
  refine ⟨_, p, fun G0 H0 ρ σ G H D R h => ?_⟩
  rw [Out.All_bind] at h
  refine q G0 H0 ρ σ G H _ R (h.mono fun xss hd p as G1 H1 k hp gp hH nd hb iv => ?_)
  have old : ∀ b, H b = none → H0 b = none ∧ T.tub ≠ some b := fun b hb => by
    obtain ⟨f1, f2, _⟩ := fresh_slot (i := i) (s := .own []) R k hb
    exact ⟨f1, f2⟩
  refine hd _ G1 H1 ((R.step k).setMut (s := .own2 xss) ⟨p, as, rfl, gp, (old p hp).1, (old p hp).2, hH, nd, iv.move (.refl G1) fun b m => ⟨(iv.at m).1, (old b (hb b m)).1, rfl⟩⟩ fun n sn vn c h1 h2 a1 a2 => ?_) k.gs
  have hc : H c = none := by
    rcases a1 with a1 | ⟨a', as', e, e2, hm⟩
    · rw [← V.ref.inj a1]; exact hp
    · cases e
      rw [hH] at e2
      cases map_ref_inj (HO.lst.inj (Option.some.inj e2))
      exact hb c hm
  exact absurd a2 (fresh_not R k hc n sn vn h1 h2)
end
end Ev

set_option Elab.async false
set_option linter.all false
set_option autoImplicit false
set_option maxRecDepth 100000
set_option maxHeartbeats 4000000
namespace Ev
open PySem L2 Exn
/-! ### what may be raised: statements -/
section
variable {X : Cx} {T : Ap} {Z : WX} {fr : Bool} {pos : Pos} {v : Expr} {f : Ro → Out D}
theorem PPX_of {G0 H0 G H : Hp} {ρ : Ro} {σ : Sg} {En : Ends} {Q : VK} {k : D → Out Fl} {d : D} (R : Rep T G0 H0 ρ σ G H) (h : (unX ρ k d).All (EndOf Z fr T G0 H0 G En)) (hk : ∀ x, (k x).All (EndOf Z fr T G0 H0 G En) → PostE false T G H Q x) : PPX Z T G H Q σ d := by
  unfold PPX
  unfold unX at h
  split at h
  · exact hk _ h
  · exact fun cls dx G' H' s i => h σ G' H' cls dx (R.step s) s.gs i
  · exact fun cls dx G' H' s i => h σ G' H' cls dx (R.step s) s.gs i
  · exact h.elim
theorem ss_xex (he : SndP X T (PPX Z) v f) (hs : swapsWith v none pos.line X.env = pure false) : SndS X T Z fr (.Expr v pos) (fun ρ => (f ρ).bind (unX ρ fun _ => .ret (.nx ρ))) := by
  obtain ⟨te, p, q⟩ := he
  refine ⟨_, ps_expr p hs, fun G0 H0 ρ σ G H En R h => ?_⟩
  rw [Out.All_bind] at h
  exact q G0 H0 ρ σ G H _ R (h.mono fun d hd => PPX_of (k := fun _ => .ret (.nx ρ)) R hd fun x hx v G1 H1 k iv => hx σ G1 H1 (R.step k) k.gs)
theorem ss_xas {g : Tg} {tg : Expr} (he : SndP X T (PPX Z) v f) (hg : SndG X T tg g) (h1 : swapsWithSole [tg] v pos.line X.env = pure false) (h2 : swappedStores [tg] v X.env = pure none) (h3 : (assignEach [tg] X.env).map (·.2) = [assign tg X.env]) :
    SndS X T Z fr (.Assign [tg] v pos) (fun ρ => (f ρ).bind (unX ρ fun d => (Out.ofO (asgG g d ρ)).bind fun ρ1 => .ret (.nx ρ1))) := by
  obtain ⟨te, p, q⟩ := he
  refine ⟨_, ps_asg p hg h1 h2 h3, fun G0 H0 ρ σ G H En R h => ?_⟩
  rw [Out.All_bind] at h
  refine q G0 H0 ρ σ G H _ R (h.mono fun d hd => PPX_of (k := fun d => (Out.ofO (asgG g d ρ)).bind fun ρ1 => .ret (.nx ρ1)) R hd fun x hx v G1 H1 k iv => ?_)
  rw [Out.All_bind, Out.All_ofO] at hx
  obtain ⟨ρ2, e, hx⟩ := hx
  exact ⟨G0, H0, ρ, G1, x, ρ2, R.step k, iv.keep, e, fun σ2 R2 l k2 => hx σ2 G1 H1 R2 k.gs⟩
theorem ss_xrt (he : SndP X T (PPX Z) v f) : SndS X T Z false (.Return (some v) pos) (fun ρ => (f ρ).bind (unX ρ fun d => .ret (.rt d))) := by
  obtain ⟨te, p, q⟩ := he
  refine ⟨_, ps_ret p, fun G0 H0 ρ σ G H En R h => ?_⟩
  rw [Out.All_bind] at h
  exact q G0 H0 ρ σ G H _ R (h.mono fun d hd => PPX_of (Z := Z) (fr := false) (En := En) (k := fun d => .ret (.rt d)) R hd fun x hx v G1 H1 k iv => hx v G1 H1 (R.st.trans k R.t0) iv.keep)
/-! ### raise X(e), raise X() -/
def tRs (C : Addr) (fld : Str) (te : TE) : St → Hp → XK → Prop := fun σ H Q => te σ H fun y H1 => ∀ dx, H1 dx = none → Q (.ref C) (some dx) (upd H1 dx (exd dx [(fld, y)]))
variable {C fI : Addr} {B newId i : String} {bmB : List Value} {par fld : Str} {fd : FuncData} {x : Str} {e : Expr} {p kp rp : Pos} {fa : Ro → Out D}
theorem mk_made {pins : List (Addr × Obj)} {σ : St} {H1 : Hp} {s1 : Shared} {Q : XK} {u : Value} {y : V} (I1 : Inv X pins σ H1 s1) (r : Raises X (.ref C)) (ry : RelV y u) (q : ∀ dx, H1 dx = none → Q (.ref C) (some dx) (upd H1 dx (exd dx [(fld, y)]))) :
    Made (fun r s' => match r with | .ok (.ret v) => MkP X pins σ Q v s' | .ok _ => False | .error z => X.xe z s') s1.heap s1.gens s1.drawn s1.os C fld u := by
  obtain ⟨hp, g, d, t, os⟩ := s1
  intro h' tk' a dx t1 k ha hd ne oa nd
  obtain ⟨G, g1, g2⟩ := restrict h' fun b => decide (b ≠ a)
  have kG : ∀ b o, hp.get? b = some o → G.get? b = some o := fun b o e => by
    rw [g1 b (decide_eq_true (Nat.ne_of_lt (Nat.lt_of_lt_of_le (Heap.lt_size e) ha)))]
    exact k b o e
  have Gk : ∀ b o, G.get? b = some o → h'.get? b = some o := fun b o e => by
    by_cases hb : b = a
    · rw [g2 b (decide_eq_false fun z => z hb)] at e; cases e
    · rw [g1 b (decide_eq_true hb)] at e; exact e
  have Ga : G.get? a = none := g2 a (decide_eq_false fun z => z rfl)
  have ndG : G.Ns1 dx (fun y => if y = fld then some u else none) := nd.at fun o e => by rw [g1 dx (decide_eq_true ne)]; exact e
  have nx : H1 dx = none := I1.hok.fresh hd
  have J : Inv X pins σ (upd H1 dx (exd dx [(fld, y)])) ⟨G, g, d, tk', os⟩ := I1.laid (t' := tk') kG hd (exd_ok ndG (relO_put (fs := []) ry fun z => True.intro))
  exact ⟨a, _, _, ⟨G, g, d, tk', os⟩, _, .ref C, some dx, rfl, J, Gk, Ga, oa, ⟨rfl, rfl⟩, rfl, rfl, by rw [upd_ne (Ne.symm ne)]; exact I1.hok.fresh ha, rfl, J.bare, r, q dx nx⟩
theorem pmk_p (F : MkFacts X.prog X.K C fI B newId i bmB par fld fd) (r : Raises X (.ref C)) (hs : X.mg "super" = none) (room : X.A.depth + 1 < recursionLimit) (hg : Gl X x) (hm : X.mg x = some (.ref C)) {te : TE} (he : PE X e te) (hns : starEach [e] X.env = (false, eval e X.env) :: starEach [] X.env)
    (hdb : (x == ("__debug__" : Str)) = false) : PMk X (.Call (.Name x p) [e] [] rp) (tRs C fld te) := by
  intro pins s σ H Q I h
  refine wpAny_Call_Name_kw (ld_glob I hg hm ?_ hdb)
  refine PySem.W.callWith_K (h₀ := X.base) I.ok.mod.kin F.kC ?_ hns (by rfl)
  rw [hns]
  (show wpAny _ _ (spliced ((false, eval e X.env) :: backTo rp (starEach [] X.env))) _ _ s)
  refine Calls.spliced_cons (thn (he.run pins s σ H _ I h) fun u s1 ⟨y, H1, I1, r1, q1⟩ => ?_)
  refine Calls.spliced_nil (⟨I1.kIn, ?_⟩ : _ ∧ _)
  show wpAny _ _ (call (Value.ref C) [u]) _ _ _
  have G := ground_of I1 hs
  have M := mk_made (fld := fld) I1 r r1 q1
  obtain ⟨hp, g, d, t, os⟩ := s1
  refine wpAny_call (make_pos F G room ?_)
  exact fun h' tk' a dx t1 k ha hd ne oa nd => M h' tk' a dx t1 k ha hd ne oa nd
theorem pmk_0 (F : Mk0Facts X.K C B newId i bmB) (r : Raises X (.ref C)) (hg : Gl X x) (hm : X.mg x = some (.ref C)) (hdb : (x == ("__debug__" : Str)) = false) : PMk X (.Call (.Name x p) [] [] rp) (fun σ H Q => Q (.ref C) none H) := by
  intro pins s σ H Q I h
  refine wpAny_Call_Name_kw (ld_glob I hg hm ?_ hdb)
  refine PySem.W.callWith_K0 I.kIn F.kC ?_
  have kin := I.kIn
  obtain ⟨hp, g, d, t, os⟩ := s
  refine wpAny_call (make_0 F kin fun h' a t1 k ha e => ?_)
  have na : hp.get? a = none := by
    cases q : hp.get? a with
    | none => rfl
    | some o => exact absurd (Nat.lt_of_lt_of_le (Heap.lt_size q) ha) (Nat.lt_irrefl _)
  exact ⟨a, _, _, ⟨hp, g, d, t, os⟩, H, .ref C, none, rfl, I, k, na, e, ⟨rfl, rfl⟩, rfl, rfl, I.hok.fresh ha, rfl, I.bare, r, h⟩
theorem ss_rs1 (hc : X.calm = true) (tk : Takes X Z) (F : MkFacts X.prog X.K C fI B newId i bmB par fld fd) (r : Raises X (.ref C)) (hs : X.mg "super" = none) (room : X.A.depth + 1 < recursionLimit) (hg : Gl X x) (hm : X.mg x = some (.ref C)) (he : SndE X T false e fa) (hns : notStarE e = true)
    (hdb : (x == ("__debug__" : Str)) = false) : SndS X T Z fr (.Raise (some (.Call (.Name x p) [e] [] rp)) none pos) (fun ρ => (fa ρ).bind fun d => .ret (.xc (xcD C fld d) ρ)) := by
  obtain ⟨te, pe, qe⟩ := he
  refine ⟨_, ps_raise hc tk (pmk_p F r hs room hg hm pe (starEach_cons hns) hdb), fun G0 H0 ρ σ G H En R h => ?_⟩
  rw [Out.All_bind] at h
  refine qe G0 H0 ρ σ G H _ R (h.mono fun d hd v G1 H1 k iv dx hx => ?_)
  have R1 := R.step k
  have k1 : Stp T G1 H1 (upd G1 dx (exd dx [(fld, v)])) (upd H1 dx (exd dx [(fld, v)])) := .laid R1.sub R1.tub hx
  exact hd σ _ _ _ _ (R1.step k1) (k.gs.trans k1.gs) ⟨C, dx, v, rfl, rfl, rfl, upd_same, (iv.keep).mono' k1.gs⟩
theorem ss_rs0 (hc : X.calm = true) (tk : Takes X Z) (F : Mk0Facts X.K C B newId i bmB) (r : Raises X (.ref C)) (hg : Gl X x) (hm : X.mg x = some (.ref C)) (hdb : (x == ("__debug__" : Str)) = false) :
    SndS X T Z fr (.Raise (some (.Call (.Name x p) [] [] rp)) none pos) (fun ρ => .ret (.xc (xc0 C) ρ)) :=
  ⟨_, ps_raise hc tk (pmk_0 F r hg hm hdb), fun G0 H0 ρ σ G H En R h => h σ G H _ _ R (.refl G) ⟨C, rfl, rfl, rfl⟩⟩
end
/-! ### try: body, except t as n: suite -/
/-- what the clause names lets such exceptions in -/
def TestsTo (X : Cx) (t : Expr) (C : Addr) : Prop := ∀ (a : Addr) (pn pins : List (Addr × Obj)) (σ : St) (H : Hp) (s : Shared) (E : Value → Shared → Prop) (Q : Bool → Shared → Prop), Inv (X.suite a pn) pins σ H s → PySem.W.Looks (model X.prog X.w) s.heap (typeOf (.ref a)) (.ref C) →
  (∀ h', (∀ b o, s.heap.get? b = some o → h'.get? b = some o) → Q true { s with heap := h' }) →
  wpAny (model X.prog X.w) (X.A.mark (some (.ref a))) (eval t X.env) (fun c s₁ => wpAny (model X.prog X.w) (X.A.mark (some (.ref a))) (excMatches (.ref a) c) Q E s₁) E s
section
variable {X : Cx}
theorem name_suite {x : Str} {c : Value} {np : Pos} {a : Addr} {pn pins : List (Addr × Obj)} {σ : St} {H : Hp} {s : Shared} {E : Value → Shared → Prop} {Q : Value → Shared → Prop} (hc : Names X x c) (S : Inv (X.suite a pn) pins σ H s) (q : Q c s) :
    wpAny (model X.prog X.w) (X.A.mark (some (.ref a))) (eval (.Name x np) X.env) Q E s := by
  obtain ⟨hg, hdbg, hm | ⟨hm, hv, hnn⟩⟩ := hc
  · exact ld_glob (X := X.suite a pn) S hg hm q hdbg
  · exact ld_blt (X := X.suite a pn) S hg hm hv q hnn hdbg
theorem tests_one {C : Addr} {x : Str} {c : Value} {np : Pos} (hc : Names X x c) (he : PySem.W.exmOne X.K (.ref C) c = some true) : TestsTo X (.Name x np) C := fun a pn pins σ H s E Q S LT q =>
  name_suite hc S ((PySem.W.exm_one S.kIn LT he).here (q s.heap fun _ _ z => z))
theorem tests_3 {C : Addr} {x1 x2 x3 : Str} {c1 c2 c3 : Value} {p1 p2 p3 tp : Pos} {kk : Nat} (n1 : Names X x1 c1) (n2 : Names X x2 c2) (n3 : Names X x3 c3) (he : PySem.W.exmAny X.K (.ref C) [c1, c2, c3] = some true) : TestsTo X (.Tuple [.Name x1 p1, .Name x2 p2, .Name x3 p3] kk tp) C :=
    fun a pn pins σ H s E Q S LT q => by
  refine PySem.wpAny_Tuple ?_
  refine PySem.wpAny_items_cons (name_suite n1 S ?_)
  refine PySem.wpAny_items_cons (name_suite n2 S ?_)
  refine PySem.wpAny_items_cons (name_suite n3 S ?_)
  refine PySem.wpAny_items_nil ⟨by size_fits, ?_⟩
  have kp : ∀ q o, s.heap.get? q = some o → (s.heap.push { cls := .type "tuple", data := .seq [c1, c2, c3].toArray }).get? q = some o := fun _ _ z => Heap.get?_push_of_some _ z
  exact (PySem.W.exm_tup3 (S.kIn.keeps kp) (LT.keeps kp) (Heap.get?_push_size s.heap rfl) he).here (q _ kp)
end
end Ev

set_option Elab.async false
set_option linter.all false
set_option autoImplicit false
set_option maxRecDepth 100000
set_option maxHeartbeats 4000000
namespace Ev
open PySem L2 Exn
/-! ### try: body, except t as n: suite: the caught object is ours -/
theorem fly_keeps {B : Heap} {l : List PySem.Env} {a : Addr} {Z : Obj → Prop} {h h' : Heap} (f : HandSPX.FlyingZ B l a Z h) (k : ∀ b o, h.get? b = some o → h'.get? b = some o) : HandSPX.FlyingZ B l a Z h' := by
  obtain ⟨k1, k2, k3, oe, vs, T, oT, ts, he, hz, hd, h1, hn, hne, hT, hdT, h3⟩ := f
  exact ⟨fun b o e => k b o (k1 b o e), k2, Heap.FunFrames.of_keeps (fun b o e _ => ⟨o, k b o e, rfl⟩) k3, oe, vs, T, oT, ts, k _ _ he, hz, hd, h1, hn, hne, k _ _ hT, hdT, h3⟩
section
variable {X : Cx} {pins : List (Addr × Obj)} {σ : St} {H : Hp} {sI s s' : Shared} {B : Heap} {a : Addr} {o : HO}
/-- back on the ground, a new object tracked -/
theorem landedX (I : Inv X pins σ H sI) (nb : ∀ b o, sI.heap.get? b = some o → b ∉ frs X.stack → B.get? b = some o) (st : B.StaysIn s'.heap) (up : sI.heap.UpToSlots s'.heap) (os : s'.os = sI.os) (ag : PyProof.Rows.AllBare s'.gens)
    (na : H a = none) (Ba : B.get? a = none) (nfr : a ∉ frs X.stack) (new : ObjOk X.prog X.w (upd H a o) s'.heap a o) : Inv X pins σ (upd H a o) s' := by
  have nf : ∀ b ∈ frs X.stack, ∀ o, sI.heap.get? b = some o → ∃ sl, s'.heap.get? b = some { o with slots := sl } := fun b hb o e => by
    obtain ⟨_, o', e', hd⟩ := I.stack.mem hb
    rw [e] at e'; cases e'
    exact up b o e hd
  have sa : ∀ u, sI.heap.get? a ≠ some u := fun u e => by
    have z := nb a u e nfr
    rw [Ba] at z; cases z
  have J := I.call (ch := []) (h' := s'.heap) (g' := s'.gens) (t' := s'.toks) (d' := s'.drawn) (H' := upd H a o)
    ⟨fun b o e _ hb _ => st b o (nb b o e hb), fun b o e _ hb _ => nf b hb o e, fun b u e n _ => by rw [upd_ne (fun z => sa u (by rw [← z]; exact e))]; exact n, fun b o e _ => by
      by_cases hb : b ∈ frs X.stack
      · obtain ⟨sl, q⟩ := nf b hb o e
        exact ⟨_, q⟩
      · exact ⟨o, st b o (nb b o e hb)⟩, fun b xs e => by rw [upd_ne (ne_of_none e na)]; exact e, fun b u xs e => by rw [upd_ne (ne_of_none e na)]; exact e, fun b ps e => ⟨#[], by rw [upd_ne (ne_of_none e na), e]; simp⟩⟩
    ((I.inGround nb).laidN st na new) ag (fun _ z => nomatch z)
  obtain ⟨a1, a2, a3, a4, a5⟩ := s'
  have e5 : a5 = sI.os := os
  subst e5
  exact J
theorem toSuite (I : Inv X pins σ H s) (a : Addr) : Inv (X.suite a (X.pn ++ pins)) [] σ H s :=
  ⟨I.ok.suite _ _, I.os, I.bare, I.base, I.loc, I.cell, I.free, I.freeC, fun p hp => I.pin p (by rw [List.append_nil] at hp; exact hp), I.hok, I.len⟩
theorem ofSuite {pn' : List (Addr × Obj)} (I : Inv (X.suite a (X.pn ++ pins)) pn' σ H s) (ok : X.Ok) : Inv X pins σ H s :=
  ⟨ok, I.os, I.bare, I.base, I.loc, I.cell, I.free, I.freeC, fun p hp => I.pin p (List.mem_append_left _ hp), I.hok, I.len⟩
/-- what the clause wishes of an exception of the body -/
def wX (yes : List Nat) (i : Nat) (ts : TS) (En : Ends) : WX := fun cls d σ H =>
  ∃ C : Addr, cls = .ref C ∧ C ∈ yes ∧ ∀ a, H a = none → ts { nx := fun σ' H' => En.nx (σ'.set i none) H', rt := En.rt, bk := fun σ' H' => En.bk (σ'.set i none) H', ct := fun σ' H' => En.ct (σ'.set i none) H' } (σ.set i (some (.ref a))) (upd H a (exq a C d))
theorem ps_try_x {n : Str} {t : Expr} {yes : List Nat} {i : Nat} {body suite : List Stmt} {b₀ : Stmt} {pos pos' : Pos} {tb : WX → TS} {ts : TS} (hs : X.stack = X.env :: X.outer) (hf : X.env.frame = some X.env.locals) (hN : X.N.Nodup) (hi : X.N[i]? = some n) (hln : X.env.kindOf n = some .local)
    (hc : ∀ C ∈ yes, TestsTo X t C) (hb : ∀ (W : WX) (pn : List (Addr × Obj)) (xe : Value → Shared → Prop), Takes (X.tr pn xe) W → PassesOwn (model X.prog X.w) X.A X.env xe → PSs (X.tr pn xe) body (tb W))
    (hsu : ∀ (a : Addr) (pn : List (Addr × Obj)), PSs (X.suite a pn) (b₀ :: suite) ts) :
    PS X (.Try body [.ExceptHandler (some t) (some n) (b₀ :: suite) pos'] [] [] pos) (fun En σ H => tb (wX yes i ts En) En σ H) := by
  refine ⟨fun pins s σ H En I h => ?_⟩
  have ok := I.ok
  have hfr : X.A.frames = some (X.env :: X.outer) := by rw [ok.frames, hs]
  have hloc : Loc X.env.scope n := .inl hln
  refine wpAny_Try_except ?_
  refine wpAny_mono ((hb (wX yes i ts En) (X.pn ++ pins) (fun e s₁ => wpAny (model X.prog X.w) X.A (noteFrame e X.env) (fun _ s₂ => wpAny (model X.prog X.w) X.A (setFlight e none) (fun _ s₃ =>
    wpAny (model X.prog X.w) X.A (handleBy e X.env [.ExceptHandler (some t) (some n) (b₀ :: suite) pos']) (SP X pins En) X.xe s₃) X.xe s₂) X.xe s₁) (fun u s' xx => ?_) PassesOwn.looking).run [] s σ H En (I.toTry _) h) (fun f s1 hsp => ?_) (fun e s1 he => he)
  · -- the catch
    obtain ⟨a, B, sI, pins', σ', H', cls, d, rfl, J', nb, up, sky, na, os, ag, C, rfl, hC, hyes⟩ := xx
    have J : Inv X pins σ' H' sI := J'.ofTry ok
    have sky' : Sky B (X.env :: X.outer) a (Zc (.ref C) d) X.env.locals s'.heap := by rw [← hs]; exact sky
    show wpAny (model X.prog X.w) X.A (noteFrame (.ref a) X.env) _ _ _
    refine Sky.land Zc.steady hfr hf sky' fun h3 fl3 up3 => ?_
    have J3 : Inv X pins σ' H' { s' with heap := h3 } := J.landed nb fl3.1 (up.trans up3) os ag
    obtain ⟨oe3, vs3, he3, hz3, hd3⟩ := fl3.there
    have nfr : a ∉ frs (X.env :: X.outer) := fun hm => by
      obtain ⟨_, o', e', hnf⟩ := fl3.2.2.1.mem hm
      rw [he3] at e'; cases e'
      exact hnf _ hd3
    refine wpAny_handleBy_cons (codeAny_handlers_test ?_) (by intro q; cases q)
    have LT : PySem.W.Looks (model X.prog X.w) h3 (typeOf (.ref a)) (.ref C) := fun A Q E s k q => wpAny_typeOf_ref (k _ _ he3) (by rw [hz3.1]; exact q)
    refine hc C hC a (X.pn ++ pins) [] σ' H' { s' with heap := h3 } _ _ (toSuite J3 a) LT fun h5 k5 => ?_
    have fl5 := fly_keeps fl3 k5
    have up5 : s'.heap.UpToSlots h5 := up3.trans (Heap.UpToSlots.of_keeps k5)
    refine codeAny_handlers_suite_as ?_
    refine HandSPX.lands_againZ fl5 fun h4 fl4 up4 => ?_
    obtain ⟨oe4, vs4, he4, hz4, hd4⟩ := fl4.there
    have J4 : Inv X pins σ' (upd H' a (exq a C d)) { s' with heap := h4 } := landedX J nb fl4.1 ((up.trans up5).trans up4) os ag na fl4.2.1 (by rw [hs]; exact nfr) (exq_ok he4 hz4.1 hz4.2 hd4)
    have S4 := toSuite J4 a
    refine store_ok (X := X.suite a (X.pn ++ pins)) (v := .ref a) S4 hN hi hloc rfl (fun s5 S5 => ?_) (.inr hln)
    refine wpAny_mono ((hsu a (X.pn ++ pins)).run [] s5 _ _ _ S5 (hyes a na)) (fun f s6 hsp => ?_) (fun _ _ z => False.elim z)
    have end_ : ∀ {σ6 : St} {H6 : Hp} {Q : Shared → Prop}, Inv (X.suite a (X.pn ++ pins)) [] σ6 H6 s6 → (∀ s7, Inv X pins (σ6.set i none) H6 s7 → Q s7) →
        wpAny (model X.prog X.w) X.A (do bindName X.env n .none; unbindBehindTheSuite X.env n pos') (fun _ s7 => Q s7) X.xe s6 := fun {σ6 H6 Q} S6 hq => gone_ok (ofSuite S6 ok) hN hi hln hq
    cases f with
    | next =>
      obtain ⟨σ6, H6, S6, q6⟩ := hsp
      exact end_ S6 fun s7 J7 => ⟨_, _, J7, q6⟩
    | brk =>
      obtain ⟨σ6, H6, S6, q6⟩ := hsp
      exact end_ S6 fun s7 J7 => ⟨_, _, J7, q6⟩
    | cont =>
      obtain ⟨σ6, H6, S6, q6⟩ := hsp
      exact end_ S6 fun s7 J7 => ⟨_, _, J7, q6⟩
    | ret u =>
      obtain ⟨v6, σ6, H6, S6, r6, q6⟩ := hsp
      exact end_ S6 fun s7 J7 => ⟨_, _, _, J7, r6, q6⟩
  · cases f with
    | next =>
      obtain ⟨σ', H', J', q⟩ := hsp
      exact wpAny_execs_nil ⟨σ', H', J'.ofTry ok, q⟩
    | brk =>
      obtain ⟨σ', H', J', q⟩ := hsp
      exact ⟨σ', H', J'.ofTry ok, q⟩
    | cont =>
      obtain ⟨σ', H', J', q⟩ := hsp
      exact ⟨σ', H', J'.ofTry ok, q⟩
    | ret u =>
      obtain ⟨v, σ', H', J', r, q⟩ := hsp
      exact ⟨v, σ', H', J'.ofTry ok, r, q⟩
end
section
variable {X : Cx} {T : Ap} {Z : WX} {fr : Bool} {pos pos' : Pos}
/-- what a block does, as one wish -/
def tSs (T : Ap) (Z : WX) (fr : Bool) (f : Ro → Out Fl) : TS := fun En σ H => ∃ (G0 H0 : Hp) (ρ : Ro) (G : Hp), Rep T G0 H0 ρ σ G H ∧ (f ρ).All (EndOf Z fr T G0 H0 G En)
theorem SndSs.pe {sts : List Stmt} {f : Ro → Out Fl} (h : SndSs X T Z fr sts f) : PSs X sts (tSs T Z fr f) := by
  obtain ⟨t, p, q⟩ := h
  exact ⟨fun pins s σ H En I ⟨G0, H0, ρ, G, R, h⟩ => p.run pins s σ H En I (q G0 H0 ρ σ G H En R h)⟩
theorem set_none_get {α : Type} {l : List (Option α)} {i j : Nat} {s : α} (h : (l.set i none)[j]? = some (some s)) : i ≠ j ∧ l[j]? = some (some s) := by
  rw [List.getElem?_set] at h
  split at h
  · split at h <;> cases h
  · rename_i n; exact ⟨n, h⟩
theorem Rep.gone {G0 H0 G H : Hp} {ρ : Ro} {σ : Sg} (R : Rep T G0 H0 ρ σ G H) (i : Nat) : Rep T G0 H0 (ρ.set i none) (σ.set i none) G H :=
  R.forget (by simp [R.len]) fun j s h => by
    obtain ⟨n, e⟩ := set_none_get h
    exact ⟨e, List.getElem?_set_ne n⟩
theorem caught_is {G : Hp} {cls : Value} {dx : Option Addr} {d : D} {P : D → Prop} {yes : List Nat} (i : IsX T G cls dx d) (hq : (isxD yes [] d).All P) : ∃ C : Addr, cls = .ref C ∧ C ∈ yes ∧ (∃ b : Bool, P (.bool b)) ∧ ∀ a, G a = none → Is T (upd G a (exq a C dx)) (.ref a) d := by
  have key : ∀ c : Nat, (isxV yes [] (c : Int)).All P → c ∈ yes ∧ ∃ b : Bool, P (.bool b) := fun c h => by
    obtain ⟨b, hb, ⟨_, z⟩ | ⟨_, z⟩⟩ := isx_say h
    · exact ⟨z, b, hb⟩
    · cases z
  unfold IsX at i
  split at i
  · obtain ⟨C, rfl, rfl, rfl⟩ := i
    obtain ⟨k1, k2⟩ := key C hq
    exact ⟨C, rfl, k1, k2, fun a ha => .xc0 upd_same (.inr rfl)⟩
  · obtain ⟨C, b, v, rfl, rfl, rfl, h4, h5⟩ := i
    obtain ⟨k1, k2⟩ := key C hq
    refine ⟨C, rfl, k1, k2, fun a ha => ?_⟩
    have s : Sub G (upd G a (exq a C (some b))) := fun x o e => by rw [upd_ne (fun z => by rw [z, ha] at e; cases e)]; exact e
    exact .xc1 upd_same (.inr rfl) (s _ _ h4) (h5.mono' s)
  · exact i.elim
theorem ss_tryx {n : Str} {t : Expr} {yes : List Nat} {i : Nat} {body suite : List Stmt} {f g : Ro → Out Fl} (hs : X.stack = X.env :: X.outer) (hf : X.env.frame = some X.env.locals) (hN : X.N.Nodup) (hi : X.N[i]? = some n) (hln : X.env.kindOf n = some .local)
    (hc : ∀ C ∈ yes, TestsTo X t C) (hb : ∀ (W : WX) (pn : List (Addr × Obj)) (xe : Value → Shared → Prop), Takes (X.tr pn xe) W → PassesOwn (model X.prog X.w) X.A X.env xe → SndSs (X.tr pn xe) T W fr body f)
    (hne : suite ≠ []) (hsu : ∀ (a : Addr) (pn : List (Addr × Obj)), SndSs (X.suite a pn) T (fun _ _ _ _ => False) fr suite g) :
    SndS X T Z fr (.Try body [.ExceptHandler (some t) (some n) suite pos'] [] [] pos) (fun ρ => (f ρ).bind fun
      | .xc d ρ1 => (isxD yes [] d).bind fun _ => (g (ρ1.set i (some (.val d)))).bind fun
        | .nx ρ2 => .ret (.nx (ρ2.set i none))
        | .rt d => .ret (.rt d)
        | _ => .bad
      | fl => .ret fl) := by
  cases suite with
  | nil => exact absurd rfl hne
  | cons b₀ suite =>
  refine ⟨_, ps_try_x (tb := fun W => tSs T W fr f) (ts := tSs T (fun _ _ _ _ => False) fr g) hs hf hN hi hln hc (fun W pn xe tk pa => (hb W pn xe tk pa).pe) (fun a pn => (hsu a pn).pe), fun G0 H0 ρ σ G H En R h => ?_⟩
  rw [Out.All_bind] at h
  refine ⟨G0, H0, ρ, G, R, h.mono fun fl hfl => ?_⟩
  cases fl with
  | nx ρ1 => exact hfl
  | bk ρ1 => exact hfl
  | ct ρ1 => exact hfl
  | rt d => exact hfl
  | xc d ρ1 =>
    intro σ' G' H' cls dx R' s' ix
    rw [Out.All_bind] at hfl
    obtain ⟨C, h1, h2, ⟨_, h3⟩, h4⟩ := caught_is ix hfl
    refine ⟨C, h1, h2, fun a ha => ?_⟩
    have k1 : Stp T G' H' (upd G' a (exq a C dx)) (upd H' a (exq a C dx)) := .laid R'.sub R'.tub ha
    have ga : G' a = none := by
      cases q : G' a with
      | none => rfl
      | some o => rw [R'.sub a o q] at ha; cases ha
    refine ⟨G0, H0, _, _, (R'.step k1).setVal (h4 a ga), ?_⟩
    rw [Out.All_bind] at h3
    refine h3.mono fun fl hq => ?_
    cases fl with
    | nx ρ2 => exact fun σ2 G2 H2 R2 s2 => hq _ G2 H2 (R2.gone i) (s'.trans (k1.gs.trans s2))
    | rt d => exact hq
    | bk ρ2 => exact hq.elim
    | ct ρ2 => exact hq.elim
    | xc d2 ρ2 => exact hq.elim
end
end Ev

set_option Elab.async false
set_option linter.all false
set_option autoImplicit false
set_option maxRecDepth 100000
set_option maxHeartbeats 8000000
namespace Ev
open PySem L2
inductive Ns where
  | s (st : Stmt)
  | l (sts : List Stmt)
def lclB (S : Sx) (x : Str) : Bool := match S.sc.names.lookup x with
  | some .local => true
  | _ => false
/-- name = value -/
def setB (C : Ck) (S : Sx) (i : Nat) (y : Str) (py : Pos) : Expr → Bool
  | .ListComp _ _ scope p => decide (C.N[i]? = some y) && (lclB S y && ((py.line == p.line) && !(scope.names.any fun (n, k) => n == y && (k == .local || k == .cell))))
  | .SetComp .. => false
  | .DictComp .. => false
  | _ => decide (C.N[i]? = some y) && locB S y
/-- name = [..], the name captured -/
def setCB (C : Ck) (S : Sx) (i : Nat) (y : Str) : Bool := decide (C.N[i]? = some y) && (match S.sc.names.lookup y with | some .cell => S.fn y | _ => false)
def isFrz : S → Option Nat
  | .frz i => some i
  | _ => none
def isFrz2 : S → Option Nat
  | .frz2 i => some i
  | _ => none
def isWip : S → Option (List Nat)
  | .wip vs => some vs
  | _ => none
def tgtB : Expr → Bool
  | .Tuple .. => true
  | _ => false
def valB : Expr → Bool
  | .Tuple vs _ _ => vs.all (foldedForSure 8)
  | _ => true
def tryB (C : Ck) (S : Sx) (xs : List Str) (yes : List Nat) : Expr → Bool
  | .Tuple [.Name x1 _, .Name x2 _, .Name x3 _] _ _ => decide (xs = [x1, x2, x3]) && (glB S x1 && (glB S x2 && (glB S x3 && (!(x1 == ("__debug__" : Str)) && (!(x2 == ("__debug__" : Str)) && (!(x3 == ("__debug__" : Str)) && decide ((xs, yes) ∈ C.τ.xc.trys)))))))
  | .Name x1 _ => decide (xs = [x1]) && (glB S x1 && (!(x1 == ("__debug__" : Str)) && decide ((xs, yes) ∈ C.τ.xc.trys)))
  | _ => false
def chkS (C : Ck) (S : Sx) : Ev.S → Ns → Bool
  | .nil, m => match m with
    | .l [] => true
    | _ => false
  | .seq s r, m => match m with
    | .l sts => (match isFrz s with
      | some _ => chkS C S r (.l sts)
      | none => (match isWip s with
        | some _ => chkS C S r (.l sts)
        | none => (match isFrz2 s with
          | some _ => chkS C S r (.l sts)
          | none => (match sts with
            | st :: more => chkS C S s (.s st) && chkS C S r (.l more)
            | [] => false))))
    | _ => false
  | .asg g e, m => match m with
    | .s (.Assign [t] v _) => (match g, t with
      | .nm i, .Name y py => setB C S i y py v && chk C e S (.e v)
      | g, t => tgtB t && (chkG C S g t && (!compB v && (okSwap S.sc t v && chk C e S (.e v)))))
    | _ => false
  | .unl g e, m => match m with
    | .s (.Assign [.Tuple es k tp] v _) => (C.cm && !isTupE v) && (listG g && (chkGs C S g es && chk C e S (.e v)))
    | _ => false
  | .own i e, m => match m with
    | .s (.Assign [.Name y py] v _) => setB C S i y py v && (frE e && chk C e S (.e v))
    | _ => false
  | .par i j oi oj a b, m => match m with
    | .s (.Assign [.Tuple [.Name x px, .Name y py] _ _] (.Tuple [v, w] _ _) _) => (C.cm && (!oi || frE a)) && (!oj && (decide (C.N[i]? = some x) && (decide (C.N[j]? = some y) && (decide (i ≠ j) && (lclB S x && (lclB S y && (!(y == x) && ((py.line == px.line) &&
        (notStarE v && (notStarE w && (!([v, w].all (foldedForSure 8)) && (!([v, w].all (constantsAlone 8)) && ((S.sc.kind == .function) && (chk C a S (.e v) && chk C b S (.e w)))))))))))))))
    | _ => false
  | .app i e, m => match m with
    | .s (.Expr (.Call (.Attribute (.Name x _) m apos) [v] [] cpos) _) => decide (m = "append") && (nmB C S i x && (notStarE v && ((apos.endLine == cpos.line) && chk C e S (.e v))))
    | _ => false
  | .pop g i, m => match m with
    | .s (.Assign [t] (.Call (.Attribute (.Name x _) m apos) [] [] cpos) _) => decide (m = "pop") && (nmB C S i x && ((apos.endLine == cpos.line) && (notStarE t && chkG C S g t)))
    | _ => false
  | .setix i ix e, m => match m with
    | .s (.Assign [.Subscript (.Name x _) y _] v _) => nmB C S i x && (plainIxB y && (chk C e S (.e v) && chk C ix S (.e y)))
    | _ => false
  | .ife c a b, m => match m with
    | .s (.If x p q _) => chk C c S (.e x) && (chkS C S a (.l p) && chkS C S b (.l q))
    | _ => false
  | .for_ g it b, m => match m with
    | .s (.For tg iter body [] _) => (C.cm && notSetE iter) && (chkG C S g tg && (chk C it S (.i tg iter) && chkS C S b (.l body)))
    | _ => false
  | .whl c b, m => match m with
    | .s (.While x body [] _) => chk C c S (.e x) && chkS C S b (.l body)
    | _ => false
  | .ret e, m => match m with
    | .s (.Return (some x) _) => (!C.fr || frE e) && chk C e S (.e x)
    | _ => false
  | .expr e, m => match m with
    | .s (.Expr x _) => !compB x && chk C e S (.e x)
    | _ => false
  | .brk, m => match m with
    | .s (.Break _) => true
    | _ => false
  | .cnt, m => match m with
    | .s (.Continue _) => true
    | _ => false
  | .pass, m => match m with
    | .s (.Pass _) => true
    | _ => false
  | .raise, m => match m with
    | .s (.Raise ..) => true
    | _ => false
  | .frz .., _ => false
  | .frz2 .., _ => false
  | .lcl2 i own g it e, m => match m with
    | .s (.Assign [.Name y py] (.ListComp elt [⟨tg, iter, [], z⟩] scope p) _) => (setB C S i y py (.ListComp elt [⟨tg, iter, [], z⟩] scope p) || setCB C S i y) && (frE e && chk C (.lc own g it (.con (.bool true)) e) S (.e (.ListComp elt [⟨tg, iter, [], z⟩] scope p)))
    | _ => false
  | .app2 i jx e, m => match m with
    | .s (.Expr (.Call (.Attribute (.Subscript (.Name x _) j _) m apos) [v] [] cpos) _) => decide (m = "append") && (nmB C S i x && (plainIxB j && (notStarE v && ((apos.endLine == cpos.line) && (chk C jx S (.e j) && chk C e S (.e v))))))
    | _ => false
  | .new2 i, m => match m with
    | .s (.Expr (.Call (.Attribute (.Name x _) m apos) [.List [] _] [] cpos) _) => decide (m = "append") && (nmB C S i x && (apos.endLine == cpos.line))
    | _ => false
  | .swp2 k i jx ix e, m => match m with
    | .s (.Assign [.Tuple [.Name y q, .Subscript (.Subscript (.Name x _) j _) l _] _ _] v _) => (C.cm && chkG C S (.nm k) (.Name y q)) && (nmB C S i x && (plainIxB j && (plainIxB l && (!compB v && (chk C e S (.e v) && (chk C jx S (.e j) && chk C ix S (.e l)))))))
    | _ => false
  | .par0 i j a, m => match m with
    | .s (.Assign [.Tuple [.Name x px, .Name y py] _ _] (.Tuple [v, .List [] pl] _ _) _) => (C.cm && decide (C.N[i]? = some x)) && (decide (C.N[j]? = some y) && (decide (i ≠ j) && (lclB S x && (lclB S y && (!(y == x) && ((py.line == px.line) &&
        (notStarE v && (!([v, .List [] pl].all (foldedForSure 8)) && (!([v, .List [] pl].all (constantsAlone 8)) && ((S.sc.kind == .function) && chk C a S (.e v)))))))))))
    | _ => false
  | .pdl i j k v b, m => match m with
    | .s (.Assign [.Tuple [.Name x px, .Name y py] _ _] (.Tuple [.Dict [some kx] [vx] pd, w] _ _) _) => (C.cm && decide (C.N[i]? = some x)) && (decide (C.N[j]? = some y) && (decide (i ≠ j) && (lclB S x && (lclB S y && (!(y == x) && ((py.line == px.line) &&
        (notStarE w && (!([.Dict [some kx] [vx] pd, w].all (foldedForSure 8)) && (!([.Dict [some kx] [vx] pd, w].all (constantsAlone 8)) && ((S.sc.kind == .function) && (chk C k S (.e kx) && (chk C v S (.e vx) && chk C b S (.e w)))))))))))))
    | _ => false
  | .popx i, m => match m with
    | .s (.Expr (.Call (.Attribute (.Name x _) m apos) [] [] cpos) _) => decide (m = "pop") && (nmB C S i x && (apos.endLine == cpos.line))
    | _ => false
  | .wip .., _ => false
  | .tset i j e, m => match m with
    | .s (.Assign [.Subscript (.Name x _) (.Constant (.int z) _ _) _] v _) => decide (z = (j : Int)) && (nmB C S i x && chk C e S (.e v))
    | _ => false
  | .tdvm i j g e, m => match m with
    | .s (.Assign [.Tuple [.Subscript (.Name x _) (.Constant (.int z) _ _) _, t] _ _] v _) => (C.cm && decide (z = (j : Int))) && (nmB C S i x && (notStarE t && (chkG C S g t && (!compB v && (!isTupE v && chk C e S (.e v))))))
    | _ => false
  | .fori g i b, m => match m with
    | .s (.For (.Tuple es k tp) (.Call (.Attribute (.Name x _) nm apos) [] [] cpos) body [] _) => (C.cm && decide (nm = "items")) && (nmB C S i x && ((apos.endLine == cpos.line) && (chkG C S g (.Tuple es k tp) && chkS C S b (.l body))))
    | _ => false
  | .dnew i _, m => match m with
    | .s (.Assign [.Name y _] (.Dict [] [] _) _) => decide (C.N[i]? = some y) && locB S y
    | _ => false
  | .dnew1 i t k v, m => match m with
    | .s (.Assign [.Name y _] (.Dict [some a] [b] _) _) => t && (decide (C.N[i]? = some y) && (locB S y && (chk C k S (.e a) && chk C v S (.e b))))
    | _ => false
  | .dof i _ e, m => match m with
    | .s (.Assign [.Name y _] (.Call (.Name f _) [v] [] _) _) => (C.cm && S.all && isB S "dict" f) && (decide (C.N[i]? = some y) && (locB S y && (notStarE v && chk C e S (.e v))))
    | _ => false
  | .dset i k v, m => match m with
    | .s (.Assign [.Subscript (.Name x _) a _] b _) => nmB C S i x && (chk C k S (.e a) && chk C v S (.e b))
    | _ => false
  | .dmov i j, m => match m with
    | .s (.Assign [.Name x _] (.Name y _) _) => decide (C.N[i]? = some x) && (locB S x && nmB C S j y)
    | _ => false
  | .fork g i b, m => match m with
    | .s (.For tg (.Name x _) body [] _) => (C.cm && nmB C S i x) && (chkG C S g tg && chkS C S b (.l body))
    | _ => false
  | .rs1 x k par fld a, m => match m with
    | .s (.Raise (some (.Call (.Name y _) [e] [] _)) none _) => (C.cm && decide (y = x)) && (glB S x && (!(x == ("__debug__" : Str)) && (decide ((x, k, par, fld) ∈ C.τ.xc.mks) && (notStarE e && chk C a S (.e e)))))
    | _ => false
  | .rs0 x k, m => match m with
    | .s (.Raise (some (.Call (.Name y _) [] [] _)) none _) => (C.cm && decide (y = x)) && (glB S x && (!(x == ("__debug__" : Str)) && decide ((x, k) ∈ C.τ.xc.mk0s)))
    | _ => false
  | .xex e, m => match m with
    | .s (.Expr x _) => C.cm && (!compB x && chkX C S e x)
    | _ => false
  | .xas g e, m => match m with
    | .s (.Assign [t] v _) => C.cm && (notStarE t && (chkG C S g t && (!compB v && (!isTupE v && chkX C S e v))))
    | _ => false
  | .xrt e, m => match m with
    | .s (.Return (some x) _) => C.cm && (!C.fr && chkX C S e x)
    | _ => false
  | .tryx xs yes i b s, m => match m with
    | .s (.Try body [.ExceptHandler (some t) (some n) suite _] [] [] _) => (C.cm && decide (C.N[i]? = some n)) && (lclB S n && (tryB C S xs yes t && (!suite.isEmpty && (chkS C S b (.l body) && chkS { C with cm := false } S s (.l suite)))))
    | _ => false
  | .insl .., _ => false
  | .fset .., _ => false
section
variable {C : Ck} {n : Nat} {S : Sx} {X : Cx} {T : Ap} {pos : Pos}
theorem Gd.lcl (g : Gd C n S T X) {x : Str} (h : lclB S x = true) : X.env.scope.names.lookup x = some .local := by
  rw [g.sc]
  unfold lclB at h
  split at h
  · assumption
  · cases h
theorem set_of {i : Nat} {y : Str} {py : Pos} {v : Expr} {f : Ro → Out D} (g : Gd C n S T X) (h : setB C S i y py v = true) (hc : compB v = false) (he : SndE X T false v f) : SetE X T i (.Assign [.Name y py] v pos) f := by
  have h' : (decide (C.N[i]? = some y) && locB S y) = true := by cases v <;> first | exact h | cases hc
  obtain ⟨h1, h2⟩ := bt h'
  obtain ⟨l1, l2⟩ := g.loc h2
  obtain ⟨te, p, q⟩ := he
  exact ⟨te, ps_set g.nd (by rw [g.hN]; exact of_decide_eq_true h1) l1 p (sw_plain hc) l2, q⟩
theorem set_ofF {i : Nat} {y : Str} {py : Pos} {v : Expr} {f : Ro → Out D} (g : Gd C n S T X) (h : setB C S i y py v = true) (hc : compB v = false) (he : SndF X T v f) : SetF X T i (.Assign [.Name y py] v pos) f := by
  have h' : (decide (C.N[i]? = some y) && locB S y) = true := by cases v <;> first | exact h | cases hc
  obtain ⟨h1, h2⟩ := bt h'
  obtain ⟨l1, l2⟩ := g.loc h2
  obtain ⟨te, p, q⟩ := he
  exact ⟨te, ps_set g.nd (by rw [g.hN]; exact of_decide_eq_true h1) l1 p (sw_plain hc) l2, q⟩
theorem kfun (g : Gd C n S T X) (h : (S.sc.kind == .function) = true) : X.env.scope.kind = .function := by
  rw [g.sc]
  exact eq_of_beq h
/-- name = [.. for ..] -/
theorem set_lc {i : Nat} {y : Str} {py : Pos} {e : E} {elt : Expr} {gs : List Comprehension} {scope : Scope} {p : Pos} (g : Gd C n S T X) (hk : X.env.scope.kind = .function) (h : setB C S i y py (.ListComp elt gs scope p) = true) (he : chk C e S (.e (.ListComp elt gs scope p)) = true) :
    SetF X T i (.Assign [.Name y py] (.ListComp elt gs scope p) pos) (ev (Γof C n) false e) := by
  obtain ⟨q1, q2, q34⟩ := bt3 h
  obtain ⟨q3, q4⟩ := bt q34
  have hsw : swapsWith (.ListComp elt gs scope p) (some (.Name y py)) pos.line X.env = pure true := sw_true hk (g.lcl q2) q3 (not_t q4)
  cases e <;> simp only [chk, Nd.x] at he <;> try (cases he; done)
  case lc2 own own2 gg it gg2 it2 et =>
    split at he
    · rename_i y' tg iter z tg1 iter1 z1 scope' pos' e
      cases e
      obtain ⟨a1, a2, he⟩ := bt3 he
      obtain ⟨a3, a4, he⟩ := bt3 he
      obtain ⟨a5, a6, he⟩ := bt3 he
      obtain ⟨a7, a8, he⟩ := bt3 he
      obtain ⟨a9, a10, he⟩ := bt3 he
      obtain ⟨a11, a12, a13⟩ := bt3 he
      obtain ⟨hcm, a1⟩ := bt a1
      cases of_decide_eq_true a1
      cases of_decide_eq_true a2
      have hi := sound (T := T) it g a5
      have hown : (own.map fun i => (((C.N[i]?).getD "", i) : Str × Nat)).map (·.2) = own := by
        rw [List.map_map]
        exact List.map_id _
      have hi1 : ∀ (s : Shared) (H : Hp) (cc : Addr) (cl : List (Str × Addr)) (fp : List Addr), SndI (X.blk s H scope (compEnvC scope cl cc X.env) fp) T false tg1 iter1 (ev (Γof C n) false it2) := fun s H cc cl fp => by
        have q := sound (T := T) it2 (g.blk s H scope cl cc fp) a12
        exact q false
      have hel : ∀ (s : Shared) (H : Hp) (cc : Addr) (cl : List (Str × Addr)) (fp : List Addr), SndE (X.blk s H scope (compEnvC scope cl cc X.env) fp) T false elt (ev (Γof C n) false et) := fun s H cc cl fp => by
        have he := sound (T := T) et (g.blk s H scope cl cc fp) a13
        exact he.e false
      refine ⟨_, ps_setLc2 (i := i) (pos := p) (spos := pos) (vs1 := own2) (g.calm hcm) g.nd (by rw [g.hN]; exact of_decide_eq_true q1) (g.lcl q2) hsw (hi true).pi (own := own.map fun i => ((C.N[i]?).getD "", i)) (by rw [g.hN, g.sc]; exact blkOk_by a6) (by rw [hown]; exact fun i hi => of_decide_eq_true (List.all_eq_true.mp a11 i hi))
        (fun s H cc cl fp => chkG_ok (T := T) (g.blk s H scope cl cc fp) gg tg a7) (fun _ _ _ _ _ => pts_yes (T := T)) (fun s H cc cl fp => (hi1 s H cc cl fp).pi) (fun s H cc cl fp => chkG_ok (T := T) (g.blk s H scope cl cc fp) gg2 tg1 a9) (fun _ _ _ _ _ => pts_yes (T := T)) (fun s H cc cl fp => (hel s H cc cl fp).pe) (folded_of a3 _) (fun env => folded_of a4 env),
        fun G0 H0 ρ σ G H Q R h => ?_⟩
      rw [hown]
      exact lc2_reads a8 a10 R h
    · cases he
  rename_i own gg it c et
  split at he
  · rename_i y' tg iter ifs z scope' pos' e
    cases e
    obtain ⟨h1, h2, h3⟩ := bt3 he
    obtain ⟨h3, h4, h5⟩ := bt3 h3
    obtain ⟨h5, h6, h7⟩ := bt3 h5
    obtain ⟨hcm, h1⟩ := bt h1
    cases of_decide_eq_true h1
    have hi := sound (T := T) it g h3
    have hown : (own.map fun i => (((C.N[i]?).getD "", i) : Str × Nat)).map (·.2) = own := by
      rw [List.map_map]
      exact List.map_id _
    obtain ⟨h8, h9⟩ := bt h7
    have ht : ∀ (s : Shared) (H : Hp) (cc : Addr) (cl : List (Str × Addr)) (fp : List Addr), PTs (X.blk s H scope (compEnvC scope cl cc X.env) fp) ifs (tT T (ev (Γof C n) true c)) := fun s H cc cl fp => by
      split at h8
      · rw [yes_of h8]; exact pts_yes
      · have hc := sound (T := T) c (g.blk s H scope cl cc fp) h8
        exact pts_one hc.t.pt
      · cases h8
    have he : ∀ (s : Shared) (H : Hp) (cc : Addr) (cl : List (Str × Addr)) (fp : List Addr), SndE (X.blk s H scope (compEnvC scope cl cc X.env) fp) T false elt (ev (Γof C n) false et) := fun s H cc cl fp => by
      have he := sound (T := T) et (g.blk s H scope cl cc fp) h9
      exact he.e false
    have hin : gg.inside ((own.map fun i => (((C.N[i]?).getD "", i) : Str × Nat)).map (·.2)) = true := by rw [hown]; exact h6
    refine ⟨_, ps_setLc (i := i) (pos := p) (spos := pos) (g.calm hcm) g.nd (by rw [g.hN]; exact of_decide_eq_true q1) (g.lcl q2) hsw (hi true).pi (own := own.map fun i => ((C.N[i]?).getD "", i)) (by rw [g.hN, g.sc]; exact blkOk_by h4) (fun s H cc cl fp => chkG_ok (T := T) (g.blk s H scope cl cc fp) gg tg h5) ht (fun s H cc cl fp => (he s H cc cl fp).pe) (folded_of h2 _), fun G0 H0 ρ σ G H Q R h => ?_⟩
    refine lc_reads hin R ?_
    rw [hown]
    exact h
  · cases he
theorem SetF.only {i : Nat} {st : Stmt} {f : Ro → Out D} (h : SetF X T i st f) : SetF X T i st (onlyL f) := by
  obtain ⟨te, p, q⟩ := h
  exact ⟨te, p, fun G0 H0 ρ σ G H Q R h => q G0 H0 ρ σ G H Q R ((All_onlyL.mp h).mono fun d ⟨xs, e, hd⟩ => by rw [e]; exact hd)⟩
theorem set_any {i : Nat} {y : Str} {py : Pos} {e : E} {v : Expr} (g : Gd C n S T X) (hk : X.env.scope.kind = .function) (h : setB C S i y py v = true) (he : chk C e S (.e v) = true) : SetE X T i (.Assign [.Name y py] v pos) (ev (Γof C n) false e) := by
  have hs := sound (T := T) e g he
  cases hc : compB v with
  | false => exact set_of g h hc (hs.e false)
  | true =>
    cases v <;> simp only [compB] at hc <;> try (cases hc; done)
    · exact (set_lc g hk h he).e
    · cases h
    · cases h
theorem set_anyF {i : Nat} {y : Str} {py : Pos} {e : E} {v : Expr} (g : Gd C n S T X) (hk : X.env.scope.kind = .function) (h : setB C S i y py v = true) (hf : frE e = true) (he : chk C e S (.e v) = true) : SetF X T i (.Assign [.Name y py] v pos) (onlyL (ev (Γof C n) false e)) := by
  have hs := sound (T := T) e g he
  cases hc : compB v with
  | false => exact set_ofF g h hc (hs.f hf)
  | true =>
    cases v <;> simp only [compB] at hc <;> try (cases hc; done)
    · exact (set_lc g hk h he).only
    · cases h
    · cases h
def SndM (X : Cx) (T : Ap) (Z : WX) (fr : Bool) (f : Ro → Out Fl) : Ns → Prop
  | .s st => SndS X T Z fr st f
  | .l sts => SndSs X T Z fr sts f
theorem ae_one {t : Expr} {env : PySem.Env} (h : notStarE t = true) : (assignEach [t] env).map (·.2) = [assign t env] := by rw [ae_cons h]; rfl
theorem boot_dict' : bootBuiltins ("dict" : Str) = some (.type "dict") := by decide +kernel
theorem frz_of {s : Ev.S} {i : Nat} (h : isFrz s = some i) : s = .frz i := by
  cases s <;> simp only [isFrz] at h <;> cases h
  rfl
theorem frz2_of {s : Ev.S} {i : Nat} (h : isFrz2 s = some i) : s = .frz2 i := by
  cases s <;> simp only [isFrz2] at h <;> cases h
  rfl
theorem sd_nilL (g : Gd C n S T X) {pl : Pos} : SndF X T (.List [] pl) (onlyL (ev (Γof C n) false (.lst .nil))) := by
  have h : SE X T (Γof C n) (.lst .nil) (.List [] pl) := sound (T := T) (.lst .nil) (nd := .e (.List [] pl)) g (by simp only [chk, Nd.x])
  exact h.f rfl
theorem nilL_eq {Γ : Env} (ρ : Ro) : onlyL (ev Γ false (.lst .nil)) ρ = .ret (.list []) := by
  unfold onlyL
  simp only [ev]
  rfl
theorem sw_cell {v : Expr} {py : Pos} {y : Str} {l : Nat} {env : PySem.Env} (hy : env.scope.names.lookup y = some .cell) : swapsWith v (some (.Name y py)) l env = pure false := by
  have ky : env.kindOf y = some .cell := hy
  cases v <;> first | rfl | skip
  all_goals
    unfold swapsWith
    have hc : (some NameKind.cell == some NameKind.local) = false := rfl
    simp only [ky, hc, Bool.and_false, Bool.false_and]
theorem sn_lcl2 {i : Nat} {y : Str} {py : Pos} {own : List Nat} {gg : Tg} {it et : E} {elt tg iter : Expr} {z : Int} {scope : Scope} {p : Pos} (g : Gd C n S T X) (hk : X.env.scope.kind = .function) (h : (setB C S i y py (.ListComp elt [⟨tg, iter, [], z⟩] scope p) || setCB C S i y) = true) (hf : frE et = true)
    (he : chk C (.lc own gg it (.con (.bool true)) et) S (.e (.ListComp elt [⟨tg, iter, [], z⟩] scope p)) = true) {fr : Bool} {Z : WX} :
    SndS X T Z fr (.Assign [.Name y py] (.ListComp elt [⟨tg, iter, [], z⟩] scope p) pos) (fun ρ => ((ev (Γof C n) true it ρ).bind fun x => (itemsD x).bind fun xs => .guard (decide (xs.length ≤ lim)) (lcl2Go (fun d => (Out.ofO (asgG gg d (wipeR ρ own))).bind fun ρ2 => (ev (Γof C n) false et ρ2).bind asList) xs [])).bind fun xss => .ret (.nx (ρ.set i (some (.own2 xss))))) := by
  simp only [chk, Nd.x] at he
  obtain ⟨h1, h2, h3⟩ := bt3 he
  obtain ⟨h3, h4, h5⟩ := bt3 h3
  obtain ⟨h5, h6, h7⟩ := bt3 h5
  obtain ⟨hcm, h1⟩ := bt h1
  cases of_decide_eq_true h1
  have hi := sound (T := T) it g h3
  have hown : (own.map fun i => (((C.N[i]?).getD "", i) : Str × Nat)).map (·.2) = own := by
    rw [List.map_map]
    exact List.map_id _
  obtain ⟨h8, h9⟩ := bt h7
  have hel : ∀ (s : Shared) (H : Hp) (cc : Addr) (cl : List (Str × Addr)) (fp : List Addr), PE (X.blk s H scope (compEnvC scope cl cc X.env) fp) elt (tF T (onlyL (ev (Γof C n) false et))) := fun s H cc cl fp => by
    have he := sound (T := T) et (g.blk s H scope cl cc fp) h9
    exact (he.f hf).pe
  rcases Bool.or_eq_true_iff.mp h with h | h
  · obtain ⟨q1, q2, q34⟩ := bt3 h
    obtain ⟨q3, q4⟩ := bt q34
    have hsw : swapsWith (.ListComp elt [⟨tg, iter, [], 0⟩] scope p) (some (.Name y py)) pos.line X.env = pure true := sw_true hk (g.lcl q2) q3 (not_t q4)
    refine ss_setN (ps_setLc (i := i) (pos := p) (spos := pos) (g.calm hcm) g.nd (by rw [g.hN]; exact of_decide_eq_true q1) (g.lcl q2) hsw (hi true).pi (own := own.map fun i => ((C.N[i]?).getD "", i)) (by rw [g.hN, g.sc]; exact blkOk_by h4) (fun s H cc cl fp => chkG_ok (T := T) (g.blk s H scope cl cc fp) gg tg h5) (fun _ _ _ _ _ => pts_yes (T := T)) hel (folded_of h2 _)) fun G0 H0 ρ σ G H Q R h => ?_
    rw [hown]
    exact lcl2_reads h6 R h
  · obtain ⟨c1, c2⟩ := bt h
    have hcell : S.sc.names.lookup y = some .cell ∧ S.fn y = true := by
      split at c2
      · exact ⟨by assumption, c2⟩
      · cases c2
    obtain ⟨l1, l2⟩ := g.loc (x := y) (by unfold locB; rw [hcell.1]; exact hcell.2)
    refine ss_setN (ps_set g.nd (by rw [g.hN]; exact of_decide_eq_true c1) l1 (pe_lc (g.calm hcm) g.nd (hi true).pi (own := own.map fun i => ((C.N[i]?).getD "", i)) (by rw [g.hN, g.sc]; exact blkOk_by h4) (fun s H cc cl fp => chkG_ok (T := T) (g.blk s H scope cl cc fp) gg tg h5) (fun _ _ _ _ _ => pts_yes (T := T)) hel (folded_of h2 _)) (sw_cell (by rw [g.sc]; exact hcell.1)) l2) fun G0 H0 ρ σ G H Q R h => ?_
    rw [hown]
    exact lcl2_reads h6 R h
theorem wip_of {s : Ev.S} {vs : List Nat} (h : isWip s = some vs) : s = .wip vs := by
  cases s <;> simp only [isWip] at h <;> cases h
  rfl
theorem nk_false {α : Prop} (h : false = true) : α := by cases h
/-- what a block's context bears -/
structure Wk (C : Ck) (X : Cx) (T : Ap) (Z : WX) : Prop where
  hx : PassesOwn (model X.prog X.w) X.A X.env X.xe
  hk : X.env.scope.kind = .function
  tk : Takes X Z
  stk : X.stack = X.env :: X.outer
  fm : X.env.frame = some X.env.locals
  act : C.cm = true → ActF X T C.act ∨ C.act = .bad
theorem soundX {Z : WX} (g : Gd C n S T X) (w : Wk C X T Z) (hm : C.cm = true) {e : E} {body : Expr} (h : chkX C S e body = true) : SndP X T (PPX Z) body (ev (Γof C n) false e) := by
  unfold chkX at h
  split at h
  · rename_i f a
    split at h
    · obtain ⟨h1, h2, h3⟩ := bt3 h
      obtain ⟨h4, h5, h6⟩ := bt3 h3
      obtain ⟨h7, h8⟩ := bt h1
      have ha := sound (T := T) a g h6
      obtain ⟨F, hF, hn⟩ := fnB_ok h8
      exact sd_xcall g w.tk hm (of_decide_eq_true h7) hF hn h2 (not_t h4) h5 (ha false) fun e2 => by subst e2; exact chk_nil_of h6
    · cases h
  · rename_i f m k perm a b
    split at h
    · obtain ⟨h1, h2, h3⟩ := bt3 h
      obtain ⟨h3, h4, h5⟩ := bt3 h3
      obtain ⟨h5, h67, h8⟩ := bt3 h5
      obtain ⟨h6, h7⟩ := bt h67
      obtain ⟨hd, h1⟩ := bt h1
      have ha := sound (T := T) a g h5
      have hb := sound (T := T) b g h6
      obtain ⟨F, hF, hn⟩ := fnB_ok h1
      split at h7
      · rename_i l hk
        obtain ⟨h9, h10⟩ := bt h7
        exact sd_xcallk g w.tk hm (of_decide_eq_true hd) hF hn h2 (not_t h3) h4 (ha false) hb hk (of_decide_eq_true h9) (of_decide_eq_true h10) (of_decide_eq_true h8) fun e2 => by subst e2; exact chk_nil_of h5
      · cases h7
    · cases h
  · rename_i a
    have ha := sound (T := T) a g (show chk C a S (.e body) = true from h)
    exact snd_pure (ha.e false)
  · rename_i i
    split at h
    · obtain ⟨h1, h2⟩ := bt h
      cases of_decide_eq_true h1
      obtain ⟨l1, l2, l3, l4⟩ := g.nm h2
      rcases w.act hm with ha | ha
      · exact snd_act ha g.gua w.tk l1 l2 l3 l4
      · refine ⟨fun _ _ _ => False, ⟨fun pins s σ H Q I h => h.elim⟩, fun G0 H0 ρ σ G H Q R h => ?_⟩
        have h : ((slot ρ 0).bind fun | .act => C.act | _ => .bad).All _ := h
        rw [ha, Out.All_bind] at h
        unfold slot at h
        rw [Out.All_ofO] at h
        obtain ⟨s, _, h⟩ := h
        cases s <;> exact h
    · cases h
  · cases h
theorem gl_names (g : Gd C n S T X) {x : Str} {c : Value} (h : glB S x = true) (h2 : (!(x == ("__debug__" : Str))) = true) (hm : X.mg x = some c) : Names X x c := ⟨g.gl h, not_t h2, .inl hm⟩
theorem tests_of (g : Gd C n S T X) {xs : List Str} {yes : List Nat} {t : Expr} (h : tryB C S xs yes t = true) : ∀ C ∈ yes, TestsTo X t C := by
  unfold tryB at h
  split at h
  · obtain ⟨h1, h2, h⟩ := bt3 h
    obtain ⟨h3, h4, h⟩ := bt3 h
    obtain ⟨h5, h6, h⟩ := bt3 h
    obtain ⟨h7, h8⟩ := bt h
    obtain ⟨cs, hl, hm, hy⟩ := g.xc.trys _ _ (of_decide_eq_true h8)
    cases of_decide_eq_true h1
    match cs, hl with
    | [c1, c2, c3], _ => exact fun C hC => tests_3 (gl_names g h2 h5 (hm (_, c1) (List.Mem.head _))) (gl_names g h3 h6 (hm (_, c2) (List.Mem.tail _ (List.Mem.head _)))) (gl_names g h4 h7 (hm (_, c3) (List.Mem.tail _ (List.Mem.tail _ (List.Mem.head _))))) (hy C hC)
  · obtain ⟨h1, h2, h⟩ := bt3 h
    obtain ⟨h7, h8⟩ := bt h
    obtain ⟨cs, hl, hm, hy⟩ := g.xc.trys _ _ (of_decide_eq_true h8)
    cases of_decide_eq_true h1
    match cs, hl with
    | [c1], _ =>
      refine fun C hC => tests_one (gl_names g h2 h7 (hm (_, c1) (List.Mem.head _))) ?_
      obtain ⟨b1, d1, e1, e2, e3⟩ := PySem.W.exmAny_cons (hy C hC)
      cases (show some false = some d1 from e2)
      rw [Bool.or_false] at e3
      rw [e1, ← e3]
  · cases h
/-- the contexts of a try -/
theorem Gd.tr (g : Gd C n S T X) (pn : List (Addr × Obj)) (xe : Value → Shared → Prop) : Gd C n S T (X.tr pn xe) :=
  { calm := g.calm, nd := g.nd, hN := g.hN, room := g.room, rm := g.rm, roomH := g.roomH, gua := g.gua, tb := g.tb, sc := g.sc, fn := g.fn, blt := g.blt, glob := g.glob, fns := g.fns, excs := g.excs, hots := g.hots, lams := g.lams, lam := g.lam, news := g.news, xc := g.xc }
theorem Gd.suite (g : Gd C n S T X) (a : Addr) (pn : List (Addr × Obj)) : Gd { C with cm := false } n S T (X.suite a pn) :=
  { calm := (fun z => by cases z), nd := g.nd, hN := g.hN, room := (fun z => by cases z), rm := (fun z => by cases z), roomH := ⟨g.roomH.dp, g.roomH.un⟩, gua := g.gua, tb := g.tb, sc := g.sc, fn := g.fn, blt := g.blt, glob := g.glob, fns := g.fns, excs := g.excs, hots := g.hots, lams := g.lams, lam := g.lam, news := g.news, xc := g.xc }
theorem Wk.tr {Z W : WX} (w : Wk C X T Z) {pn : List (Addr × Obj)} {xe : Value → Shared → Prop} (tk : Takes (X.tr pn xe) W) (hx : PassesOwn (model X.prog X.w) X.A X.env xe) : Wk C (X.tr pn xe) T W :=
  ⟨hx, w.hk, tk, w.stk, w.fm, fun h => (w.act h).imp (fun z => ⟨z.ex, z.e⟩) id⟩
theorem Wk.suite {Z : WX} (w : Wk C X T Z) (a : Addr) (pn : List (Addr × Obj)) : Wk { C with cm := false } (X.suite a pn) T (fun _ _ _ _ => False) :=
  ⟨PassesOwn.never, w.hk, takes_none5, w.stk, w.fm, fun z => by cases z⟩
theorem soundS (W : Nat) : ∀ (s : Ev.S) {C : Ck} {X : Cx} {Z : WX} {m : Ns}, Gd C n S T X → Wk C X T Z → chkS C S s m = true → SndM X T Z C.fr (ex (Γof C n) W s) m
  | .nil, C, X, Z, m, g, w, h => by
    simp only [chkS] at h
    split at h
    · exact ss_nil
    · cases h
  | .seq s r, C, X, Z, m, g, w, h => by
    simp only [chkS] at h
    split at h
    · rename_i sts
      split at h
      · rename_i i e
        have hr := soundS W r g w h
        rw [frz_of e]
        exact ss_frz hr
      · split at h
        · rename_i vs e
          have hr := soundS W r g w h
          rw [wip_of e]
          exact ss_wip hr
        · split at h
          · rename_i i e
            have hr := soundS W r g w h
            rw [frz2_of e]
            exact ss_frz2 hr
          · cases sts with
            | nil => cases h
            | cons st more =>
              obtain ⟨h1, h2⟩ := bt h
              have hs := soundS W s g w h1
              have hr := soundS W r g w h2
              exact ss_cons hs hr
    · cases h
  | .frz i, C, X, Z, m, g, w, h => by simp only [chkS] at h; cases h
  | .wip vs, C, X, Z, m, g, w, h => by simp only [chkS] at h; cases h
  | .frz2 i, C, X, Z, m, g, w, h => by simp only [chkS] at h; cases h
  | .lcl2 i own gg it e, C, X, Z, m, g, w, h => by
    simp only [chkS] at h
    split at h
    · obtain ⟨h1, h2, h3⟩ := bt3 h
      exact sn_lcl2 g w.hk h1 h2 h3
    · cases h
  | .app2 i jx e, C, X, Z, m, g, w, h => by
    simp only [chkS] at h
    split at h
    · obtain ⟨h1, h2, h3⟩ := bt3 h
      obtain ⟨h3, h4, h5⟩ := bt3 h3
      obtain ⟨h5, h6, h7⟩ := bt3 h5
      obtain ⟨l1, l2, l3, l4⟩ := g.nm h2
      cases of_decide_eq_true h1
      have hj := sound (T := T) jx g h6
      have he := sound (T := T) e g h7
      exact ss_app2 l1 l2 l3 l4 (hj.e true) h3 (he.e false) h4 h5
    · cases h
  | .new2 i, C, X, Z, m, g, w, h => by
    simp only [chkS] at h
    split at h
    · obtain ⟨h1, h2, h3⟩ := bt3 h
      obtain ⟨l1, l2, l3, l4⟩ := g.nm h2
      cases of_decide_eq_true h1
      exact ss_new2 l1 l2 l3 l4 (sd_nilL g) nilL_eq rfl h3
    · cases h
  | .swp2 k i jx ix e, C, X, Z, m, g, w, h => by
    simp only [chkS] at h
    split at h
    · obtain ⟨h1, h2, h3⟩ := bt3 h
      obtain ⟨h3, h4, h5⟩ := bt3 h3
      obtain ⟨h5, h6, h7⟩ := bt3 h5
      obtain ⟨h7, h8⟩ := bt h7
      obtain ⟨l1, l2, l3, l4⟩ := g.nm h2
      have he := sound (T := T) e g h6
      have hj := sound (T := T) jx g h7
      have hi := sound (T := T) ix g h8
      obtain ⟨hcm, h1⟩ := bt h1
      exact ss_swp2 (g.calm hcm) (chkG_ok g (.nm k) _ h1) l1 l2 l3 l4 (he.e false) (hj.e true) h3 (hi.e true) h4 (not_t h5)
    · cases h
  | .par0 i j a, C, X, Z, m, g, w, h => by
    simp only [chkS] at h
    split at h
    · obtain ⟨a3, a4, h⟩ := bt3 h
      obtain ⟨a5, a6, h⟩ := bt3 h
      obtain ⟨a7, a8, h⟩ := bt3 h
      obtain ⟨a9, a10, h⟩ := bt3 h
      obtain ⟨a12, a13, h⟩ := bt3 h
      obtain ⟨a14, a15⟩ := bt h
      have ha := sound (T := T) a g a15
      have kx := g.lcl a6
      have ky := g.lcl a7
      obtain ⟨hcm, a3⟩ := bt a3
      exact ss_par0 (g.calm hcm) g.nd (by rw [g.hN]; exact of_decide_eq_true a3) (by rw [g.hN]; exact of_decide_eq_true a4) (of_decide_eq_true a5) kx ky (ha.e false) (sd_nilL g) nilL_eq a10 rfl
        (ss_two (kfun g a14) kx ky (not_t a8) a9 a10 rfl (not_t a12) (not_t a13))
    · cases h
  | .pdl i j k v b, C, X, Z, m, g, w, h => by
    simp only [chkS] at h
    split at h
    · obtain ⟨a3, a4, h⟩ := bt3 h
      obtain ⟨a5, a6, h⟩ := bt3 h
      obtain ⟨a7, a8, h⟩ := bt3 h
      obtain ⟨a9, a10, h⟩ := bt3 h
      obtain ⟨a12, a13, h⟩ := bt3 h
      obtain ⟨a14, a15, h⟩ := bt3 h
      obtain ⟨a16, a17⟩ := bt h
      have hk' := sound (T := T) k g a15
      have hv := sound (T := T) v g a16
      have hb := sound (T := T) b g a17
      have kx := g.lcl a6
      have ky := g.lcl a7
      obtain ⟨hcm, a3⟩ := bt a3
      exact ss_pdl g.u1 (g.calm hcm) g.nd (by rw [g.hN]; exact of_decide_eq_true a3) (by rw [g.hN]; exact of_decide_eq_true a4) (of_decide_eq_true a5) kx ky (hk'.e false) (hv.e false) (hb.e false) a10
        (ss_two (kfun g a14) kx ky (not_t a8) a9 rfl a10 (not_t a12) (not_t a13))
    · cases h
  | .popx i, C, X, Z, m, g, w, h => by
    simp only [chkS] at h
    split at h
    · obtain ⟨h1, h2, h3⟩ := bt3 h
      obtain ⟨l1, l2, l3, l4⟩ := g.nm h2
      cases of_decide_eq_true h1
      exact ss_popx l1 l2 l3 l4 h3
    · cases h
  | .asg gg e, C, X, Z, m, g, w, h => by
    simp only [chkS] at h
    split at h
    · rename_i t v pos
      split at h
      · rename_i i y py
        obtain ⟨h1, h2⟩ := bt h
        exact ss_setE (set_any g w.hk h1 h2)
      · obtain ⟨h1, h2, h3⟩ := bt3 h
        obtain ⟨h3, h4, h5⟩ := bt3 h3
        have he := sound (T := T) e g h5
        have ht : ∀ y p, t ≠ .Name y p := fun y p e => by subst e; cases h1
        have hns : notStarE t = true := by cases t <;> first | rfl | cases h1
        have hsw : swappedStores [t] v X.env = pure none := ss_swap (by rw [g.sc]; exact h4)
        exact ss_asg (he.e false) (chkG_ok g _ t h2) (sw_tup (.inr ht)) hsw (ae_one hns)
    · cases h
  | .unl gg e, C, X, Z, m, g, w, h => by
    simp only [chkS] at h
    split at h
    · rename_i es k tp v pos
      obtain ⟨h1, h2, h5⟩ := bt3 h
      obtain ⟨h3, h4⟩ := bt h5
      have he := sound (T := T) e g h4
      obtain ⟨l1, l2⟩ := lenG_of (env := X.env) h3
      have hsw : swappedStores [.Tuple es k tp] v X.env = pure none := by
        obtain ⟨_, h1⟩ := bt h1
        cases v <;> first | exact ss_none rfl | cases h1
      obtain ⟨hcm, h1⟩ := bt h1
      exact ss_unl (g.calm hcm) (he.e false) (chkGs_ok g _ _ h3) h2 l1 l2 (sw_tup (.inr fun y p e => by cases e)) hsw (ae_one rfl)
    · cases h
  | .own i e, C, X, Z, m, g, w, h => by
    simp only [chkS] at h
    split at h
    · obtain ⟨h1, h2, h3⟩ := bt3 h
      exact ss_setF (set_anyF g w.hk h1 h2 h3)
    · cases h
  | .par i j oi oj a b, C, X, Z, m, g, w, h => by
    simp only [chkS] at h
    split at h
    · obtain ⟨a1, a2, h⟩ := bt3 h
      obtain ⟨a3, a4, h⟩ := bt3 h
      obtain ⟨a5, a6, h⟩ := bt3 h
      obtain ⟨a7, a8, h⟩ := bt3 h
      obtain ⟨a9, a10, h⟩ := bt3 h
      obtain ⟨a11, a12, h⟩ := bt3 h
      obtain ⟨a13, a14, h⟩ := bt3 h
      obtain ⟨a15, a16⟩ := bt h
      cases not_t a2
      obtain ⟨hcm, a1⟩ := bt a1
      have ha := sound (T := T) a g a15
      have hb := sound (T := T) b g a16
      have kx := g.lcl a6
      have ky := g.lcl a7
      cases oi with
      | true =>
        exact ss_parF (g.calm hcm) g.nd (by rw [g.hN]; exact of_decide_eq_true a3) (by rw [g.hN]; exact of_decide_eq_true a4) (of_decide_eq_true a5) kx ky (ha.f a1) (hb.e false) a10 a11
          (ss_two (kfun g a14) kx ky (not_t a8) a9 a10 a11 (not_t a12) (not_t a13))
      | false =>
      exact ss_par (g.calm hcm) g.nd (by rw [g.hN]; exact of_decide_eq_true a3) (by rw [g.hN]; exact of_decide_eq_true a4) (of_decide_eq_true a5) kx ky (ha.e false) (hb.e false) a10 a11
        (ss_two (kfun g a14) kx ky (not_t a8) a9 a10 a11 (not_t a12) (not_t a13))
    · cases h
  | .app i e, C, X, Z, m, g, w, h => by
    simp only [chkS] at h
    split at h
    · obtain ⟨h1, h2, h3⟩ := bt3 h
      obtain ⟨h3, h4, h5⟩ := bt3 h3
      obtain ⟨l1, l2, l3, l4⟩ := g.nm h2
      cases of_decide_eq_true h1
      have he := sound (T := T) e g h5
      exact ss_app l1 l2 l3 l4 (he.e false) h3 h4
    · cases h
  | .pop gg i, C, X, Z, m, g, w, h => by
    simp only [chkS] at h
    split at h
    · obtain ⟨h1, h2, h3⟩ := bt3 h
      obtain ⟨h3, h4, h5⟩ := bt3 h3
      obtain ⟨l1, l2, l3, l4⟩ := g.nm h2
      cases of_decide_eq_true h1
      exact ss_pop l1 l2 l3 l4 (chkG_ok g _ _ h5) h3 (ae_one h4)
    · cases h
  | .setix i ix e, C, X, Z, m, g, w, h => by
    simp only [chkS] at h
    split at h
    · obtain ⟨h1, h2, h3⟩ := bt3 h
      obtain ⟨h4, h5⟩ := bt h3
      obtain ⟨l1, l2, l3, l4⟩ := g.nm h1
      have he := sound (T := T) e g h4
      have hi := sound (T := T) ix g h5
      exact ss_setix l1 l2 l3 l4 (he.e false) (hi.e true) h2 (sw_tup (.inr fun y p e => by cases e))
    · cases h
  | .tset i j e, C, X, Z, m, g, w, h => by
    simp only [chkS] at h
    split at h
    · obtain ⟨h1, h2, h3⟩ := bt3 h
      obtain ⟨l1, l2, l3, l4⟩ := g.nm h2
      cases of_decide_eq_true h1
      have he := sound (T := T) e g h3
      exact ss_tset l1 l2 l3 l4 (he.e false)
    · cases h
  | .tdvm i j gg e, C, X, Z, m, g, w, h => by
    simp only [chkS] at h
    split at h
    · obtain ⟨h1, h2, h3⟩ := bt3 h
      obtain ⟨h3, h4, h5⟩ := bt3 h3
      obtain ⟨h5, h6, h7⟩ := bt3 h5
      obtain ⟨l1, l2, l3, l4⟩ := g.nm h2
      obtain ⟨hcm, h1⟩ := bt h1
      cases of_decide_eq_true h1
      have he := sound (T := T) e g h7
      exact ss_tdvm (g.calm hcm) l1 l2 l3 l4 (he.e false) (chkG_ok g _ _ h4) h3 (not_t h5) (not_t h6)
    · cases h
  | .dnew i t, C, X, Z, m, g, w, h => by
    simp only [chkS] at h
    split at h
    · obtain ⟨h1, h2⟩ := bt h
      obtain ⟨l1, l2⟩ := g.loc h2
      exact ss_dnew g.nd (by rw [g.hN]; exact of_decide_eq_true h1) l1 l2
    · cases h
  | .dnew1 i t k v, C, X, Z, m, g, w, h => by
    simp only [chkS] at h
    split at h
    · obtain ⟨h0, h1, h2⟩ := bt3 h
      obtain ⟨h2, h3, h4⟩ := bt3 h2
      obtain ⟨l1, l2⟩ := g.loc h2
      have hk' := sound (T := T) k g h3
      have hv := sound (T := T) v g h4
      subst h0
      exact ss_dnew1T g.u1 g.nd (by rw [g.hN]; exact of_decide_eq_true h1) l1 l2 (hk'.e false) (hv.e false)
    · cases h
  | .dof i t e, C, X, Z, m, g, w, h => by
    simp only [chkS] at h
    split at h
    · obtain ⟨h0, h1, h2⟩ := bt3 h
      obtain ⟨h2, h3, h4⟩ := bt3 h2
      obtain ⟨l1, l2⟩ := g.loc h2
      obtain ⟨h0, h01⟩ := bt h0
      obtain ⟨hcm, hall⟩ := bt h0
      obtain ⟨h5, h6⟩ := g.isB h01
      subst h5
      have he := sound (T := T) e g h4
      exact ss_dof (g.room hcm hall) (g.calm hcm) h6 (g.mg (by decide +kernel)) boot_dict' g.nd (by rw [g.hN]; exact of_decide_eq_true h1) l1 l2 (he.e false) h3
    · cases h
  | .fork gg i b, C, X, Z, m, g, w, h => by
    simp only [chkS] at h
    split at h
    · obtain ⟨h1, h2, h3⟩ := bt3 h
      obtain ⟨hcm, h1⟩ := bt h1
      obtain ⟨l1, l2, l3, l4⟩ := g.nm h1
      have hb := soundS W b g w h3
      exact ss_fork w.hx (g.calm hcm) l1 l2 l3 l4 (chkG_ok g _ _ h2) hb
    · cases h
  | .fori gg i b, C, X, Z, m, g, w, h => by
    simp only [chkS] at h
    split at h
    · obtain ⟨h0, h1, h4⟩ := bt3 h
      obtain ⟨h5, h2, h3⟩ := bt3 h4
      obtain ⟨l1, l2, l3, l4⟩ := g.nm h1
      obtain ⟨hcm, h0⟩ := bt h0
      rw [of_decide_eq_true h0]
      have hb := soundS W b g w h3
      exact ss_fori w.hx (g.calm hcm) l1 l2 l3 l4 h5 (chkG_ok g _ _ h2) hb
    · cases h
  | .dset i k v, C, X, Z, m, g, w, h => by
    simp only [chkS] at h
    split at h
    · obtain ⟨h1, h2, h3⟩ := bt3 h
      obtain ⟨l1, l2, l3, l4⟩ := g.nm h1
      have hk' := sound (T := T) k g h2
      have hv := sound (T := T) v g h3
      exact ss_dset g.u1 l1 l2 l3 l4 (hv.e false) (hk'.e true)
    · cases h
  | .dmov i j, C, X, Z, m, g, w, h => by
    simp only [chkS] at h
    split at h
    · obtain ⟨h1, h2, h3⟩ := bt3 h
      obtain ⟨l1, l2⟩ := g.loc h2
      obtain ⟨m1, m2, m3, m4⟩ := g.nm h3
      exact ss_dmov g.nd (by rw [g.hN]; exact of_decide_eq_true h1) l1 l2 m1 m2 m3 m4
    · cases h
  | .ife c a b, C, X, Z, m, g, w, h => by
    simp only [chkS] at h
    split at h
    · obtain ⟨h1, h2, h3⟩ := bt3 h
      have hc := sound (T := T) c g h1
      have ha := soundS W a g w h2
      have hb := soundS W b g w h3
      exact ss_if hc.t ha hb
    · cases h
  | .for_ gg it b, C, X, Z, m, g, w, h => by
    simp only [chkS] at h
    split at h
    · obtain ⟨h1, h2, h3⟩ := bt3 h
      obtain ⟨h3, h4⟩ := bt h3
      obtain ⟨hcm, h1⟩ := bt h1
      have hi := sound (T := T) it g h3
      have hb := soundS W b g w h4
      exact ss_for w.hx (g.calm hcm) (hi false) (chkG_ok g _ _ h2) hb (folded_of h1 _)
    · cases h
  | .whl c b, C, X, Z, m, g, w, h => by
    simp only [chkS] at h
    split at h
    · obtain ⟨h1, h2⟩ := bt h
      have hc := sound (T := T) c g h1
      have hb := soundS W b g w h2
      exact ss_while w.hx hc.t hb
    · cases h
  | .ret e, C, X, Z, m, g, w, h => by
    simp only [chkS] at h
    split at h
    · obtain ⟨h1, h2⟩ := bt h
      have he := sound (T := T) e g h2
      cases hf : C.fr with
      | false => exact ss_ret (he.e false)
      | true =>
        rw [hf] at h1
        exact ss_retF (he.f h1)
    · cases h
  | .expr e, C, X, Z, m, g, w, h => by
    simp only [chkS] at h
    split at h
    · obtain ⟨h1, h2⟩ := bt h
      have he := sound (T := T) e g h2
      exact ss_expr (he.e false) (sw_plain (not_t h1))
    · cases h
  | .brk, C, X, Z, m, g, w, h => by
    simp only [chkS] at h
    split at h
    · exact ss_brk
    · cases h
  | .cnt, C, X, Z, m, g, w, h => by
    simp only [chkS] at h
    split at h
    · exact ss_cnt
    · cases h
  | .pass, C, X, Z, m, g, w, h => by
    simp only [chkS] at h
    split at h
    · exact ss_pass
    · cases h
  | .raise, C, X, Z, m, g, w, h => by
    simp only [chkS] at h
    split at h
    · exact ss_never
    · cases h
  | .rs1 x k par fld a, C, X, Z, m, g, w, h => by
    simp only [chkS] at h
    split at h
    · obtain ⟨h1, h2, h3⟩ := bt3 h
      obtain ⟨h3, h4, h5⟩ := bt3 h3
      obtain ⟨h5, h6⟩ := bt h5
      obtain ⟨hcm, h1⟩ := bt h1
      cases of_decide_eq_true h1
      have h4 := of_decide_eq_true h4
      obtain ⟨hm, hs, fI, B, newId, i, bmB, fd, F⟩ := g.xc.mks _ _ _ _ h4
      obtain ⟨r1, r2⟩ := g.xc.rsd k (.inl ⟨_, _, _, h4⟩)
      have ha := sound (T := T) a g h6
      exact ss_rs1 (g.calm hcm) w.tk F (raises_own r1 r2) hs (room1 g.roomH) (g.gl h2) hm (ha.e false) h5 (not_t h3)
    · cases h
  | .rs0 x k, C, X, Z, m, g, w, h => by
    simp only [chkS] at h
    split at h
    · obtain ⟨h1, h2, h3⟩ := bt3 h
      obtain ⟨h3, h4⟩ := bt h3
      obtain ⟨hcm, h1⟩ := bt h1
      cases of_decide_eq_true h1
      have h4 := of_decide_eq_true h4
      obtain ⟨hm, B, newId, i, bmB, F⟩ := g.xc.mk0s _ _ h4
      obtain ⟨r1, r2⟩ := g.xc.rsd k (.inr ⟨_, h4⟩)
      exact ss_rs0 (g.calm hcm) w.tk F (raises_own r1 r2) (g.gl h2) hm (not_t h3)
    · cases h
  | .xex e, C, X, Z, m, g, w, h => by
    simp only [chkS] at h
    split at h
    · obtain ⟨hcm, h1, h2⟩ := bt3 h
      exact ss_xex (soundX g w hcm h2) (sw_plain (not_t h1))
    · cases h
  | .xas gg e, C, X, Z, m, g, w, h => by
    simp only [chkS] at h
    split at h
    · obtain ⟨hcm, h1, h⟩ := bt3 h
      obtain ⟨h2, h3, h⟩ := bt3 h
      obtain ⟨h4, h5⟩ := bt h
      exact ss_xas (soundX g w hcm h5) (chkG_ok g _ _ h2) (sw_tup (.inl (not_t h3))) (ss_none (not_t h4)) (ae_one h1)
    · cases h
  | .xrt e, C, X, Z, m, g, w, h => by
    simp only [chkS] at h
    split at h
    · obtain ⟨hcm, h1, h2⟩ := bt3 h
      cases hf : C.fr with
      | false => exact ss_xrt (soundX g w hcm h2)
      | true => rw [hf] at h1; cases h1
    · cases h
  | .tryx xs yes i b s, C, X, Z, m, g, w, h => by
    simp only [chkS] at h
    split at h
    · obtain ⟨h1, h2, h⟩ := bt3 h
      obtain ⟨h3, h4, h⟩ := bt3 h
      obtain ⟨h5, h6⟩ := bt h
      obtain ⟨hcm, h1⟩ := bt h1
      refine ss_tryx w.stk w.fm g.nd (by rw [g.hN]; exact of_decide_eq_true h1) (g.lcl h2) (tests_of g h3) (fun V pn xe tk pa => ?_) (fun z => by rw [z] at h4; cases h4) (fun a pn => ?_)
      · exact soundS W b (g.tr pn xe) (w.tr tk pa) h5
      · exact soundS W s (g.suite a pn) (w.suite a pn) h6
    · cases h
  | .insl .., C, X, Z, m, g, w, h => by simp only [chkS] at h; cases h
  | .fset .., C, X, Z, m, g, w, h => by simp only [chkS] at h; cases h
end
end Ev

set_option Elab.async false
set_option linter.all false
set_option autoImplicit false
set_option maxRecDepth 100000
set_option maxHeartbeats 8000000
namespace Ev
open PySem L2
open C8 (Def fnArgs fnBody fnScope scC fnScope_by)
open PyProof.Rows (envOfC)
section
variable {P : Program} {w : World} {K : PySem.W.Frag} {mg : Str → Option Value} {base : Heap}
theorem start_get {N : List Str} {ds : List D} {i : Nat} {s : Sl} (h : (startR N ds)[i]? = some (some s)) : ∃ d, ds[i]? = some d ∧ s = .val d := by
  unfold startR at h
  by_cases hi : i < ds.length
  · rw [List.getElem?_append_left (by simpa using hi), List.getElem?_map] at h
    cases e : ds[i]? with
    | none => rw [e] at h; cases h
    | some d => rw [e] at h; cases h; exact ⟨d, rfl, rfl⟩
  · rw [List.getElem?_append_right (by simpa using hi), List.getElem?_replicate] at h
    split at h <;> cases h
theorem start_slot {N : List Str} {vs : List V} {i : Nat} {v : V} (h : vs[i]? = some v) : (L2.start N vs)[i]? = some (some v) := by
  unfold L2.start
  have hi : i < vs.length := (List.getElem?_eq_some_iff.mp h).1
  rw [List.getElem?_append_left (by simpa using hi), List.getElem?_map, h]
  rfl
/-- at the entry the parameters hold data -/
theorem rep_start {T : Ap} {N ps : List Str} {H G : Hp} {vs : List V} {ds : List D} (sub : Sub G H) (tb : TubOk T H) (tg : T.away G) (i : IsAll T G vs ds) : Rep T G H (startR N ds) (L2.start N vs) G H := by
  refine ⟨.refl sub tb, tb, tg, ?_, fun j s e => ?_, fun j k sj sk vj vk b e1 e2 _ _ a1 _ => ?_⟩
  · unfold startR L2.start
    rw [List.length_append, List.length_append, List.length_map, List.length_map, List.length_replicate, List.length_replicate, i.length]
  · obtain ⟨d, e1, rfl⟩ := start_get e
    obtain ⟨v, e2, iv⟩ := i.get e1
    exact ⟨v, start_slot e2, iv⟩
  · obtain ⟨d, _, rfl⟩ := start_get e1
    exact a1.elim
/-- the only slot: what is to be called -/
theorem rep_act {T : Ap} {N : List Str} {H G : Hp} {g : Addr} (sub : Sub G H) (tb : TubOk T H) (tg : T.away G) (hN : 0 < N.length) (e : T.act = some g) : Rep T G H (startM N [.none] .act) (L2.start N [.ref g]) G H := by
  have get : ∀ {i : Nat} {s : Sl}, (startM N [.none] .act)[i]? = some (some s) → i = 0 ∧ s = .act := fun {i s} h => by
    unfold startM at h
    cases i with
    | zero => exact ⟨rfl, by simpa using h.symm⟩
    | succ i =>
      rw [List.getElem?_cons_succ, List.getElem?_replicate] at h
      split at h <;> cases h
  refine ⟨.refl sub tb, tb, tg, ?_, fun j s q => ?_, fun j k sj sk vj vk b e1 e2 _ _ a1 _ => ?_⟩
  · unfold startM L2.start
    simp only [List.length_cons, List.length_replicate, List.length_append, List.length_map, List.length_nil]
    omega
  · obtain ⟨rfl, rfl⟩ := get q
    exact ⟨.ref g, start_slot rfl, g, e, rfl⟩
  · obtain ⟨_, rfl⟩ := get e1
    exact a1.elim
/-- the context of a def's body; calm or not -/
def cxB (P : Program) (w : World) (K : PySem.W.Frag) (mg : Str → Option Value) (base : Heap) (N : List Str) (qual : Str) (scope : Scope) (f : Addr) (cd : Value) (A : Around) (outer : List PySem.Env) (s : Shared) (H : Hp) (E : XK) (b : Bool) : Cx :=
  { cxOf (L2.CX P w) P w K mg base N qual scope f cd A outer s H E with calm := b }
open PyProof.Rows in
theorem inv_startB {N ps : List Str} {qual : Str} {scope : Scope} {f : Addr} {cd : Value} {A : Around} {outer : List PySem.Env} {s s1 : Shared} {H : Hp} {E : XK} {us : List Value} {vs : List V} {b : Bool}
    (S : FnScope N ps scope) (hd : b = true → A.handled = none) (e0 : Env0 P w K mg base A outer s H) (hl : vs.length = ps.length) (r : Vals vs us)
    (x : InCallC s s.heap.objs.size (bindL (envOfC qual scope s.heap.objs.size f cd).kindOf (ps.zip us) fun _ => none) (cellsFrom (s.heap.objs.size + 1) scope.names []) (bindC (envOfC qual scope s.heap.objs.size f cd).kindOf (ps.zip us) fun _ => none) s1) :
    Inv (cxB P w K mg base N qual scope f cd A outer s H E b) [] (L2.start N vs) H s1 := by
  cases b with
  | true => exact inv_start S (hd rfl) e0 hl r x
  | false =>
    have e1 : Env0 P w K mg base { A with handled := none } outer s H := ⟨e0.frames, e0.mod, e0.bs, e0.bsz, e0.funs, e0.frf, e0.hok, e0.bare⟩
    have I : Inv (cxOf (L2.CX P w) P w K mg base N qual scope f cd { A with handled := none } outer s H E) [] (L2.start N vs) H s1 := inv_start S rfl e1 hl r x
    have ok := I.ok
    exact ⟨⟨ok.mod, ok.kind, ok.glob, ok.blt, ok.above, ok.inj, ok.has, ok.cab, (fun z => Bool.noConfusion (show false = true from z)), ok.frames, ok.stk, ok.exf, ok.bs, ok.bsz, ok.noex, ok.exfs, ok.funs, ok.frf⟩,
      I.os, I.bare, I.base, I.loc, I.cell, I.free, I.freeC, I.pin, I.hok, I.len⟩
theorem fn_run {x qual : Str} {st : Stmt} {f : Addr} {fd : FuncData} {N ps : List Str} {fr b : Bool} {fb : Ro → Out Fl} {T : Ap} {A : Around} {outer : List PySem.Env} {s : Shared} {H G : Hp} {args : Args} {us : List Value} {vs : List V} {Q : VK} {E : XK} {ρ : Ro}
    (F : C8.Fun K x qual st f fd) (SC : FnScope N ps (fnScope st)) (hdp : A.depth < recursionLimit) (hd : b = true → A.handled = none) (e0 : Env0 P w K mg base A outer s H) (hbt : BindsTo s fd args (ps.zip us)) (rv : Vals vs us) (hlen : vs.length = ps.length)
    (hb : SndSs (cxB P w K mg base N qual (fnScope st) f fd.code A outer s H E b) T (fun cls d _ H => E cls d H) fr (fnBody st) fb)
    (R : Rep T G H ρ (L2.start N vs) G H) (h : (fb ρ).All (EndOf (fun cls d _ H => E cls d H) fr T G H G { nx := fun _ H' => Q .non H', rt := Q })) :
    codeAny (model P w) A (.call (.ref f) args) (CR (L2.CX P w) outer P w H s Q E) s := by
  obtain ⟨oc, od, dV, kV, doc, pm, an, cdv, ct, osl, rfl, lk, hcd⟩ := F.ex
  have kin : K.In s.heap := e0.mod.kin.keeps fun b o z => (e0.bs b o z).1
  have hnames : ∀ q ∈ ps.zip us, (fnScope st).names.lookup q.1 = some .local ∨ ((fnScope st).names.lookup q.1 = some .cell ∧ ((cellsFrom (s.heap.objs.size + 1) (fnScope st).names []).lookup q.1).isSome = true) := by
    rintro ⟨nm, vv⟩ hq
    exact (SC.par nm (List.of_mem_zip hq).1).imp id fun z => ⟨z, PySem.W.cellsFrom_some _ _ _ (.inl z)⟩
  refine codeAny_call_function hdp (kin _ _ lk) rfl SC.co SC.gen rfl (PySem.W.codeRec_of kin hcd) (hbt _ _ _ _ ?_)
  refine wpAny_newFunctionEnv_cells SC.kind hnames fun env henv s1 inC => ?_
  subst henv
  refine ⟨(e0.mod.nolimit.keeps fun b o z => (e0.bs b o z).1).keeps inC.toInCall.keep, codeAny_func ?_⟩
  obtain ⟨t, ht, hq⟩ := hb
  have I : Inv (cxB P w K mg base N qual (fnScope st) f cdv A outer s H E b) [] (L2.start N vs) H s1 := inv_startB SC hd e0 hlen rv inC
  refine wpAny_mono (ht.run [] s1 _ H _ I (hq G H ρ _ G H _ R h)) (fun fl s' hs => ?_) fun e s' z => z
  cases fl with
  | ret u =>
    obtain ⟨v, σ', H', J, rv', q⟩ := hs
    exact ⟨v, H', J.os, J.bare, J.base, J.hok, rv', q⟩
  | next =>
    obtain ⟨σ', H', J, q⟩ := hs
    exact ⟨.non, H', J.os, J.bare, J.base, J.hok, rfl, q⟩
  | brk =>
    obtain ⟨_, _, _, q⟩ := hs
    exact q.elim
  | cont =>
    obtain ⟨_, _, _, q⟩ := hs
    exact q.elim
theorem cr0 {outer : List PySem.Env} {H : Hp} {s s' : Shared} {Q : VK} {r : Result} (h : CR (L2.CX P w) outer P w H s Q (fun _ _ _ => False) r s') : CR CX0 outer P w H s Q E0 r s' := by
  cases r with
  | error e =>
    obtain ⟨_, _, _, _, _, _, _, _, _, _, _, _, z⟩ := h
    exact z.elim
  | ok fl => cases fl <;> exact h
/-! ### what a body's answers come to -/
theorem end_val {T : Ap} {G H : Hp} {Q : VK} {fl : Fl} {Z : WX} (h : (retOf fl).All (PostE false T G H Q)) : EndOf Z false T G H G { nx := fun _ H' => Q .non H', rt := Q } fl := by
  cases fl with
  | nx ρ' => exact fun σ' G' H' R' _ => h .non G' H' R'.st (.inl .non)
  | rt d => exact fun v G' H' k iv => h v G' H' k (.inl iv)
  | bk ρ' => exact h.elim
  | ct ρ' => exact h.elim
  | xc d ρ' => exact h.elim
theorem end_new {T : Ap} {G H : Hp} {Q : VK} {fl : Fl} {Z : WX} (h : (retF fl).All (fun d => ∃ xs, d = .list xs ∧ PostF T G H Q (.list xs))) : EndOf Z true T G H G { nx := fun _ H' => Q .non H', rt := Q } fl := by
  cases fl with
  | nx ρ' => exact h.elim
  | rt d => cases d <;> first | exact h | exact h.elim
  | bk ρ' => exact h.elim
  | ct ρ' => exact h.elim
  | xc d ρ' => exact h.elim
theorem end_exc {T : Ap} {G H : Hp} {Q : VK} {fl : Fl} {E : XK} (h : (retX fl).All (PostX E T G H Q)) : EndOf (fun cls d _ H => E cls d H) false T G H G { nx := fun _ H' => Q .non H', rt := Q } fl := by
  cases fl with
  | nx ρ' => exact fun σ' G' H' R' _ => (show PostE false T G H Q .none from h) .non G' H' R'.st (.inl .non)
  | rt d => exact fun v G' H' k iv => (show PostE false T G H Q d from h) v G' H' k (.inl iv)
  | bk ρ' => exact h.elim
  | ct ρ' => exact h.elim
  | xc d ρ' =>
    intro σ' G' H' cls dx R' _ ix
    have h : PostX E T G H Q d := h
    unfold PostX at h
    split at h
    · exact ix.elim
    · exact h cls dx G' H' R'.st ix
theorem fn_bad {tb : List (Addr × Str)} {f : Addr} {fd : FuncData} {ps : List Str} {k : Nat} : FnG P w K mg base tb k f fd ps (fun _ => .bad) := ⟨fun ds Q h => h.elim, fun T A outer s H G args us vs ds Q hr hg ht e0 hbt rv sub tb tg is h => h.elim⟩
/-- what the rules ask of a maker of lambdas -/
def LamR (base : Heap) (mg : Str → Option Value) (tb : List (Addr × Str)) (fd : FuncData) (qual : Str) : Prop := ∃ c Pt : Addr, fd.code = .ref c ∧ LamX.TabB base mg c Pt ∧ (Pt, qual ++ "<lambda>") ∈ tb ∧ ∀ p ∈ tb, p.1 = Pt → p.2 = qual ++ "<lambda>"
theorem lamF_of {tb : List (Addr × Str)} {fd : FuncData} {qual : Str} {T : Ap} {X : Cx} (h : LamR base mg tb fd qual) (ht : T.tabs = tb) (e1 : X.env.code = fd.code) (e2 : X.env.qual = qual) (e3 : X.base = base) (e4 : X.mg = mg) : LamF T X := by
  obtain ⟨c, Pt, a1, a2, a3, a4⟩ := h
  exact ⟨c, Pt, e1.trans a1, by rw [e3, e4]; exact a2, by rw [ht, e2]; exact a3, by rw [ht, e2]; exact a4⟩
abbrev ckOf (τ : Tab) (kws : List (Nat × Nat × List Str × List Nat)) (f : Nat) (F : Fd) (fr cm : Bool) (a : Out D) : Ck := ⟨τ, F.N, kws, fr, cm, decide (f ∈ τ.lms), a⟩
abbrev sxOf (st : Stmt) : Sx := ⟨fnScope st, true, fnScope st⟩
/-- what a law's table of defs is asked -/
structure RowOk (P : Program) (w : World) (K : PySem.W.Frag) (mg : Str → Option Value) (base : Heap) (τ : Tab) (kws : List (Nat × Nat × List Str × List Nat)) (f : Nat) (F : Fd) : Prop where
  ex : ∃ (st : Stmt) (a : Addr) (fd : FuncData), Def K mg F.name st a fd ∧ Binds K fd F.ps [] ∧ (∀ m ks perm, (f, m, ks, perm) ∈ kws → KwB K fd F.ps m ks perm) ∧
    (f ≠ τ.dip → scC F.N F.ps (fnScope st) = true ∧ chkS (ckOf τ kws f F false true .bad) (sxOf st) F.body (.l (fnBody st)) = true ∧ (f ∈ τ.news → chkS (ckOf τ kws f F true true .bad) (sxOf st) F.body (.l (fnBody st)) = true) ∧
      (f ∈ τ.hots → chkS (ckOf τ kws f F false false .bad) (sxOf st) F.body (.l (fnBody st)) = true) ∧ (f ∈ τ.lams → ∀ a, chkS (ckOf τ kws f F false true a) (sxOf st) F.body (.l (fnBody st)) = true) ∧ (f ∈ τ.lms → LamR base mg τ.tabs fd (F.name ++ ".<locals>."))) ∧
    (f = τ.dip → ∀ k, FnG P w K mg base τ.tabs (k + 1) a fd F.ps dipD)
structure TabOk (P : Program) (w : World) (K : PySem.W.Frag) (mg : Str → Option Value) (base : Heap) (τ : Tab) (kws : List (Nat × Nat × List Str × List Nat)) : Prop where
  blt : ∀ x ∈ bltNames, mg x = none
  glob : ∀ x d, τ.glob x = some d → ∃ u v, mg x = some u ∧ RelV v u ∧ ∀ T G, Is T G v d
  rows : ∀ f F, τ.fns[f]? = some F → RowOk P w K mg base τ kws f F
  xc : XcOk P K mg τ.xc
  hot : τ.dip ∉ τ.hots
theorem FnG.weaken {tb : List (Addr × Str)} {f : Addr} {fd : FuncData} {ps : List Str} {k : Nat} {Fn Fn' : List D → Out D} (h : FnG P w K mg base tb k f fd ps Fn) (e : ∀ ds P, (Fn' ds).All P → (Fn ds).All P) : FnG P w K mg base tb k f fd ps Fn' :=
  ⟨fun ds Q q => h.len ds Q (e ds Q q), fun T A outer s H G args us vs ds Q hr hg ht e0 hbt rv sub tb tg is q => h.run T A outer s H G args us vs ds Q hr hg ht e0 hbt rv sub tb tg is (e ds _ q)⟩
theorem fnG_congr {tb : List (Addr × Str)} {f : Addr} {fd : FuncData} {ps : List Str} {k : Nat} {Fn Fn' : List D → Out D} (h : FnG P w K mg base tb k f fd ps Fn) (e : Fn = Fn') : FnG P w K mg base tb k f fd ps Fn' := e ▸ h
/-- the table's defs, all modes -/
structure Fns (P : Program) (w : World) (K : PySem.W.Frag) (mg : Str → Option Value) (base : Heap) (τ : Tab) (kws : List (Nat × Nat × List Str × List Nat)) (n : Nat) : Prop where
  fns : ∀ f F, τ.fns[f]? = some F → ∃ a fd, FnG P w K mg base τ.tabs n a fd F.ps (callT τ n f) ∧ mg F.name = some (.ref a) ∧ PySem.W.keepIn K (.ref a) = true ∧ Binds K fd F.ps [] ∧ ∀ m ks perm, (f, m, ks, perm) ∈ kws → KwB K fd F.ps m ks perm
  excs : ∀ f F, τ.fns[f]? = some F → f ∈ τ.excs → ∃ a fd, FnX P w K mg base τ.tabs n a fd F.ps (fun ds => callB τ n .exc f ds .bad) ∧ mg F.name = some (.ref a) ∧ PySem.W.keepIn K (.ref a) = true ∧ Binds K fd F.ps [] ∧ ∀ m ks perm, (f, m, ks, perm) ∈ kws → KwB K fd F.ps m ks perm
  hots : ∀ f F, τ.fns[f]? = some F → f ∈ τ.hots → ∃ a fd, FnH P w K mg base τ.tabs n a fd F.ps (callT τ n f) ∧ mg F.name = some (.ref a) ∧ PySem.W.keepIn K (.ref a) = true ∧ Binds K fd F.ps []
  lams : ∀ f F par, τ.fns[f]? = some F → f ∈ τ.lams → F.ps = [par] → ∃ a fd, FnC P w K mg base τ.tabs n a fd par (fun a => callB τ n .act f [.none] a) ∧ mg F.name = some (.ref a) ∧ PySem.W.keepIn K (.ref a) = true ∧ Binds K fd F.ps []
  news : ∀ f F, τ.fns[f]? = some F → f ∈ τ.news → ∃ a fd, FnL P w K mg base τ.tabs n a fd F.ps (fun ds => callB τ n .new f ds .bad) ∧ mg F.name = some (.ref a) ∧ PySem.W.keepIn K (.ref a) = true ∧ Binds K fd F.ps []
theorem fns_zero {τ : Tab} {kws : List (Nat × Nat × List Str × List Nat)} (t : TabOk P w K mg base τ kws) : Fns P w K mg base τ kws 0 := by
  have row : ∀ f F, τ.fns[f]? = some F → ∃ (a : Addr) (fd : FuncData), mg F.name = some (.ref a) ∧ PySem.W.keepIn K (.ref a) = true ∧ Binds K fd F.ps [] ∧ ∀ m ks perm, (f, m, ks, perm) ∈ kws → KwB K fd F.ps m ks perm := fun f F h => by
    obtain ⟨st, a, fd, hd, hb, hk, _, _⟩ := (t.rows f F h).ex
    exact ⟨a, fd, hd.mgf, hd.kp, hb, hk⟩
  refine ⟨fun f F h => ?_, fun f F h _ => ?_, fun f F h _ => ?_, fun f F par h _ _ => ?_, fun f F h _ => ?_⟩
  · obtain ⟨a, fd, h1, h2, h3, h4⟩ := row f F h
    exact ⟨a, fd, fn_bad, h1, h2, h3, h4⟩
  · obtain ⟨a, fd, h1, h2, h3, h4⟩ := row f F h
    exact ⟨a, fd, ⟨fun ds Q h => h.elim, fun T A outer s H G args us vs ds Q E hr hg ht e0 hbt rv sub tb tg is h => h.elim⟩, h1, h2, h3, h4⟩
  · obtain ⟨a, fd, h1, h2, h3, h4⟩ := row f F h
    exact ⟨a, fd, ⟨fun ds Q h => h.elim, fun T A outer s H G args us vs ds Q hr hg ht e0 hbt rv sub tb tg is h => h.elim⟩, h1, h2, h3⟩
  · obtain ⟨a, fd, h1, h2, h3, h4⟩ := row f F h
    exact ⟨a, fd, ⟨fun T A outer s H G g a Q hr hg ht e0 hbt sub tb tg ea ok h => h.elim⟩, h1, h2, h3⟩
  · obtain ⟨a, fd, h1, h2, h3, h4⟩ := row f F h
    exact ⟨a, fd, ⟨fun ds Q h => h.elim, fun T A outer s H G args us vs ds Q hr hg ht e0 hbt rv sub tb tg is h => h.elim⟩, h1, h2, h3⟩
section
variable {τ : Tab} {kws : List (Nat × Nat × List Str × List Nat)} {n f : Nat} {F : Fd} {st : Stmt} {a : Addr} {fd : FuncData} {T : Ap} {A : Around} {outer : List PySem.Env} {s : Shared} {H : Hp} {E : XK} {fr cm : Bool} {act : Out D}
/-- the body of a def of the table, in any mode -/
theorem tab_body (t : TabOk P w K mg base τ kws) (ih : Fns P w K mg base τ kws n) (hd : Def K mg F.name st a fd) (h1 : scC F.N F.ps (fnScope st) = true) (h2 : chkS (ckOf τ kws f F fr cm act) (sxOf st) F.body (.l (fnBody st)) = true) (h3 : f ∈ τ.lms → LamR base mg τ.tabs fd (F.name ++ ".<locals>."))
    (hr : cm = true → Room (3 * n + 2) (A.deeper (envOfC F.name (fnScope st) s.heap.objs.size a fd.code))) (hrH : L2H.RoomH (3 * n) (A.deeper (envOfC F.name (fnScope st) s.heap.objs.size a fd.code))) (hg : A.guards = some []) (ht : T.tabs = τ.tabs)
    (ha : cm = true → ActF (cxB P w K mg base F.N F.name (fnScope st) a fd.code A outer s H E cm) T act ∨ act = .bad) :
    SndSs (cxB P w K mg base F.N F.name (fnScope st) a fd.code A outer s H E cm) T (fun cls d _ H => E cls d H) fr (fnBody st) (ex (gam τ n act) τ.W F.body) := by
  have SC := fnScope_by h1
  have g : Gd (ckOf τ kws f F fr cm act) n (sxOf st) T (cxB P w K mg base F.N F.name (fnScope st) a fd.code A outer s H E cm) :=
    { calm := fun z => z, nd := SC.nd, hN := rfl, room := fun z _ => hr z, rm := fun z => (hr z).mono (by omega), roomH := hrH, gua := hg, tb := ht, sc := rfl, fn := fun _ _ => rfl, blt := t.blt, glob := t.glob, fns := ih.fns, excs := ih.excs, hots := ih.hots, lams := ih.lams
      lam := (fun z _ => lamF_of (h3 (of_decide_eq_true z)) ht rfl rfl rfl rfl)
      news := ih.news, xc := t.xc }
  have wk : Wk (ckOf τ kws f F fr cm act) (cxB P w K mg base F.N F.name (fnScope st) a fd.code A outer s H E cm) T (fun cls d _ H => E cls d H) :=
    ⟨passes_of rfl, SC.kind, takes_of rfl rfl rfl rfl, rfl, rfl, ha⟩
  exact soundS τ.W F.body g wk h2
end
theorem callB_eq {τ : Tab} {n f : Nat} {F : Fd} {m : Md} {ds : List D} {a : Out D} (e : ¬ f = τ.dip) (h : τ.fns[f]? = some F) (hm : modB τ f m = true) : callB τ (n + 1) m f ds a = .guard (decide (ds.length = F.ps.length)) ((ex (gam τ n a) τ.W F.body (startM F.N ds m)).bind (retM m)) := by
  simp only [callB, if_neg e, h, hm, Out.guard_true]
  rfl
theorem fns_succ {τ : Tab} {kws : List (Nat × Nat × List Str × List Nat)} (t : TabOk P w K mg base τ kws) {n : Nat} (ih : Fns P w K mg base τ kws n) : Fns P w K mg base τ kws (n + 1) := by
  refine ⟨fun f F h => ?_, fun f F h hm => ?_, fun f F h hm => ?_, fun f F par h hm hp => ?_, fun f F h hm => ?_⟩
  · obtain ⟨st, a, fd, hd, hb, hk, hc, hp⟩ := (t.rows f F h).ex
    refine ⟨a, fd, ?_, hd.mgf, hd.kp, hb, hk⟩
    by_cases e : f = τ.dip
    · refine fnG_congr (hp e n) (funext fun ds => ?_)
      simp only [callB, if_pos e]
      rfl
    · obtain ⟨h1, h2, _, _, _, h3⟩ := hc e
      refine ⟨fun ds Q q => ?_, fun T A outer s H G args us vs ds Q hr hg ht e0 hbt rv sub tb tg is q => ?_⟩
      · rw [callT, callB_eq e h rfl, Out.All_guard] at q
        exact of_decide_eq_true q.1
      · rw [callT, callB_eq e h rfl, Out.All_guard, Out.All_bind] at q
        have hr : Room (3 * n + 2 + 1) A := hr
        exact codeAny_mono (fn_run hd.fn (fnScope_by h1) hr.depth (fun _ => hr.hd) e0 hbt rv (by rw [is.length]; exact of_decide_eq_true q.1) (tab_body t ih hd h1 h2 h3 (fun _ => hr.deeper _) (L2H.roomH_of ((hr.deeper _).mono (by omega))) hg ht (fun _ => .inr rfl)) (rep_start (N := F.N) (ps := F.ps) sub tb tg is) (q.2.mono fun fl hf => end_val hf)) fun r s' => cr0
  · obtain ⟨st, a, fd, hd, hb, hk, hc, hp⟩ := (t.rows f F h).ex
    refine ⟨a, fd, ?_, hd.mgf, hd.kp, hb, hk⟩
    by_cases e : f = τ.dip
    · have e2 : (fun ds => callB τ (n + 1) .exc f ds .bad) = fun _ => Out.bad := funext fun ds => by simp only [callB, if_pos e]; rfl
      rw [e2]
      exact ⟨fun ds Q h => h.elim, fun T A outer s H G args us vs ds Q E hr hg ht e0 hbt rv sub tb tg is h => h.elim⟩
    · obtain ⟨h1, h2, _, _, _, h3⟩ := hc e
      refine ⟨fun ds Q q => ?_, fun T A outer s H G args us vs ds Q E hr hg ht e0 hbt rv sub tb tg is q => ?_⟩
      · rw [callB_eq (m := .exc) e h (decide_eq_true hm), Out.All_guard] at q
        exact of_decide_eq_true q.1
      · rw [callB_eq (m := .exc) e h (decide_eq_true hm), Out.All_guard, Out.All_bind] at q
        have hr : Room (3 * n + 2 + 1) A := hr
        exact fn_run hd.fn (fnScope_by h1) hr.depth (fun _ => hr.hd) e0 hbt rv (by rw [is.length]; exact of_decide_eq_true q.1) (tab_body t ih hd h1 h2 h3 (fun _ => hr.deeper _) (L2H.roomH_of ((hr.deeper _).mono (by omega))) hg ht (fun _ => .inr rfl)) (rep_start (N := F.N) (ps := F.ps) sub tb tg is) (q.2.mono fun fl hf => end_exc hf)
  · obtain ⟨st, a, fd, hd, hb, hk, hc, hp⟩ := (t.rows f F h).ex
    refine ⟨a, fd, ?_, hd.mgf, hd.kp, hb⟩
    by_cases e : f = τ.dip
    · exact absurd (e ▸ hm) t.hot
    · obtain ⟨h1, _, _, h2, _, h3⟩ := hc e
      refine ⟨fun ds Q q => ?_, fun T A outer s H G args us vs ds Q hr hg ht e0 hbt rv sub tb tg is q => ?_⟩
      · rw [callT, callB_eq e h rfl, Out.All_guard] at q
        exact of_decide_eq_true q.1
      · rw [callT, callB_eq e h rfl, Out.All_guard, Out.All_bind] at q
        have hr : L2H.RoomH (3 * n + 2 + 1) A := hr
        exact codeAny_mono (fn_run hd.fn (fnScope_by h1) hr.depth (fun z => by cases z) e0 hbt rv (by rw [is.length]; exact of_decide_eq_true q.1) (tab_body t ih hd h1 (h2 hm) h3 (fun z => by cases z) ((hr.deeper _).mono (by omega)) hg ht (fun z => by cases z)) (rep_start (N := F.N) (ps := F.ps) sub tb tg is) (q.2.mono fun fl hf => end_val hf)) fun r s' => cr0
  · obtain ⟨st, a, fd, hd, hb, hk, hc, hp'⟩ := (t.rows f F h).ex
    refine ⟨a, fd, ?_, hd.mgf, hd.kp, hb⟩
    by_cases e : f = τ.dip
    · have e2 : (fun a => callB τ (n + 1) .act f [.none] a) = fun _ => Out.bad := funext fun a => by simp only [callB, if_pos e]; rfl
      rw [e2]
      exact ⟨fun T A outer s H G g a Q hr hg ht e0 hbt sub tb tg ea ok h => h.elim⟩
    · obtain ⟨h1, _, _, _, h2, h3⟩ := hc e
      refine ⟨fun T A outer s H G g act Q hr hg ht e0 hbt sub tb tg ea ok q => ?_⟩
      rw [callB_eq (m := .act) e h (decide_eq_true hm), Out.All_guard, Out.All_bind] at q
      have hr : Room (3 * n + 4 + 1) A := hr
      have SC := fnScope_by h1
      have hN : 0 < F.N.length := by
        have z := congrArg List.length SC.pre
        rw [List.length_take, hp] at z
        simp at z
        omega
      refine codeAny_mono (fn_run (us := [.ref g]) (vs := [.ref g]) (b := true) (E := fun _ _ _ => False) hd.fn SC hr.depth (fun _ => hr.hd) e0 (by rw [hp]; exact hbt) (.cons rfl .nil) (by rw [hp]; rfl)
        (tab_body t ih hd h1 (h2 hm act) h3 (fun _ => (hr.deeper _).mono (by omega)) (L2H.roomH_of ((hr.deeper _).mono (by omega))) hg ht (fun _ => .inl ⟨⟨_, g, ea, hr.deeper _, ok⟩, rfl⟩)) (rep_act sub tb tg hN ea) (q.2.mono fun fl hf => end_val hf)) fun r s' => cr0
  · obtain ⟨st, a, fd, hd, hb, hk, hc, hp⟩ := (t.rows f F h).ex
    refine ⟨a, fd, ?_, hd.mgf, hd.kp, hb⟩
    by_cases e : f = τ.dip
    · have e2 : (fun ds => callB τ (n + 1) .new f ds .bad) = fun _ => Out.bad := funext fun ds => by simp only [callB, if_pos e]; rfl
      rw [e2]
      exact ⟨fun ds Q h => h.elim, fun T A outer s H G args us vs ds Q hr hg ht e0 hbt rv sub tb tg is h => h.elim⟩
    · obtain ⟨h1, _, h2, _, _, h3⟩ := hc e
      refine ⟨fun ds Q q => ?_, fun T A outer s H G args us vs ds Q hr hg ht e0 hbt rv sub tb tg is q => ?_⟩
      · rw [callB_eq (m := .new) e h (decide_eq_true hm), Out.All_guard] at q
        exact of_decide_eq_true q.1
      · rw [callB_eq (m := .new) e h (decide_eq_true hm), Out.All_guard, Out.All_bind] at q
        have hr : Room (3 * n + 2 + 1) A := hr
        exact codeAny_mono (fn_run hd.fn (fnScope_by h1) hr.depth (fun _ => hr.hd) e0 hbt rv (by rw [is.length]; exact of_decide_eq_true q.1) (tab_body t ih hd h1 (h2 hm) h3 (fun _ => hr.deeper _) (L2H.roomH_of ((hr.deeper _).mono (by omega))) hg ht (fun _ => .inr rfl)) (rep_start (N := F.N) (ps := F.ps) sub tb tg is) (q.2.mono fun fl hf => end_new hf)) fun r s' => cr0
theorem tab_fns {τ : Tab} {kws : List (Nat × Nat × List Str × List Nat)} (t : TabOk P w K mg base τ kws) : ∀ (n : Nat), Fns P w K mg base τ kws n
  | 0 => fns_zero t
  | n + 1 => fns_succ t (tab_fns t n)
end
end Ev

set_option Elab.async false
set_option linter.all false
set_option autoImplicit false
set_option maxRecDepth 100000
set_option maxHeartbeats 4000000
namespace Ev
open PySem L2
/-! ### equations that fire on known arguments alone -/
section
variable {α : Type} {P : α → Prop}
theorem All_any {f : Int → Out α} : (Out.any f).All P ↔ ∀ z, (f z).All P := Iff.rfl
theorem All_pick {n : Nat} {f : Nat → Out α} : (Out.pick n f).All P ↔ ∀ i, i < n → (f i).All P := Iff.rfl
theorem slot_0 {s : Sl} {ρ : Ro} : slot (some s :: ρ) 0 = .ret s := rfl
theorem slot_s {s : Option Sl} {ρ : Ro} {i : Nat} : slot (s :: ρ) (i + 1) = slot ρ i := by simp [slot]
theorem val_val (d : D) : (match (Sl.val d) with | .val d => Out.ret d | _ => .bad) = .ret d := rfl
theorem b_add (i j : Int) : binD .add (.int i) (.int j) = .ret (.int (i + j)) := rfl
theorem b_sub (i j : Int) : binD .sub (.int i) (.int j) = .ret (.int (i - j)) := rfl
theorem b_mul (i j : Int) : binD .mul (.int i) (.int j) = .guard (mulOk i j) (.ret (.int (i * j))) := rfl
theorem b_fdiv (i j : Int) : binD .fdiv (.int i) (.int j) = .guard (divOk j) (.ret (.int (i / j))) := rfl
theorem b_mod (i j : Int) : binD .mod (.int i) (.int j) = .guard (decide (0 < j)) (.ret (.int (i % j))) := rfl
theorem b_addL (xs ys : List D) : binD .add (.list xs) (.list ys) = .guard (decide (xs.length + ys.length ≤ lim)) (.ret (.list (xs ++ ys))) := rfl
theorem b_addT (xs ys : List D) : binD .add (.tuple xs) (.tuple ys) = .guard (decide (xs.length + ys.length ≤ lim)) (.ret (.tuple (xs ++ ys))) := rfl
theorem b_pow (i j : Int) : binD .pow (.int i) (.int j) = .guard (decide (0 ≤ j) && (decide (j ≤ 1000000) && decide (i.natAbs < 2 ^ 64))) (.ret (.int (i ^ j.toNat))) := rfl
theorem m_lt (i j : Int) : cmpD .lt (.int i) (.int j) = .ret (.bool (decide (i < j))) := rfl
theorem m_le (i j : Int) : cmpD .le (.int i) (.int j) = .ret (.bool (decide (i ≤ j))) := rfl
theorem m_gt (i j : Int) : cmpD .gt (.int i) (.int j) = .ret (.bool (decide (j < i))) := rfl
theorem m_ge (i j : Int) : cmpD .ge (.int i) (.int j) = .ret (.bool (decide (j ≤ i))) := rfl
theorem t_int (i : Int) : bltD .int [.int i] = .ret (.int i) := rfl
theorem t_abs (i : Int) : bltD .abs [.int i] = .ret (.int (if i < 0 then -i else i)) := rfl
theorem t_lenL (xs : List D) : bltD .len [.list xs] = .ret (.int xs.length) := rfl
theorem t_lenT (xs : List D) : bltD .len [.tuple xs] = .ret (.int xs.length) := rfl
theorem t_max (i j : Int) : bltD .max [.int i, .int j] = .ret (.int (if j > i then j else i)) := rfl
theorem t_min (i j : Int) : bltD .min [.int i, .int j] = .ret (.int (if j < i then j else i)) := rfl
theorem t_divmod (i j : Int) : bltD .divmod [.int i, .int j] = .guard (decide (0 < j) && decide (j < 1073741824)) (.ret (.tuple [.int (i / j), .int (i % j)])) := rfl
theorem c_cons (x : D) (xs : List D) : consD x (.tuple xs) = .ret (.tuple (x :: xs)) := rfl
theorem c_unt (xs : List D) : unTup (.tuple xs) = .ret xs := rfl
theorem c_asI (i : Int) : asInt (.int i) = .ret i := rfl
theorem c_asB (b : Bool) : asBool (.bool b) = .ret b := rfl
theorem c_itL (xs : List D) : itemsD (.list xs) = .ret xs := rfl
theorem c_itT (xs : List D) : itemsD (.tuple xs) = .ret xs := rfl
theorem v_of {ρ : Ro} {i : Nat} {d : D} (h : slot ρ i = .ret (.val d)) : valOf ρ i = .ret d := by unfold valOf; rw [h]; rfl
theorem v_0 {d : D} {ρ : Ro} : valOf (some (.val d) :: ρ) 0 = .ret d := rfl
theorem v_s {s : Option Sl} {ρ : Ro} {i : Nat} : valOf (s :: ρ) (i + 1) = valOf ρ i := by unfold valOf; rw [slot_s]
theorem tub_0 {ρ : Ro} : tubOf (some (.val (.dict [])) :: ρ) 0 = .ret () := rfl
theorem tub_s {s : Option Sl} {ρ : Ro} {i : Nat} : tubOf (s :: ρ) (i + 1) = tubOf ρ i := by unfold tubOf; rw [slot_s]
theorem g_nm {i : Nat} {d : D} {ρ : Ro} : asgG (.nm i) d ρ = some (ρ.set i (some (.val d))) := rfl
theorem smallI_lt {z : Int} (h1 : -18446744073709551616 < z) (h2 : z < 18446744073709551616) : smallI z = true := by
  unfold smallI
  exact decide_eq_true (by omega)
theorem mulOk_r {i j : Int} (h : smallI j = true) : mulOk i j = true := by unfold mulOk; rw [h]; cases smallI i <;> rfl
theorem mulOk_l {i j : Int} (h : smallI i = true) : mulOk i j = true := by unfold mulOk; rw [h]; rfl
end
end Ev

set_option Elab.async false
set_option linter.all false
set_option autoImplicit false
set_option maxRecDepth 100000
set_option maxHeartbeats 4000000
namespace Ev
open PySem L2
open PyProof.Rows
open C8 (Def Fun fnArgs fnBody fnScope)
/-! ### the law is called -/
/-- ahead of the law's call nothing is tracked but the script -/
def soloH (a : Addr) (o : Obj) (ns : List Int) : Hp := fun b => if b = a then some (.frz o (.lst (ns.map V.int))) else none
theorem soloH_at {a : Addr} {o : Obj} {ns : List Int} : soloH a o ns a = some (.frz o (.lst (ns.map V.int))) := if_pos rfl
theorem soloH_ne {a b : Addr} {o : Obj} {ns : List Int} (h : b ≠ a) : soloH a o ns b = none := if_neg h
theorem soloH_some {a b : Addr} {o : Obj} {ns : List Int} {u : HO} (h : soloH a o ns b = some u) : b = a ∧ u = .frz o (.lst (ns.map V.int)) := by
  by_cases e : b = a
  · subst e; rw [soloH_at] at h; cases h; exact ⟨rfl, rfl⟩
  · rw [soloH_ne e] at h; cases h
/-- .. and the tables of code objects -/
def soloT (a : Addr) (o : Obj) (ns : List Int) (ts : List Addr) : Hp := fun b => if b = a then some (.frz o (.lst (ns.map V.int))) else if b ∈ ts then some (.tbl #[]) else none
section
variable {a b : Addr} {o : Obj} {ns : List Int} {ts : List Addr}
theorem soloT_at : soloT a o ns ts a = some (.frz o (.lst (ns.map V.int))) := if_pos rfl
theorem soloT_tab (n : b ≠ a) (h : b ∈ ts) : soloT a o ns ts b = some (.tbl #[]) := (if_neg n).trans (if_pos h)
theorem soloT_ne (n : b ≠ a) (h : b ∉ ts) : soloT a o ns ts b = none := (if_neg n).trans (if_neg h)
theorem soloT_some {u : HO} (h : soloT a o ns ts b = some u) : (b = a ∧ u = .frz o (.lst (ns.map V.int))) ∨ (b ≠ a ∧ b ∈ ts ∧ u = .tbl #[]) := by
  by_cases e : b = a
  · subst e; rw [soloT_at] at h; cases h; exact .inl ⟨rfl, rfl⟩
  · by_cases m : b ∈ ts
    · rw [soloT_tab e m] at h; cases h; exact .inr ⟨e, m, rfl⟩
    · rw [soloT_ne e m] at h; cases h
end
abbrev lstObj (vs : List Value) : Obj := { cls := .type "list", data := .seq vs.toArray }
section
variable {P : Program} {w : World} {K : PySem.W.Frag} {mg mb : Str → Option Value} {k : Nat} {fa a : Addr} {x : Str} {Fn : List D → Out D} {s₁ : Shared} {vs : List Value} {ns : List Int} {tb : List (Addr × Str)} {cs : List (Addr × Addr)}
theorem call_g (hK : K.In s₁.heap) (h1 : s₁.heap.Ns mainGlobals mg) (h2 : s₁.heap.Ns builtinsNs mb) (h3 : ∀ x : Str, x ≠ "__name__" → mb x = bootBuiltins x) (h4 : s₁.heap.NoLimit) (h5 : s₁.gens = #[])
    (hcs : cs.map (·.2) = tb.map (·.1)) (hT : ∀ p ∈ cs, s₁.heap.get? p.2 = some tabObj0) (nT : ∀ p ∈ cs, K.lookup p.2 = none) (C : ∀ p ∈ cs, PySem.W.CodeHd s₁.heap p.1 p.2)
    (hbm : ∃ (bm : Addr) (ob : Obj), mg "__builtins__" = some (.ref bm) ∧ bm ≠ builtinsNs ∧ s₁.heap.get? bm = some ob ∧ ob.cls = .type "module" ∧ ob.dict = some builtinsNs ∧ ob.data = .plain)
    (ho : s₁.heap.get? a = some (lstObj vs)) (hi : IntsAre vs ns) (hl : ns.length ≤ sizeLine) (hr : Room (3 * k) callerA) (hno : K.lookup a = none)
    (F : ∀ base : Heap, K.In base → base.Ns mainGlobals mg → (∀ p ∈ cs, LamX.TabB base mg p.1 p.2) → ∃ fd, Binds K fd [x] [] ∧ FnG P w K mg base tb k fa fd [x] Fn) (hF : (Fn [scr ns]).All fun d => d = .bool true) :
    codeAny (model P w) callerA (.call (.ref fa) ⟨[.ref a], []⟩) (fun r s' => r = .ok (.ret (.bool true)) ∧ OldK s₁.heap s'.heap ∧ s'.os = s₁.os ∧ AllBare s'.gens) s₁ := by
  obtain ⟨ts, ets⟩ : ∃ ts : List Addr, ts = tb.map (·.1) := ⟨_, rfl⟩
  have rv := L2.vals_ints hi
  have inT : ∀ {b : Addr}, b ∈ ts → ∃ p ∈ cs, p.2 = b := fun {b} hb => by
    rw [ets, ← hcs] at hb
    obtain ⟨p, hp, e⟩ := List.mem_map.mp hb
    exact ⟨p, hp, e⟩
  have isT : ∀ {b : Addr}, b ∈ ts → s₁.heap.get? b = some tabObj0 := fun {b} hb => by
    obtain ⟨p, hp, e⟩ := inT hb
    rw [← e]
    exact hT p hp
  have aT : ∀ {b : Addr}, b ∈ ts → b ≠ a := fun {b} hb z => by
    have q := isT hb
    rw [z, ho] at q
    cases q
  have memT : ∀ p ∈ cs, p.2 ∈ ts := fun p hp => by
    rw [ets, ← hcs]
    exact List.mem_map.mpr ⟨p, hp, rfl⟩
  have free : ∀ {b : Addr} {o : Obj}, s₁.heap.get? b = some o → (∀ vs n, o.data ≠ .seq vs n) → o.data ≠ .fields #[] → soloT a (lstObj vs) ns ts b = none := fun {b o} e n1 n2 => by
    refine soloT_ne (fun z => ?_) fun z => ?_
    · rw [z, ho] at e
      cases e
      exact n1 _ _ rfl
    · rw [isT z] at e
      cases e
      exact n2 rfl
  have seen : ∀ {b : Addr} {o : Obj}, s₁.heap.get? b = some o → (∀ vs n, o.data ≠ .seq vs n) → o.data ≠ .fields #[] → (hidT s₁.heap (soloT a (lstObj vs) ns ts)).get? b = some o := fun e n1 n2 => hidT_get e (free e n1 n2)
  have nsK : ∀ {b : Addr} {m : Str → Option Value}, s₁.heap.Ns b m → (hidT s₁.heap (soloT a (lstObj vs) ns ts)).Ns b m := fun ⟨o, es, ep, e, d, r⟩ => ⟨o, es, ep, seen e (fun _ _ z => by rw [d] at z; cases z) (fun z => by rw [d] at z; cases z), d, r⟩
  have inK : K.In (hidT s₁.heap (soloT a (lstObj vs) ns ts)) := fun b o e => hidT_get (hK b o e) (soloT_ne (fun z => by
    subst z
    rw [hno] at e
    cases e) fun z => by
    obtain ⟨p, hp, q⟩ := inT z
    have n := nT p hp
    rw [q, e] at n
    cases n)
  have hM : Mod K mg (hidT s₁.heap (soloT a (lstObj vs) ns ts)) := ⟨inK, nsK h1, ⟨mb, nsK h2, h3⟩, let ⟨mc, z1, z2⟩ := h4; ⟨mc, nsK z1, z2⟩⟩
  have hok : HOk P w (soloT a (lstObj vs) ns ts) s₁.heap := fun b u e => by
    rcases soloT_some e with ⟨rfl, rfl⟩ | ⟨_, m, rfl⟩
    · exact ⟨ho, by rw [List.length_map]; exact hl, vs, _, rv, ho⟩
    · exact isT m
  have TB : ∀ p ∈ cs, LamX.TabB (hidT s₁.heap (soloT a (lstObj vs) ns ts)) mg p.1 p.2 := fun p hp => by
    have hTp := hT p hp
    refine ⟨?_, ?_, fun z => ?_⟩
    · obtain ⟨o, us, file, tf, flags, tg, inF, text, tt, e1, r1, r2, r3, r4, r5, r6, r7, r8, hne⟩ := C p hp
      exact ⟨o, us, file, tf, flags, tg, inF, text, tt, seen e1 (fun _ _ z => by rw [r2] at z; cases z) (fun z => by rw [r2] at z; cases z; simp at r3), r1, r2, r3, r4, r5, r6, r7, r8, hne⟩
    · obtain ⟨bm, ob, b1, b2, b3, b4, b5, b6⟩ := hbm
      refine ⟨bm, ob, b1, b2, fun q => ?_, fun q => ?_, seen b3 (fun _ _ z => by rw [b6] at z; cases z) (fun z => by rw [b6] at z; cases z), b4, b5, b6⟩
      · obtain ⟨o, es, ep, e, hd, _⟩ := h1
        rw [q, e] at b3
        cases b3
        rw [hd] at b6
        cases b6
      · rw [q, hTp] at b3
        cases b3
        cases b6
    · obtain ⟨o, es, ep, e, hd, _⟩ := h1
      rw [z, hTp] at e
      cases e
      cases hd
  have e0 : Env0 P w K mg (hidT s₁.heap (soloT a (lstObj vs) ns ts)) callerA [] s₁ (soloT a (lstObj vs) ns ts) := ⟨rfl, hM, fun b o e => of_hidT e, Nat.le_of_eq (hidT_size _ _), trivial, fun b hb => absurd (show b ∈ ([] : List Addr) from hb) (by simp), hok, .of_eq h5⟩
  obtain ⟨fd, hb, fn⟩ := F _ inK (nsK h1) TB
  have hbt : BindsTo s₁ fd ⟨[.ref a], []⟩ ([x].zip [.ref a]) := hb s₁ [.ref a] hK rfl
  have is : IsAll { tabs := tb } (soloH a (lstObj vs) ns) [.ref a] [scr ns] := .cons (.scr soloH_at) .nil
  have sub : Sub (soloH a (lstObj vs) ns) (soloT a (lstObj vs) ns ts) := fun b u e => by
    obtain ⟨rfl, rfl⟩ := soloH_some e
    exact soloT_at
  have tok : TubOk { tabs := tb } (soloT a (lstObj vs) ns ts) := ⟨fun _ z => (by cases z), fun p hp => by
    have m : p.1 ∈ ts := by rw [ets]; exact List.mem_map.mpr ⟨p, hp, rfl⟩
    exact ⟨#[], soloT_tab (aT m) m, trivial, fun pos cv z => by cases z⟩, fun _ z => (by cases z)⟩
  have aw : Ap.away { tabs := tb } (soloH a (lstObj vs) ns) := ⟨fun b hb => by
    rcases hb with z | ⟨q, z⟩
    · cases z
    · have m : b ∈ ts := by rw [ets]; exact List.mem_map.mpr ⟨_, z, rfl⟩
      exact soloH_ne (aT m), fun b u z => by cases z⟩
  refine codeAny_mono (fn.run { tabs := tb } callerA [] s₁ (soloT a (lstObj vs) ns ts) (soloH a (lstObj vs) ns) ⟨[.ref a], []⟩ [.ref a] [.ref a] [scr ns] (fun v _ => v = .bl true) hr rfl rfl e0 hbt (.cons rfl .nil) sub tok aw is
    (hF.mono fun d hd v G' H' _ i => by
      subst hd
      rcases i with i | ⟨z, _⟩
      · cases i; rfl
      · cases z)) fun r s' h => ?_
  cases r with
  | error e => exact False.elim h
  | ok fl =>
    cases fl with
    | next => exact False.elim h
    | brk => exact False.elim h
    | cont => exact False.elim h
    | ret u =>
      obtain ⟨v, H', os, bare, un, hok', r', q⟩ := h
      obtain rfl : v = .bl true := q
      obtain rfl : u = Value.bool true := r'
      have key : ∀ b o, b ∉ ts → s₁.heap.get? b = some o → s'.heap.get? b = some o := fun b o nb e => by
        by_cases hb : b = a
        · subst hb
          rw [ho] at e
          cases e
          exact (hok' _ _ (un.frzs _ _ _ soloT_at)).1
        · exact un.keep b o e (soloT_ne hb nb) (by intro z; exact absurd (show b ∈ ([] : List Addr) from z) (by simp)) (by simp)
      have grown : ∀ b ∈ ts, ∃ more : Array Value, s'.heap.get? b = some { cls := .none, data := .fields more } := fun b hb => by
        obtain ⟨more, z⟩ := un.tbls b #[] (soloT_tab (aT hb) hb)
        exact ⟨_, hok' b _ z⟩
      refine ⟨rfl, ⟨fun b o e => ?_, fun b o e => ?_⟩, os, bare⟩
      · by_cases hb : b ∈ ts
        · obtain ⟨p, hp, ep⟩ := inT hb
          obtain ⟨more, hm⟩ := grown b hb
          rw [isT hb] at e
          cases e
          exact .inr (.inl ⟨by rw [← ep]; exact ((C p hp).tab (hT p hp)).isCodeTable, rfl, #[], more, rfl, by rw [Array.empty_append]; exact hm⟩)
        · exact .inl (key b o hb e)
      · by_cases hb : b ∈ ts
        · obtain ⟨more, hm⟩ := grown b hb
          exact ⟨_, hm⟩
        · exact ⟨o, key b o hb e⟩
end
theorem notLst_of {K : PySem.W.Frag} (h : (K.all fun p => notLst p.2) = true) {a : Addr} {o : Obj} (e : K.lookup a = some o) : notLst o = true := by
  have : (a, o) ∈ K := by
    clear h
    induction K with
    | nil => cases e
    | cons p r ih =>
      obtain ⟨b, u⟩ := p
      rw [List.lookup_cons] at e
      split at e
      · rename_i q
        cases e
        rw [eq_of_beq q]
        exact List.mem_cons_self
      · exact List.mem_cons_of_mem _ (ih e)
  exact List.all_eq_true.mp h _ this
/-- the def that draws -/
theorem xcNone {P : Program} {K : PySem.W.Frag} {mg : Str → Option Value} : XcOk P K mg {} :=
  { mks := fun _ _ _ _ h => (List.not_mem_nil h).elim, mk0s := fun _ _ h => (List.not_mem_nil h).elim, isxs := fun _ _ _ h => (List.not_mem_nil h).elim, xats := fun _ _ h => (List.not_mem_nil h).elim, rsd := fun _ h => (by rcases h with ⟨_, _, _, h⟩ | ⟨_, h⟩ <;> exact (List.not_mem_nil h).elim), trys := fun _ _ h => (List.not_mem_nil h).elim }
def tau0 (tb : List (Addr × Str)) : Tab := ⟨[], 0, [], fun _ => none, 100, {}, [], [], [], tb, []⟩
/-- a def, by the answers of its body -/
def bodyF (N ps : List Str) (fb : Ro → Out Fl) (ds : List D) : Out D := .guard (decide (ds.length = ps.length)) ((fb (startR N ds)).bind retOf)
abbrev ckD (tb : List (Addr × Str)) (F : Fd) : Ck := ⟨tau0 tb, F.N, [], false, true, false, .bad⟩
theorem dip_row {P : Program} {w : World} {K : PySem.W.Frag} {mg : Str → Option Value} {base : Heap} {tb : List (Addr × Str)} {st : Stmt} {f : Addr} {fd : FuncData} {F : Fd} {k : Nat} (Df : Def K mg F.name st f fd) (hb : ∀ x ∈ bltNames, mg x = none)
    (h1 : C8.scC F.N F.ps (fnScope st) = true) (h2 : ∀ tb, chkS (ckD tb F) (sxOf st) F.body (.l (fnBody st)) = true)
    (hw : ∀ (Γ : Ev.Env) (W : Nat) (ds : List D) (P : D → Prop), (dipD ds).All P → (bodyF F.N F.ps (ex Γ W F.body) ds).All P) : FnG P w K mg base tb (k + 1) f fd F.ps dipD := by
  have SC := C8.fnScope_by h1
  refine ⟨fun ds Q q => ?_, fun T A outer s H G args us vs ds Q hr hg ht e0 hbt rv sub tb tg is q => ?_⟩
  · have q := hw ⟨fun _ _ => .bad, fun _ _ => .bad, fun _ => none, fun _ _ => .bad, fun _ _ => .bad, .bad⟩ 0 ds Q q
    unfold bodyF at q
    rw [Out.All_guard] at q
    exact of_decide_eq_true q.1
  · have q := hw (gam (tau0 T.tabs) k .bad) 100 ds _ q
    unfold bodyF at q
    rw [Out.All_guard, Out.All_bind] at q
    have hr : Room (3 * k + 2 + 1) A := hr
    have g : Gd (ckD T.tabs F) k (sxOf st) T (cxB P w K mg base F.N F.name (fnScope st) f fd.code A outer s H (fun _ _ _ => False) true) :=
      { calm := fun z => z, nd := SC.nd, hN := rfl, room := fun _ _ => hr.deeper _, rm := fun _ => (hr.deeper _).mono (by omega), roomH := L2H.roomH_of ((hr.deeper _).mono (by omega)), gua := hg, tb := rfl, sc := rfl, fn := fun _ _ => rfl, blt := hb, glob := (fun _ _ h => by cases h),
        fns := (fun f F h => by cases h), excs := (fun f F h => by cases h), hots := (fun f F h => by cases h), lams := (fun f F _ h => by cases h), lam := (fun z _ => by cases z), news := (fun f F h => by cases h), xc := xcNone }
    have wk : Wk (ckD T.tabs F) (cxB P w K mg base F.N F.name (fnScope st) f fd.code A outer s H (fun _ _ _ => False) true) T (fun _ _ _ _ => False) := ⟨passes_of rfl, SC.kind, takes_of rfl rfl rfl rfl, rfl, rfl, fun _ => .inr rfl⟩
    have hS := soundS (S := sxOf st) 100 F.body g wk (h2 T.tabs)
    exact codeAny_mono (fn_run (E := fun _ _ _ => False) Df.fn SC hr.depth (fun _ => hr.hd) e0 hbt rv (by rw [is.length]; exact of_decide_eq_true q.1) hS (rep_start (N := F.N) (ps := F.ps) sub tb tg is) (q.2.mono fun fl hf => end_val hf)) fun r s' => cr0
theorem lookup_mem {α : Type} {x : Str} {d : α} : ∀ {l : List (Str × α)}, l.lookup x = some d → (x, d) ∈ l
  | [], h => by cases h
  | (b, u) :: r, h => by
    rw [List.lookup_cons] at h
    split at h
    · rename_i q
      cases h
      rw [eq_of_beq q]
      exact List.mem_cons_self
    · exact List.mem_cons_of_mem _ (lookup_mem h)
/-- a def's row, from the facts of the top -/
theorem def_mk {K : PySem.W.Frag} {h : Heap} {mg : Str → Option Value} {x : Str} {st : Stmt} {f : Addr} {oc kV doc pm cdv ct : Value} {od an : Option Addr} {osl : Array (Option Value)} (X : K.In h) (G : h.Ns mainGlobals mg)
    (e : PySem.W.nsIn K mainGlobals x = some (some (.ref f))) (l : K.lookup f = some ⟨oc, od, .func (PySem.W.fnOf x x (fnArgs st) (fnBody st) (fnScope st) .none kV doc pm an cdv ct), osl⟩) (c : PySem.W.codeIn K cdv x = true) (kp : PySem.W.keepIn K (.ref f) = true) :
    ∃ fd, Def K mg x st f fd ∧ fd.defaults = .none := ⟨_, ⟨⟨_, _, _, _, _, _, _, _, _, _, rfl, l, c⟩, PySem.W.mg_of X G e, kp⟩, rfl⟩
end Ev

set_option Elab.async false
set_option linter.all false
set_option maxRecDepth 100000
set_option maxHeartbeats 4000000
namespace Ev
open PySem L2
/-! ### proved answers, kept -/
mutual
theorem sameD_is : ∀ {a b : D}, sameD a b = true → a = b
  | .none, b, h => by cases b <;> first | rfl | (simp only [sameD] at h; cases h)
  | .bool x, b, h => by
    cases b <;> simp only [sameD] at h <;> first | (cases h; done) | skip
    rw [eq_of_beq h]
  | .int x, b, h => by
    cases b <;> simp only [sameD] at h <;> first | (cases h; done) | skip
    rw [of_decide_eq_true h]
  | .str x, b, h => by
    cases b <;> simp only [sameD] at h <;> first | (cases h; done) | skip
    rw [of_decide_eq_true h]
  | .list xs, b, h => by
    cases b <;> simp only [sameD] at h <;> first | (cases h; done) | skip
    rw [sameL_is h]
  | .tuple xs, b, h => by
    cases b <;> simp only [sameD] at h <;> first | (cases h; done) | skip
    rw [sameL_is h]
  | .dict xs, b, h => by cases b <;> simp only [sameD] at h <;> cases h
theorem sameL_is : ∀ {a b : List D}, sameL a b = true → a = b
  | [], b, h => by cases b <;> first | rfl | (simp only [sameL] at h; cases h)
  | x :: xs, b, h => by
    cases b with
    | nil => simp only [sameL] at h; cases h
    | cons y ys =>
      simp only [sameL, Bool.and_eq_true] at h
      rw [sameD_is h.1, sameL_is h.2]
end
def retIs (o : Out D) (d : D) : Bool := match o with
  | .ret x => sameD x d
  | _ => false
theorem retIs_eq {o : Out D} {d : D} (h : retIs o d = true) : o = .ret d := by
  cases o <;> simp only [retIs] at h <;> first | (cases h; done) | skip
  rw [sameD_is h]
abbrev Ent := List D × D
/-- a table of answers, by the def's number -/
abbrev Mem := List (Nat × List Ent)
def entOk (τ : Tab) (n f : Nat) (e : Ent) : Bool := retIs (callT τ n f e.1) e.2
def lookA (ds : List D) : List Ent → Option D
  | [] => none
  | (a, d) :: r => if sameL a ds = true then some d else lookA ds r
def lookM (f : Nat) (ds : List D) : Mem → Option D
  | [] => none
  | (g, es) :: r => if g = f then lookA ds es else lookM f ds r
def memC (τ : Tab) (m : Mem) (n f : Nat) (ds : List D) : Out D := match lookM f ds m with
  | some d => .ret d
  | none => callT τ n f ds
def MemOk (τ : Tab) (n : Nat) (m : Mem) : Prop := ∀ p ∈ m, ∀ e ∈ p.2, callT τ n p.1 e.1 = .ret e.2
theorem lookA_ok {ds : List D} {d : D} : ∀ {es : List Ent}, lookA ds es = some d → (ds, d) ∈ es
  | [], h => by cases h
  | (a, b) :: r, h => by
    unfold lookA at h
    split at h
    · rename_i q
      cases h
      rw [sameL_is q]
      exact List.mem_cons_self
    · exact List.mem_cons_of_mem _ (lookA_ok h)
theorem lookM_ok {f : Nat} {ds : List D} {d : D} : ∀ {m : Mem}, lookM f ds m = some d → ∃ p ∈ m, p.1 = f ∧ (ds, d) ∈ p.2
  | [], h => by cases h
  | (g, es) :: r, h => by
    unfold lookM at h
    split at h
    · rename_i q
      exact ⟨_, List.mem_cons_self, q, lookA_ok h⟩
    · obtain ⟨p, h1, h2⟩ := lookM_ok h
      exact ⟨p, List.mem_cons_of_mem _ h1, h2⟩
theorem memC_eq {τ : Tab} {m : Mem} {n : Nat} (h : MemOk τ n m) : memC τ m n = callT τ n := by
  funext f ds
  unfold memC
  split
  · rename_i d e
    obtain ⟨p, h1, rfl, h2⟩ := lookM_ok e
    exact (h p h1 _ h2).symm
  · rfl
theorem MemOk.nil {τ : Tab} {n : Nat} : MemOk τ n [] := fun _ h => by cases h
theorem MemOk.cons {τ : Tab} {n f : Nat} {es : List Ent} {m : Mem} (h : (es.all (entOk τ n f)) = true) (t : MemOk τ n m) : MemOk τ n ((f, es) :: m) := fun p hp => by
  rcases List.mem_cons.mp hp with rfl | hp
  · exact fun e he => retIs_eq (List.all_eq_true.mp h e he)
  · exact t p hp
/-- answers got with the help of other answers -/
abbrev gamM (τ : Tab) (m : Mem) (n : Nat) : Env := ⟨memC τ m n, fun f ds => callB τ n .new f ds .bad, τ.glob, fun f ds => callB τ n .exc f ds .bad, fun g a => callB τ n .act g [.none] a, .bad⟩
def entM (τ : Tab) (m : Mem) (n f : Nat) (e : Ent) : Bool := match τ.fns[f]? with
  | some F => decide (f ≠ τ.dip) && (decide (e.1.length = F.ps.length) && retIs ((ex (gamM τ m n) τ.W F.body (startR F.N e.1)).bind retOf) e.2)
  | none => false
theorem entM_ok {τ : Tab} {m : Mem} {n f : Nat} (h : MemOk τ n m) {e : Ent} (q : entM τ m n f e = true) : entOk τ (n + 1) f e = true := by
  unfold entM at q
  split at q
  · rename_i F hF
    simp only [Bool.and_eq_true, decide_eq_true_eq] at q
    obtain ⟨q1, q2, q3⟩ := q
    unfold gamM at q3
    rw [memC_eq h] at q3
    unfold entOk callT callB
    rw [if_neg q1]
    simp only [hF, q2, Out.guard_true, decide_true, modB]
    exact q3
  · cases q
theorem MemOk.consM {τ : Tab} {n f : Nat} {es : List Ent} {m m2 : Mem} (h : MemOk τ n m2) (q : (es.all (entM τ m2 n f)) = true) (t : MemOk τ (n + 1) m) : MemOk τ (n + 1) ((f, es) :: m) :=
  .cons (List.all_eq_true.mpr fun e he => entM_ok h (List.all_eq_true.mp q e he)) t
end Ev

set_option Elab.async false
set_option linter.all false
set_option autoImplicit false
set_option maxRecDepth 100000
set_option maxHeartbeats 4000000
namespace Ev
open PySem L2
/-! ### for the laws' own ends -/
theorem All_seq {Γ : Env} {W : Nat} {s r : S} {ρ : Ro} {P : Fl → Prop} : (ex Γ W (.seq s r) ρ).All P ↔ (ex Γ W s ρ).All fun fl => match fl with
    | .nx ρ1 => (ex Γ W r ρ1).All P
    | fl => P fl := by
  simp only [ex]
  rw [Out.All_bind]
  constructor
  · exact fun h => h.mono fun fl q => by cases fl <;> exact q
  · exact fun h => h.mono fun fl q => by cases fl <;> exact q
theorem seq_nx {Γ : Env} {W : Nat} {s r : S} {ρ : Ro} {P : Fl → Prop} {R : Ro → Prop} (h : (ex Γ W s ρ).All fun fl => ∃ ρ1, fl = .nx ρ1 ∧ R ρ1) (k : ∀ ρ1, R ρ1 → (ex Γ W r ρ1).All P) : (ex Γ W (.seq s r) ρ).All P := by
  rw [All_seq]
  refine h.mono fun fl q => ?_
  obtain ⟨ρ1, rfl, hr⟩ := q
  exact k ρ1 hr
theorem forGo_inv {g : Tg} {body : Ro → Out Fl} {R : Ro → Prop} : ∀ (xs : List D) (ρ : Ro), (∀ x ∈ xs, ∀ ρ, R ρ → ∃ ρ1, asgG g x ρ = some ρ1 ∧ (body ρ1).All fun fl => ∃ ρ2, fl = .nx ρ2 ∧ R ρ2) → R ρ → (forGo g body xs ρ).All fun fl => ∃ ρ2, fl = .nx ρ2 ∧ R ρ2
  | [], ρ, _, h => ⟨ρ, rfl, h⟩
  | x :: r, ρ, hb, h => by
    obtain ⟨ρ1, e, hx⟩ := hb x List.mem_cons_self ρ h
    simp only [forGo]
    rw [Out.All_bind, e, Out.ofO_some, Out.All_ret, Out.All_bind]
    refine hx.mono fun fl q => ?_
    obtain ⟨ρ2, rfl, h2⟩ := q
    exact forGo_inv r ρ2 (fun y hy => hb y (List.mem_cons_of_mem _ hy)) h2
theorem for_eq {Γ : Env} {W : Nat} {g : Tg} {it : E} {b : S} {ρ : Ro} {xs : List D} {d : D} (h : ev Γ false it ρ = .ret d) (hi : itemsD d = .ret xs) : ex Γ W (.for_ g it b) ρ = forGo g (ex Γ W b) xs ρ := by
  simp only [ex]
  rw [h, Out.bind_ret, hi, Out.bind_ret]
theorem wip_nx {Γ : Env} {W : Nat} {vs : List Nat} {r : S} {ρ : Ro} {P : Fl → Prop} (h : (ex Γ W r (wipeR ρ vs)).All P) : (ex Γ W (.seq (.wip vs) r) ρ).All P := by
  simp only [ex]
  rw [Out.bind_ret]
  exact h
theorem rng_eq {Γ : Env} {r : Bool} {n : Int} {ρ : Ro} (h : small62 n = true) : ev Γ r (.rng1 (.con (.int n))) ρ = .ret (.list (rngL 0 n.toNat)) := by
  simp only [ev]
  rw [Out.bind_ret, c_asI, Out.bind_ret, h]
  rfl
theorem lc_true {turn : D → Out (Option D)} : ∀ (xs : List D) (n : Nat), (∀ x ∈ xs, (turn x).All fun o => o = some (.bool true)) → (lcGo turn xs (List.replicate n (.bool true))).All fun d => ∃ m, d = .list (List.replicate m (.bool true))
  | [], n, _ => ⟨n, by rw [List.reverse_replicate]⟩
  | x :: r, n, h => by
    simp only [lcGo]
    rw [Out.All_bind]
    refine (h x List.mem_cons_self).mono fun o e => ?_
    subst e
    exact lc_true r (n + 1) fun y hy => h y (List.mem_cons_of_mem _ hy)
theorem bls_true : ∀ m : Nat, blsOf (List.replicate m (PyData.bool true)) = some (List.replicate m true)
  | 0 => rfl
  | m + 1 => by rw [List.replicate_succ, blsOf, bls_true m, List.replicate_succ]; rfl
theorem all_true (m : Nat) : bltD .all [.list (List.replicate m (.bool true))] = .ret (.bool true) := by
  show (Out.ofO (blsOf _)).bind _ = _
  rw [bls_true, Out.ofO_some, Out.bind_ret]
  congr 2
  rw [List.all_eq_true]
  exact fun b hb => (List.mem_replicate.mp hb).2
theorem t_lenS (ns : List Int) : bltD .len [scr ns] = .ret (.int ns.length) := by
  show Out.ret (PyData.int ((ns.map PyData.int).length : Nat)) = _
  rw [List.length_map]
theorem x_idxS (ns : List Int) (i : Int) : ixD (scr ns) (.int i) = .ofO (L2.atI (ns.map PyData.int) i) := rfl
theorem at_int {ns : List Int} {k : Nat} (h : k < ns.length) : ∃ c, L2.atI (ns.map PyData.int) (k : Int) = some (.int c) := by
  refine ⟨ns[k], ?_⟩
  unfold L2.atI L2.ixN
  simp [h]
theorem slS (ns : List Int) (lo hi : Option Int) : slD (scr ns) lo hi = .ret (.list ((cutD ns lo hi).map PyData.int)) := by
  show Out.ret (PyData.list (cutD (ns.map PyData.int) lo hi)) = _
  unfold cutD
  rw [List.length_map, ← List.map_drop, ← List.map_take]
theorem cut_len {α : Type} (xs : List α) (lo hi : Option Int) : (cutD xs lo hi).length ≤ xs.length := by
  unfold cutD
  rw [List.length_take, List.length_drop]
  omega
theorem mem_rngL : ∀ (n : Nat) (lo : Int) (d : D), d ∈ rngL lo n → ∃ k : Nat, k < n ∧ d = .int (lo + k)
  | 0, lo, d, h => by cases h
  | n + 1, lo, d, h => by
    rcases List.mem_cons.mp h with rfl | h
    · exact ⟨0, by omega, by simp⟩
    · obtain ⟨k, h1, rfl⟩ := mem_rngL n (lo + 1) d h
      exact ⟨k + 1, by omega, by congr 1; omega⟩
/-! ### the same with a structure: terms of this type are never unfolded -/
structure Al {α : Type} (P : α → Prop) (o : Out α) : Prop where
  h : o.All P
def NxR (R : Ro → Prop) (fl : Fl) : Prop := ∃ ρ, fl = .nx ρ ∧ R ρ
theorem Al.mono {α : Type} {P Q : α → Prop} {o : Out α} (k : ∀ a, P a → Q a) (h : Al P o) : Al Q o := ⟨h.h.mono k⟩
theorem Al.seq {Γ : Env} {W : Nat} {s r : S} {ρ : Ro} {P : Fl → Prop} (R : Ro → Prop) (h : Al (NxR R) (ex Γ W s ρ)) (k : ∀ ρ1, R ρ1 → Al P (ex Γ W r ρ1)) : Al P (ex Γ W (.seq s r) ρ) :=
  ⟨seq_nx (R := R) h.h fun ρ1 q => (k ρ1 q).h⟩
theorem Al.wip {Γ : Env} {W : Nat} {vs : List Nat} {r : S} {ρ : Ro} {P : Fl → Prop} (ρ1 : Ro) (e : wipeR ρ vs = ρ1) (h : Al P (ex Γ W r ρ1)) : Al P (ex Γ W (.seq (.wip vs) r) ρ) := by
  subst e
  exact ⟨wip_nx h.h⟩
theorem Al.rng {Γ : Env} {W i : Nat} {n : Int} {b : S} {ρ : Ro} {R : Ro → Prop} (hn : small62 n = true) (h0 : R ρ) (hb : ∀ x ρ, R ρ → Al (NxR R) (ex Γ W b (ρ.set i (some (.val x))))) :
    Al (NxR R) (ex Γ W (.for_ (.nm i) (.rng1 (.con (.int n))) b) ρ) := by
  constructor
  rw [for_eq (rng_eq hn) rfl]
  exact forGo_inv _ _ (fun x _ ρ q => ⟨_, g_nm, (hb x ρ q).h⟩) h0
theorem Al.asg {Γ : Env} {W i : Nat} {e : E} {ρ : Ro} {Q : D → Prop} (h : Al Q (ev Γ false e ρ)) : Al (NxR fun ρ1 => ∃ d, Q d ∧ ρ1 = ρ.set i (some (.val d))) (ex Γ W (.asg (.nm i) e) ρ) := by
  constructor
  simp only [ex]
  rw [Out.All_bind]
  refine h.h.mono fun d q => ?_
  rw [g_nm, Out.ofO_some, Out.bind_ret, Out.All_ret]
  exact ⟨_, rfl, d, q, rfl⟩
theorem Al.call {Γ : Env} {r : Bool} {f : Nat} {a : E} {ρ : Ro} {ds : List D} {Q : D → Prop} (ha : ev Γ false a ρ = .ret (.tuple ds)) (h : Al Q (Γ.call f ds)) : Al Q (ev Γ r (.call f a) ρ) := by
  constructor
  simp only [ev]
  rw [ha, Out.bind_ret, c_unt, Out.bind_ret]
  exact h.h
theorem Al.pick {n : Nat} {o : Out D} (h : o = .pick n fun i => .ret (.int i)) : Al (fun d => ∃ i : Nat, i < n ∧ d = .int i) o := by
  subst h
  exact ⟨fun i hi => ⟨i, hi, rfl⟩⟩
end Ev

set_option Elab.async false
set_option linter.all false
set_option autoImplicit false
set_option maxRecDepth 100000
set_option maxHeartbeats 4000000
namespace Ev
open PySem L2 Exn
/-! ### own exceptions: one look at the written part -/
theorem Bk.fb : ∀ b : Bk, ExcBaseFacts b.B b.nw b.i b.bm
  | .val => F.excBase_ValueError
  | .look => F.excBase_LookupError
  | .arith => F.excBase_ArithmeticError
theorem Bk.kf : ∀ b : Bk, PySem.W.KxsFacts b.B b.i
  | .val => PySem.W.kxs_ValueError
  | .look => PySem.W.kxs_LookupError
  | .arith => PySem.W.kxs_ArithmeticError
theorem Bk.sf : ∀ b : Bk, StoreFacts b.B b.bm "object.__setattr__" "object"
  | .val => F.store_ValueError
  | .look => F.store_LookupError
  | .arith => F.store_ArithmeticError
theorem and2 {a b : Bool} (h : (a && b) = true) : a = true ∧ b = true := Bool.and_eq_true_iff.mp h
theorem iniBody_ok {par fld : Str} {b : List Stmt} (h : iniBody par fld b = true) : iniB par fld b := by
  unfold iniBody at h
  split at h
  · obtain ⟨h1, h⟩ := and2 h
    obtain ⟨h2, h⟩ := and2 h
    obtain ⟨h3, h⟩ := and2 h
    obtain ⟨h4, h⟩ := and2 h
    obtain ⟨h5, h⟩ := and2 h
    obtain ⟨h6, h7⟩ := and2 h
    cases of_decide_eq_true h1
    cases of_decide_eq_true h2
    cases of_decide_eq_true h3
    cases of_decide_eq_true h4
    cases of_decide_eq_true h5
    cases of_decide_eq_true h6
    exact ⟨_, _, _, _, _, _, _, _, _, _, h7, rfl⟩
  · cases h
theorem ini_binds {par qual : Str} {prm : Arguments} {body : List Stmt} {sc : Scope} {kV doc pm cdv ct : Value} {an : Option Addr} {cc : Addr} (h : iniArgs par prm = true) (hp : parOk par = true) (s : Shared) (e : Addr) (u : Value) :
    BindsTo s (PySem.W.ksFn "__init__" qual prm body sc .none kV doc pm an cdv ct cc) ⟨[.ref e, u], []⟩ [("self", .ref e), (par, u)] ∧ BindsTo s (PySem.W.ksFn "__init__" qual prm body sc .none kV doc pm an cdv ct cc) ⟨[.ref e], [(par, u)]⟩ [("self", .ref e), (par, u)] := by
  unfold iniArgs at h
  split at h
  · obtain ⟨h1, h2⟩ := and2 h
    cases of_decide_eq_true h1
    cases of_decide_eq_true h2
    unfold parOk at hp
    rw [Bool.or_eq_true, Bool.or_eq_true, decide_eq_true_eq, decide_eq_true_eq, decide_eq_true_eq] at hp
    rcases hp with rfl | rfl | rfl
    · exact ⟨.of_eq rfl, .of_eq rfl⟩
    · exact ⟨.of_eq rfl, .of_eq rfl⟩
    · exact ⟨.of_eq rfl, .of_eq rfl⟩
  · cases h
theorem bodyC_ok {par fld : Str} : ∀ {fb : FuncBody}, bodyC par fld fb = true → ∃ b, fb = .stmts b ∧ iniB par fld b
  | .stmts b, h => ⟨b, rfl, iniBody_ok h⟩
  | .expr _, h => by cases h
theorem cellC_ok {K : PySem.W.Frag} {C cc : Addr} (h : cellC K C cc = true) : ∃ (cl : Value) (cld : Option Addr) (csl : Array (Option Value)), K.lookup cc = some ⟨cl, cld, .cell (some (.ref C)), csl⟩ := by
  unfold cellC at h
  split at h
  · rename_i cl cld D csl lcc
    cases of_decide_eq_true h
    exact ⟨cl, cld, csl, lcc⟩
  · cases h
theorem closC_ok {K : PySem.W.Frag} {C : Addr} : ∀ {l : List (Str × Addr)}, closC K C l = true → ∃ cc, l = [(("__class__" : Str), cc)] ∧ ∃ (cl : Value) (cld : Option Addr) (csl : Array (Option Value)), K.lookup cc = some ⟨cl, cld, .cell (some (.ref C)), csl⟩
  | [], h => by cases h
  | [(x, cc)], h => by
    obtain ⟨h1, h2⟩ := and2 (show (decide (x = "__class__") && cellC K C cc) = true from h)
    cases of_decide_eq_true h1
    exact ⟨cc, rfl, cellC_ok h2⟩
  | _ :: _ :: _, h => by cases h
theorem fileC_ok {P : Program} {K : PySem.W.Frag} {cda : Addr} (h : fileC P K cda = true) : ∃ (ccl : Value) (cdd : Option Addr) (vs : Array Value) (ccs : Array (Option Value)) (file : Str) (tf : Tok), K.lookup cda = some ⟨ccl, cdd, .fields vs, ccs⟩ ∧ vs[2]? = some (.str file tf) ∧ ((P.main.file : Str) == file) = true := by
  unfold fileC at h
  split at h
  · rename_i ccl cdd vs ccs lcd
    split at h
    · rename_i f tf hvs
      exact ⟨ccl, cdd, vs, ccs, f, tf, lcd, hvs, h⟩
    · cases h
  · cases h
theorem codeC_ok {P : Program} {K : PySem.W.Frag} {q : Str} {v : Value} (h : codeC P K q v = true) : ∃ cda, v = .ref cda ∧ PySem.W.codeIn K (.ref cda) q = true ∧ fileC P K cda = true := by
  unfold codeC at h
  split at h
  · rename_i cda
    exact ⟨cda, rfl, (and2 h).1, (and2 h).2⟩
  · cases h
theorem argsC_ok {par : Str} {prm : Arguments} (h : iniArgs par prm = true) : ∃ ar : Arg, (prm.posonlyargs ++ prm.args).head? = some ar ∧ ar.arg = "self" := by
  unfold iniArgs at h
  split at h
  · exact ⟨_, rfl, of_decide_eq_true (and2 h).1⟩
  · cases h
theorem mkC_ok {P : Program} {K : PySem.W.Frag} {m : Xm} (opq : PySem.W.nsIn K cStatics "thirdparty.any" = some none) (top : (P.main.scope.names.lookup ("super" : Str)).isSome = false) (h : mkC P K m = true) :
    PySem.W.nsIn K mainGlobals m.name = some (some (.ref m.C)) ∧ ∃ fd, MkFacts P K m.C m.fI m.b.B m.b.nw m.b.i m.b.bm m.par m.fld fd := by
  unfold mkC at h
  obtain ⟨h1, h⟩ := and2 h
  obtain ⟨h2, h⟩ := and2 h
  obtain ⟨h3, h⟩ := and2 h
  obtain ⟨h4, h⟩ := and2 h
  obtain ⟨h5, h⟩ := and2 h
  obtain ⟨h6, h⟩ := and2 h
  obtain ⟨h7, h⟩ := and2 h
  obtain ⟨h8, h⟩ := and2 h
  obtain ⟨h9, h⟩ := and2 h
  obtain ⟨h10, h⟩ := and2 h
  obtain ⟨h11, h⟩ := and2 h
  obtain ⟨h12, h⟩ := and2 h
  obtain ⟨h13, h⟩ := and2 h
  refine ⟨of_decide_eq_true h1, ?_⟩
  unfold iniC at h
  split at h
  · rename_i oc od fd osl lk
    obtain ⟨name, qual, prm, body, sc, gl, clo, dV, kV, doc, pm, an, cdv, ct, bl⟩ := fd
    dsimp only at h
    obtain ⟨g1, h⟩ := and2 h
    obtain ⟨g2, h⟩ := and2 h
    obtain ⟨g3, h⟩ := and2 h
    obtain ⟨g4, h⟩ := and2 h
    obtain ⟨g5, h⟩ := and2 h
    obtain ⟨g6, h⟩ := and2 h
    obtain ⟨g7, h⟩ := and2 h
    obtain ⟨g8, g9⟩ := and2 h
    cases of_decide_eq_true g1
    cases of_decide_eq_true g2
    cases of_decide_eq_true g3
    cases of_decide_eq_true g4
    obtain ⟨b, rfl, hb⟩ := bodyC_ok g6
    obtain ⟨cc, rfl, cl, cld, csl, lcc⟩ := closC_ok g8
    obtain ⟨cda, rfl, c1, c2⟩ := codeC_ok g9
    obtain ⟨ccl, cdd, vs, ccs, f, tf, lcd, hvs, c3⟩ := fileC_ok c2
    refine ⟨PySem.W.ksFn "__init__" qual prm b sc .none kV doc pm an (.ref cda) ct cc, ⟨m.b.fb, m.b.kf, m.b.sf, h2, h3, of_decide_eq_true h4, h5, of_decide_eq_true h6, of_decide_eq_true h7, of_decide_eq_true h8, opq, of_decide_eq_true h9, top, ?_⟩, h10, of_decide_eq_true h11, of_decide_eq_true h12, ?_, ?_⟩
    · exact ⟨oc, od, qual, prm, b, sc, .none, kV, doc, pm, an, cda, ct, cc, osl, rfl, lk, c1, ⟨ccl, cdd, vs, ccs, f, tf, lcd, hvs, c3⟩, ⟨cl, cld, csl, lcc⟩, hb, g7, argsC_ok g5⟩
    · exact fun s e u => (ini_binds g5 h13 s e u).1
    · exact fun s e u => (ini_binds g5 h13 s e u).2
  · cases h
theorem mk0C_ok {K : PySem.W.Frag} {m : Xz} (h : mk0C K m = true) : PySem.W.nsIn K mainGlobals m.name = some (some (.ref m.C)) ∧ Mk0Facts K m.C m.b.B m.b.nw m.b.i m.b.bm := by
  unfold mk0C at h
  obtain ⟨h1, h⟩ := and2 h
  obtain ⟨h2, h⟩ := and2 h
  obtain ⟨h3, h4⟩ := and2 h
  exact ⟨of_decide_eq_true h1, m.b.fb, h2, h3, of_decide_eq_true h4⟩
theorem excC_ok {K : PySem.W.Frag} {D : Nat} (h : excC K D = true) : ExcC K D := by
  unfold excC at h
  obtain ⟨h1, h⟩ := and2 h
  obtain ⟨h2, h⟩ := and2 h
  obtain ⟨h3, h⟩ := and2 h
  obtain ⟨h4, h⟩ := and2 h
  obtain ⟨h5, h⟩ := and2 h
  obtain ⟨h6, h⟩ := and2 h
  obtain ⟨h7, h8⟩ := and2 h
  exact ⟨of_decide_eq_true h1, of_decide_eq_true h2, of_decide_eq_true h3, h4, of_decide_eq_true h5, of_decide_eq_true h6, of_decide_eq_true h7, of_decide_eq_true h8⟩
theorem bk_boot : ∀ b : Bk, bootBuiltins (bkName b) = some (.type b.B)
  | .val => PyProof.Rows.Boot.«ValueError»
  | .look => PyProof.Rows.Boot.«LookupError»
  | .arith => PyProof.Rows.Boot.«ArithmeticError»
theorem saysC_ok {K : PySem.W.Frag} {cv : Value} {b : Bool} {c : Nat} (h : saysC K cv b c = true) : PySem.W.kitOne K (.ref c) cv = some b := by
  unfold saysC at h
  split at h
  · rename_i a e
    rw [e, eq_of_beq h]
  · cases h
def Xl.xc (l : Xl) : Xc := { mks := l.ms.map fun m => (m.name, m.C, m.par, m.fld), mk0s := l.zs.map fun m => (m.name, m.C), isxs := l.qs.map fun m => (m.x, m.yes, m.no), xats := l.fs, trys := l.ts }
theorem mapM_zip {K : PySem.W.Frag} {h : Heap} {mg : Str → Option Value} (X : K.In h) (G : h.Ns mainGlobals mg) : ∀ {xs : List Str} {cs : List Value}, xs.mapM (gvI K) = some cs → cs.length = xs.length ∧ ∀ p ∈ xs.zip cs, mg p.1 = some p.2
  | [], cs, e => by
    cases (show some [] = some cs from e)
    exact ⟨rfl, fun p hp => by cases hp⟩
  | x :: xs, cs, e => by
    rw [List.mapM_cons] at e
    cases q : gvI K x with
    | none => rw [q] at e; cases e
    | some v =>
      rw [q] at e
      cases q2 : xs.mapM (gvI K) with
      | none => rw [q2] at e; cases e
      | some vs =>
        rw [q2] at e
        cases (show some (v :: vs) = some cs from e)
        obtain ⟨i1, i2⟩ := mapM_zip X G q2
        refine ⟨by simp [i1], fun p hp => ?_⟩
        rcases List.mem_cons.mp hp with rfl | hp
        · unfold gvI at q
          split at q
          · rename_i u e
            cases q
            exact PySem.W.mg_of X G e
          · cases q
        · exact i2 p hp
theorem xc_ok {P : Program} {K : PySem.W.Frag} {h : Heap} {mg : Str → Option Value} {l : Xl} (X : K.In h) (G : h.Ns mainGlobals mg) (sup : PySem.W.nsIn K mainGlobals "super" = some none) (opq : PySem.W.nsIn K cStatics "thirdparty.any" = some none)
    (top : (P.main.scope.names.lookup ("super" : Str)).isSome = false) (h1 : l.ms.all (mkC P K) = true) (h2 : l.zs.all (mk0C K) = true) (h3 : l.all.all (excC K) = true) (h4 : l.qs.all (isxC K l.all) = true) (h5 : l.fs.all (xatC K l.all) = true) (h6 : (l.ms.map (·.C) ++ l.zs.map (·.C)).all (rsC K) = true) (h7 : l.ts.all (tryC K) = true) : XcOk P K mg l.xc := by
  have hE : ∀ c, l.all.contains c = true → ExcC K c := fun c hc => excC_ok (List.all_eq_true.mp h3 c (List.contains_iff_mem.mp hc))
  refine ⟨fun x C par fld hm => ?_, fun x C hm => ?_, fun x yes no hm => ?_, fun f cs hm c hc => ?_, fun C hm => ?_, fun xs yes hm => ?_⟩
  · obtain ⟨m, hi, e⟩ := List.mem_map.mp hm
    cases e
    obtain ⟨a, fd, F⟩ := mkC_ok opq top (List.all_eq_true.mp h1 m hi)
    exact ⟨PySem.W.mg_of X G a, PySem.W.mg_none_of X G sup, _, _, _, _, _, fd, F⟩
  · obtain ⟨m, hi, e⟩ := List.mem_map.mp hm
    cases e
    obtain ⟨a, F⟩ := mk0C_ok (List.all_eq_true.mp h2 m hi)
    exact ⟨PySem.W.mg_of X G a, _, _, _, _, F⟩
  · obtain ⟨m, hi, e⟩ := List.mem_map.mp hm
    cases e
    have q := List.all_eq_true.mp h4 m hi
    unfold isxC at q
    obtain ⟨q1, q⟩ := and2 q
    obtain ⟨q2, q3⟩ := and2 q
    refine ⟨m.cv, ?_, fun c hc => ?_, fun c hc => ?_⟩
    · unfold nameC at q1
      unfold Xi.cv
      split at q1
      · rename_i k e
        exact .inl ⟨k, rfl, PySem.W.mg_of X G (of_decide_eq_true q1)⟩
      · rename_i e
        obtain ⟨n1, n2⟩ := and2 q1
        have n1 := of_decide_eq_true n1
        refine .inr ⟨m.b.B, rfl, PySem.W.mg_none_of X G (of_decide_eq_true n2), by rw [n1]; exact bk_boot m.b, ?_⟩
        rw [n1]
        cases m.b <;> decide
    · obtain ⟨r1, r2⟩ := and2 (List.all_eq_true.mp q2 c hc)
      exact ⟨hE c r1, saysC_ok r2⟩
    · obtain ⟨r1, r2⟩ := and2 (List.all_eq_true.mp q3 c hc)
      exact ⟨hE c r1, saysC_ok r2⟩
  · have q := List.all_eq_true.mp h5 (f, cs) hm
    obtain ⟨r1, r2⟩ := and2 (List.all_eq_true.mp q c hc)
    have E := hE c r1
    exact ⟨⟨E.hg, E.hk, E.hs, E.hd⟩, of_decide_eq_true r2⟩
  · have key : C ∈ l.ms.map (·.C) ++ l.zs.map (·.C) := by
      rcases hm with ⟨x, par, fld, hm⟩ | ⟨x, hm⟩
      · obtain ⟨m, hi, e⟩ := List.mem_map.mp hm
        cases e
        exact List.mem_append_left _ (List.mem_map.mpr ⟨m, hi, rfl⟩)
      · obtain ⟨m, hi, e⟩ := List.mem_map.mp hm
        cases e
        exact List.mem_append_right _ (List.mem_map.mpr ⟨m, hi, rfl⟩)
    have q := List.all_eq_true.mp h6 C key
    unfold rsC at q
    obtain ⟨q1, q2⟩ := and2 q
    exact ⟨of_decide_eq_true q1, of_decide_eq_true q2⟩
  · have q := List.all_eq_true.mp h7 (xs, yes) hm
    unfold tryC at q
    split at q
    · rename_i cs e
      obtain ⟨i1, i2⟩ := mapM_zip X G e
      exact ⟨cs, i1, i2, fun C hC => of_decide_eq_true (List.all_eq_true.mp q C hC)⟩
    · cases q
end Ev

set_option Elab.async false
set_option linter.all false
set_option autoImplicit false
set_option maxRecDepth 100000
set_option maxHeartbeats 4000000
namespace Ev
open PySem L2 PyProof.Rows
open C8 (Def Fun fnArgs fnBody fnScope)
/-! ### the top, run once in the kernel; what it leaves is asked by a Hook -/
section
variable {ck : PySem.W.Frag → Bool} {fn : List He.DefD} {K : PySem.W.Frag} {h : Heap} {mg : Str → Option Value}
theorem SaysX.look (c : SaysX ck fn K) : ck K = true := (He.ba (show (ck K && fn.all fun d => d.ok K) = true from congrArg (fun z : AlX => z.1) c)).1
theorem SaysX.def_ (X : K.In h) (G : h.Ns mainGlobals mg) (c : SaysX ck fn K) (i : Nat) {x : Str} {st : Stmt} (e : fn[i]? = some (topD x st)) (g : (He.Fa.glo x).ok K = true) : ∃ fd, Def K mg x st (He.ga K x) fd ∧ fd.defaults = .none := by
  have c2 := (He.ba (show (ck K && fn.all fun d => d.ok K) = true from congrArg (fun z : AlX => z.1) c)).2
  have em : fn.map (fun d => He.fnW K d.at_) = fn.map He.DefD.val := congrArg (fun z : AlX => z.2) c
  have e2 : (fn.map fun d => He.fnW K d.at_)[i]? = (fn.map He.DefD.val)[i]? := by rw [em]
  rw [List.getElem?_map, List.getElem?_map, e] at e2
  obtain ⟨fd, F⟩ := He.DefD.funD (Option.some.inj e2) (List.all_eq_true.mp c2 _ (List.mem_of_getElem? e))
  obtain ⟨oc, od, dV, kV, doc, pm, an, cdv, ct, osl, rfl, lk, cd, df, _⟩ := F.ex
  refine ⟨_, ⟨⟨oc, od, dV, kV, doc, pm, an, cdv, ct, osl, rfl, lk, cd⟩, He.glo_ok X G g, F.kp⟩, ?_⟩
  rcases df with ⟨_, z⟩ | ⟨z, _⟩
  · exact z
  · exact absurd rfl z
end
theorem still_lst {K : PySem.W.Frag} (h : (K.all fun p => stillO p.2) = true) : (K.all fun p => notLst p.2) = true := by
  rw [List.all_eq_true] at h ⊢
  intro p hp
  exact (He.ba (h p hp)).1
theorem frag_mem {b : Addr} {v : Obj} : ∀ {K : PySem.W.Frag}, K.lookup b = some v → (b, v) ∈ K
  | [], z => by cases z
  | (b', u) :: r, z => by
    rw [List.lookup_cons] at z
    split at z
    · rename_i q
      cases z
      rw [eq_of_beq q]
      exact List.mem_cons_self
    · exact List.mem_cons_of_mem _ (frag_mem z)
theorem ckT_code {lt : Lt} {K : PySem.W.Frag} (h : ckT lt K = true) {p : Str × Nat × Nat} (hp : p ∈ lt) {mg : Str → Option Value} {st : Stmt} {fd : FuncData} (Df : Def K mg p.1 st (He.ga K p.1) fd) : fd.code = .ref p.2.1 := by
  obtain ⟨_, h2⟩ := He.ba (List.all_eq_true.mp h p hp)
  obtain ⟨oc, od, dV, kV, doc, pm, an, cdv, ct, osl, e, lk, cd⟩ := Df.fn.ex
  unfold codC at h2
  rw [lk] at h2
  exact of_decide_eq_true h2
def csOf (lt : Lt) : List (Addr × Addr) := lt.map fun p => p.2
theorem nodup_map {α β : Type} {f : α → β} : ∀ {l : List α}, (l.map f).Nodup → ∀ x ∈ l, ∀ y ∈ l, f x = f y → x = y
  | [], _, _, h, _, _, _ => by cases h
  | a :: l, nd, x, hx, y, hy, e => by
    rw [List.map_cons, List.nodup_cons] at nd
    rcases List.mem_cons.mp hx with hx | hx <;> rcases List.mem_cons.mp hy with hy | hy
    · rw [hx, hy]
    · exact absurd (List.mem_map.mpr ⟨y, hy, by rw [← e, hx]⟩) nd.1
    · exact absurd (List.mem_map.mpr ⟨x, hx, by rw [e, hy]⟩) nd.1
    · exact nodup_map nd.2 x hx y hy e
theorem lamR_of {lt : Lt} {tb : List (Addr × Str)} {K : PySem.W.Frag} {mg : Str → Option Value} {base : Heap} {st : Stmt} {fd : FuncData} (htb : tb = lt.map fun p => ((p.2.2, (p.1 ++ ".<locals>." : Str) ++ "<lambda>") : Addr × Str)) (nd : (lt.map fun p => p.2.2).Nodup) (hck : ckT lt K = true)
    (hTB : ∀ p ∈ csOf lt, LamX.TabB base mg p.1 p.2) {p : Str × Nat × Nat} (hp : p ∈ lt) (Df : Def K mg p.1 st (He.ga K p.1) fd) : LamR base mg tb fd (p.1 ++ ".<locals>." : Str) := by
  refine ⟨p.2.1, p.2.2, ckT_code hck hp Df, hTB p.2 (List.mem_map.mpr ⟨p, hp, rfl⟩), by rw [htb]; exact List.mem_map.mpr ⟨p, hp, rfl⟩, fun q hq e => ?_⟩
  rw [htb] at hq
  obtain ⟨r, hr, rfl⟩ := List.mem_map.mp hq
  have : r = p := nodup_map nd r hr p hp e
  rw [this]
/-- the goal behind such a head -/
theorem walk_x {l : PySem.W.OpenLaw} {n k m : Nat} {ck : PySem.W.Frag → Bool} {fn : List He.DefD} {lt : Lt} {tb : List (Addr × Str)} {q : Program} {loose : List Str} {XP : (Str → Option Value) → Heap → Prop} {d : DefRec} {x : Str} {Fn : List D → Out D}
    (hn : l.most = some n) (hn2 : n ≤ sizeLine) (hdf : d.params.defaults = []) (hr : Room (3 * k) callerA) (hcs : (csOf lt).map (·.2) = tb.map (·.1)) (hck : ∀ K, ck K = true → ckT lt K = true)
    (F : ∀ (w : World) (K : PySem.W.Frag) (mg : Str → Option Value) (fa : Addr) (h : Heap), K.In h → SaysX ck fn K → h.Ns mainGlobals mg → mg d.name = some (.ref fa) →
      ∀ base : Heap, K.In base → base.Ns mainGlobals mg → (∀ p ∈ csOf lt, LamX.TabB base mg p.1 p.2) → ∃ fd, Binds K fd [x] [] ∧ FnG l.prog w K mg base tb k fa fd [x] Fn)
    (hF : ∀ ns : List Int, ns.length ≤ n → (Fn [scr ns]).All fun d => d = .bool true) :
    PySem.W.WalkO q loose XP (hookX m ck fn lt).says l.row.toRowW d [] (fun f vs => PySem.call f vs) := by
  refine Att.attach_call hn hdf fun w s₀ s₁ mg mb fa o pm cd doc a vs ns G Y ho hd hcd hmg hobj hints hlen hg => ?_
  obtain ⟨K, KX, st, c, tb0⟩ := Y
  have no : ∀ {b : Addr} {u v : Obj}, s₁.heap.get? b = some v → stillO v = false → K.lookup b ≠ some u := fun {b u v} e n z => by
    have q := KX b u z
    rw [e] at q
    cases q
    have q := List.all_eq_true.mp st _ (frag_mem z)
    rw [n] at q
    cases q
  have mem : ∀ {p : Addr × Addr}, p ∈ csOf lt → ∃ x, (x, p.1, p.2) ∈ lt := fun {p} hp => by
    obtain ⟨⟨x, c, t⟩, h1, e⟩ := List.mem_map.mp hp
    cases e
    exact ⟨x, h1⟩
  refine call_g KX G.T.g G.T.b G.T.builtins G.T.nolimit hg hcs (fun p hp => ?_) (fun p hp => ?_) (fun p hp => ?_) G.T.bmain hobj hints (Nat.le_trans hlen hn2) hr ?_ (F w K mg fa _ KX c G.T.g hmg) (hF ns hlen)
  · obtain ⟨x, hx⟩ := mem hp
    exact tb0 _ hx
  · obtain ⟨x, hx⟩ := mem hp
    cases e : K.lookup p.2 with
    | none => rfl
    | some u => exact absurd e (no (tb0 _ hx) rfl)
  · obtain ⟨x, hx⟩ := mem hp
    exact PySem.W.codeHd_of_K KX (He.ba (List.all_eq_true.mp (hck K c.look) _ hx)).1
  · cases e : K.lookup a with
    | none => rfl
    | some u => exact absurd e (no hobj rfl)
section
variable {P : Program} {K : PySem.W.Frag} {h : Heap} {mg : Str → Option Value}
theorem ckL_n {ns : List Str} {is_ : List (Str × Int)} {ss : List (Str × Str)} (c : ckL ns is_ ss K = true) : ∀ x ∈ ns, (He.Fa.glo x).ok K = true := fun x hx => List.all_eq_true.mp (He.ba c).1 x hx
theorem ckL_b (X : K.In h) (G : h.Ns mainGlobals mg) {ns : List Str} {is_ : List (Str × Int)} {ss : List (Str × Str)} (c : ckL ns is_ ss K = true) : ∀ x ∈ bltNames, mg x = none := fun x hx => He.free_ok X G (List.all_eq_true.mp (He.ba (He.ba (He.ba c).2).2).2 x hx)
theorem ckL_i (X : K.In h) (G : h.Ns mainGlobals mg) {ns : List Str} {is_ : List (Str × Int)} {ss : List (Str × Str)} (c : ckL ns is_ ss K = true) : ∀ p ∈ is_, ∃ t, mg p.1 = some (.int p.2 t) := fun p hp => He.int_ok X G (List.all_eq_true.mp (He.ba (He.ba c).2).1 p hp)
theorem ckL_s (X : K.In h) (G : h.Ns mainGlobals mg) {ns : List Str} {is_ : List (Str × Int)} {ss : List (Str × Str)} (c : ckL ns is_ ss K = true) : ∀ p ∈ ss, ∃ t, mg p.1 = some (.str p.2 t) := fun p hp => He.str_ok X G (List.all_eq_true.mp (He.ba (He.ba (He.ba c).2).2).1 p hp)
/-- the module's constants -/
def globD (nis : List (Str × Int)) (nss : List (Str × Str)) (x : Str) : Option D := match nis.lookup x with
  | some i => some (.int i)
  | none => (nss.lookup x).map PyData.str
theorem glob_ok (X : K.In h) (G : h.Ns mainGlobals mg) {ns : List Str} {is_ : List (Str × Int)} {ss : List (Str × Str)} (c : ckL ns is_ ss K = true) {x : Str} {d : D} (e : globD is_ ss x = some d) : ∃ u v, mg x = some u ∧ RelV v u ∧ ∀ T G, Is T G v d := by
  unfold globD at e
  split at e
  · rename_i i q
    cases e
    obtain ⟨t, m⟩ := ckL_i X G c _ (lookup_mem q)
    exact ⟨_, .int i, m, ⟨t, rfl⟩, fun _ _ => .int i⟩
  · cases q : ss.lookup x with
    | none => rw [q] at e; cases e
    | some z =>
      rw [q] at e
      cases e
      obtain ⟨t, m⟩ := ckL_s X G c _ (lookup_mem q)
      exact ⟨_, .str z, m, ⟨t, rfl⟩, fun _ _ => .str z⟩
theorem ckX_ok (X : K.In h) (G : h.Ns mainGlobals mg) {xl : Xl} (tp : (P.main.scope.names.lookup ("super" : Str)).isSome = false) (c : ckX P xl K = true) : XcOk P K mg xl.xc := by
  unfold ckX at c
  obtain ⟨c1, c⟩ := He.ba c
  obtain ⟨c2, c⟩ := He.ba c
  obtain ⟨c3, c⟩ := He.ba c
  obtain ⟨c4, c⟩ := He.ba c
  obtain ⟨c5, c⟩ := He.ba c
  obtain ⟨c6, c⟩ := He.ba c
  obtain ⟨c7, c⟩ := He.ba c
  obtain ⟨c8, c9⟩ := He.ba c
  exact xc_ok X G (of_decide_eq_true c1) (of_decide_eq_true c2) tp c3 c4 c5 c6 c7 c8 c9
end
end Ev

set_option Elab.async false
set_option linter.all false
set_option maxRecDepth 100000
set_option maxHeartbeats 4000000
namespace K07
open PySem L2 Ev
open C8 (fnBody fnScope scC)
/-! ### the text by places, its defs as Ev reads them -/
def d_is_number : Fd := ⟨"is_number", ["value", "low", "high"], ["value", "low", "high"],
  (.seq (.ret (.and (.isi .int (.var 0)) (.and (.not (.isi .bool (.var 0))) (.chain .le .le (.var 1) (.var 0) (.var 2))))) .nil)⟩
def d_is_shape : Fd := ⟨"is_shape", ["value", "most"], ["value", "most", "part", "place"],
  (.seq (.ife (.or (.not (.isi .tup (.var 0))) (.or (.cmp .gt (.blt .len (.cons (.var 0) .nil)) (.var 1)) (.not (.blt .all (.cons (.lc [2] (.nm 2) (.var 0) (.con (.bool true)) (.call 0 (.cons (.var 2) (.cons (.con (.int 1)) (.cons (.var 1) .nil))))) .nil))))) (.seq (.ret (.con (.bool false))) .nil) .nil) (.seq (.ret (.and (.cmp .le (.blt .sum (.cons (.var 0) .nil)) (.var 1)) (.blt .all (.cons (.lc [3] (.nm 3) (.rng1 (.bin .sub (.blt .len (.cons (.var 0) .nil)) (.con (.int 1)))) (.con (.bool true)) (.cmp .ge (.idx (.var 0) (.var 3)) (.idx (.var 0) (.bin .add (.var 3) (.con (.int 1)))))) .nil)))) .nil))⟩
def d_check_shape : Fd := ⟨"check_shape", ["value", "most"], ["value", "most"],
  (.seq (.ife (.not (.call 1 (.cons (.var 0) (.cons (.var 1) .nil)))) (.seq (.rs1 "InvalidShape" 67 "given" "given" (.var 0)) .nil) .nil) .nil)⟩
def d_trimmed : Fd := ⟨"trimmed", ["numbers"], ["numbers", "number"],
  (.seq (.ret (.blt .tuple (.cons (.lc [1] (.nm 1) (.var 0) (.cmp .gt (.var 1) (.con (.int 0))) (.var 1)) .nil))) .nil)⟩
def d_flipped_of : Fd := ⟨"flipped_of", ["shape"], ["shape", "place", "part"],
  (.seq (.ret (.blt .tuple (.cons (.lc [1] (.nm 1) (.rng1 (.ite (.cmp .gt (.blt .len (.cons (.var 0) .nil)) (.con (.int 0))) (.idx (.var 0) (.con (.int 0))) (.con (.int 0)))) (.con (.bool true)) (.blt .len (.cons (.lc [2] (.nm 2) (.var 0) (.cmp .gt (.var 2) (.var 1)) (.var 2)) .nil))) .nil))) .nil)⟩
def d_corners_of : Fd := ⟨"corners_of", ["shape"], ["shape", "later", "row", "part"],
  (.seq (.asg (.nm 1) (.bin .add (.slc (.var 0) (.con (.int 1)) .nil) (.tup (.cons (.con (.int 0)) .nil)))) (.seq (.ret (.blt .tuple (.cons (.lc [2, 3] (.cons (.nm 2) (.cons (.nm 3) .nil)) (.enum (.var 0)) (.cmp .gt (.var 3) (.idx (.var 1) (.var 2))) (.var 2)) .nil))) .nil))⟩
def d_outers_of : Fd := ⟨"outers_of", ["shape"], ["shape", "found", "row", "part"],
  (.seq (.asg (.nm 1) (.lc [2, 3] (.cons (.nm 2) (.cons (.nm 3) .nil)) (.enum (.var 0)) (.or (.cmp .eq (.var 2) (.con (.int 0))) (.cmp .gt (.idx (.var 0) (.bin .sub (.var 2) (.con (.int 1)))) (.var 3))) (.var 2))) (.seq (.ret (.blt .tuple (.cons (.bin .add (.var 1) (.lst (.cons (.blt .len (.cons (.var 0) .nil)) .nil))) .nil))) .nil))⟩
def d_more_of : Fd := ⟨"more_of", ["shape", "row"], ["shape", "row"],
  (.seq (.ret (.ite (.cmp .eq (.var 1) (.blt .len (.cons (.var 0) .nil))) (.bin .add (.var 0) (.tup (.cons (.con (.int 1)) .nil))) (.bin .add (.bin .add (.slc (.var 0) .nil (.var 1)) (.tup (.cons (.bin .add (.idx (.var 0) (.var 1)) (.con (.int 1))) .nil))) (.slc (.var 0) (.bin .add (.var 1) (.con (.int 1))) .nil)))) .nil)⟩
def d_less_of : Fd := ⟨"less_of", ["shape", "row"], ["shape", "row"],
  (.seq (.ret (.call 3 (.cons (.bin .add (.bin .add (.slc (.var 0) .nil (.var 1)) (.tup (.cons (.bin .sub (.idx (.var 0) (.var 1)) (.con (.int 1))) .nil))) (.slc (.var 0) (.bin .add (.var 1) (.con (.int 1))) .nil)) .nil))) .nil)⟩
def d_is_held : Fd := ⟨"is_held", ["inner", "outer"], ["inner", "outer", "row", "part"],
  (.seq (.ret (.and (.cmp .le (.blt .len (.cons (.var 0) .nil)) (.blt .len (.cons (.var 1) .nil))) (.blt .all (.cons (.lc [2, 3] (.cons (.nm 2) (.cons (.nm 3) .nil)) (.enum (.var 0)) (.con (.bool true)) (.cmp .le (.var 3) (.idx (.var 1) (.var 2)))) .nil)))) .nil)⟩
def d_all_shapes : Fd := ⟨"all_shapes", ["size", "most"], ["size", "most", "found", "line", "shape", "left", "high", "part"],
  (.seq (.own 2 (.lst .nil)) (.seq (.own 3 (.lst (.cons (.tup (.cons (.tup .nil) (.cons (.var 0) (.cons (.var 1) .nil)))) .nil))) (.seq (.whl (.cmp .gt (.blt .len (.cons (.pk 3) .nil)) (.con (.int 0))) (.seq (.pop (.cons (.nm 4) (.cons (.nm 5) (.cons (.nm 6) .nil))) 3) (.seq (.ife (.cmp .eq (.var 5) (.con (.int 0))) (.seq (.app 2 (.var 4)) .nil) .nil) (.seq (.for_ (.nm 7) (.rng2 (.con (.int 1)) (.bin .add (.blt .min (.cons (.var 5) (.cons (.var 6) .nil))) (.con (.int 1)))) (.seq (.app 3 (.tup (.cons (.bin .add (.var 4) (.tup (.cons (.var 7) .nil))) (.cons (.bin .sub (.var 5) (.var 7)) (.cons (.var 7) .nil))))) .nil)) .nil)))) (.seq (.frz 2) (.seq (.ret (.var 2)) .nil)))))⟩
def d_strips_on : Fd := ⟨"strips_on", ["shape", "size"], ["shape", "size", "found", "row", "own", "room", "later", "part", "left", "more"],
  (.seq (.asg (.nm 2) (.lst (.cons (.tup (.cons (.tup .nil) (.cons (.var 1) .nil))) .nil))) (.seq (.for_ (.nm 3) (.rng1 (.bin .add (.blt .len (.cons (.var 0) .nil)) (.con (.int 1)))) (.seq (.asg (.nm 4) (.ite (.cmp .lt (.var 3) (.blt .len (.cons (.var 0) .nil))) (.idx (.var 0) (.var 3)) (.con (.int 0)))) (.seq (.asg (.nm 5) (.ite (.cmp .gt (.var 3) (.con (.int 0))) (.bin .sub (.idx (.var 0) (.bin .sub (.var 3) (.con (.int 1)))) (.var 4)) (.var 1))) (.seq (.asg (.nm 6) (.lst .nil)) (.seq (.for_ (.cons (.nm 7) (.cons (.nm 8) .nil)) (.var 2) (.seq (.asg (.nm 6) (.bin .add (.var 6) (.lc [9] (.nm 9) (.rng3 (.blt .min (.cons (.var 5) (.cons (.var 8) .nil))) (.neg (.con (.int 1))) (.neg (.con (.int 1)))) (.con (.bool true)) (.tup (.cons (.bin .add (.var 7) (.tup (.cons (.bin .add (.var 4) (.var 9)) .nil))) (.cons (.bin .sub (.var 8) (.var 9)) .nil)))))) .nil)) (.seq (.asg (.nm 2) (.var 6)) .nil)))))) (.seq (.ret (.lc [7, 8] (.cons (.nm 7) (.cons (.nm 8) .nil)) (.var 2) (.cmp .eq (.var 8) (.con (.int 0))) (.call 3 (.cons (.var 7) .nil)))) .nil)))⟩
def d_columns_on : Fd := ⟨"columns_on", ["shape", "size"], ["shape", "size", "found", "part"],
  (.seq (.asg (.nm 2) (.lc [3] (.nm 3) (.call 11 (.cons (.call 4 (.cons (.var 0) .nil)) (.cons (.var 1) .nil))) (.con (.bool true)) (.call 4 (.cons (.var 3) .nil)))) (.seq (.ret (.rev (.blt .sorted (.cons (.var 2) .nil)))) .nil))⟩
def d_sums_along : Fd := ⟨"sums_along", ["shape", "many"], ["shape", "many", "found", "whole", "row"],
  (.seq (.own 2 (.lst .nil)) (.seq (.asg (.nm 3) (.con (.int 0))) (.seq (.for_ (.nm 4) (.rng1 (.var 1)) (.seq (.asg (.nm 3) (.bin .add (.var 3) (.ite (.cmp .lt (.var 4) (.blt .len (.cons (.var 0) .nil))) (.idx (.var 0) (.var 4)) (.con (.int 0))))) (.seq (.app 2 (.var 3)) .nil))) (.seq (.frz 2) (.seq (.ret (.var 2)) .nil)))))⟩
def d_lighter_at : Fd := ⟨"lighter_at", ["shape", "other"], ["shape", "other", "many", "own", "place", "whole"],
  (.seq (.asg (.nm 2) (.blt .max (.cons (.blt .len (.cons (.var 0) .nil)) (.cons (.blt .len (.cons (.var 1) .nil)) .nil)))) (.seq (.asg (.nm 3) (.call 13 (.cons (.var 0) (.cons (.var 2) .nil)))) (.seq (.for_ (.cons (.nm 4) (.cons (.nm 5) .nil)) (.enum (.call 13 (.cons (.var 1) (.cons (.var 2) .nil)))) (.seq (.ife (.cmp .lt (.idx (.var 3) (.var 4)) (.var 5)) (.seq (.ret (.bin .add (.var 4) (.con (.int 1)))) .nil) .nil) .nil)) (.seq (.ret (.con .none)) .nil))))⟩
def d_lowered_to : Fd := ⟨"lowered_to", ["shape", "other"], ["shape", "other", "row", "left", "lower"],
  (.seq (.for_ (.nm 2) (.call 5 (.cons (.var 0) .nil)) (.seq (.asg (.nm 3) (.call 8 (.cons (.var 0) (.cons (.var 2) .nil)))) (.seq (.for_ (.nm 4) (.call 6 (.cons (.var 3) .nil)) (.seq (.ife (.and (.cmp .gt (.var 4) (.var 2)) (.isn false (.call 14 (.cons (.call 7 (.cons (.var 3) (.cons (.var 4) .nil))) (.cons (.var 1) .nil))))) (.seq (.ret (.call 7 (.cons (.var 3) (.cons (.var 4) .nil)))) .nil) .nil) .nil)) .nil))) (.seq (.ret (.var 1)) .nil))⟩
def d_check_sizes : Fd := ⟨"check_sizes", ["shape", "other"], ["shape", "other"],
  (.seq (.xex (.xcall 2 (.cons (.var 0) (.cons (.glb "MOST_BOXES") .nil)))) (.seq (.xex (.xcall 2 (.cons (.var 1) (.cons (.glb "MOST_BOXES") .nil)))) (.seq (.ife (.cmp .ne (.blt .sum (.cons (.var 0) .nil)) (.blt .sum (.cons (.var 1) .nil))) (.seq (.rs0 "UnlikeSizes" 168) .nil) .nil) .nil)))⟩
def d_shapes_of : Fd := ⟨"shapes_of", ["size"], ["size"],
  (.seq (.ife (.not (.call 0 (.cons (.var 0) (.cons (.con (.int 0)) (.cons (.glb "MOST_LONG") .nil))))) (.seq (.rs1 "InvalidNumber" 130 "given" "given" (.var 0)) .nil) .nil) (.seq (.ret (.blt .tuple (.cons (.call 10 (.cons (.var 0) (.cons (.var 0) .nil))) .nil))) .nil))⟩
def d_flipped : Fd := ⟨"flipped", ["shape"], ["shape"],
  (.seq (.xex (.xcall 2 (.cons (.var 0) (.cons (.glb "MOST_BOXES") .nil)))) (.seq (.ret (.call 4 (.cons (.var 0) .nil))) .nil))⟩
def d_holds : Fd := ⟨"holds", ["outer", "inner"], ["outer", "inner"],
  (.seq (.xex (.xcall 2 (.cons (.var 0) (.cons (.glb "MOST_BOXES") .nil)))) (.seq (.xex (.xcall 2 (.cons (.var 1) (.cons (.glb "MOST_BOXES") .nil)))) (.seq (.ret (.call 9 (.cons (.var 1) (.cons (.var 0) .nil)))) .nil)))⟩
def d_corner_rows : Fd := ⟨"corner_rows", ["shape"], ["shape"],
  (.seq (.xex (.xcall 2 (.cons (.var 0) (.cons (.glb "MOST_BOXES") .nil)))) (.seq (.ret (.call 5 (.cons (.var 0) .nil))) .nil))⟩
def d_outer_rows : Fd := ⟨"outer_rows", ["shape"], ["shape"],
  (.seq (.xex (.xcall 2 (.cons (.var 0) (.cons (.glb "MOST_BOXES") .nil)))) (.seq (.ret (.call 6 (.cons (.var 0) .nil))) .nil))⟩
def d_with_box : Fd := ⟨"with_box", ["shape", "row"], ["shape", "row"],
  (.seq (.xex (.xcall 2 (.cons (.var 0) (.cons (.glb "MOST_BOXES") .nil)))) (.seq (.ife (.or (.not (.call 0 (.cons (.var 1) (.cons (.con (.int 0)) (.cons (.glb "MOST_BOXES") .nil))))) (.cmp .nin (.var 1) (.call 6 (.cons (.var 0) .nil)))) (.seq (.rs1 "InvalidRow" 88 "given" "given" (.var 1)) .nil) .nil) (.seq (.ife (.cmp .eq (.blt .sum (.cons (.var 0) .nil)) (.glb "MOST_BOXES")) (.seq (.rs1 "TooMany" 201 "limit" "limit" (.glb "MOST_BOXES")) .nil) .nil) (.seq (.ret (.call 7 (.cons (.var 0) (.cons (.var 1) .nil)))) .nil))))⟩
def d_without_box : Fd := ⟨"without_box", ["shape", "row"], ["shape", "row"],
  (.seq (.xex (.xcall 2 (.cons (.var 0) (.cons (.glb "MOST_BOXES") .nil)))) (.seq (.ife (.or (.not (.call 0 (.cons (.var 1) (.cons (.con (.int 0)) (.cons (.glb "MOST_BOXES") .nil))))) (.cmp .nin (.var 1) (.call 5 (.cons (.var 0) .nil)))) (.seq (.rs1 "InvalidRow" 88 "given" "given" (.var 1)) .nil) .nil) (.seq (.ret (.call 8 (.cons (.var 0) (.cons (.var 1) .nil)))) .nil)))⟩
def d_heavier : Fd := ⟨"heavier", ["shape", "other"], ["shape", "other"],
  (.seq (.xex (.xcall 16 (.cons (.var 0) (.cons (.var 1) .nil)))) (.seq (.ret (.isn false (.call 14 (.cons (.var 0) (.cons (.var 1) .nil))))) .nil))⟩
def d_steps_down : Fd := ⟨"steps_down", ["shape", "other"], ["shape", "other", "found"],
  (.seq (.xex (.xcall 16 (.cons (.var 0) (.cons (.var 1) .nil)))) (.seq (.ife (.isn true (.call 14 (.cons (.var 0) (.cons (.var 1) .nil)))) (.seq (.ret (.con .none)) .nil) .nil) (.seq (.own 2 (.lst (.cons (.var 0) .nil))) (.seq (.whl (.cmp .ne (.idx (.pk 2) (.neg (.con (.int 1)))) (.var 1)) (.seq (.app 2 (.call 15 (.cons (.idx (.pk 2) (.neg (.con (.int 1)))) (.cons (.var 1) .nil)))) .nil)) (.seq (.ret (.blt .tuple (.cons (.pk 2) .nil))) .nil)))))⟩
def d_first_lighter : Fd := ⟨"first_lighter", ["shape", "other"], ["shape", "other"],
  (.seq (.xex (.xcall 16 (.cons (.var 0) (.cons (.var 1) .nil)))) (.seq (.ret (.call 14 (.cons (.var 0) (.cons (.var 1) .nil)))) .nil))⟩
def d_check_strip : Fd := ⟨"check_strip", ["shape", "size"], ["shape", "size"],
  (.seq (.xex (.xcall 2 (.cons (.var 0) (.cons (.glb "MOST_BOXES") .nil)))) (.seq (.ife (.not (.call 0 (.cons (.var 1) (.cons (.con (.int 0)) (.cons (.glb "MOST_DEGREE") .nil))))) (.seq (.rs1 "InvalidNumber" 130 "given" "given" (.var 1)) .nil) .nil) (.seq (.ife (.cmp .gt (.bin .add (.blt .sum (.cons (.var 0) .nil)) (.var 1)) (.glb "MOST_BOXES")) (.seq (.rs1 "TooMany" 201 "limit" "limit" (.glb "MOST_BOXES")) .nil) .nil) .nil)))⟩
def d_with_strips : Fd := ⟨"with_strips", ["shape", "size"], ["shape", "size"],
  (.seq (.xex (.xcall 27 (.cons (.var 0) (.cons (.var 1) .nil)))) (.seq (.ret (.blt .tuple (.cons (.call 11 (.cons (.var 0) (.cons (.var 1) .nil))) .nil))) .nil))⟩
def d_with_columns : Fd := ⟨"with_columns", ["shape", "size"], ["shape", "size"],
  (.seq (.xex (.xcall 27 (.cons (.var 0) (.cons (.var 1) .nil)))) (.seq (.ret (.blt .tuple (.cons (.call 12 (.cons (.var 0) (.cons (.var 1) .nil))) .nil))) .nil))⟩
def d_hook_of : Fd := ⟨"hook_of", ["shape", "row", "column"], ["shape", "row", "column", "below", "part"],
  (.seq (.asg (.nm 3) (.lc [4] (.nm 4) (.slc (.var 0) (.bin .add (.var 1) (.con (.int 1))) .nil) (.cmp .gt (.var 4) (.var 2)) (.var 4))) (.seq (.ret (.bin .add (.bin .sub (.idx (.var 0) (.var 1)) (.var 2)) (.blt .len (.cons (.var 3) .nil)))) .nil))⟩
def d_hook : Fd := ⟨"hook", ["shape", "row", "column"], ["shape", "row", "column"],
  (.seq (.xex (.xcall 2 (.cons (.var 0) (.cons (.glb "MOST_BOXES") .nil)))) (.seq (.ife (.not (.call 0 (.cons (.var 1) (.cons (.con (.int 0)) (.cons (.bin .sub (.blt .len (.cons (.var 0) .nil)) (.con (.int 1))) .nil))))) (.seq (.rs1 "InvalidRow" 88 "given" "given" (.var 1)) .nil) .nil) (.seq (.ife (.not (.call 0 (.cons (.var 2) (.cons (.con (.int 0)) (.cons (.bin .sub (.idx (.var 0) (.var 1)) (.con (.int 1))) .nil))))) (.seq (.rs1 "InvalidPlace" 109 "given" "given" (.var 2)) .nil) .nil) (.seq (.ret (.call 30 (.cons (.var 0) (.cons (.var 1) (.cons (.var 2) .nil))))) .nil))))⟩
def d_law_tub : Fd := ⟨"_law_tub", ["cells", "k"], ["cells", "k", "cell", "stirred", "each"],
  (.seq (.asg (.nm 2) (.ite (.cmp .lt (.var 1) (.blt .len (.cons (.var 0) .nil))) (.blt .int (.cons (.idx (.var 0) (.var 1)) .nil)) (.bin .add (.bin .mul (.con (.int 9151)) (.var 1)) (.con (.int 109))))) (.seq (.asg (.nm 3) (.bin .add (.con (.int 99017)) (.bin .mul (.con (.int 659)) (.var 1)))) (.seq (.for_ (.nm 4) (.bin .add (.slc (.var 0) .nil (.con (.int 5))) (.lst (.cons (.var 2) .nil))) (.seq (.asg (.nm 3) (.bin .mod (.blt .int (.cons (.bin .add (.bin .mul (.var 3) (.con (.int 54001))) (.blt .int (.cons (.var 4) .nil))) .nil)) (.con (.int 2147482877)))) .nil)) (.seq (.ret (.lst (.cons (.ite (.or (.cmp .lt (.var 2) (.con (.int 0))) (.cmp .ge (.var 2) (.bin .pow (.con (.int 10)) (.con (.int 18))))) (.blt .abs (.cons (.var 2) .nil)) (.con (.int 0))) (.cons (.var 3) (.cons (.con (.int 0)) .nil))))) .nil))))⟩
def d_law_dip : Fd := ⟨"_law_dip", ["tub", "top"], ["tub", "top", "old", "digit"],
  (.seq (.tset 0 2 (.bin .add (.tix 0 2) (.con (.int 1)))) (.seq (.asg (.nm 2) (.blt .int (.cons (.tix 0 1) .nil))) (.seq (.tset 0 1 (.bin .mod (.blt .int (.cons (.bin .add (.bin .add (.bin .mul (.var 2) (.bin .add (.bin .mod (.blt .int (.cons (.var 2) .nil)) (.con (.int 23003))) (.con (.int 20011)))) (.bin .mul (.con (.int 57041)) (.tix 0 2))) (.con (.int 71))) .nil)) (.con (.int 2147482877)))) (.seq (.ife (.cmp .gt (.tix 0 0) (.con (.int 0))) (.seq (.tdvm 0 0 (.nm 3) (.blt .divmod (.cons (.tix 0 0) (.cons (.var 1) .nil)))) (.seq (.ret (.var 3)) .nil)) .nil) (.seq (.ret (.bin .mod (.blt .int (.cons (.bin .fdiv (.tix 0 1) (.con (.int 151))) .nil)) (.var 1))) .nil)))))⟩
def d_law_of : Fd := ⟨"_law_of", ["tub", "things"], ["tub", "things"],
  (.seq (.ret (.idx (.var 1) (.call 33 (.cons (.var 0) (.cons (.blt .len (.cons (.var 1) .nil)) .nil))))) .nil)⟩
def d_law_form : Fd := ⟨"_law_form", ["tub", "size"], ["tub", "size", "found", "left", "lap", "top"],
  (.seq (.par 2 3 true false (.lst .nil) (.var 1)) (.seq (.for_ (.nm 4) (.rng1 (.var 1)) (.seq (.ife (.cmp .gt (.var 3) (.con (.int 0))) (.seq (.asg (.nm 5) (.blt .min (.cons (.var 3) (.cons (.call 34 (.cons (.var 0) (.cons (.lst (.cons (.var 3) (.cons (.con (.int 2)) (.cons (.con (.int 4)) (.cons (.con (.int 7)) .nil))))) .nil))) (.cons (.ite (.cmp .ne (.pk 2) (.lst .nil)) (.idx (.pk 2) (.neg (.con (.int 1)))) (.var 3)) .nil))))) (.seq (.app 2 (.bin .add (.con (.int 1)) (.call 33 (.cons (.var 0) (.cons (.var 5) .nil))))) (.seq (.asg (.nm 3) (.bin .sub (.var 3) (.idx (.pk 2) (.neg (.con (.int 1)))))) .nil))) .nil) .nil)) (.seq (.ret (.blt .tuple (.cons (.pk 2) .nil))) .nil)))⟩
def d_law_sort : Fd := ⟨"_law_sort", ["e"], ["e", "own", "under", "plain", "at"],
  (.seq (.asg (.nm 1) (.lst (.cons (.isx "InvalidShape" [67] [46, 88, 109, 130, 168, 180, 201] (.var 0)) (.cons (.isx "InvalidNumber" [130] [46, 67, 88, 109, 168, 180, 201] (.var 0)) (.cons (.isx "InvalidRow" [88] [46, 67, 109, 130, 168, 180, 201] (.var 0)) .nil))))) (.seq (.asg (.nm 1) (.bin .add (.var 1) (.lst (.cons (.isx "InvalidPlace" [109] [46, 67, 88, 130, 168, 180, 201] (.var 0)) (.cons (.isx "InvalidWord" [46] [67, 88, 109, 130, 168, 180, 201] (.var 0)) (.cons (.isx "UnlikeSizes" [168] [46, 67, 88, 109, 130, 180, 201] (.var 0)) .nil)))))) (.seq (.asg (.nm 1) (.bin .add (.var 1) (.lst (.cons (.isx "TooMany" [201] [46, 67, 88, 109, 130, 168, 180] (.var 0)) (.cons (.isx "NoMove" [180] [46, 67, 88, 109, 130, 168, 201] (.var 0)) .nil))))) (.seq (.asg (.nm 2) (.lst (.cons (.isx "WrongValue" [46, 67, 88, 109, 130] [168, 180, 201] (.var 0)) (.cons (.isx "NoAnswer" [168, 180, 201] [46, 67, 88, 109, 130] (.var 0)) .nil)))) (.seq (.asg (.nm 3) (.lst (.cons (.isx "ValueError" [46, 67, 88, 109, 130] [168, 180, 201] (.var 0)) (.cons (.isx "ArithmeticError" [168, 180, 201] [46, 67, 88, 109, 130] (.var 0)) .nil)))) (.seq (.asg (.nm 4) (.ite (.cmp .eq (.lcnt (.var 1) (.con (.bool true))) (.con (.int 1))) (.lidx (.var 1) (.con (.bool true))) (.con (.int 8)))) (.seq (.ife (.or (.cmp .ne (.var 2) (.var 3)) (.or (.cmp .ne (.var 2) (.lst (.cons (.cmp .lt (.var 4) (.con (.int 5))) (.cons (.chain .le .lt (.con (.int 5)) (.var 4) (.con (.int 8))) .nil)))) (.isx "WrongName" [] [46, 67, 88, 109, 130, 168, 180, 201] (.var 0)))) (.seq (.ret (.con (.str "odd"))) .nil) .nil) (.seq (.ret (.idx (.lst (.cons (.con (.str "shape")) (.cons (.con (.str "number")) (.cons (.con (.str "row")) (.cons (.con (.str "place")) (.cons (.con (.str "word")) (.cons (.con (.str "sizes")) (.cons (.con (.str "many")) (.cons (.con (.str "move")) .nil))))))))) (.var 4))) .nil))))))))⟩
def d_law_caught : Fd := ⟨"_law_caught", ["act_here"], ["act_here", "gave", "e", "word_here"],
  (.seq (.tryx ["WrongValue", "WrongName", "NoAnswer"] [46, 67, 88, 109, 130, 168, 180, 201] 2 (.seq (.xas (.nm 1) (.xact 0)) .nil) (.seq (.asg (.nm 3) (.call 36 (.cons (.var 2) .nil))) (.seq (.ife (.cmp .inn (.var 3) (.lst (.cons (.con (.str "sizes")) (.cons (.con (.str "odd")) (.cons (.con (.str "move")) .nil))))) (.seq (.ret (.tup (.cons (.var 3) (.cons (.con (.str "")) .nil)))) .nil) .nil) (.seq (.ret (.tup (.cons (.var 3) (.cons (.repr (.ite (.cmp .eq (.var 3) (.con (.str "many"))) (.xat "limit" [201] (.var 2)) (.xat "given" [46, 67, 88, 109, 130] (.var 2)))) .nil)))) .nil)))) (.seq (.ret (.tup (.cons (.con (.str "gave")) (.cons (.var 1) .nil)))) .nil))⟩
def d_law_odd : Fd := ⟨"_law_odd", ["tub"], ["tub", "some"],
  (.seq (.asg (.nm 1) (.lst (.cons (.con .none) (.cons (.con (.int 3)) (.cons (.con (.bool true)) (.cons (.con (.str "3.2")) (.cons (.lst (.cons (.con (.int 3)) (.cons (.con (.int 2)) .nil))) (.cons (.tup (.cons (.con (.int 0)) .nil)) (.cons (.tup (.cons (.con (.int 2)) (.cons (.con (.int 3)) .nil))) (.cons (.tup (.cons (.con (.int 3)) (.cons (.con (.int 0)) .nil))) (.cons (.tup (.cons (.neg (.con (.int 1))) .nil)) (.cons (.tup (.cons (.con (.bool true)) .nil)) (.cons (.tup (.cons (.con (.int 2)) (.cons (.con (.bool true)) .nil))) (.cons (.tup (.cons (.con (.str "2")) .nil)) (.cons (.tup (.cons (.tup (.cons (.con (.int 2)) .nil)) .nil)) (.cons (.con (dkD [])) .nil)))))))))))))))) (.seq (.asg (.nm 1) (.bin .add (.var 1) (.lst (.cons (.tup (.cons (.con (.int 41)) .nil)) (.cons (.bin .mul (.tup (.cons (.con (.int 1)) .nil)) (.con (.int 41))) (.cons (.tup (.cons (.con (.int 20)) (.cons (.con (.int 20)) (.cons (.con (.int 1)) .nil)))) (.cons (.tup (.cons (.con (.int 21)) (.cons (.con (.int 20)) .nil))) (.cons (.tup (.cons (.con (.int 30)) (.cons (.con (.int 11)) .nil))) (.cons (.tup (.cons (.con (.int 14)) (.cons (.con (.int 14)) (.cons (.con (.int 14)) .nil)))) .nil))))))))) (.seq (.ret (.call 34 (.cons (.var 0) (.cons (.bin .add (.var 1) (.lst (.cons (.tup (.cons (.con (.int 2)) (.cons (.con .none) .nil))) (.cons (.tup (.cons (.bin .pow (.con (.int 10)) (.con (.int 30))) .nil)) .nil)))) .nil)))) .nil)))⟩
def d_law_lone_right : Fd := ⟨"_law_lone_right", ["odd"], ["odd", "told"],
  (.seq (.own 1 (.lst (.cons (.lam 37 false (.xcall 18 (.cons (.var 0) .nil))) .nil))) (.seq (.app 1 (.lam 37 false (.xcallk 20 0 1 [0] .nil (.cons (.var 0) .nil)))) (.seq (.app 1 (.lam 37 false (.xcall 21 (.cons (.var 0) .nil)))) (.seq (.app 1 (.lam 37 false (.xcall 22 (.cons (.var 0) (.cons (.con .none) .nil))))) (.seq (.app 1 (.lam 37 false (.xcallk 23 0 2 [1, 0] .nil (.cons (.neg (.con (.int 1))) (.cons (.var 0) .nil))))) (.seq (.app 1 (.lam 37 false (.xcall 28 (.cons (.var 0) (.cons (.con .none) .nil))))) (.seq (.app 1 (.lam 37 false (.xcallk 29 0 2 [1, 0] .nil (.cons (.con (.int 9)) (.cons (.var 0) .nil))))) (.seq (.app 1 (.lam 37 false (.xcall 31 (.cons (.var 0) (.cons (.con .none) (.cons (.con .none) .nil)))))) (.seq (.app 1 (.lam 37 false (.xcall 19 (.cons (.var 0) (.cons (.con .none) .nil))))) (.seq (.app 1 (.lam 37 false (.xcall 19 (.cons (.tup (.cons (.con (.int 2)) (.cons (.con (.int 1)) .nil))) (.cons (.var 0) .nil))))) (.seq (.app 1 (.lam 37 false (.xcall 24 (.cons (.var 0) (.cons (.con .none) .nil))))) (.seq (.app 1 (.lam 37 false (.xcallk 24 0 2 [1, 0] .nil (.cons (.var 0) (.cons (.tup (.cons (.con (.int 2)) (.cons (.con (.int 1)) .nil))) .nil))))) (.seq (.app 1 (.lam 37 false (.xcall 25 (.cons (.tup (.cons (.con (.int 2)) .nil)) (.cons (.var 0) .nil))))) (.seq (.app 1 (.lam 37 false (.xcall 26 (.cons (.var 0) (.cons (.var 0) .nil))))) (.seq (.ret (.cmp .eq (.pk 1) (.bin .mul (.lst (.cons (.tup (.cons (.con (.str "shape")) (.cons (.repr (.var 0)) .nil))) .nil)) (.con (.int 14))))) .nil)))))))))))))))⟩
def d_law_rows_right : Fd := ⟨"_law_rows_right", ["form", "bad"], ["form", "bad", "told"],
  (.seq (.own 2 (.lst (.cons (.lam 37 false (.xcall 22 (.cons (.var 0) (.cons (.var 1) .nil)))) .nil))) (.seq (.app 2 (.lam 37 false (.xcallk 23 0 2 [1, 0] .nil (.cons (.var 1) (.cons (.var 0) .nil))))) (.seq (.app 2 (.lam 37 false (.xcall 31 (.cons (.var 0) (.cons (.var 1) (.cons (.var 1) .nil)))))) (.seq (.ife (.cmp .ne (.pk 2) (.bin .mul (.lst (.cons (.tup (.cons (.con (.str "row")) (.cons (.repr (.var 1)) .nil))) .nil)) (.con (.int 3)))) (.seq (.ret (.con (.bool false))) .nil) .nil) (.seq (.own 2 (.lst (.cons (.lam 37 false (.xcall 28 (.cons (.var 0) (.cons (.var 1) .nil)))) .nil))) (.seq (.app 2 (.lam 37 false (.xcallk 29 0 2 [1, 0] .nil (.cons (.var 1) (.cons (.var 0) .nil))))) (.seq (.app 2 (.lam 37 false (.xcall 17 (.cons (.var 1) .nil)))) (.seq (.ret (.and (.cmp .eq (.pk 2) (.bin .mul (.lst (.cons (.tup (.cons (.con (.str "number")) (.cons (.repr (.var 1)) .nil))) .nil)) (.con (.int 3)))) (.cmp .eq (.lam 37 false (.xcall 31 (.cons (.tup (.cons (.con (.int 2)) (.cons (.con (.int 1)) .nil))) (.cons (.con (.int 0)) (.cons (.var 1) .nil))))) (.tup (.cons (.con (.str "place")) (.cons (.repr (.var 1)) .nil)))))) .nil))))))))⟩
def d_law_full_right : Fd := ⟨"_law_full_right", ["tub"], ["tub", "form", "rows_here", "told", "due"],
  (.seq (.asg (.nm 1) (.call 35 (.cons (.var 0) (.cons (.con (.int 40)) .nil)))) (.seq (.asg (.nm 2) (.call 21 (.cons (.var 1) .nil))) (.seq (.own 3 (.lst (.cons (.lam 37 false (.xcall 22 (.cons (.var 1) (.cons (.call 34 (.cons (.var 0) (.cons (.var 2) .nil))) .nil)))) .nil))) (.seq (.app 3 (.lam 37 false (.xcall 22 (.cons (.var 1) (.cons (.con (.int 41)) .nil))))) (.seq (.app 3 (.lam 37 false (.xcall 28 (.cons (.var 1) (.cons (.con (.int 1)) .nil))))) (.seq (.app 3 (.lam 37 false (.xcall 29 (.cons (.var 1) (.cons (.con (.int 9)) .nil))))) (.seq (.app 3 (.lam 37 false (.xcall 28 (.cons (.var 1) (.cons (.con (.int 0)) .nil))))) (.seq (.app 3 (.lam 37 false (.xcall 24 (.cons (.var 1) (.cons (.tup (.cons (.con (.int 39)) .nil)) .nil))))) (.seq (.asg (.nm 4) (.lst (.cons (.tup (.cons (.con (.str "many")) (.cons (.con (.str "40")) .nil))) (.cons (.tup (.cons (.con (.str "row")) (.cons (.con (.str "41")) .nil))) (.cons (.tup (.cons (.con (.str "many")) (.cons (.con (.str "40")) .nil))) (.cons (.tup (.cons (.con (.str "number")) (.cons (.con (.str "9")) .nil))) (.cons (.tup (.cons (.con (.str "gave")) (.cons (.tup (.cons (.var 1) .nil)) .nil))) (.cons (.tup (.cons (.con (.str "sizes")) (.cons (.con (.str "")) .nil))) .nil)))))))) (.seq (.ife (.or (.cmp .ne (.pk 3) (.var 4)) (.or (.cmp .ne (.call 18 (.cons (.call 18 (.cons (.var 1) .nil)) .nil)) (.var 1)) (.ist true (.call 24 (.cons (.tup (.cons (.con (.int 40)) .nil)) (.cons (.var 1) .nil))) true))) (.seq (.ret (.con (.bool false))) .nil) .nil) (.seq (.ret (.and (.cmp .eq (.lam 37 false (.xcall 17 (.cons (.con (.int 13)) .nil))) (.tup (.cons (.con (.str "number")) (.cons (.con (.str "13")) .nil)))) (.cmp .eq (.blt .len (.cons (.call 17 (.cons (.con (.int 12)) .nil)) .nil)) (.con (.int 77))))) .nil)))))))))))⟩
def d_law_right : Fd := ⟨"_law_right", ["tub"], ["tub", "lap", "form", "bad"],
  (.seq (.for_ (.nm 1) (.rng1 (.con (.int 6))) (.seq (.wip [1, 2, 3]) (.seq (.asg (.nm 2) (.call 35 (.cons (.var 0) (.cons (.bin .add (.con (.int 1)) (.call 33 (.cons (.var 0) (.cons (.con (.int 12)) .nil)))) .nil)))) (.seq (.ife (.not (.call 39 (.cons (.call 38 (.cons (.var 0) .nil)) .nil))) (.seq (.ret (.con (.bool false))) .nil) .nil) (.seq (.asg (.nm 3) (.call 34 (.cons (.var 0) (.cons (.lst (.cons (.con .none) (.cons (.neg (.con (.int 1))) (.cons (.con (.bool true)) (.cons (.con (.bool false)) (.cons (.con (.str "0")) (.cons (.tup (.cons (.con (.int 0)) .nil)) (.cons (.lst (.cons (.con (.int 1)) .nil)) (.cons (.con (dkD [])) (.cons (.bin .pow (.con (.int 10)) (.con (.int 30))) (.cons (.con (.int 99)) .nil))))))))))) .nil)))) (.seq (.ife (.not (.call 40 (.cons (.var 2) (.cons (.var 3) .nil)))) (.seq (.ret (.con (.bool false))) .nil) .nil) .nil)))))) (.seq (.wip [1, 2, 3]) (.seq (.ret (.call 41 (.cons (.var 0) .nil))) .nil)))⟩
def d_law : Fd := ⟨"law", ["cells"], ["cells", "k"],
  (.seq (.ret (.blt .all (.cons (.lc [1] (.nm 1) (.rng1 (.blt .max (.cons (.con (.int 2)) (.cons (.blt .min (.cons (.blt .len (.cons (.var 0) .nil)) (.cons (.con (.int 4)) .nil))) .nil)))) (.con (.bool true)) (.drw 42 32 (.cons (.var 0) (.cons (.var 1) .nil)))) .nil))) .nil)⟩
def fns : List Fd := [d_is_number, d_is_shape, d_check_shape, d_trimmed, d_flipped_of, d_corners_of, d_outers_of, d_more_of, d_less_of, d_is_held, d_all_shapes, d_strips_on, d_columns_on, d_sums_along, d_lighter_at, d_lowered_to, d_check_sizes, d_shapes_of, d_flipped, d_holds, d_corner_rows, d_outer_rows, d_with_box, d_without_box, d_heavier, d_steps_down, d_first_lighter, d_check_strip, d_with_strips, d_with_columns, d_hook_of, d_hook, d_law_tub, d_law_dip, d_law_of, d_law_form, d_law_sort, d_law_caught, d_law_odd, d_law_lone_right, d_law_rows_right, d_law_full_right, d_law_right, d_law]
def kws : List (Nat × Nat × List Str × List Nat) := [(20, 0, ["shape"], [0]), (24, 0, ["other", "shape"], [1, 0]), (29, 0, ["size", "shape"], [1, 0]), (23, 0, ["row", "shape"], [1, 0])]
def globs : List (Str × D) := [("MOST_LONG", .int 12), ("MOST_BOXES", .int 40), ("MOST_DEGREE", .int 8)]
def xc : Xc := xl.xc
def tabs : List (Nat × Str) := lt.map fun p => (p.2.2, p.1 ++ ".<locals>." ++ "<lambda>")
def τ : Tab := ⟨fns, 33, [32], fun x => globs.lookup x, 100000, xc, [2, 16, 17, 18, 19, 20, 21, 22, 23, 24, 25, 26, 27, 28, 29, 31], [36], [37], tabs, [39, 40, 41]⟩
theorem c_is_number : (scC d_is_number.N d_is_number.ps (fnScope (top 16)) && chkS (ckOf τ kws 0 d_is_number false true .bad) (sxOf (top 16)) d_is_number.body (.l (fnBody (top 16)))) = true := by decide +kernel
theorem c_is_shape : (scC d_is_shape.N d_is_shape.ps (fnScope (top 17)) && chkS (ckOf τ kws 1 d_is_shape false true .bad) (sxOf (top 17)) d_is_shape.body (.l (fnBody (top 17)))) = true := by decide +kernel
theorem c_check_shape : (scC d_check_shape.N d_check_shape.ps (fnScope (top 18)) && chkS (ckOf τ kws 2 d_check_shape false true .bad) (sxOf (top 18)) d_check_shape.body (.l (fnBody (top 18)))) = true := by decide +kernel
theorem c_trimmed : (scC d_trimmed.N d_trimmed.ps (fnScope (top 19)) && chkS (ckOf τ kws 3 d_trimmed false true .bad) (sxOf (top 19)) d_trimmed.body (.l (fnBody (top 19)))) = true := by decide +kernel
theorem c_flipped_of : (scC d_flipped_of.N d_flipped_of.ps (fnScope (top 20)) && chkS (ckOf τ kws 4 d_flipped_of false true .bad) (sxOf (top 20)) d_flipped_of.body (.l (fnBody (top 20)))) = true := by decide +kernel
theorem c_corners_of : (scC d_corners_of.N d_corners_of.ps (fnScope (top 21)) && chkS (ckOf τ kws 5 d_corners_of false true .bad) (sxOf (top 21)) d_corners_of.body (.l (fnBody (top 21)))) = true := by decide +kernel
theorem c_outers_of : (scC d_outers_of.N d_outers_of.ps (fnScope (top 22)) && chkS (ckOf τ kws 6 d_outers_of false true .bad) (sxOf (top 22)) d_outers_of.body (.l (fnBody (top 22)))) = true := by decide +kernel
theorem c_more_of : (scC d_more_of.N d_more_of.ps (fnScope (top 23)) && chkS (ckOf τ kws 7 d_more_of false true .bad) (sxOf (top 23)) d_more_of.body (.l (fnBody (top 23)))) = true := by decide +kernel
theorem c_less_of : (scC d_less_of.N d_less_of.ps (fnScope (top 24)) && chkS (ckOf τ kws 8 d_less_of false true .bad) (sxOf (top 24)) d_less_of.body (.l (fnBody (top 24)))) = true := by decide +kernel
theorem c_is_held : (scC d_is_held.N d_is_held.ps (fnScope (top 25)) && chkS (ckOf τ kws 9 d_is_held false true .bad) (sxOf (top 25)) d_is_held.body (.l (fnBody (top 25)))) = true := by decide +kernel
theorem c_all_shapes : (scC d_all_shapes.N d_all_shapes.ps (fnScope (top 26)) && chkS (ckOf τ kws 10 d_all_shapes false true .bad) (sxOf (top 26)) d_all_shapes.body (.l (fnBody (top 26)))) = true := by decide +kernel
theorem c_strips_on : (scC d_strips_on.N d_strips_on.ps (fnScope (top 27)) && chkS (ckOf τ kws 11 d_strips_on false true .bad) (sxOf (top 27)) d_strips_on.body (.l (fnBody (top 27)))) = true := by decide +kernel
theorem c_columns_on : (scC d_columns_on.N d_columns_on.ps (fnScope (top 28)) && chkS (ckOf τ kws 12 d_columns_on false true .bad) (sxOf (top 28)) d_columns_on.body (.l (fnBody (top 28)))) = true := by decide +kernel
theorem c_sums_along : (scC d_sums_along.N d_sums_along.ps (fnScope (top 29)) && chkS (ckOf τ kws 13 d_sums_along false true .bad) (sxOf (top 29)) d_sums_along.body (.l (fnBody (top 29)))) = true := by decide +kernel
theorem c_lighter_at : (scC d_lighter_at.N d_lighter_at.ps (fnScope (top 30)) && chkS (ckOf τ kws 14 d_lighter_at false true .bad) (sxOf (top 30)) d_lighter_at.body (.l (fnBody (top 30)))) = true := by decide +kernel
theorem c_lowered_to : (scC d_lowered_to.N d_lowered_to.ps (fnScope (top 31)) && chkS (ckOf τ kws 15 d_lowered_to false true .bad) (sxOf (top 31)) d_lowered_to.body (.l (fnBody (top 31)))) = true := by decide +kernel
theorem c_check_sizes : (scC d_check_sizes.N d_check_sizes.ps (fnScope (top 32)) && chkS (ckOf τ kws 16 d_check_sizes false true .bad) (sxOf (top 32)) d_check_sizes.body (.l (fnBody (top 32)))) = true := by decide +kernel
theorem c_shapes_of : (scC d_shapes_of.N d_shapes_of.ps (fnScope (top 33)) && chkS (ckOf τ kws 17 d_shapes_of false true .bad) (sxOf (top 33)) d_shapes_of.body (.l (fnBody (top 33)))) = true := by decide +kernel
theorem c_flipped : (scC d_flipped.N d_flipped.ps (fnScope (top 34)) && chkS (ckOf τ kws 18 d_flipped false true .bad) (sxOf (top 34)) d_flipped.body (.l (fnBody (top 34)))) = true := by decide +kernel
theorem c_holds : (scC d_holds.N d_holds.ps (fnScope (top 35)) && chkS (ckOf τ kws 19 d_holds false true .bad) (sxOf (top 35)) d_holds.body (.l (fnBody (top 35)))) = true := by decide +kernel
theorem c_corner_rows : (scC d_corner_rows.N d_corner_rows.ps (fnScope (top 36)) && chkS (ckOf τ kws 20 d_corner_rows false true .bad) (sxOf (top 36)) d_corner_rows.body (.l (fnBody (top 36)))) = true := by decide +kernel
theorem c_outer_rows : (scC d_outer_rows.N d_outer_rows.ps (fnScope (top 37)) && chkS (ckOf τ kws 21 d_outer_rows false true .bad) (sxOf (top 37)) d_outer_rows.body (.l (fnBody (top 37)))) = true := by decide +kernel
theorem c_with_box : (scC d_with_box.N d_with_box.ps (fnScope (top 38)) && chkS (ckOf τ kws 22 d_with_box false true .bad) (sxOf (top 38)) d_with_box.body (.l (fnBody (top 38)))) = true := by decide +kernel
theorem c_without_box : (scC d_without_box.N d_without_box.ps (fnScope (top 39)) && chkS (ckOf τ kws 23 d_without_box false true .bad) (sxOf (top 39)) d_without_box.body (.l (fnBody (top 39)))) = true := by decide +kernel
theorem c_heavier : (scC d_heavier.N d_heavier.ps (fnScope (top 40)) && chkS (ckOf τ kws 24 d_heavier false true .bad) (sxOf (top 40)) d_heavier.body (.l (fnBody (top 40)))) = true := by decide +kernel
theorem c_steps_down : (scC d_steps_down.N d_steps_down.ps (fnScope (top 41)) && chkS (ckOf τ kws 25 d_steps_down false true .bad) (sxOf (top 41)) d_steps_down.body (.l (fnBody (top 41)))) = true := by decide +kernel
theorem c_first_lighter : (scC d_first_lighter.N d_first_lighter.ps (fnScope (top 42)) && chkS (ckOf τ kws 26 d_first_lighter false true .bad) (sxOf (top 42)) d_first_lighter.body (.l (fnBody (top 42)))) = true := by decide +kernel
theorem c_check_strip : (scC d_check_strip.N d_check_strip.ps (fnScope (top 43)) && chkS (ckOf τ kws 27 d_check_strip false true .bad) (sxOf (top 43)) d_check_strip.body (.l (fnBody (top 43)))) = true := by decide +kernel
theorem c_with_strips : (scC d_with_strips.N d_with_strips.ps (fnScope (top 44)) && chkS (ckOf τ kws 28 d_with_strips false true .bad) (sxOf (top 44)) d_with_strips.body (.l (fnBody (top 44)))) = true := by decide +kernel
theorem c_with_columns : (scC d_with_columns.N d_with_columns.ps (fnScope (top 45)) && chkS (ckOf τ kws 29 d_with_columns false true .bad) (sxOf (top 45)) d_with_columns.body (.l (fnBody (top 45)))) = true := by decide +kernel
theorem c_hook_of : (scC d_hook_of.N d_hook_of.ps (fnScope (top 46)) && chkS (ckOf τ kws 30 d_hook_of false true .bad) (sxOf (top 46)) d_hook_of.body (.l (fnBody (top 46)))) = true := by decide +kernel
theorem c_hook : (scC d_hook.N d_hook.ps (fnScope (top 47)) && chkS (ckOf τ kws 31 d_hook false true .bad) (sxOf (top 47)) d_hook.body (.l (fnBody (top 47)))) = true := by decide +kernel
theorem c_law_tub : (scC d_law_tub.N d_law_tub.ps (fnScope (top 49)) && chkS (ckOf τ kws 32 d_law_tub false true .bad) (sxOf (top 49)) d_law_tub.body (.l (fnBody (top 49)))) = true := by decide +kernel
theorem c_law_dip : (scC d_law_dip.N d_law_dip.ps (fnScope (top 50)) && chkS (ckOf τ kws 33 d_law_dip false true .bad) (sxOf (top 50)) d_law_dip.body (.l (fnBody (top 50)))) = true := by decide +kernel
theorem c_law_of : (scC d_law_of.N d_law_of.ps (fnScope (top 51)) && chkS (ckOf τ kws 34 d_law_of false true .bad) (sxOf (top 51)) d_law_of.body (.l (fnBody (top 51)))) = true := by decide +kernel
theorem c_law_form : (scC d_law_form.N d_law_form.ps (fnScope (top 52)) && chkS (ckOf τ kws 35 d_law_form false true .bad) (sxOf (top 52)) d_law_form.body (.l (fnBody (top 52)))) = true := by decide +kernel
theorem c_law_sort : (scC d_law_sort.N d_law_sort.ps (fnScope (top 53)) && chkS (ckOf τ kws 36 d_law_sort false true .bad) (sxOf (top 53)) d_law_sort.body (.l (fnBody (top 53)))) = true := by decide +kernel
theorem c_law_caught : (scC d_law_caught.N d_law_caught.ps (fnScope (top 54)) && chkS (ckOf τ kws 37 d_law_caught false true .bad) (sxOf (top 54)) d_law_caught.body (.l (fnBody (top 54)))) = true := by decide +kernel
theorem c_law_odd : (scC d_law_odd.N d_law_odd.ps (fnScope (top 55)) && chkS (ckOf τ kws 38 d_law_odd false true .bad) (sxOf (top 55)) d_law_odd.body (.l (fnBody (top 55)))) = true := by decide +kernel
theorem c_law_lone_right : (scC d_law_lone_right.N d_law_lone_right.ps (fnScope (top 56)) && chkS (ckOf τ kws 39 d_law_lone_right false true .bad) (sxOf (top 56)) d_law_lone_right.body (.l (fnBody (top 56)))) = true := by decide +kernel
theorem c_law_rows_right : (scC d_law_rows_right.N d_law_rows_right.ps (fnScope (top 57)) && chkS (ckOf τ kws 40 d_law_rows_right false true .bad) (sxOf (top 57)) d_law_rows_right.body (.l (fnBody (top 57)))) = true := by decide +kernel
theorem c_law_full_right : (scC d_law_full_right.N d_law_full_right.ps (fnScope (top 58)) && chkS (ckOf τ kws 41 d_law_full_right false true .bad) (sxOf (top 58)) d_law_full_right.body (.l (fnBody (top 58)))) = true := by decide +kernel
theorem c_law_right : (scC d_law_right.N d_law_right.ps (fnScope (top 59)) && chkS (ckOf τ kws 42 d_law_right false true .bad) (sxOf (top 59)) d_law_right.body (.l (fnBody (top 59)))) = true := by decide +kernel
theorem c_law : (scC d_law.N d_law.ps (fnScope (top 60)) && chkS (ckOf τ kws 43 d_law false true .bad) (sxOf (top 60)) d_law.body (.l (fnBody (top 60)))) = true := by decide +kernel
theorem n_law_tub : (scC d_law_tub.N d_law_tub.ps (fnScope (top 49)) && chkS (ckOf τ kws 32 d_law_tub true true .bad) (sxOf (top 49)) d_law_tub.body (.l (fnBody (top 49)))) = true := by decide +kernel
theorem h_law_sort : (scC d_law_sort.N d_law_sort.ps (fnScope (top 53)) && chkS (ckOf τ kws 36 d_law_sort false false .bad) (sxOf (top 53)) d_law_sort.body (.l (fnBody (top 53)))) = true := by decide +kernel
theorem l_law_caught (a : Out D) : chkS (ckOf τ kws 37 d_law_caught false true a) (sxOf (top 54)) d_law_caught.body (.l (fnBody (top 54))) = true := by kernel_rfl
theorem s_law_dip : scC d_law_dip.N d_law_dip.ps (fnScope (top 50)) = true := by decide +kernel
theorem t_law_dip (tb : List (Addr × Str)) : chkS (ckD tb d_law_dip) (sxOf (top 50)) d_law_dip.body (.l (fnBody (top 50))) = true := by kernel_rfl
end K07

set_option Elab.async false
set_option linter.all false
set_option maxRecDepth 1000000
set_option maxHeartbeats 4000000
namespace K07
open PySem L2 Ev
theorem dip_body (Γ : Ev.Env) (W : Nat) (m : Int) (h0 : 0 < m) (h1 : m < 1073741824) (P : D → Prop) (h : ∀ i : Nat, i < m.toNat → P (.int i)) :
    ((ex Γ W d_law_dip.body [some (.val (.dict [])), some (.val (.int m)), none, none]).bind retOf).All P := by
  have key : ∀ z : Int, P (.int (z % m)) := fun z => by
    have a1 := Int.emod_nonneg z (show m ≠ 0 by omega)
    have a2 := Int.emod_lt_of_pos z h0
    have := h (z % m).toNat (by omega)
    rwa [Int.toNat_of_nonneg a1] at this
  have o1 : ∀ z : Int, mulOk z 44507 = true := fun z => mulOk_r (smallI_lt (by omega) (by omega))
  have o2 : ∀ z : Int, mulOk 57041 z = true := fun z => mulOk_l (smallI_lt (by omega) (by omega))
  have o4 : ∀ z : Int, mulOk 17 z = true := fun z => mulOk_l (smallI_lt (by omega) (by omega))
  have o5 : ∀ z w : Int, mulOk (tixV 1 z) w = true := fun z w => by
    have e : tixV 1 z = z % 4294967296 := rfl
    rw [e]
    exact mulOk_l (smallI_lt (by omega) (by omega))
  have o3 : divOk 151 = true := by decide
  have s0 : ∀ v : Int, tsOk 0 v = true := fun v => rfl
  have s2 : ∀ v : Int, tsOk 2 v = true := fun v => rfl
  have s1 : ∀ v : Int, tsOk 1 (v % 2147482877) = true := fun v => by
    unfold tsOk tubB
    rw [decide_eq_true (show 0 ≤ v % 2147482877 by omega), decide_eq_true (show v % 2147482877 < 4294967296 by omega)]
    rfl
  simp only [d_law_dip, ex, ev, Out.All_bind, Out.All_ret, All_any, Out.All_guard, Out.ofO_some, tub_0, v_0, v_s, b_add, b_sub, b_mul, b_fdiv, b_mod, m_gt, t_int, t_divmod, c_cons, c_unt, c_asI, c_asB, g_nm, List.set_cons_zero, List.set_cons_succ, o1, o2, o3, o4, o5, s0, s1, s2, decide_eq_true_eq, Nat.reduceLT, Int.reduceLT, true_and, Bool.and_true, decide_true]
  intro z1 z2 z3 z4
  cases decide (0 < tixV 0 z4)
  · simp only [Out.All_bind, Out.All_ret, All_any, Out.All_guard, Out.ofO_some, tub_0, v_0, v_s, b_add, b_fdiv, b_mul, b_mod, t_int, c_cons, c_unt, c_asI, g_nm, List.set_cons_zero, List.set_cons_succ, o1, o2, o3, o4, o5, s0, s1, s2, decide_eq_true_eq, h0, true_and, retOf, decide_true, Nat.reduceLT, Int.reduceLT, Bool.and_true]
    intros
    exact key _
  · simp only [Out.All_bind, Out.All_ret, All_any, Out.All_guard, Out.ofO_some, tub_0, v_0, v_s, t_int, t_divmod, c_cons, c_unt, g_nm, List.set_cons_zero, List.set_cons_succ, decide_eq_true_eq, h0, h1, true_and, retOf, decide_true, Bool.and_self, Bool.and_true, Nat.reduceLT, s0]
    intros
    exact key _
theorem dip_weak (Γ : Ev.Env) (W : Nat) (ds : List D) (P : D → Prop) (h : (dipD ds).All P) : (bodyF d_law_dip.N d_law_dip.ps (ex Γ W d_law_dip.body) ds).All P := by
  unfold dipD at h
  split at h
  · rename_i m
    rw [Out.All_guard, Bool.and_eq_true, decide_eq_true_eq, decide_eq_true_eq] at h
    obtain ⟨⟨h0, h1⟩, h⟩ := h
    unfold bodyF
    rw [Out.All_guard]
    exact ⟨rfl, dip_body Γ W m h0 h1 P h⟩
  · exact h.elim
end K07

set_option Elab.async false
set_option linter.all false
set_option maxRecDepth 1000000
set_option maxHeartbeats 4000000
namespace K07
open PySem L2 Ev
def odds : List D := [.none, .int 3, .bool true, .str "3.2", .list [.int 3, .int 2], .tuple [.int 0], .tuple [.int 2, .int 3], .tuple [.int 3, .int 0], .tuple [.int (-1)], .tuple [.bool true], .tuple [.int 2, .bool true], .tuple [.str "2"], .tuple [.tuple [.int 2]], dkD [],
  .tuple [.int 41], .tuple (List.replicate 41 (.int 1)), .tuple [.int 20, .int 20, .int 1], .tuple [.int 21, .int 20], .tuple [.int 30, .int 11], .tuple [.int 14, .int 14, .int 14], .tuple [.int 2, .none], .tuple [.int (10 ^ 30)]]
theorem odds_b : odds.all (fun d => retIs (callB τ 8 .val 39 [d] .bad) (.bool true)) = true := by kernel_rfl
theorem odds_ok {d : D} (h : d ∈ odds) : callB τ 8 .val 39 [d] .bad = .ret (.bool true) := retIs_eq (List.all_eq_true.mp odds_b d h)
end K07

set_option Elab.async false
set_option linter.all false
set_option maxRecDepth 1000000
set_option maxHeartbeats 4000000
namespace K07
open PySem L2 Ev
/-! ### the program's functions on shapes, symbolically -/
abbrev nI (n : Nat) : D := .int (n : Int)
abbrev tN (l : List Nat) : D := .tuple (l.map nI)
abbrev Γ (n : Nat) : Ev.Env := gam τ n .bad
abbrev cV (n f : Nat) (ds : List D) : Out D := callB τ n .val f ds .bad
abbrev cX (n f : Nat) (ds : List D) : Out D := callB τ n .exc f ds .bad
theorem gx (n f : Nat) (ds : List D) : (Γ n).callx f ds = cX n f ds := rfl
theorem gv (n f : Nat) (ds : List D) : (Γ n).call f ds = cV n f ds := rfl
theorem x_eq {n f : Nat} {F : Fd} {ds : List D} (e : ¬ f = τ.dip) (h : τ.fns[f]? = some F) (hm : modB τ f .exc = true) (hl : ds.length = F.ps.length) : cX (n + 1) f ds = (ex (Γ n) τ.W F.body (startR F.N ds)).bind retX := by
  rw [cX, callB_eq e h hm, decide_eq_true hl, Out.guard_true]
  rfl
theorem v_eq {n f : Nat} {F : Fd} {ds : List D} (e : ¬ f = τ.dip) (h : τ.fns[f]? = some F) (hl : ds.length = F.ps.length) : cV (n + 1) f ds = (ex (Γ n) τ.W F.body (startR F.N ds)).bind retOf := by
  rw [cV, callB_eq e h rfl, decide_eq_true hl, Out.guard_true]
  rfl
theorem lc_map {turn : D → Out (Option D)} {g : D → Option D} : ∀ {xs acc : List D}, (∀ x ∈ xs, turn x = .ret (g x)) → lcGo turn xs acc = .ret (.list (acc.reverse ++ xs.filterMap g))
  | [], acc, _ => by simp [lcGo]
  | x :: r, acc, h => by
    simp only [lcGo, h x List.mem_cons_self, Out.bind_ret]
    cases e : g x with
    | none => simp only [lc_map fun y hy => h y (List.mem_cons_of_mem _ hy), List.filterMap_cons, e]
    | some y => simp only [lc_map fun y hy => h y (List.mem_cons_of_mem _ hy), List.filterMap_cons, e, List.reverse_cons, List.append_assoc, List.singleton_append]
/-- is_number -/
theorem num_int (n : Nat) (i lo hi : Int) : cV (n + 1) 0 [.int i, .int lo, .int hi] = .ret (.bool (decide (lo ≤ i) && decide (i ≤ hi))) := by
  refine (v_eq (F := d_is_number) (by decide) rfl rfl).trans ?_
  show (ex (Γ n) τ.W d_is_number.body [some (.val (.int i)), some (.val (.int lo)), some (.val (.int hi))]).bind retOf = _
  simp only [d_is_number, ex, ev, v_0, v_s, okIsi, isTy, Out.guard_true, Out.bind_ret, c_asB, Bool.not_false, m_le]
  cases decide (lo ≤ i) <;> simp only [Out.bind_ret, v_0, v_s, m_le, c_asB, retOf, Bool.true_and, Bool.false_and]
theorem num_no (n : Nat) (v : D) (lo hi : D) (h : isTy .int v = false) (h2 : isTy .bool v = false) (ho : okIsi v = true) : cV (n + 1) 0 [v, lo, hi] = .ret (.bool false) := by
  refine (v_eq (F := d_is_number) (by decide) rfl rfl).trans ?_
  show (ex (Γ n) τ.W d_is_number.body [some (.val v), some (.val lo), some (.val hi)]).bind retOf = _
  simp only [d_is_number, ex, ev, v_0, v_s, ho, h, Out.guard_true, Out.bind_ret, c_asB, retOf]
theorem num_bool (n : Nat) (b : Bool) (lo hi : D) : cV (n + 1) 0 [.bool b, lo, hi] = .ret (.bool false) := by
  refine (v_eq (F := d_is_number) (by decide) rfl rfl).trans ?_
  show (ex (Γ n) τ.W d_is_number.body [some (.val (.bool b)), some (.val lo), some (.val hi)]).bind retOf = _
  simp only [d_is_number, ex, ev, v_0, v_s, okIsi, isTy, Out.guard_true, Out.bind_ret, c_asB, retOf, Bool.not_true]
/-! ### what a shape is -/
structure Shp (l : List Nat) (m : Nat) : Prop where
  pos : ∀ x ∈ l, 1 ≤ x
  desc : l.Pairwise (· ≥ ·)
  le : l.sum ≤ m
theorem le_sum : ∀ {l : List Nat} {x : Nat}, x ∈ l → x ≤ l.sum
  | y :: l, x, h => by
    rw [List.sum_cons]
    rcases List.mem_cons.mp h with rfl | h
    · omega
    · have := le_sum h; omega
theorem len_sum : ∀ {l : List Nat}, (∀ x ∈ l, 1 ≤ x) → l.length ≤ l.sum
  | [], _ => by simp
  | y :: l, h => by
    rw [List.sum_cons, List.length_cons]
    have := h y List.mem_cons_self
    have := len_sum (l := l) fun x hx => h x (List.mem_cons_of_mem _ hx)
    omega
theorem Shp.len {l : List Nat} {m : Nat} (s : Shp l m) : l.length ≤ m := Nat.le_trans (len_sum s.pos) s.le
theorem Shp.el {l : List Nat} {m x : Nat} (s : Shp l m) (h : x ∈ l) : x ≤ m := Nat.le_trans (le_sum h) s.le
theorem ints_of : ∀ l : List Nat, intsOf (l.map nI) = some (l.map fun n : Nat => (n : Int))
  | [] => rfl
  | x :: l => by
    rw [List.map_cons, intsOf, ints_of l]
    rfl
theorem sum_int : ∀ l : List Nat, (l.map fun n : Nat => (n : Int)).sum = (l.sum : Int)
  | [] => rfl
  | x :: l => by
    rw [List.map_cons, List.sum_cons, List.sum_cons, sum_int l]
    omega
theorem t_sumT (l : List Nat) : bltD .sum [tN l] = .ret (.int (l.sum : Nat)) := by
  show (Out.ofO (intsOf (l.map nI))).bind _ = _
  rw [ints_of, Out.ofO_some, Out.bind_ret, sum_int]
theorem t_lenN (l : List Nat) : bltD .len [tN l] = .ret (.int (l.length : Nat)) := by
  rw [tN, t_lenT, List.length_map]
theorem t_allR (xs : List D) (h : ∀ x ∈ xs, x = .bool true) : bltD .all [.list xs] = .ret (.bool true) := by
  have e : xs = List.replicate xs.length (.bool true) := List.eq_replicate_iff.mpr ⟨rfl, h⟩
  rw [e]
  exact all_true _
theorem at_nat {l : List Nat} {k : Nat} (h : k < l.length) : L2.atI (l.map nI) (k : Int) = some (nI l[k]) := by
  unfold L2.atI L2.ixN
  simp [h]
theorem ix_nat {l : List Nat} {k : Nat} (h : k < l.length) : ixD (tN l) (.int (k : Nat)) = .ret (nI l[k]) := by
  show Out.ofO (L2.atI (l.map nI) (k : Int)) = _
  rw [at_nat h]
  rfl
def shE1 : E := .lc [2] (.nm 2) (.var 0) (.con (.bool true)) (.call 0 (.cons (.var 2) (.cons (.con (.int 1)) (.cons (.var 1) .nil))))
def shE2 : E := .lc [3] (.nm 3) (.rng1 (.bin .sub (.blt .len (.cons (.var 0) .nil)) (.con (.int 1)))) (.con (.bool true)) (.cmp .ge (.idx (.var 0) (.var 3)) (.idx (.var 0) (.bin .add (.var 3) (.con (.int 1)))))
theorem sh_body : d_is_shape.body = (.seq (.ife (.or (.not (.isi .tup (.var 0))) (.or (.cmp .gt (.blt .len (.cons (.var 0) .nil)) (.var 1)) (.not (.blt .all (.cons shE1 .nil))))) (.seq (.ret (.con (.bool false))) .nil) .nil) (.seq (.ret (.and (.cmp .le (.blt .sum (.cons (.var 0) .nil)) (.var 1)) (.blt .all (.cons shE2 .nil)))) .nil)) := rfl
theorem sh1_ev {n : Nat} {l : List Nat} {m : Nat} (s : Shp l m) (hm : m ≤ 1000) : ∃ xs, (∀ x ∈ xs, x = PyData.bool true) ∧ ev (Γ (n + 1)) true shE1 [some (.val (tN l)), some (.val (.int m)), none, none] = .ret (.list xs) := by
  refine ⟨(l.map nI).filterMap fun _ => some (.bool true), fun x hx => ?_, ?_⟩
  · obtain ⟨y, _, e⟩ := List.mem_filterMap.mp hx
    cases e; rfl
  simp only [shE1, ev, v_0, Out.bind_ret, c_itT]
  rw [decide_eq_true (show (l.map nI).length ≤ lim by rw [List.length_map]; have := s.len; unfold lim; omega), Out.guard_true]
  refine (lc_map (g := fun _ => some (.bool true)) fun x hx => ?_).trans rfl
  obtain ⟨y, hy, rfl⟩ := List.mem_map.mp hx
  have h1 := s.pos y hy
  have h2 := s.el hy
  have hc : (Γ (n + 1)).call 0 [nI y, .int 1, .int m] = .ret (.bool true) := by
    refine (gv _ _ _).trans ((num_int n y 1 m).trans ?_)
    rw [decide_eq_true (show (1 : Int) ≤ (y : Int) by omega), decide_eq_true (show (y : Int) ≤ (m : Int) by omega)]
    rfl
  simp only [g_nm, wipeR, List.set_cons_zero, List.set_cons_succ, Out.ofO_some, Out.bind_ret, c_asB, v_0, v_s, c_cons, c_unt, hc]
theorem sh2_ev {n : Nat} {l : List Nat} {m : Nat} (s : Shp l m) (hm : m ≤ 1000) : ∃ xs, (∀ x ∈ xs, x = PyData.bool true) ∧ ev (Γ n) true shE2 [some (.val (tN l)), some (.val (.int m)), none, none] = .ret (.list xs) := by
  refine ⟨(rngL 0 ((l.length : Int) - 1).toNat).filterMap fun _ => some (.bool true), fun x hx => ?_, ?_⟩
  · obtain ⟨y, _, e⟩ := List.mem_filterMap.mp hx
    cases e; rfl
  have hl := s.len
  have hs : small62 ((l.length : Int) - 1) = true := by
    unfold small62
    rw [Bool.and_eq_true, decide_eq_true_eq, decide_eq_true_eq]
    omega
  simp only [shE2, ev, v_0, Out.bind_ret, c_itL, c_cons, c_unt, t_lenN, b_sub, c_asI, hs, Out.guard_true]
  rw [decide_eq_true (show (rngL 0 ((l.length : Int) - 1).toNat).length ≤ lim by rw [rngL_length]; unfold lim; omega), Out.guard_true]
  refine (lc_map (g := fun _ => some (.bool true)) fun x hx => ?_).trans rfl
  obtain ⟨k, hk, rfl⟩ := mem_rngL _ _ _ hx
  have h1 : k + 1 < l.length := by omega
  have e1 : (0 : Int) + (k : Int) = ((k : Nat) : Int) := by omega
  have e2 : ((k : Nat) : Int) + 1 = ((k + 1 : Nat) : Int) := by omega
  have hd : l[k + 1] ≤ l[k] := List.pairwise_iff_getElem.mp s.desc k (k + 1) (by omega) h1 (by omega)
  rw [e1]
  simp only [g_nm, wipeR, List.set_cons_zero, List.set_cons_succ, Out.ofO_some, Out.bind_ret, c_asB, v_0, v_s, b_add, e2, ix_nat h1, ix_nat (show k < l.length by omega), m_ge]
  rw [decide_eq_true (show ((l[k + 1] : Nat) : Int) ≤ ((l[k] : Nat) : Int) by omega)]
theorem shape_ok {n : Nat} {l : List Nat} {m : Nat} (s : Shp l m) (hm : m ≤ 1000) : cV (n + 2) 1 [tN l, .int m] = .ret (.bool true) := by
  refine (v_eq (F := d_is_shape) (by decide) rfl rfl).trans ?_
  show (ex (Γ (n + 1)) τ.W d_is_shape.body [some (.val (tN l)), some (.val (.int m)), none, none]).bind retOf = _
  obtain ⟨xs, hx, e1⟩ := sh1_ev (n := n) s hm
  obtain ⟨ys, hy, e2⟩ := sh2_ev (n := n + 1) s hm
  have h1 : decide ((m : Int) < (l.length : Int)) = false := decide_eq_false (by have := s.len; omega)
  have h2 : decide ((l.sum : Int) ≤ (m : Int)) = true := decide_eq_true (by have := s.le; omega)
  rw [sh_body]
  simp only [ex, ev, v_0, v_s, okIsi, isTy, Out.guard_true, Out.bind_ret, c_asB, Bool.not_true, c_cons, c_unt, t_lenN, m_gt, h1, e1, t_allR xs hx, t_sumT, m_le, h2, e2, t_allR ys hy, retOf]
/-- check_shape -/
theorem check_ok {n : Nat} {l : List Nat} (s : Shp l 40) : cX (n + 3) 2 [tN l, .int 40] = .ret (.tuple [.none]) := by
  refine (x_eq (F := d_check_shape) (by decide) rfl (by decide +kernel) rfl).trans ?_
  show (ex (Γ (n + 2)) τ.W d_check_shape.body [some (.val (tN l)), some (.val (.int 40))]).bind retX = _
  have hc : (Γ (n + 2)).call 1 [tN l, .int 40] = .ret (.bool true) := (gv _ _ _).trans (shape_ok (n := n) s (by decide))
  simp only [d_check_shape, ex, ev, v_0, v_s, c_cons, c_unt, Out.bind_ret, hc, c_asB, Bool.not_true, retX]
end K07

set_option Elab.async false
set_option linter.all false
set_option maxRecDepth 1000000
set_option maxHeartbeats 4000000
namespace K07
open PySem L2 Ev
/-! ### rows, sizes, columns refused -/
theorem unX_t {ρ : Ro} {k : D → Out Fl} {d : D} : unX ρ k (.tuple [d]) = k d := rfl
theorem unX_1 {ρ : Ro} {k : D → Out Fl} {c : Int} {f : Str} {d : D} : unX ρ k (.dict [(.int c, .tuple [.str f, d])]) = .ret (.xc (.dict [(.int c, .tuple [.str f, d])]) ρ) := rfl
theorem unX_0 {ρ : Ro} {k : D → Out Fl} {c : Int} : unX ρ k (.dict [(.int c, .none)]) = .ret (.xc (.dict [(.int c, .none)]) ρ) := rfl
theorem g40 (n : Nat) : (Γ n).glob "MOST_BOXES" = some (.int 40) := rfl
theorem g12 (n : Nat) : (Γ n).glob "MOST_LONG" = some (.int 12) := rfl
theorem g8 (n : Nat) : (Γ n).glob "MOST_DEGREE" = some (.int 8) := rfl
/-- what is no number from 0 on -/
def NoNum (n : Nat) (v : D) : Prop := ∀ hi : Int, hi ≤ 40 → cV (n + 1) 0 [v, .int 0, .int hi] = .ret (.bool false)
theorem with_box_no {n : Nat} {l : List Nat} {v : D} (s : Shp l 40) (hv : NoNum (n + 2) v) : cX (n + 4) 22 [tN l, v] = .ret (xcD 88 "given" v) := by
  refine (x_eq (F := d_with_box) (by decide) rfl (by decide +kernel) rfl).trans ?_
  show (ex (Γ (n + 3)) τ.W d_with_box.body [some (.val (tN l)), some (.val v)]).bind retX = _
  have h1 : (Γ (n + 3)).callx 2 [tN l, .int 40] = .ret (.tuple [.none]) := (gx _ _ _).trans (check_ok (n := n) s)
  have h2 : (Γ (n + 3)).call 0 [v, .int 0, .int 40] = .ret (.bool false) := (gv _ _ _).trans (hv 40 (by omega))
  simp only [d_with_box, ex, ev, v_0, v_s, c_cons, c_unt, g40, Out.ofO_some, Out.bind_ret, h1, unX_t, h2, c_asB, Bool.not_false, retX]
theorem without_box_no {n : Nat} {l : List Nat} {v : D} (s : Shp l 40) (hv : NoNum (n + 2) v) : cX (n + 4) 23 [tN l, v] = .ret (xcD 88 "given" v) := by
  refine (x_eq (F := d_without_box) (by decide) rfl (by decide +kernel) rfl).trans ?_
  show (ex (Γ (n + 3)) τ.W d_without_box.body [some (.val (tN l)), some (.val v)]).bind retX = _
  have h1 : (Γ (n + 3)).callx 2 [tN l, .int 40] = .ret (.tuple [.none]) := (gx _ _ _).trans (check_ok (n := n) s)
  have h2 : (Γ (n + 3)).call 0 [v, .int 0, .int 40] = .ret (.bool false) := (gv _ _ _).trans (hv 40 (by omega))
  simp only [d_without_box, ex, ev, v_0, v_s, c_cons, c_unt, g40, Out.ofO_some, Out.bind_ret, h1, unX_t, h2, c_asB, Bool.not_false, retX]
theorem hook_no {n : Nat} {l : List Nat} {v w : D} (s : Shp l 40) (hv : NoNum (n + 2) v) : cX (n + 4) 31 [tN l, v, w] = .ret (xcD 88 "given" v) := by
  refine (x_eq (F := d_hook) (by decide) rfl (by decide +kernel) rfl).trans ?_
  show (ex (Γ (n + 3)) τ.W d_hook.body [some (.val (tN l)), some (.val v), some (.val w)]).bind retX = _
  have h1 : (Γ (n + 3)).callx 2 [tN l, .int 40] = .ret (.tuple [.none]) := (gx _ _ _).trans (check_ok (n := n) s)
  have h2 : (Γ (n + 3)).call 0 [v, .int 0, .int ((l.length : Int) - 1)] = .ret (.bool false) := (gv _ _ _).trans (hv _ (by have := s.len; omega))
  simp only [d_hook, ex, ev, v_0, v_s, c_cons, c_unt, g40, Out.ofO_some, Out.bind_ret, h1, unX_t, t_lenN, b_sub, h2, c_asB, Bool.not_false, retX]
theorem strip_no {n : Nat} {l : List Nat} {v : D} (s : Shp l 40) (hv : NoNum (n + 2) v) : cX (n + 4) 27 [tN l, v] = .ret (xcD 130 "given" v) := by
  refine (x_eq (F := d_check_strip) (by decide) rfl (by decide +kernel) rfl).trans ?_
  show (ex (Γ (n + 3)) τ.W d_check_strip.body [some (.val (tN l)), some (.val v)]).bind retX = _
  have h1 : (Γ (n + 3)).callx 2 [tN l, .int 40] = .ret (.tuple [.none]) := (gx _ _ _).trans (check_ok (n := n) s)
  have h2 : (Γ (n + 3)).call 0 [v, .int 0, .int 8] = .ret (.bool false) := (gv _ _ _).trans (hv 8 (by omega))
  simp only [d_check_strip, ex, ev, v_0, v_s, c_cons, c_unt, g40, g8, Out.ofO_some, Out.bind_ret, h1, unX_t, h2, c_asB, Bool.not_false, retX]
theorem strips_no {n : Nat} {l : List Nat} {v : D} (s : Shp l 40) (hv : NoNum (n + 2) v) : cX (n + 5) 28 [tN l, v] = .ret (xcD 130 "given" v) := by
  refine (x_eq (F := d_with_strips) (by decide) rfl (by decide +kernel) rfl).trans ?_
  show (ex (Γ (n + 4)) τ.W d_with_strips.body [some (.val (tN l)), some (.val v)]).bind retX = _
  have h1 : (Γ (n + 4)).callx 27 [tN l, v] = .ret (xcD 130 "given" v) := (gx _ _ _).trans (strip_no (n := n) s hv)
  simp only [d_with_strips, ex, ev, v_0, v_s, c_cons, c_unt, Out.bind_ret, h1, unX_1, retX]
theorem columns_no {n : Nat} {l : List Nat} {v : D} (s : Shp l 40) (hv : NoNum (n + 2) v) : cX (n + 5) 29 [tN l, v] = .ret (xcD 130 "given" v) := by
  refine (x_eq (F := d_with_columns) (by decide) rfl (by decide +kernel) rfl).trans ?_
  show (ex (Γ (n + 4)) τ.W d_with_columns.body [some (.val (tN l)), some (.val v)]).bind retX = _
  have h1 : (Γ (n + 4)).callx 27 [tN l, v] = .ret (xcD 130 "given" v) := (gx _ _ _).trans (strip_no (n := n) s hv)
  simp only [d_with_columns, ex, ev, v_0, v_s, c_cons, c_unt, Out.bind_ret, h1, unX_1, retX]
theorem shapes_no {n : Nat} {v : D} (hv : NoNum n v) : cX (n + 2) 17 [v] = .ret (xcD 130 "given" v) := by
  refine (x_eq (F := d_shapes_of) (by decide) rfl (by decide +kernel) rfl).trans ?_
  show (ex (Γ (n + 1)) τ.W d_shapes_of.body [some (.val v)]).bind retX = _
  have h2 : (Γ (n + 1)).call 0 [v, .int 0, .int 12] = .ret (.bool false) := (gv _ _ _).trans (hv 12 (by omega))
  simp only [d_shapes_of, ex, ev, v_0, v_s, c_cons, c_unt, g12, Out.ofO_some, Out.bind_ret, h2, c_asB, Bool.not_false, retX]
theorem sh21 : Shp [2, 1] 40 := ⟨by decide, by decide, by decide⟩
theorem place_no {n : Nat} {v : D} (hv : NoNum (n + 2) v) : cX (n + 4) 31 [tN [2, 1], .int 0, v] = .ret (xcD 109 "given" v) := by
  refine (x_eq (F := d_hook) (by decide) rfl (by decide +kernel) rfl).trans ?_
  show (ex (Γ (n + 3)) τ.W d_hook.body [some (.val (tN [2, 1])), some (.val (.int 0)), some (.val v)]).bind retX = _
  have h1 : (Γ (n + 3)).callx 2 [tN [2, 1], .int 40] = .ret (.tuple [.none]) := (gx _ _ _).trans (check_ok (n := n) sh21)
  have h2 : (Γ (n + 3)).call 0 [.int 0, .int 0, .int 1] = .ret (.bool true) := (gv _ _ _).trans (num_int (n + 2) 0 0 1)
  have h3 : (Γ (n + 3)).call 0 [v, .int 0, .int 1] = .ret (.bool false) := (gv _ _ _).trans (hv 1 (by omega))
  have e1 : ((List.length [2, 1] : Nat) : Int) - 1 = 1 := rfl
  have e2 : ixD (tN [2, 1]) (.int 0) = .ret (.int 2) := rfl
  have e3 : (2 : Int) - 1 = 1 := rfl
  simp only [d_hook, ex, ev, v_0, v_s, c_cons, c_unt, g40, Out.ofO_some, Out.bind_ret, h1, unX_t, t_lenN, b_sub, e1, h2, c_asB, Bool.not_true, e2, e3, h3, Bool.not_false, retX]
end K07

set_option Elab.async false
set_option linter.all false
set_option maxRecDepth 1000000
set_option maxHeartbeats 4000000
namespace K07
open PySem L2 Ev
def bads : List D := [.none, .int (-1), .bool true, .bool false, .str "0", .tuple [.int 0], .list [.int 1], dkD [], .int (10 ^ 30), .int 99]
theorem bad_num {n : Nat} {v : D} (h : v ∈ bads) : NoNum n v := fun hi hh => by
  have i : ∀ z : Int, (decide ((0 : Int) ≤ z) && decide (z ≤ hi)) = false → cV (n + 1) 0 [.int z, .int 0, .int hi] = .ret (.bool false) := fun z e => by rw [num_int, e]
  simp only [bads, List.mem_cons, List.not_mem_nil, or_false] at h
  rcases h with rfl | rfl | rfl | rfl | rfl | rfl | rfl | rfl | rfl | rfl
  · exact num_no n _ _ _ rfl rfl rfl
  · exact i _ rfl
  · exact num_bool n _ _ _
  · exact num_bool n _ _ _
  · exact num_no n _ _ _ rfl rfl rfl
  · exact num_no n _ _ _ rfl rfl rfl
  · exact num_no n _ _ _ rfl rfl rfl
  · exact num_no n _ _ _ rfl rfl rfl
  · exact i _ (by rw [decide_eq_false (show ¬ ((10 ^ 30 : Int) ≤ hi) by omega), Bool.and_false])
  · exact i _ (by rw [decide_eq_false (show ¬ ((99 : Int) ≤ hi) by omega), Bool.and_false])
abbrev cA (n : Nat) (o : Out D) : Out D := callB τ n .act 37 [.none] o
def told (w : Str) (d : D) : D := .tuple [.str w, .str (reprT d)]
theorem caught_b : (bads.all fun d => retIs (cA 7 (.ret (xcD 88 "given" d))) (told "row" d) && (retIs (cA 7 (.ret (xcD 130 "given" d))) (told "number" d) && (retIs (cA 7 (.ret (xcD 109 "given" d))) (told "place" d) && reprOk d))) = true := by kernel_rfl
theorem caught_1 {d : D} (h : d ∈ bads) : cA 7 (.ret (xcD 88 "given" d)) = .ret (told "row" d) ∧ cA 7 (.ret (xcD 130 "given" d)) = .ret (told "number" d) ∧ cA 7 (.ret (xcD 109 "given" d)) = .ret (told "place" d) ∧ reprD d = .ret (.str (reprT d)) := by
  have q := List.all_eq_true.mp caught_b d h
  simp only [Bool.and_eq_true] at q
  obtain ⟨q1, q2, q3, q4⟩ := q
  exact ⟨retIs_eq q1, retIs_eq q2, retIs_eq q3, by unfold reprD; rw [q4]; rfl⟩
/-! ### rows_right -/
theorem vr_cons {s : Option Sl} {ρ : Ro} : valR (s :: ρ) = valS s :: valR ρ := rfl
theorem vr_nil : valR [] = [] := rfl
theorem vs_val {d : D} : valS (some (.val d)) = some (.val d) := rfl
theorem vs_own {xs : List D} : valS (some (.own xs)) = none := rfl
theorem vs_none : valS none = none := rfl
theorem own_at {a b : Option Sl} {xs : List D} : ownOf [a, b, some (.own xs)] 2 = .ret xs := rfl
theorem pk_at {a b : Option Sl} {xs : List D} : peekOf [a, b, some (.own xs)] 2 = .ret (.list xs) := rfl
theorem as_list {xs : List D} : asList (.list xs) = .ret xs := rfl
theorem mul3 (R : D) : binD .mul (.list [R]) (.int 3) = .ret (.list [R, R, R]) := rfl
def cmp3 (d : D) : Bool := retIs (cmpD .ne (.list [told "row" d, told "row" d, told "row" d]) (.list [told "row" d, told "row" d, told "row" d])) (.bool false) &&
  (retIs (cmpD .eq (.list [told "number" d, told "number" d, told "number" d]) (.list [told "number" d, told "number" d, told "number" d])) (.bool true) && retIs (cmpD .eq (told "place" d) (told "place" d)) (.bool true))
theorem cmp_b : bads.all cmp3 = true := by kernel_rfl
theorem l1 : decide (1 ≤ lim) = true := by decide
theorem l2 : decide (1 + 1 ≤ lim) = true := by decide
theorem l3 : decide (1 < lim) = true := by decide
theorem l4 : decide (1 + 1 < lim) = true := by decide
theorem rows_core (Γ : Ev.Env) (W : Nat) {v b e1 e2 e3 : D} {t : Str} (x22 : Γ.callx 22 [v, b] = .ret e1) (x23 : Γ.callx 23 [v, b] = .ret e1) (x31 : Γ.callx 31 [v, b, b] = .ret e1) (x28 : Γ.callx 28 [v, b] = .ret e2) (x29 : Γ.callx 29 [v, b] = .ret e2) (x17 : Γ.callx 17 [b] = .ret e2) (y31 : Γ.callx 31 [.tuple [.int 2, .int 1], .int 0, b] = .ret e3)
    (a1 : Γ.lam 37 (.ret e1) = .ret (.tuple [.str "row", .str t])) (a2 : Γ.lam 37 (.ret e2) = .ret (.tuple [.str "number", .str t])) (a3 : Γ.lam 37 (.ret e3) = .ret (.tuple [.str "place", .str t])) (hr : reprD b = .ret (.str t))
    (c1 : ∀ R : D, R = .tuple [.str "row", .str t] → cmpD .ne (.list [R, R, R]) (.list [R, R, R]) = .ret (.bool false)) (c2 : ∀ R : D, R = .tuple [.str "number", .str t] → cmpD .eq (.list [R, R, R]) (.list [R, R, R]) = .ret (.bool true)) (c3 : ∀ R : D, R = .tuple [.str "place", .str t] → cmpD .eq R R = .ret (.bool true)) :
    (ex Γ W d_law_rows_right.body [some (.val v), some (.val b), none]).bind retOf = .ret (.bool true) := by
  have p1 : permD [b, v] [1, 0] = some [v, b] := rfl
  have c1 := c1 _ rfl
  have c2 := c2 _ rfl
  have c3 := c3 _ rfl
  simp only [d_law_rows_right, ex, ev, vr_cons, vr_nil, vs_val, vs_own, vs_none, v_0, v_s, c_cons, c_unt, Out.bind_ret, x22, a1, List.length_cons, List.length_nil, Nat.zero_add, l1, l2, l3, l4, Out.guard_true, as_list, List.set_cons_zero, List.set_cons_succ, own_at, p1, Out.ofO_some, x23, x31, List.cons_append, List.nil_append, pk_at, hr, mul3, c1, c_asB, x28, a2, x29, x17, c2, y31, a3, c3, retOf, decide_true, Bool.and_self]
theorem gl (n g : Nat) (o : Out D) : (Γ n).lam g o = callB τ n .act g [.none] o := rfl
theorem rows_ok {l : List Nat} (s : Shp l 40) {b : D} (hb : b ∈ bads) : cV 8 40 [tN l, b] = .ret (.bool true) := by
  refine (v_eq (F := d_law_rows_right) (by decide) rfl rfl).trans ?_
  have hn : ∀ n, NoNum n b := fun n => bad_num hb
  have q := List.all_eq_true.mp cmp_b b hb
  unfold cmp3 at q
  simp only [Bool.and_eq_true] at q
  obtain ⟨q1, q2, q3⟩ := q
  obtain ⟨k1, k2, k3, k4⟩ := caught_1 hb
  refine rows_core (Γ 7) τ.W (v := tN l) (b := b) (e1 := xcD 88 "given" b) (e2 := xcD 130 "given" b) (e3 := xcD 109 "given" b) (t := reprT b) ?_ ?_ ?_ ?_ ?_ ?_ ?_ ((gl _ _ _).trans k1) ((gl _ _ _).trans k2) ((gl _ _ _).trans k3) k4 (fun R e => ?_) (fun R e => ?_) (fun R e => ?_)
  · exact (gx _ _ _).trans (with_box_no (n := 3) s (hn 5))
  · exact (gx _ _ _).trans (without_box_no (n := 3) s (hn 5))
  · exact (gx _ _ _).trans (hook_no (n := 3) s (hn 5))
  · exact (gx _ _ _).trans (strips_no (n := 2) s (hn 4))
  · exact (gx _ _ _).trans (columns_no (n := 2) s (hn 4))
  · exact (gx _ _ _).trans (shapes_no (n := 5) (hn 5))
  · exact (gx _ _ _).trans (place_no (n := 3) (hn 5))
  · subst e; exact retIs_eq q1
  · subst e; exact retIs_eq q2
  · subst e; exact retIs_eq q3
end K07

set_option Elab.async false
set_option linter.all false
set_option maxRecDepth 1000000
set_option maxHeartbeats 4000000
namespace K07
open PySem L2 Ev
/-! ### plain: the flipped shape -/
def cj (l : List Nat) : List Nat := (List.range (l.headD 0)).map fun p => l.countP fun x => decide (p < x)
theorem lt_countP : ∀ {l : List Nat}, l.Pairwise (· ≥ ·) → ∀ (q p : Nat) (h : q < l.length), q < l.countP (fun x => decide (p < x)) ↔ p < l[q]
  | [], _, q, p, h => absurd h (Nat.not_lt_zero _)
  | x :: r, d, q, p, h => by
    rw [List.pairwise_cons] at d
    by_cases hx : p < x
    · rw [List.countP_cons_of_pos (by simpa using hx)]
      cases q with
      | zero => simp [hx]
      | succ q =>
        have h' : q < r.length := by simpa using h
        have := lt_countP d.2 q p h'
        rw [List.getElem_cons_succ]
        omega
    · have e : r.countP (fun x => decide (p < x)) = 0 := by
        rw [List.countP_eq_zero]
        intro y hy
        have := d.1 y hy
        simp only [decide_eq_true_eq]
        omega
      rw [List.countP_cons_of_neg (by simpa using hx), e]
      have h2 : (x :: r)[q] ≤ x := by
        cases q with
        | zero => exact Nat.le_refl _
        | succ q => rw [List.getElem_cons_succ]; exact d.1 _ (List.getElem_mem _)
      constructor
      · intro h; exact absurd h (Nat.not_lt_zero _)
      · intro h; omega
theorem countP_rng (k : Nat) : ∀ m, (List.range m).countP (fun p => decide (p < k)) = min m k
  | 0 => by simp
  | m + 1 => by
    rw [List.range_succ, List.countP_append, countP_rng k m, List.countP_singleton]
    by_cases h : m < k
    · rw [if_pos (by simpa using h)]; omega
    · rw [if_neg (by simpa using h)]; omega
theorem cj_len (l : List Nat) : (cj l).length = l.headD 0 := by simp [cj]
theorem cj_head {l : List Nat} (hp : ∀ x ∈ l, 1 ≤ x) : (cj l).headD 0 = l.length := by
  cases l with
  | nil => rfl
  | cons x r =>
    have hx := hp x List.mem_cons_self
    obtain ⟨k, hk⟩ : ∃ k, x = k + 1 := ⟨x - 1, by omega⟩
    have e : (x :: r).headD 0 = k + 1 := hk
    unfold cj
    rw [e, List.range_succ_eq_map, List.map_cons, List.headD_cons, List.countP_eq_length]
    intro a ha
    have := hp a ha
    simp only [decide_eq_true_eq]
    omega
theorem le_head {l : List Nat} (hd : l.Pairwise (· ≥ ·)) {x : Nat} (h : x ∈ l) : x ≤ l.headD 0 := by
  cases l with
  | nil => cases h
  | cons y r =>
    rw [List.pairwise_cons] at hd
    rcases List.mem_cons.mp h with rfl | h
    · exact Nat.le_refl _
    · exact hd.1 x h
theorem cj_cj {l : List Nat} (hp : ∀ x ∈ l, 1 ≤ x) (hd : l.Pairwise (· ≥ ·)) : cj (cj l) = l := by
  refine List.ext_getElem ?_ ?_
  · rw [cj_len, cj_head hp]
  · intro q h1 h2
    have e1 : (cj (cj l))[q] = (cj l).countP fun x => decide (q < x) := by simp [cj]
    rw [e1, cj, List.countP_map]
    have e2 : (List.range (l.headD 0)).countP ((fun x => decide (q < x)) ∘ fun p => l.countP fun x => decide (p < x)) = (List.range (l.headD 0)).countP (fun p => decide (p < l[q])) := by
      refine List.countP_congr fun p _ => ?_
      simp only [Function.comp_apply, decide_eq_true_eq]
      exact lt_countP hd q p h2
    rw [e2, countP_rng]
    have := le_head hd (List.getElem_mem h2)
    omega
theorem sum_add (f g : Nat → Nat) : ∀ l : List Nat, (l.map fun p => f p + g p).sum = (l.map f).sum + (l.map g).sum
  | [] => rfl
  | x :: l => by
    simp only [List.map_cons, List.sum_cons, sum_add f g l]
    omega
theorem sum_ind (x : Nat) : ∀ m, ((List.range m).map fun p => if p < x then 1 else 0).sum = min m x
  | 0 => by simp
  | m + 1 => by
    rw [List.range_succ, List.map_append, List.sum_append, sum_ind x m]
    by_cases h : m < x
    · simp [h]; omega
    · simp [h]; omega
theorem sum_cnt (m : Nat) : ∀ l : List Nat, (∀ x ∈ l, x ≤ m) → ((List.range m).map fun p => l.countP fun x => decide (p < x)).sum = l.sum
  | [], _ => by
    have : ∀ k : List Nat, (k.map fun p => ([] : List Nat).countP fun x => decide (p < x)).sum = 0 := fun k => by
      induction k with
      | nil => rfl
      | cons a k ih => rw [List.map_cons, List.sum_cons, ih]; rfl
    rw [this]; rfl
  | x :: l, h => by
    have e : ∀ p : Nat, (x :: l).countP (fun x => decide (p < x)) = (if p < x then 1 else 0) + l.countP (fun x => decide (p < x)) := fun p => by
      rw [List.countP_cons, Nat.add_comm]
      by_cases q : p < x <;> simp [q]
    simp only [e]
    rw [sum_add, sum_ind, sum_cnt m l fun y hy => h y (List.mem_cons_of_mem _ hy), List.sum_cons]
    have := h x List.mem_cons_self
    omega
theorem cj_shp {l : List Nat} {m : Nat} (s : Shp l m) : Shp (cj l) m := by
  refine ⟨fun x hx => ?_, ?_, ?_⟩
  · obtain ⟨p, hp, rfl⟩ := List.mem_map.mp hx
    rw [List.mem_range] at hp
    cases l with
    | nil => exact absurd hp (Nat.not_lt_zero _)
    | cons y r =>
      have hp : p < y := hp
      rw [List.countP_cons_of_pos (by simpa using hp)]
      omega
  · refine List.pairwise_map.mpr ?_
    refine List.Pairwise.imp (R := (· < ·)) ?_ List.pairwise_lt_range
    intro a b hab
    refine List.countP_mono_left fun x _ h => ?_
    simp only [decide_eq_true_eq] at h ⊢
    omega
  · rw [cj, sum_cnt _ _ fun x hx => le_head s.desc hx]
    exact s.le
theorem cj_sum {l : List Nat} (hd : l.Pairwise (· ≥ ·)) : (cj l).sum = l.sum := by
  rw [cj, sum_cnt _ _ fun x hx => le_head hd hx]
/-- as bind_ret, by no mere unfolding: the kernel then keeps in step -/
theorem br {α β : Type} (a : α) (f : α → Out β) : (Out.ret a).bind f = f a := Eq.trans rfl (Eq.trans rfl rfl)
/-! ### walks over lists of numbers -/
theorem lc_mapf {α : Type} {turn : D → Out (Option D)} {f : α → D} {g : α → Option D} : ∀ {xs : List α} {acc : List D}, (∀ x ∈ xs, turn (f x) = .ret (g x)) → lcGo turn (xs.map f) acc = .ret (.list (acc.reverse ++ xs.filterMap g))
  | [], acc, _ => by simp [lcGo]
  | x :: r, acc, h => by
    simp only [List.map_cons, lcGo, h x List.mem_cons_self, Out.bind_ret]
    cases e : g x with
    | none => simp only [lc_mapf fun y hy => h y (List.mem_cons_of_mem _ hy), List.filterMap_cons, e]
    | some y => simp only [lc_mapf fun y hy => h y (List.mem_cons_of_mem _ hy), List.filterMap_cons, e, List.reverse_cons, List.append_assoc, List.singleton_append]
theorem rng_map : ∀ (n lo : Nat), rngL (lo : Int) n = (List.range' lo n).map nI
  | 0, _ => rfl
  | n + 1, lo => by
    rw [rngL, List.range'_succ, List.map_cons, ← rng_map n (lo + 1)]
    rfl
theorem rng_map0 (n : Nat) : rngL 0 n = (List.range n).map nI := by
  rw [List.range_eq_range']
  exact rng_map n 0
theorem enum_map {α : Type} (f : α → D) : ∀ (l : List α) (k : Nat), enumL (k : Int) (l.map f) = (l.zipIdx k).map fun p => .tuple [nI p.2, f p.1]
  | [], _ => rfl
  | x :: l, k => by
    rw [List.map_cons, enumL, List.zipIdx_cons, List.map_cons, ← enum_map f l (k + 1)]
    rfl
theorem fm_if {α β : Type} (p : α → Bool) (f : α → β) : ∀ l : List α, (l.filterMap fun x => if p x = true then some (f x) else none) = (l.filter p).map f
  | [] => rfl
  | x :: l => by
    rw [List.filterMap_cons, List.filter_cons]
    by_cases h : p x = true
    · rw [if_pos h, if_pos h, List.map_cons, fm_if p f l]
    · rw [if_neg h, if_neg h, fm_if p f l]
theorem fm_some {α β : Type} (f : α → β) : ∀ l : List α, (l.filterMap fun x => some (f x)) = l.map f
  | [] => rfl
  | x :: l => by rw [List.filterMap_cons, fm_some f l]; rfl
theorem forGo_k {g : Tg} {body : Ro → Out Fl} {R : Nat → Ro → Prop} : ∀ (m k : Nat) (ρ : Ro), R k ρ → (∀ j ρ, k ≤ j → j < k + m → R j ρ → ∃ ρ1, asgG g (nI j) ρ = some ρ1 ∧ Al (NxR (R (j + 1))) (body ρ1)) → Al (NxR (R (k + m))) (forGo g body (rngL k m) ρ)
  | 0, k, ρ, h, _ => ⟨⟨ρ, rfl, h⟩⟩
  | m + 1, k, ρ, h, hb => by
    obtain ⟨ρ1, e, hx⟩ := hb k ρ (Nat.le_refl _) (by omega) h
    constructor
    simp only [rngL, forGo]
    rw [Out.All_bind, e, Out.ofO_some, Out.All_ret, Out.All_bind]
    refine hx.h.mono fun fl q => ?_
    obtain ⟨ρ2, rfl, h2⟩ := q
    have := forGo_k m (k + 1) ρ2 h2 fun j ρ h1 h3 h4 => hb j ρ (by omega) (by omega) h4
    rw [show k + 1 + m = k + (m + 1) by omega] at this
    exact this.h
/-- with answers that are none but one -/
theorem forGo_e {g : Tg} {body : Ro → Out Fl} {R : Nat → Ro → Prop} : ∀ (m k : Nat) (ρ : Ro), R k ρ → (∀ j ρ, k ≤ j → j < k + m → R j ρ → ∃ ρ1 ρ2, asgG g (nI j) ρ = some ρ1 ∧ body ρ1 = .ret (.nx ρ2) ∧ R (j + 1) ρ2) → ∃ ρ2, forGo g body (rngL k m) ρ = .ret (.nx ρ2) ∧ R (k + m) ρ2
  | 0, k, ρ, h, _ => ⟨ρ, rfl, h⟩
  | m + 1, k, ρ, h, hb => by
    obtain ⟨ρ1, ρ2, e, hx, h2⟩ := hb k ρ (Nat.le_refl _) (by omega) h
    obtain ⟨ρ3, h3, h4⟩ := forGo_e m (k + 1) ρ2 h2 fun j ρ h1 h3 h4 => hb j ρ (by omega) (by omega) h4
    refine ⟨ρ3, ?_, by rw [show k + (m + 1) = k + 1 + m by omega]; exact h4⟩
    simp only [rngL, forGo, e, Out.ofO_some, Out.bind_ret, hx]
    exact h3
theorem lenN {l : List Nat} (h : l.length ≤ 1000) : decide ((l.map nI).length ≤ lim) = true := decide_eq_true (by rw [List.length_map]; unfold lim; omega)
theorem sm62 {z : Int} (h1 : -1000000 ≤ z) (h2 : z ≤ 1000000) : small62 z = true := by
  unfold small62
  rw [Bool.and_eq_true, decide_eq_true_eq, decide_eq_true_eq]
  omega
theorem ltI (a b : Nat) : decide ((a : Int) < (b : Int)) = decide (a < b) := by
  by_cases h : a < b
  · rw [decide_eq_true h, decide_eq_true (by omega)]
  · rw [decide_eq_false h, decide_eq_false (by omega)]
end K07

set_option Elab.async false
set_option linter.all false
set_option maxRecDepth 1000000
set_option maxHeartbeats 4000000
namespace K07
open PySem L2 Ev
/-! ### flipped_of -/
def fl2 : E := .lc [2] (.nm 2) (.var 0) (.cmp .gt (.var 2) (.var 1)) (.var 2)
def fl1 : E := .ite (.cmp .gt (.blt .len (.cons (.var 0) .nil)) (.con (.int 0))) (.idx (.var 0) (.con (.int 0))) (.con (.int 0))
theorem fl_body : d_flipped_of.body = (.seq (.ret (.blt .tuple (.cons (.lc [1] (.nm 1) (.rng1 fl1) (.con (.bool true)) (.blt .len (.cons fl2 .nil))) .nil))) .nil) := rfl
theorem fl2_ev (Γ : Ev.Env) {l : List Nat} (p : Nat) {x : Option Sl} (h : l.length ≤ 1000) : ev Γ true fl2 [some (.val (tN l)), some (.val (nI p)), x] = .ret (.list ((l.filter fun x => decide (p < x)).map nI)) := by
  simp only [fl2, ev, v_0, br, c_itT]
  rw [lenN h, Out.guard_true]
  refine (lc_mapf (g := fun x => if decide (p < x) = true then some (nI x) else none) fun x hx => ?_).trans ?_
  · simp only [g_nm, wipeR, List.set_cons_zero, List.set_cons_succ, Out.ofO_some, br, v_0, v_s, m_gt, c_asB, ltI]
    cases decide (p < x) <;> rfl
  · rw [List.reverse_nil, List.nil_append, fm_if]
theorem fl1_ev (Γ : Ev.Env) {l : List Nat} {x y : Option Sl} : ev Γ true fl1 [some (.val (tN l)), x, y] = .ret (nI (l.headD 0)) := by
  cases l with
  | nil => rfl
  | cons a r =>
    simp only [fl1, ev, v_0, c_cons, c_unt, br, t_lenN, m_gt, c_asB]
    rw [decide_eq_true (by rw [List.length_cons]; omega)]
    show ixD (tN (a :: r)) (.int ((0 : Nat) : Int)) = _
    exact ix_nat (Nat.succ_pos _)
theorem flip_lc (Γ : Ev.Env) {l : List Nat} (h1 : l.length ≤ 1000) (h2 : l.headD 0 ≤ 1000) {x y : Option Sl} : ev Γ true (.lc [1] (.nm 1) (.rng1 fl1) (.con (.bool true)) (.blt .len (.cons fl2 .nil))) [some (.val (tN l)), x, y] = .ret (.list ((cj l).map nI)) := by
  have e1 : ev Γ true (.rng1 fl1) [some (.val (tN l)), x, y] = .ret (.list ((List.range (l.headD 0)).map nI)) := by
    have hz : small62 ((l.headD 0 : Nat) : Int) = true := sm62 (by omega) (by omega)
    show (ev Γ true fl1 _).bind (fun x => (asInt x).bind fun i => .guard (small62 i) (.ret (PyData.list (rngL 0 i.toNat)))) = _
    rw [fl1_ev, br, c_asI, br, hz, Out.guard_true, Int.toNat_natCast, rng_map0]
  rw [show ∀ (own : List Nat) (g : Tg) (it c elt : E) (ρ : Ro), ev Γ true (.lc own g it c elt) ρ = (ev Γ true it ρ).bind fun x => (itemsD x).bind fun xs => .guard (decide (xs.length ≤ lim)) <|
      lcGo (fun d => (Out.ofO (asgG g d (wipeR ρ own))).bind fun ρ2 => (ev Γ true c ρ2).bind fun t => (asBool t).bind fun
        | true => (ev Γ false elt ρ2).bind fun y => .ret (some y)
        | false => .ret none) xs [] from fun _ _ _ _ _ _ => rfl]
  rw [e1, br, c_itL, br, lenN (by simpa using h2), Out.guard_true]
  rw [lc_mapf (g := fun p => some (nI (l.countP fun x => decide (p < x)))) fun p hp => ?_]
  · rw [List.reverse_nil, List.nil_append, fm_some, cj, List.map_map]
    rfl
  · simp only [g_nm, wipeR, List.set_cons_zero, List.set_cons_succ, Out.ofO_some, br, ev, c_asB, fl2_ev _ p h1, c_cons, c_unt, t_lenL, List.length_map, List.countP_eq_length_filter]
theorem flip_ok {n : Nat} {l : List Nat} (h1 : l.length ≤ 1000) (h2 : l.headD 0 ≤ 1000) : cV (n + 1) 4 [tN l] = .ret (tN (cj l)) := by
  refine (v_eq (F := d_flipped_of) (by decide) rfl rfl).trans ?_
  show (ex (Γ n) τ.W d_flipped_of.body [some (.val (tN l)), none, none]).bind retOf = _
  rw [fl_body]
  have h := flip_lc (Γ n) h1 h2 (x := none) (y := none)
  generalize (E.lc [1] (.nm 1) (.rng1 fl1) (.con (.bool true)) (.blt .len (.cons fl2 .nil))) = e at *
  simp only [ex, ev, h, br, c_cons, c_unt]
  rfl
end K07

set_option Elab.async false
set_option linter.all false
set_option maxRecDepth 1000000
set_option maxHeartbeats 4000000
namespace K07
open PySem L2 Ev
/-! ### comparisons -/
theorem shp_int (i : Int) : SeqAt.shaped (.int i) = true := rfl
theorem m_eqI (i j : Int) : cmpD .eq (.int i) (.int j) = .ret (.bool (decide (i = j))) := by
  show Out.guard (SeqAt.shaped (.int i) && SeqAt.shaped (.int j)) (Out.ret (PyData.bool (PyData.eqv (.int i) (.int j)))) = _
  rw [shp_int, shp_int, Bool.and_self, Out.guard_true]
  simp [PyData.eqv]
  try exact Bool.beq_eq_decide_eq _ _
theorem m_neI (i j : Int) : cmpD .ne (.int i) (.int j) = .ret (.bool (!decide (i = j))) := by
  show Out.guard (SeqAt.shaped (.int i) && SeqAt.shaped (.int j)) (Out.ret (PyData.bool (!PyData.eqv (.int i) (.int j)))) = _
  rw [shp_int, shp_int, Bool.and_self, Out.guard_true]
  have h := m_eqI i j
  have e : cmpD .eq (.int i) (.int j) = .ret (.bool (PyData.eqv (.int i) (.int j))) := by
    show Out.guard (SeqAt.shaped (.int i) && SeqAt.shaped (.int j)) (Out.ret (PyData.bool (PyData.eqv (.int i) (.int j)))) = _
    rw [shp_int, shp_int, Bool.and_self, Out.guard_true]
  rw [e] at h
  injection h with h
  injection h with h
  rw [h]
theorem lay_N : ∀ l : List Nat, PyData.canLayAll0 (l.map nI) = true
  | [] => rfl
  | x :: l => by
    rw [List.map_cons, PyData.canLayAll0, lay_N l]
    rfl
theorem dep_N : ∀ l : List Nat, PyData.depthAll (l.map nI) ≤ 1
  | [] => by simp [PyData.depthAll]
  | x :: l => by
    have := dep_N l
    simp only [List.map_cons, PyData.depthAll, PyData.depth]
    omega
theorem shp_N (l : List Nat) : SeqAt.shaped (tN l) = true := by
  have h1 := dep_N l
  have h2 : PyData.depth (tN l) ≤ 64 := by simp only [PyData.depth]; omega
  show (PyData.canLay0 (.tuple (l.map nI)) && decide (PyData.depth (.tuple (l.map nI)) ≤ 64)) = true
  rw [Bool.and_eq_true]
  exact ⟨by simp only [PyData.canLay0]; exact lay_N l, decide_eq_true h2⟩
theorem shp_L (l : List Nat) : SeqAt.shaped (.list (l.map nI)) = true := by
  have h1 := dep_N l
  have h2 : PyData.depth (.list (l.map nI)) ≤ 64 := by simp only [PyData.depth]; omega
  show (PyData.canLay0 (.list (l.map nI)) && decide (PyData.depth (.list (l.map nI)) ≤ 64)) = true
  rw [Bool.and_eq_true]
  exact ⟨by simp only [PyData.canLay0]; exact lay_N l, decide_eq_true h2⟩
theorem eqv_N (l : List Nat) : PyData.eqv (tN l) (tN l) = true := SeqAt.eqv_refl _ (by show PyData.canLay0 (.tuple (l.map nI)) = true; simp only [PyData.canLay0]; exact lay_N l)
theorem any_N {r : Nat} {o : List Nat} (h : r ∈ o) : anyEq (nI r) (o.map nI) = true := by
  unfold anyEq
  rw [List.any_map, List.any_eq_true]
  exact ⟨r, h, by simp [PyData.eqv]⟩
theorem m_ninN {r : Nat} {o : List Nat} (h : r ∈ o) : cmpD .nin (nI r) (tN o) = .ret (.bool false) := by
  show Out.guard (SeqAt.shaped (nI r) && SeqAt.shaped (.list (o.map nI))) (Out.ret (PyData.bool (!anyEq (nI r) (o.map nI)))) = _
  rw [shp_int, shp_L, any_N h]
  rfl
/-! ### outers_of -/
def oPick (l : List Nat) (p : Nat × Nat) : Bool := decide (p.2 = 0) || decide (p.1 < l.getD (p.2 - 1) 0)
def outs (l : List Nat) : List Nat := (l.zipIdx.filter (oPick l)).map (·.2) ++ [l.length]
theorem outs_le {l : List Nat} {r : Nat} (h : r ∈ outs l) : r ≤ l.length := by
  rcases List.mem_append.mp h with h | h
  · obtain ⟨p, hp, rfl⟩ := List.mem_map.mp h
    have := (List.mem_filter.mp hp).1
    have := List.mem_zipIdx this
    omega
  · rw [List.mem_singleton] at h
    omega
theorem outs_len (l : List Nat) : (outs l).length ≤ l.length + 1 := by
  unfold outs
  rw [List.length_append, List.length_map, List.length_singleton]
  have := List.length_filter_le (oPick l) l.zipIdx
  rw [List.length_zipIdx] at this
  omega
theorem outs_pos (l : List Nat) : 0 < (outs l).length := by
  unfold outs
  rw [List.length_append, List.length_singleton]
  omega
def ou1 : E := .lc [2, 3] (.cons (.nm 2) (.cons (.nm 3) .nil)) (.enum (.var 0)) (.or (.cmp .eq (.var 2) (.con (.int 0))) (.cmp .gt (.idx (.var 0) (.bin .sub (.var 2) (.con (.int 1)))) (.var 3))) (.var 2)
theorem ou_body : d_outers_of.body = (.seq (.asg (.nm 1) ou1) (.seq (.ret (.blt .tuple (.cons (.bin .add (.var 1) (.lst (.cons (.blt .len (.cons (.var 0) .nil)) .nil))) .nil))) .nil)) := rfl
theorem g_pair {i j : Nat} {a b : D} {ρ : Ro} : asgG (.cons (.nm i) (.cons (.nm j) .nil)) (.tuple [a, b]) ρ = some ((ρ.set i (some (.val a))).set j (some (.val b))) := rfl
theorem ou_ev (Γ : Ev.Env) {l : List Nat} (h : l.length ≤ 1000) {x : Option Sl} : ev Γ false ou1 [some (.val (tN l)), x, none, none] = .ret (.list ((l.zipIdx.filter (oPick l)).map fun p => nI p.2)) := by
  simp only [ou1, ev, v_0, Out.bind_ret, c_itT, c_itL]
  rw [show enumL 0 (l.map nI) = (l.zipIdx 0).map fun p => .tuple [nI p.2, nI p.1] from enum_map nI l 0]
  rw [decide_eq_true (show (List.map (fun p : Nat × Nat => PyData.tuple [nI p.2, nI p.1]) (l.zipIdx 0)).length ≤ lim by rw [List.length_map, List.length_zipIdx]; unfold lim; omega), Out.guard_true]
  refine (lc_mapf (g := fun p => if oPick l p = true then some (nI p.2) else none) fun p hp => ?_).trans ?_
  · obtain ⟨y, k⟩ := p
    have hk := List.mem_zipIdx hp
    simp only [g_pair, wipeR, List.set_cons_zero, List.set_cons_succ, Out.ofO_some, Out.bind_ret, v_0, v_s, m_eqI, c_asB]
    by_cases h0 : k = 0
    · subst h0
      have hO : oPick l (y, 0) = true := rfl
      rw [hO]
      rfl
    · have h0' : decide ((k : Int) = 0) = false := decide_eq_false (by omega)
      have e1 : ((k : Nat) : Int) - 1 = ((k - 1 : Nat) : Int) := by omega
      have hk1 : k - 1 < l.length := by omega
      have hO : oPick l (y, k) = decide (y < l[k - 1]) := by
        unfold oPick
        rw [decide_eq_false h0, Bool.false_or, List.getD_eq_getElem?_getD, List.getElem?_eq_getElem hk1]
        rfl
      rw [hO]
      simp only [h0', Out.bind_ret, v_0, v_s, b_sub, e1, ix_nat hk1, m_gt, ltI, c_asB]
      cases decide (y < l[k - 1]) <;> rfl
  · rw [List.reverse_nil, List.nil_append, fm_if]
theorem outers_ok {n : Nat} {l : List Nat} (h : l.length ≤ 1000) : cV (n + 1) 6 [tN l] = .ret (tN (outs l)) := by
  refine (v_eq (F := d_outers_of) (by decide) rfl rfl).trans ?_
  show (ex (Γ n) τ.W d_outers_of.body [some (.val (tN l)), none, none, none]).bind retOf = _
  rw [ou_body]
  simp only [ex, ev, ou_ev _ h, Out.bind_ret, g_nm, List.set_cons_zero, List.set_cons_succ, Out.ofO_some, v_0, v_s, c_cons, c_unt, t_lenN, List.length_cons, List.length_nil, Nat.zero_add, l1, Out.guard_true, b_addL]
  rw [decide_eq_true (show (List.map (fun p : Nat × Nat => nI p.2) (l.zipIdx.filter (oPick l))).length + 1 ≤ lim by
    have := outs_len l
    unfold outs at this
    rw [List.length_append, List.length_map, List.length_singleton] at this
    rw [List.length_map]; unfold lim; omega), Out.guard_true]
  show Out.ret (PyData.tuple _) = _
  rw [tN, outs, List.map_append, List.map_map]
  rfl
/-! ### rows of shapes of forty boxes -/
theorem with_box_many {n : Nat} {l : List Nat} {r : Nat} (s : Shp l 40) (hs : l.sum = 40) (hr : r ∈ outs l) : cX (n + 4) 22 [tN l, nI r] = .ret (xcD 201 "limit" (.int 40)) := by
  refine (x_eq (F := d_with_box) (by decide) rfl (by decide +kernel) rfl).trans ?_
  show (ex (Γ (n + 3)) τ.W d_with_box.body [some (.val (tN l)), some (.val (nI r))]).bind retX = _
  have hr2 := outs_le hr
  have hl := s.len
  have h1 : (Γ (n + 3)).callx 2 [tN l, .int 40] = .ret (.tuple [.none]) := (gx _ _ _).trans (check_ok (n := n) s)
  have h2 : (Γ (n + 3)).call 0 [nI r, .int 0, .int 40] = .ret (.bool true) := by
    refine (gv _ _ _).trans ((num_int _ _ _ _).trans ?_)
    rw [decide_eq_true (show (0 : Int) ≤ (r : Int) by omega), decide_eq_true (show (r : Int) ≤ 40 by omega)]
    rfl
  have h3 : (Γ (n + 3)).call 6 [tN l] = .ret (tN (outs l)) := (gv _ _ _).trans (outers_ok (by omega))
  have h4 : ((40 : Nat) : Int) = 40 := rfl
  simp only [d_with_box, ex, ev, v_0, v_s, c_cons, c_unt, g40, Out.ofO_some, Out.bind_ret, h1, unX_t, h2, h3, m_ninN hr, c_asB, Bool.not_true, t_sumT, hs, h4, m_eqI, decide_true, retX]
theorem with_box_41 {n : Nat} {l : List Nat} (s : Shp l 40) : cX (n + 4) 22 [tN l, .int 41] = .ret (xcD 88 "given" (.int 41)) := with_box_no s fun hi hh => by
  rw [num_int, decide_eq_false (show ¬ ((41 : Int) ≤ hi) by omega), Bool.and_false]
theorem strip_many {n : Nat} {l : List Nat} (s : Shp l 40) (hs : l.sum = 40) : cX (n + 4) 27 [tN l, .int 1] = .ret (xcD 201 "limit" (.int 40)) := by
  refine (x_eq (F := d_check_strip) (by decide) rfl (by decide +kernel) rfl).trans ?_
  show (ex (Γ (n + 3)) τ.W d_check_strip.body [some (.val (tN l)), some (.val (.int 1))]).bind retX = _
  have h1 : (Γ (n + 3)).callx 2 [tN l, .int 40] = .ret (.tuple [.none]) := (gx _ _ _).trans (check_ok (n := n) s)
  have h2 : (Γ (n + 3)).call 0 [.int 1, .int 0, .int 8] = .ret (.bool true) := (gv _ _ _).trans (num_int _ _ _ _)
  have h4 : decide ((40 : Int) < ((40 : Nat) : Int) + 1) = true := by decide
  simp only [d_check_strip, ex, ev, v_0, v_s, c_cons, c_unt, g40, g8, Out.ofO_some, Out.bind_ret, h1, unX_t, h2, c_asB, Bool.not_true, t_sumT, hs, b_add, m_gt, h4, retX]
theorem strip_9 {n : Nat} {l : List Nat} (s : Shp l 40) : cX (n + 4) 27 [tN l, .int 9] = .ret (xcD 130 "given" (.int 9)) := by
  refine (x_eq (F := d_check_strip) (by decide) rfl (by decide +kernel) rfl).trans ?_
  show (ex (Γ (n + 3)) τ.W d_check_strip.body [some (.val (tN l)), some (.val (.int 9))]).bind retX = _
  have h1 : (Γ (n + 3)).callx 2 [tN l, .int 40] = .ret (.tuple [.none]) := (gx _ _ _).trans (check_ok (n := n) s)
  have h2 : (Γ (n + 3)).call 0 [.int 9, .int 0, .int 8] = .ret (.bool false) := (gv _ _ _).trans (num_int _ _ _ _)
  simp only [d_check_strip, ex, ev, v_0, v_s, c_cons, c_unt, g40, g8, Out.ofO_some, Out.bind_ret, h1, unX_t, h2, c_asB, Bool.not_false, retX]
theorem strip_0 {n : Nat} {l : List Nat} (s : Shp l 40) : cX (n + 4) 27 [tN l, .int 0] = .ret (.tuple [.none]) := by
  refine (x_eq (F := d_check_strip) (by decide) rfl (by decide +kernel) rfl).trans ?_
  show (ex (Γ (n + 3)) τ.W d_check_strip.body [some (.val (tN l)), some (.val (.int 0))]).bind retX = _
  have h1 : (Γ (n + 3)).callx 2 [tN l, .int 40] = .ret (.tuple [.none]) := (gx _ _ _).trans (check_ok (n := n) s)
  have h2 : (Γ (n + 3)).call 0 [.int 0, .int 0, .int 8] = .ret (.bool true) := (gv _ _ _).trans (num_int _ _ _ _)
  have h4 : decide ((40 : Int) < (l.sum : Int) + 0) = false := decide_eq_false (by have := s.le; omega)
  simp only [d_check_strip, ex, ev, v_0, v_s, c_cons, c_unt, g40, g8, Out.ofO_some, Out.bind_ret, h1, unX_t, h2, c_asB, Bool.not_true, t_sumT, b_add, m_gt, h4, retX]
theorem strips_many {n : Nat} {l : List Nat} (s : Shp l 40) (hs : l.sum = 40) : cX (n + 5) 28 [tN l, .int 1] = .ret (xcD 201 "limit" (.int 40)) := by
  refine (x_eq (F := d_with_strips) (by decide) rfl (by decide +kernel) rfl).trans ?_
  show (ex (Γ (n + 4)) τ.W d_with_strips.body [some (.val (tN l)), some (.val (.int 1))]).bind retX = _
  have h1 : (Γ (n + 4)).callx 27 [tN l, .int 1] = .ret (xcD 201 "limit" (.int 40)) := (gx _ _ _).trans (strip_many (n := n) s hs)
  simp only [d_with_strips, ex, ev, v_0, v_s, c_cons, c_unt, Out.bind_ret, h1, unX_1, retX]
theorem columns_9 {n : Nat} {l : List Nat} (s : Shp l 40) : cX (n + 5) 29 [tN l, .int 9] = .ret (xcD 130 "given" (.int 9)) := by
  refine (x_eq (F := d_with_columns) (by decide) rfl (by decide +kernel) rfl).trans ?_
  show (ex (Γ (n + 4)) τ.W d_with_columns.body [some (.val (tN l)), some (.val (.int 9))]).bind retX = _
  have h1 : (Γ (n + 4)).callx 27 [tN l, .int 9] = .ret (xcD 130 "given" (.int 9)) := (gx _ _ _).trans (strip_9 (n := n) s)
  simp only [d_with_columns, ex, ev, v_0, v_s, c_cons, c_unt, Out.bind_ret, h1, unX_1, retX]
theorem sh39 : Shp [39] 40 := ⟨by decide, by decide, by decide⟩
theorem sh40 : Shp [40] 40 := ⟨by decide, by decide, by decide⟩
theorem sizes_no {n : Nat} {l : List Nat} (s : Shp l 40) (hs : l.sum = 40) : cX (n + 4) 16 [tN l, tN [39]] = .ret (xc0 168) := by
  refine (x_eq (F := d_check_sizes) (by decide) rfl (by decide +kernel) rfl).trans ?_
  show (ex (Γ (n + 3)) τ.W d_check_sizes.body [some (.val (tN l)), some (.val (tN [39]))]).bind retX = _
  have h1 : (Γ (n + 3)).callx 2 [tN l, .int 40] = .ret (.tuple [.none]) := (gx _ _ _).trans (check_ok (n := n) s)
  have h2 : (Γ (n + 3)).callx 2 [tN [39], .int 40] = .ret (.tuple [.none]) := (gx _ _ _).trans (check_ok (n := n) sh39)
  have h3 : List.sum [39] = 39 := rfl
  have h4 : decide (((40 : Nat) : Int) = ((39 : Nat) : Int)) = false := by decide
  simp only [d_check_sizes, ex, ev, v_0, v_s, c_cons, c_unt, g40, Out.ofO_some, Out.bind_ret, h1, h2, unX_t, t_sumT, hs, h3, m_neI, h4, c_asB, Bool.not_false, retX]
theorem sizes_ok {n : Nat} {l k : List Nat} (s : Shp l 40) (s2 : Shp k 40) (hs : l.sum = k.sum) : cX (n + 4) 16 [tN l, tN k] = .ret (.tuple [.none]) := by
  refine (x_eq (F := d_check_sizes) (by decide) rfl (by decide +kernel) rfl).trans ?_
  show (ex (Γ (n + 3)) τ.W d_check_sizes.body [some (.val (tN l)), some (.val (tN k))]).bind retX = _
  have h1 : (Γ (n + 3)).callx 2 [tN l, .int 40] = .ret (.tuple [.none]) := (gx _ _ _).trans (check_ok (n := n) s)
  have h2 : (Γ (n + 3)).callx 2 [tN k, .int 40] = .ret (.tuple [.none]) := (gx _ _ _).trans (check_ok (n := n) s2)
  simp only [d_check_sizes, ex, ev, v_0, v_s, c_cons, c_unt, g40, Out.ofO_some, Out.bind_ret, h1, h2, unX_t, t_sumT, hs, m_neI, decide_true, Bool.not_true, c_asB, retX]
theorem heavier_no {n : Nat} {l : List Nat} (s : Shp l 40) (hs : l.sum = 40) : cX (n + 5) 24 [tN l, tN [39]] = .ret (xc0 168) := by
  refine (x_eq (F := d_heavier) (by decide) rfl (by decide +kernel) rfl).trans ?_
  show (ex (Γ (n + 4)) τ.W d_heavier.body [some (.val (tN l)), some (.val (tN [39]))]).bind retX = _
  have h1 : (Γ (n + 4)).callx 16 [tN l, tN [39]] = .ret (xc0 168) := (gx _ _ _).trans (sizes_no (n := n) s hs)
  simp only [d_heavier, ex, ev, v_0, v_s, c_cons, c_unt, Out.bind_ret, h1, unX_0, retX]
/-- flipped, twice -/
theorem flipped_ok {n : Nat} {l : List Nat} (s : Shp l 40) : cV (n + 4) 18 [tN l] = .ret (tN (cj l)) := by
  refine (v_eq (F := d_flipped) (by decide) rfl rfl).trans ?_
  show (ex (Γ (n + 3)) τ.W d_flipped.body [some (.val (tN l))]).bind retOf = _
  have h1 : (Γ (n + 3)).callx 2 [tN l, .int 40] = .ret (.tuple [.none]) := (gx _ _ _).trans (check_ok (n := n) s)
  have hh : l.headD 0 ≤ 40 := by
    cases l with
    | nil => exact Nat.zero_le _
    | cons x r => exact s.el List.mem_cons_self
  have h2 : (Γ (n + 3)).call 4 [tN l] = .ret (tN (cj l)) := (gv _ _ _).trans (flip_ok (n := n + 2) (by have := s.len; omega) (by omega))
  simp only [d_flipped, ex, ev, v_0, v_s, c_cons, c_unt, g40, Out.ofO_some, Out.bind_ret, h1, unX_t, h2, retOf]
end K07

set_option Elab.async false
set_option linter.all false
set_option maxRecDepth 1000000
set_option maxHeartbeats 4000000
namespace K07
open PySem L2 Ev
/-! ### trimmed, strips of no box -/
theorem trim_body : d_trimmed.body = (.seq (.ret (.blt .tuple (.cons (.lc [1] (.nm 1) (.var 0) (.cmp .gt (.var 1) (.con (.int 0))) (.var 1)) .nil))) .nil) := rfl
theorem trim_ok {n : Nat} {l : List Nat} (h : l.length ≤ 1000) : cV (n + 1) 3 [tN l] = .ret (tN (l.filter fun x => decide (0 < x))) := by
  refine (v_eq (F := d_trimmed) (by decide) rfl rfl).trans ?_
  show (ex (Γ n) τ.W d_trimmed.body [some (.val (tN l)), none]).bind retOf = _
  rw [trim_body]
  simp only [ex, ev, v_0, br, c_itT]
  rw [lenN h, Out.guard_true]
  rw [lc_mapf (g := fun x => if decide (0 < x) = true then some (nI x) else none) fun x hx => ?_]
  · rw [List.reverse_nil, List.nil_append, fm_if, br, c_cons, br, c_unt, br]
    rfl
  · have e : decide ((0 : Int) < (x : Int)) = decide (0 < x) := ltI 0 x
    simp only [g_nm, wipeR, List.set_cons_zero, List.set_cons_succ, Out.ofO_some, br, v_0, v_s, m_gt, c_asB, e]
    cases decide (0 < x) <;> rfl
def lapB : S := (.seq (.asg (.nm 4) (.ite (.cmp .lt (.var 3) (.blt .len (.cons (.var 0) .nil))) (.idx (.var 0) (.var 3)) (.con (.int 0)))) (.seq (.asg (.nm 5) (.ite (.cmp .gt (.var 3) (.con (.int 0))) (.bin .sub (.idx (.var 0) (.bin .sub (.var 3) (.con (.int 1)))) (.var 4)) (.var 1))) (.seq (.asg (.nm 6) (.lst .nil)) (.seq (.for_ (.cons (.nm 7) (.cons (.nm 8) .nil)) (.var 2) (.seq (.asg (.nm 6) (.bin .add (.var 6) (.lc [9] (.nm 9) (.rng3 (.blt .min (.cons (.var 5) (.cons (.var 8) .nil))) (.neg (.con (.int 1))) (.neg (.con (.int 1)))) (.con (.bool true)) (.tup (.cons (.bin .add (.var 7) (.tup (.cons (.bin .add (.var 4) (.var 9)) .nil))) (.cons (.bin .sub (.var 8) (.var 9)) .nil)))))) .nil)) (.seq (.asg (.nm 2) (.var 6)) .nil)))))
def endB : S := (.seq (.ret (.lc [7, 8] (.cons (.nm 7) (.cons (.nm 8) .nil)) (.var 2) (.cmp .eq (.var 8) (.con (.int 0))) (.call 3 (.cons (.var 7) .nil)))) .nil)
theorem st_body : d_strips_on.body = (.seq (.asg (.nm 2) (.lst (.cons (.tup (.cons (.tup .nil) (.cons (.var 1) .nil))) .nil))) (.seq (.for_ (.nm 3) (.rng1 (.bin .add (.blt .len (.cons (.var 0) .nil)) (.con (.int 1)))) lapB) endB)) := rfl
def stR (l : List Nat) (k : Nat) (ρ : Ro) : Prop := ∃ x3 x4 x5 x6 x7 x8 x9 : Option Sl, ρ = [some (.val (tN l)), some (.val (.int 0)), some (.val (.list [.tuple [tN ((l ++ [0]).take k), .int 0]])), x3, x4, x5, x6, x7, x8, x9]
theorem lmin : ∀ r : Int, 0 ≤ r → (if (0 : Int) < r then (0 : Int) else r) = 0 := fun r h => by split <;> omega
theorem e10 : (0 : Int) - -1 = 1 := rfl
theorem l0 : decide (0 ≤ lim) = true := by decide
theorem st_lap (Γ : Ev.Env) (W : Nat) {l : List Nat} (hd : l.Pairwise (· ≥ ·)) (hl : l.length ≤ 1000) {k : Nat} (hk : k < l.length + 1) {ρ : Ro} (h : stR l k ρ) : ∃ ρ2, ex Γ W lapB (ρ.set 3 (some (.val (nI k)))) = .ret (.nx ρ2) ∧ stR l (k + 1) ρ2 := by
  obtain ⟨x3, x4, x5, x6, x7, x8, x9, rfl⟩ := h
  -- own
  obtain ⟨o, ho, ho2⟩ : ∃ o : Nat, (l ++ [0])[k]? = some o ∧ ∀ ρ' : Ro, valOf ρ' 0 = .ret (tN l) → valOf ρ' 3 = .ret (nI k) → ev Γ false (.ite (.cmp .lt (.var 3) (.blt .len (.cons (.var 0) .nil))) (.idx (.var 0) (.var 3)) (.con (.int 0))) ρ' = .ret (nI o) := by
    by_cases q : k < l.length
    · refine ⟨l[k], by rw [List.getElem?_append_left q, List.getElem?_eq_getElem q], fun ρ' h0 h3 => ?_⟩
      simp only [ev, h0, h3, c_cons, c_unt, br, t_lenN, m_lt, ltI, decide_eq_true q, c_asB, ix_nat q]
    · have e : k = l.length := by omega
      subst e
      refine ⟨0, by rw [List.getElem?_append_right (Nat.le_refl _), Nat.sub_self]; rfl, fun ρ' h0 h3 => ?_⟩
      simp only [ev, h0, h3, c_cons, c_unt, br, t_lenN, m_lt, ltI, decide_eq_false q, c_asB]
      rfl
  -- room
  obtain ⟨r, hr, hr2⟩ : ∃ r : Int, 0 ≤ r ∧ ∀ ρ' : Ro, valOf ρ' 0 = .ret (tN l) → valOf ρ' 1 = .ret (.int 0) → valOf ρ' 3 = .ret (nI k) → valOf ρ' 4 = .ret (nI o) → ev Γ false (.ite (.cmp .gt (.var 3) (.con (.int 0))) (.bin .sub (.idx (.var 0) (.bin .sub (.var 3) (.con (.int 1)))) (.var 4)) (.var 1)) ρ' = .ret (.int r) := by
    by_cases q : 0 < k
    · have hk1 : k - 1 < l.length := by omega
      have e1 : ((k : Nat) : Int) - 1 = ((k - 1 : Nat) : Int) := by omega
      refine ⟨(l[k - 1] : Int) - (o : Int), ?_, fun ρ' h0 h1 h3 h4 => ?_⟩
      · have : o ≤ l[k - 1] := by
          by_cases q2 : k < l.length
          · rw [List.getElem?_append_left q2, List.getElem?_eq_getElem q2] at ho
            injection ho with ho
            subst ho
            exact List.pairwise_iff_getElem.mp hd (k - 1) k hk1 q2 (by omega)
          · rw [List.getElem?_append_right (by omega), show k - l.length = 0 by omega] at ho
            injection ho with ho
            subst ho
            exact Nat.zero_le _
        omega
      · have e : decide ((0 : Int) < (k : Int)) = true := decide_eq_true (by omega)
        simp only [ev, h0, h3, h4, br, m_gt, e, c_asB, b_sub, e1, ix_nat hk1]
    · refine ⟨0, Int.le_refl _, fun ρ' h0 h1 h3 h4 => ?_⟩
      have e : decide ((0 : Int) < (k : Int)) = false := decide_eq_false (by omega)
      simp only [ev, h1, h3, br, m_gt, e, c_asB]
  have hpre : ((l ++ [0]).take k).length ≤ 1000 := by rw [List.length_take]; omega
  have hpre2 : decide ((List.map nI ((l ++ [0]).take k)).length + 1 ≤ lim) = true := decide_eq_true (by rw [List.length_map]; unfold lim; omega)
  have hz : ((o : Nat) : Int) + 0 = (o : Int) := by omega
  have ht : (l ++ [0]).take (k + 1) = (l ++ [0]).take k ++ [o] := by
    rw [List.take_succ, ho]
    rfl
  refine ⟨[some (.val (tN l)), some (.val (.int 0)), some (.val (.list [.tuple [tN ((l ++ [0]).take (k + 1)), .int 0]])), some (.val (nI k)), some (.val (nI o)), some (.val (.int r)), some (.val (.list [.tuple [tN ((l ++ [0]).take (k + 1)), .int 0]])), some (.val (tN ((l ++ [0]).take k))), some (.val (.int 0)), x9], ?_, ⟨_, _, _, _, _, _, _, rfl⟩⟩
  have s62 : small62 0 = true := rfl
  have s63 : small62 (-1) = true := rfl
  have r1 : rngC 0 (-1) (Int.toNat 1) = [.int 0] := rfl
  have hlc : ∀ x : Option Sl, ev Γ true (.lc [9] (.nm 9) (.rng3 (.blt .min (.cons (.var 5) (.cons (.var 8) .nil))) (.neg (.con (.int 1))) (.neg (.con (.int 1)))) (.con (.bool true)) (.tup (.cons (.bin .add (.var 7) (.tup (.cons (.bin .add (.var 4) (.var 9)) .nil))) (.cons (.bin .sub (.var 8) (.var 9)) .nil))))
      [some (.val (tN l)), some (.val (.int 0)), some (.val (.list [.tuple [tN ((l ++ [0]).take k), .int 0]])), some (.val (nI k)), some (.val (nI o)), some (.val (.int r)), some (.val (.list [])), some (.val (tN ((l ++ [0]).take k))), some (.val (.int 0)), x] = .ret (.list [.tuple [tN ((l ++ [0]).take (k + 1)), .int 0]]) := fun x => by
    simp only [ev, v_0, v_s, c_cons, c_unt, br, t_min, lmin r hr, c_asI, decide_true, s62, s63, Bool.and_self, Out.guard_true, e10, r1, c_itL, List.length_cons, List.length_nil, Nat.zero_add, l1, l2, lcGo, g_nm, wipeR, List.set_cons_zero, List.set_cons_succ, Out.ofO_some, c_asB, b_add, hz, b_addT, hpre2, b_sub, Int.sub_self, List.reverse_cons, List.reverse_nil, List.nil_append]
    rw [ht, tN, List.map_append]
    rfl
  have hb : decide (0 + ([.tuple [tN ((l ++ [0]).take (k + 1)), .int 0]] : List D).length ≤ lim) = true := by
    show decide (0 + 1 ≤ lim) = true
    decide
  have i1 := ho2 ([some (.val (tN l)), some (.val (.int 0)), some (.val (.list [.tuple [tN ((l ++ [0]).take k), .int 0]])), some (.val (nI k)), x4, x5, x6, x7, x8, x9]) rfl rfl
  have i2 := hr2 ([some (.val (tN l)), some (.val (.int 0)), some (.val (.list [.tuple [tN ((l ++ [0]).take k), .int 0]])), some (.val (nI k)), some (.val (nI o)), x5, x6, x7, x8, x9]) rfl rfl rfl rfl
  simp only [lapB, ex, List.set_cons_zero, List.set_cons_succ, i1, br, g_nm, Out.ofO_some, i2]
  have j1 : ∀ ρ : Ro, ev Γ false (.lst .nil) ρ = .ret (.list []) := fun ρ => rfl
  simp only [j1, br, g_nm, Out.ofO_some, List.set_cons_zero, List.set_cons_succ]
  have j2 : ∀ ρ : Ro, ev Γ false (.var 2) ρ = valOf ρ 2 := fun ρ => rfl
  simp only [j2, v_0, v_s, br, c_itL, forGo, g_pair, Out.ofO_some, List.set_cons_zero, List.set_cons_succ]
  have j3 : ∀ (a b : E) (ρ : Ro), ev Γ false (.bin .add a b) ρ = (ev Γ true a ρ).bind fun x => (ev Γ true b ρ).bind fun y => binD .add x y := fun a b ρ => rfl
  have j4 : ∀ ρ : Ro, ev Γ true (.var 6) ρ = valOf ρ 6 := fun ρ => rfl
  have j5 : ∀ ρ : Ro, ev Γ false (.var 6) ρ = valOf ρ 6 := fun ρ => rfl
  simp only [j3, j4, hlc, v_0, v_s, br, b_addL, List.length_nil, hb, Out.guard_true, List.nil_append, Out.ofO_some, List.set_cons_zero, List.set_cons_succ, forGo, j5]
theorem strips_0 {n : Nat} {l : List Nat} (s : Shp l 40) : cV (n + 2) 11 [tN l, .int 0] = .ret (.list [tN l]) := by
  refine (v_eq (F := d_strips_on) (by decide) rfl rfl).trans ?_
  show (ex (Γ (n + 1)) τ.W d_strips_on.body [some (.val (tN l)), some (.val (.int 0)), none, none, none, none, none, none, none, none]).bind retOf = _
  have hl := s.len
  rw [st_body]
  obtain ⟨ρ2, e2, h2⟩ := forGo_e (g := .nm 3) (body := ex (Γ (n + 1)) τ.W lapB) (R := stR l) (l.length + 1) 0 [some (.val (tN l)), some (.val (.int 0)), some (.val (.list [.tuple [.tuple [], .int 0]])), none, none, none, none, none, none, none] ⟨_, _, _, _, _, _, _, rfl⟩ fun j ρ h1 h2 h3 => by
    obtain ⟨ρ2, e, h⟩ := st_lap (Γ (n + 1)) τ.W s.desc (by omega) (show j < l.length + 1 by omega) h3
    exact ⟨_, ρ2, g_nm, e, h⟩
  rw [show ((0 : Nat) : Int) = 0 from rfl] at e2
  have a1 : ((l.length : Nat) : Int) + 1 = ((l.length + 1 : Nat) : Int) := by omega
  have a2 : small62 ((l.length + 1 : Nat) : Int) = true := sm62 (by omega) (by omega)
  simp only [ex, ev, v_0, v_s, c_cons, c_unt, br, List.length_cons, List.length_nil, Nat.zero_add, l0, l1, l2, Out.guard_true, g_nm, Out.ofO_some, List.set_cons_zero, List.set_cons_succ, t_lenN, b_add, a1, c_asI, a2, Int.toNat_natCast, c_itL, e2]
  obtain ⟨x3, x4, x5, x6, x7, x8, x9, rfl⟩ := h2
  have et : (l ++ [0]).take (0 + (l.length + 1)) = l ++ [0] := List.take_of_length_le (by rw [List.length_append, List.length_singleton]; omega)
  rw [et]
  have hc : (Γ (n + 1)).call 3 [tN (l ++ [0])] = .ret (tN l) := by
    refine (gv _ _ _).trans ((trim_ok (n := n) (by rw [List.length_append, List.length_singleton]; omega)).trans ?_)
    rw [List.filter_append, List.filter_eq_self.mpr fun a ha => by have := s.pos a ha; rw [decide_eq_true_eq]; omega]
    show Out.ret (tN (l ++ [])) = _
    rw [List.append_nil]
  simp only [endB, ex, ev, v_0, v_s, br, c_itL, List.length_cons, List.length_nil, Nat.zero_add, l1, Out.guard_true, lcGo, g_pair, wipeR, List.set_cons_zero, List.set_cons_succ, Out.ofO_some, m_eqI, decide_true, c_asB, c_cons, c_unt, hc, List.reverse_cons, List.reverse_nil, List.nil_append, retOf]
theorem strips_one {n : Nat} {l : List Nat} (s : Shp l 40) : cX (n + 5) 28 [tN l, .int 0] = .ret (.tuple [.tuple [tN l]]) := by
  refine (x_eq (F := d_with_strips) (by decide) rfl (by decide +kernel) rfl).trans ?_
  show (ex (Γ (n + 4)) τ.W d_with_strips.body [some (.val (tN l)), some (.val (.int 0))]).bind retX = _
  have h1 : (Γ (n + 4)).callx 27 [tN l, .int 0] = .ret (.tuple [.none]) := (gx _ _ _).trans (strip_0 (n := n) s)
  have h2 : (Γ (n + 4)).call 11 [tN l, .int 0] = .ret (.list [tN l]) := (gv _ _ _).trans (strips_0 (n := n + 2) s)
  have h3 : bltD .tuple [.list [tN l]] = .ret (.tuple [tN l]) := rfl
  simp only [d_with_strips, ex, ev, v_0, v_s, c_cons, c_unt, br, h1, unX_t, h2, h3, retX]
/-! ### sums_along, lighter_at, heavier -/
def suB : S := (.seq (.asg (.nm 3) (.bin .add (.var 3) (.ite (.cmp .lt (.var 4) (.blt .len (.cons (.var 0) .nil))) (.idx (.var 0) (.var 4)) (.con (.int 0))))) (.seq (.app 2 (.var 3)) .nil))
theorem su_body : d_sums_along.body = (.seq (.own 2 (.lst .nil)) (.seq (.asg (.nm 3) (.con (.int 0))) (.seq (.for_ (.nm 4) (.rng1 (.var 1)) suB) (.seq (.frz 2) (.seq (.ret (.var 2)) .nil))))) := rfl
def sumS (l : List Nat) (m : Nat) : List Nat := (List.range m).map fun j => (l.take (j + 1)).sum
def suR (l : List Nat) (m : Nat) (k : Nat) (ρ : Ro) : Prop := ∃ x4 : Option Sl, ρ = [some (.val (tN l)), some (.val (nI m)), some (.own ((sumS l k).map nI)), some (.val (nI (l.take k).sum)), x4]
theorem su_lap (Γ : Ev.Env) (W : Nat) {l : List Nat} {m k : Nat} (hk : k < 1000) {ρ : Ro} (h : suR l m k ρ) : ∃ ρ2, ex Γ W suB (ρ.set 4 (some (.val (nI k)))) = .ret (.nx ρ2) ∧ suR l m (k + 1) ρ2 := by
  obtain ⟨x4, rfl⟩ := h
  have i1 : ∀ ρ' : Ro, valOf ρ' 0 = .ret (tN l) → valOf ρ' 4 = .ret (nI k) → ev Γ true (.ite (.cmp .lt (.var 4) (.blt .len (.cons (.var 0) .nil))) (.idx (.var 0) (.var 4)) (.con (.int 0))) ρ' = .ret (nI (l.getD k 0)) := fun ρ' h0 h4 => by
    by_cases q : k < l.length
    · simp only [ev, h0, h4, c_cons, c_unt, br, t_lenN, m_lt, ltI, decide_eq_true q, c_asB, ix_nat q, List.getD_eq_getElem?_getD, List.getElem?_eq_getElem q, Option.getD_some]
    · simp only [ev, h0, h4, c_cons, c_unt, br, t_lenN, m_lt, ltI, decide_eq_false q, c_asB, List.getD_eq_getElem?_getD, List.getElem?_eq_none (Nat.not_lt.mp q), Option.getD_none]
      rfl
  have hs : (l.take (k + 1)).sum = (l.take k).sum + l.getD k 0 := by
    rw [List.take_succ, List.sum_append, List.getD_eq_getElem?_getD]
    cases l[k]? <;> simp
  have hc : ((l.take k).sum : Int) + (l.getD k 0 : Int) = (((l.take (k + 1)).sum : Nat) : Int) := by rw [hs]; omega
  have hlen : decide (((sumS l k).map nI).length < lim) = true := decide_eq_true (by rw [List.length_map, sumS, List.length_map, List.length_range]; unfold lim; omega)
  have hA : (sumS l k).map nI ++ [nI (l.take (k + 1)).sum] = (sumS l (k + 1)).map nI := by
    rw [sumS, sumS, List.range_succ, List.map_append, List.map_append]
    rfl
  refine ⟨[some (.val (tN l)), some (.val (nI m)), some (.own ((sumS l (k + 1)).map nI)), some (.val (nI (l.take (k + 1)).sum)), some (.val (nI k))], ?_, ⟨_, rfl⟩⟩
  have i2 := i1 [some (.val (tN l)), some (.val (nI m)), some (.own ((sumS l k).map nI)), some (.val (nI (l.take k).sum)), some (.val (nI k))] rfl rfl
  have j3 : ∀ (a b : E) (ρ : Ro), ev Γ false (.bin .add a b) ρ = (ev Γ true a ρ).bind fun x => (ev Γ true b ρ).bind fun y => binD .add x y := fun a b ρ => rfl
  have j4 : ∀ (r : Bool) (ρ : Ro), ev Γ r (.var 3) ρ = valOf ρ 3 := fun r ρ => rfl
  have j5 : ∀ (ρ : Ro) (a b : Option Sl) (xs : List D), ownOf (a :: b :: some (.own xs) :: ρ) 2 = .ret xs := fun _ _ _ _ => rfl
  simp only [suB, ex, List.set_cons_zero, List.set_cons_succ, j3, j4, v_0, v_s, br, i2, b_add, hc, g_nm, Out.ofO_some, j5, hlen, Out.guard_true, hA]
theorem sums_ok {n : Nat} {l : List Nat} {m : Nat} (h : m ≤ 1000) : cV (n + 1) 13 [tN l, nI m] = .ret (.list ((sumS l m).map nI)) := by
  refine (v_eq (F := d_sums_along) (by decide) rfl rfl).trans ?_
  show (ex (Γ n) τ.W d_sums_along.body [some (.val (tN l)), some (.val (nI m)), none, none, none]).bind retOf = _
  rw [su_body]
  obtain ⟨ρ2, e2, h2⟩ := forGo_e (g := .nm 4) (body := ex (Γ n) τ.W suB) (R := suR l m) m 0 [some (.val (tN l)), some (.val (nI m)), some (.own []), some (.val (.int 0)), none] ⟨_, rfl⟩ fun j ρ h1 h2 h3 => by
    obtain ⟨ρ2, e, h⟩ := su_lap (Γ n) τ.W (show j < 1000 by omega) h3
    exact ⟨_, ρ2, g_nm, e, h⟩
  rw [show ((0 : Nat) : Int) = 0 from rfl] at e2
  have j5 : ∀ (ρ : Ro) (a b : Option Sl) (xs : List D), ownOf (a :: b :: some (.own xs) :: ρ) 2 = .ret xs := fun _ _ _ _ => rfl
  obtain ⟨x4, rfl⟩ := h2
  simp only [ex, ev, v_0, v_s, c_unt, br, List.length_nil, l0, Out.guard_true, as_list, List.set_cons_zero, List.set_cons_succ, g_nm, Out.ofO_some, c_asI, sm62 (show (-1000000 : Int) ≤ (m : Int) by omega) (show (m : Int) ≤ 1000000 by omega), Int.toNat_natCast, c_itL, e2, j5, Nat.zero_add, retOf]
end K07

set_option Elab.async false
set_option linter.all false
set_option maxRecDepth 1000000
set_option maxHeartbeats 4000000
namespace K07
open PySem L2 Ev
/-! ### lighter_at for one row of forty -/
theorem forGo_m {α : Type} {g : Tg} {body : Ro → Out Fl} {f : α → D} {R : Ro → Prop} : ∀ (xs : List α) (ρ : Ro), R ρ → (∀ x ∈ xs, ∀ ρ, R ρ → ∃ ρ1 ρ2, asgG g (f x) ρ = some ρ1 ∧ body ρ1 = .ret (.nx ρ2) ∧ R ρ2) → ∃ ρ2, forGo g body (xs.map f) ρ = .ret (.nx ρ2) ∧ R ρ2
  | [], ρ, h, _ => ⟨ρ, rfl, h⟩
  | x :: r, ρ, h, hb => by
    obtain ⟨ρ1, ρ2, e, hx, h2⟩ := hb x List.mem_cons_self ρ h
    obtain ⟨ρ3, h3, h4⟩ := forGo_m r ρ2 h2 fun y hy => hb y (List.mem_cons_of_mem _ hy)
    refine ⟨ρ3, ?_, h4⟩
    simp only [List.map_cons, forGo, e, Out.ofO_some, br, hx]
    exact h3
theorem sum_take (l : List Nat) (k : Nat) : (l.take k).sum ≤ l.sum := by
  have := congrArg List.sum (List.take_append_drop k l)
  rw [List.sum_append] at this
  omega
def liB : S := .seq (.ife (.cmp .lt (.idx (.var 3) (.var 4)) (.var 5)) (.seq (.ret (.bin .add (.var 4) (.con (.int 1)))) .nil) .nil) .nil
theorem li_body : d_lighter_at.body = (.seq (.asg (.nm 2) (.blt .max (.cons (.blt .len (.cons (.var 0) .nil)) (.cons (.blt .len (.cons (.var 1) .nil)) .nil)))) (.seq (.asg (.nm 3) (.call 13 (.cons (.var 0) (.cons (.var 2) .nil)))) (.seq (.for_ (.cons (.nm 4) (.cons (.nm 5) .nil)) (.enum (.call 13 (.cons (.var 1) (.cons (.var 2) .nil)))) liB) (.seq (.ret (.con .none)) .nil)))) := rfl
theorem lighter_no {n : Nat} {l : List Nat} (s : Shp l 40) : cV (n + 2) 14 [tN [40], tN l] = .ret .none := by
  refine (v_eq (F := d_lighter_at) (by decide) rfl rfl).trans ?_
  show (ex (Γ (n + 1)) τ.W d_lighter_at.body [some (.val (tN [40])), some (.val (tN l)), none, none, none, none]).bind retOf = _
  have hl := s.len
  obtain ⟨m, hm, hm2⟩ : ∃ m : Nat, m ≤ 1000 ∧ (if (l.length : Int) > (([40] : List Nat).length : Int) then (l.length : Int) else (([40] : List Nat).length : Int)) = (m : Int) := by
    by_cases q : (l.length : Int) > (([40] : List Nat).length : Int)
    · exact ⟨l.length, by omega, by rw [if_pos q]⟩
    · exact ⟨1, by omega, by rw [if_neg q]; rfl⟩
  have h1 : (Γ (n + 1)).call 13 [tN [40], nI m] = .ret (.list ((sumS [40] m).map nI)) := (gv _ _ _).trans (sums_ok (n := n) hm)
  have h2 : (Γ (n + 1)).call 13 [tN l, nI m] = .ret (.list ((sumS l m).map nI)) := (gv _ _ _).trans (sums_ok (n := n) hm)
  generalize Γ (n + 1) = Γ' at *
  have e0 : enumL 0 ((sumS l m).map nI) = ((sumS l m).zipIdx 0).map fun p => .tuple [nI p.2, nI p.1] := enum_map nI (sumS l m) 0
  rw [li_body]
  simp only [ex, ev, v_0, v_s, c_cons, c_unt, br, t_lenN, t_max, hm2, g_nm, Out.ofO_some, List.set_cons_zero, List.set_cons_succ, h1, h2, c_itL, e0]
  obtain ⟨ρ2, e2, h3⟩ := forGo_m (g := .cons (.nm 4) (.cons (.nm 5) .nil)) (f := fun p : Nat × Nat => PyData.tuple [nI p.2, nI p.1]) (R := fun ρ => ∃ a b : Option Sl, ρ = [some (.val (tN [40])), some (.val (tN l)), some (.val (nI m)), some (.val (.list ((sumS [40] m).map nI))), a, b])
    (body := ex Γ' τ.W liB) ((sumS l m).zipIdx 0) [some (.val (tN [40])), some (.val (tN l)), some (.val (nI m)), some (.val (.list ((sumS [40] m).map nI))), none, none] ⟨_, _, rfl⟩ fun p hp ρ hρ => by
    obtain ⟨a, b, rfl⟩ := hρ
    obtain ⟨y, k⟩ := p
    obtain ⟨_, k1, k2⟩ := List.mem_zipIdx hp
    have hlm : (sumS l m).length = m := by rw [sumS, List.length_map, List.length_range]
    have hk : k < m := by omega
    have hk4 : k < (sumS [40] m).length := by rw [sumS, List.length_map, List.length_range]; exact hk
    have hi : ixD (.list ((sumS [40] m).map nI)) (.int (k : Nat)) = .ret (.int 40) := by
      show Out.ofO (L2.atI ((sumS [40] m).map nI) (k : Int)) = _
      rw [at_nat hk4]
      have e40 : (sumS [40] m)[k] = 40 := by
        simp [sumS]
      rw [e40]
      rfl
    have hy : y ≤ 40 := by
      have hy : y = (sumS l m)[k]'(by omega) := by simpa using k2
      rw [hy]
      have : (sumS l m)[k]'(by omega) = (l.take (k + 1)).sum := by simp [sumS]
      rw [this]
      exact Nat.le_trans (sum_take l _) s.le
    refine ⟨_, _, g_pair, ?_, ⟨some (.val (nI k)), some (.val (nI y)), rfl⟩⟩
    simp only [liB, List.set_cons_zero, List.set_cons_succ, ex, ev, v_0, v_s, br, hi, m_lt, c_asB, decide_eq_false (show ¬ ((40 : Int) < (y : Int)) by omega)]
  obtain ⟨a, b, rfl⟩ := h3
  simp only [e2, br, retOf]
theorem heavier_ok {n : Nat} {l : List Nat} (s : Shp l 40) (hs : l.sum = 40) : cV (n + 5) 24 [tN [40], tN l] = .ret (.bool true) := by
  refine (v_eq (F := d_heavier) (by decide) rfl rfl).trans ?_
  show (ex (Γ (n + 4)) τ.W d_heavier.body [some (.val (tN [40])), some (.val (tN l))]).bind retOf = _
  have h1 : (Γ (n + 4)).callx 16 [tN [40], tN l] = .ret (.tuple [.none]) := (gx _ _ _).trans (sizes_ok (n := n) sh40 s (by rw [hs]; rfl))
  have h2 : (Γ (n + 4)).call 14 [tN [40], tN l] = .ret .none := (gv _ _ _).trans (lighter_no (n := n + 2) s)
  simp only [d_heavier, ex, ev, v_0, v_s, c_cons, c_unt, br, h1, unX_t, h2, retOf, Bool.not_false]
theorem outer_rows_ok {n : Nat} {l : List Nat} (s : Shp l 40) : cV (n + 4) 21 [tN l] = .ret (tN (outs l)) := by
  refine (v_eq (F := d_outer_rows) (by decide) rfl rfl).trans ?_
  show (ex (Γ (n + 3)) τ.W d_outer_rows.body [some (.val (tN l))]).bind retOf = _
  have h1 : (Γ (n + 3)).callx 2 [tN l, .int 40] = .ret (.tuple [.none]) := (gx _ _ _).trans (check_ok (n := n) s)
  have h2 : (Γ (n + 3)).call 6 [tN l] = .ret (tN (outs l)) := (gv _ _ _).trans (outers_ok (n := n + 2) (by have := s.len; omega))
  simp only [d_outer_rows, ex, ev, v_0, v_s, c_cons, c_unt, g40, Out.ofO_some, br, h1, unX_t, h2, retOf]
/-! ### drawn -/
theorem dip_is (n : Nat) (m : Int) (h0 : 0 < m) (h1 : m < 1073741824) : cV (n + 1) 33 [.dict [], .int m] = .pick m.toNat fun i => .ret (.int i) := by
  show callB τ (n + 1) .val 33 [.dict [], .int m] .bad = _
  unfold callB
  rw [if_pos (show 33 = τ.dip from rfl)]
  show Out.guard _ _ = _
  rw [decide_eq_true h0, decide_eq_true h1]
  rfl
theorem at_get {xs : List D} {k : Nat} (h : k < xs.length) : L2.atI xs (k : Int) = some xs[k] := by
  unfold L2.atI L2.ixN
  simp [h]
theorem of_list {n : Nat} {xs : List D} {P : D → Prop} (h0 : 0 < xs.length) (h1 : xs.length < 1000) (h : ∀ x ∈ xs, P x) : Al P (cV (n + 2) 34 [.dict [], .list xs]) := by
  constructor
  rw [v_eq (F := d_law_of) (by decide) rfl rfl]
  show ((ex (Γ (n + 1)) τ.W d_law_of.body [some (.val (.dict [])), some (.val (.list xs))]).bind retOf).All P
  have h2 : (Γ (n + 1)).call 33 [.dict [], .int xs.length] = .pick xs.length fun i => .ret (.int i) := (gv _ _ _).trans (dip_is n xs.length (by omega) (by omega))
  simp only [d_law_of, ex, ev, v_0, v_s, c_cons, c_unt, Out.All_bind, Out.All_ret, t_lenL, h2, All_pick]
  intro i hi
  have e : ixD (.list xs) (.int i) = .ret xs[i] := by
    show Out.ofO (L2.atI xs (i : Int)) = _
    rw [at_get hi]
    rfl
  rw [e]
  exact h _ (List.getElem_mem hi)
theorem of_tup {n : Nat} {xs : List D} {P : D → Prop} (h0 : 0 < xs.length) (h1 : xs.length < 1000) (h : ∀ x ∈ xs, P x) : Al P (cV (n + 2) 34 [.dict [], .tuple xs]) := by
  constructor
  rw [v_eq (F := d_law_of) (by decide) rfl rfl]
  show ((ex (Γ (n + 1)) τ.W d_law_of.body [some (.val (.dict [])), some (.val (.tuple xs))]).bind retOf).All P
  have h2 : (Γ (n + 1)).call 33 [.dict [], .int xs.length] = .pick xs.length fun i => .ret (.int i) := (gv _ _ _).trans (dip_is n xs.length (by omega) (by omega))
  simp only [d_law_of, ex, ev, v_0, v_s, c_cons, c_unt, Out.All_bind, Out.All_ret, t_lenT, h2, All_pick]
  intro i hi
  have e : ixD (.tuple xs) (.int i) = .ret xs[i] := by
    show Out.ofO (L2.atI xs (i : Int)) = _
    rw [at_get hi]
    rfl
  rw [e]
  exact h _ (List.getElem_mem hi)
/-! ### a drawn shape -/
def lastE : E := .ite (.cmp .ne (.pk 2) (.lst .nil)) (.idx (.pk 2) (.neg (.con (.int 1)))) (.var 3)
def topE : E := .blt .min (.cons (.var 3) (.cons (.call 34 (.cons (.var 0) (.cons (.lst (.cons (.var 3) (.cons (.con (.int 2)) (.cons (.con (.int 4)) (.cons (.con (.int 7)) .nil))))) .nil))) (.cons lastE .nil)))
def fmB : S := (.seq (.ife (.cmp .gt (.var 3) (.con (.int 0))) (.seq (.asg (.nm 5) topE) (.seq (.app 2 (.bin .add (.con (.int 1)) (.call 33 (.cons (.var 0) (.cons (.var 5) .nil))))) (.seq (.asg (.nm 3) (.bin .sub (.var 3) (.idx (.pk 2) (.neg (.con (.int 1)))))) .nil))) .nil) .nil)
theorem fm_body : d_law_form.body = (.seq (.par 2 3 true false (.lst .nil) (.var 1)) (.seq (.for_ (.nm 4) (.rng1 (.var 1)) fmB) (.seq (.ret (.blt .tuple (.cons (.pk 2) .nil))) .nil))) := rfl
abbrev fmS (size : Nat) (l : List Nat) (left : Nat) (x4 x5 : Option Sl) : Ro := [some (.val (.dict [])), some (.val (nI size)), some (.own (l.map nI)), some (.val (nI left)), x4, x5]
def fmR (size k : Nat) (ρ : Ro) : Prop := ∃ (l : List Nat) (x4 x5 : Option Sl), (∀ x ∈ l, 1 ≤ x) ∧ l.Pairwise (· ≥ ·) ∧ l.sum ≤ size ∧ (l.sum = size ∨ l.length = k) ∧ ρ = fmS size l (size - l.sum) x4 x5
theorem at_last {l : List Nat} {y : Nat} (h : l.getLast? = some y) : L2.atI (l.map nI) (-1) = some (nI y) := by
  rw [List.getLast?_eq_getElem?] at h
  have hl : 0 < l.length := by
    rcases Nat.eq_zero_or_pos l.length with e | e
    · rw [List.length_eq_zero_iff] at e; subst e; cases h
    · exact e
  have e : L2.ixN (l.map nI).length (-1) = some (l.length - 1) := by
    unfold L2.ixN
    rw [List.length_map, if_neg (by omega), if_pos (by omega)]
    congr 1
    omega
  unfold L2.atI
  rw [e, Option.bind_some, List.getElem?_map, h]
  rfl
theorem pk_own {a b : Option Sl} {xs : List D} {ρ : Ro} : peekOf (a :: b :: some (.own xs) :: ρ) 2 = .ret (.list xs) := rfl
theorem own_own {a b : Option Sl} {xs : List D} {ρ : Ro} : ownOf (a :: b :: some (.own xs) :: ρ) 2 = .ret xs := rfl
theorem ne_nil (l : List Nat) : cmpD .ne (.list (l.map nI)) (.list []) = .ret (.bool (!l.isEmpty)) := by
  show Out.guard (SeqAt.shaped (.list (l.map nI)) && SeqAt.shaped (.list (([] : List Nat).map nI))) (Out.ret (PyData.bool (!PyData.eqv (.list (l.map nI)) (.list [])))) = _
  rw [shp_L, shp_L, Bool.and_self, Out.guard_true]
  cases l with
  | nil => rfl
  | cons x r =>
    simp [PyData.eqv, PyData.eqvAll]
theorem last_ev (Γ : Ev.Env) {size left : Nat} {l : List Nat} {x4 x5 : Option Sl} : ev Γ true lastE (fmS size l left x4 x5) = .ret (nI (l.getLast?.getD left)) := by
  have j1 : ∀ ρ : Ro, ev Γ true (.lst .nil) ρ = .ret (.list []) := fun ρ => rfl
  have j2 : (-1 : Int) = -1 := rfl
  have j3 : ∀ ρ : Ro, ev Γ true (.neg (.con (.int 1))) ρ = .ret (.int (-1)) := fun ρ => rfl
  unfold lastE
  rw [show ∀ (c a b : E) (ρ : Ro), ev Γ true (.ite c a b) ρ = (ev Γ true c ρ).bind fun x => (asBool x).bind fun
    | true => ev Γ true a ρ
    | false => ev Γ true b ρ from fun _ _ _ _ => rfl]
  rw [show ∀ (o : Cop) (a b : E) (ρ : Ro), ev Γ true (.cmp o a b) ρ = (ev Γ true a ρ).bind fun x => (ev Γ true b ρ).bind fun y => cmpD o x y from fun _ _ _ _ => rfl]
  rw [show ev Γ true (.pk 2) (fmS size l left x4 x5) = .ret (.list (l.map nI)) from rfl, br, j1, br, ne_nil, br, c_asB, br]
  cases e : l.getLast? with
  | none =>
    rw [List.getLast?_eq_none_iff] at e
    subst e
    rfl
  | some y =>
    have e2 : l.isEmpty = false := by
      cases l with
      | nil => cases e
      | cons a r => rfl
    rw [e2]
    show (ev Γ true (.pk 2) _).bind _ = _
    rw [show ev Γ true (.pk 2) (fmS size l left x4 x5) = .ret (.list (l.map nI)) from rfl, br, j3, br]
    show Out.ofO (L2.atI (l.map nI) (-1)) = _
    rw [at_last e]
    rfl
theorem t_min3 (i j k : Int) : bltD .min [.int i, .int j, .int k] = .ret (.int (if k < (if j < i then j else i) then k else (if j < i then j else i))) := rfl
theorem top_ev (Γ : Ev.Env) {size left : Nat} (hl : 0 < left) {l : List Nat} (hp : ∀ x ∈ l, 1 ≤ x) {x4 x5 : Option Sl} (h34 : ∀ P : D → Prop, (∀ x ∈ [nI left, .int 2, .int 4, .int 7], P x) → Al P (Γ.call 34 [.dict [], .list [nI left, .int 2, .int 4, .int 7]])) :
    Al (fun d => ∃ t : Nat, 1 ≤ t ∧ t ≤ left ∧ (∀ y, l.getLast? = some y → t ≤ y) ∧ d = nI t) (ev Γ false topE (fmS size l left x4 x5)) := by
  constructor
  have l4 : decide (0 + 1 + 1 + 1 + 1 ≤ lim) = true := by decide
  have hq := h34 (fun d => ∃ w : Nat, 1 ≤ w ∧ d = nI w) fun x hx => by
    simp only [List.mem_cons, List.not_mem_nil, or_false] at hx
    rcases hx with rfl | rfl | rfl | rfl
    · exact ⟨left, hl, rfl⟩
    · exact ⟨2, by omega, rfl⟩
    · exact ⟨4, by omega, rfl⟩
    · exact ⟨7, by omega, rfl⟩
  have hle := last_ev Γ (size := size) (left := left) (l := l) (x4 := x4) (x5 := x5)
  have hz : 1 ≤ l.getLast?.getD left := by
    cases e : l.getLast? with
    | none => exact hl
    | some y => exact hp y (List.mem_of_getLast? e)
  generalize hzz : l.getLast?.getD left = z at *
  unfold topE
  simp only [ev, hle, v_0, v_s, c_cons, c_unt, Out.All_bind, Out.All_ret, Out.All_guard, List.length_cons, List.length_nil, l4, true_and]
  refine hq.h.mono ?_
  rintro d ⟨w, hw, rfl⟩
  simp only [hle, c_cons, c_unt, Out.All_bind, Out.All_ret, t_min3]
  refine ⟨if z < (if w < left then w else left) then z else (if w < left then w else left), ?_, ?_, ?_, ?_⟩
  · split <;> split <;> omega
  · split <;> split <;> omega
  · intro y hy
    rw [hy, Option.getD_some] at hzz
    subst hzz
    split <;> split <;> omega
  · congr 1
    split <;> split <;> split <;> (try split) <;> omega
end K07

set_option Elab.async false
set_option linter.all false
set_option maxRecDepth 1000000
set_option maxHeartbeats 4000000
namespace K07
open PySem L2 Ev
theorem fm_lap (Γ : Ev.Env) (W : Nat) {size k : Nat} (hs : size ≤ 40) {ρ : Ro} (h : fmR size k ρ)
    (h34 : ∀ (left : Nat) (P : D → Prop), (∀ x ∈ [nI left, .int 2, .int 4, .int 7], P x) → Al P (Γ.call 34 [.dict [], .list [nI left, .int 2, .int 4, .int 7]]))
    (h33 : ∀ t : Nat, 1 ≤ t → t ≤ 40 → Γ.call 33 [.dict [], nI t] = .pick t fun i => .ret (.int i)) :
    Al (NxR (fmR size (k + 1))) (ex Γ W fmB (ρ.set 4 (some (.val (nI k))))) := by
  obtain ⟨l, x4, x5, hp, hd, hsum, hor, rfl⟩ := h
  rw [show (fmS size l (size - l.sum) x4 x5).set 4 (some (.val (nI k))) = fmS size l (size - l.sum) (some (.val (nI k))) x5 from rfl]
  generalize hx4 : (some (Sl.val (nI k))) = y4
  have hlen := len_sum hp
  by_cases q : 0 < size - l.sum
  · have hk : l.length = k := by omega
    have c1 : decide ((0 : Int) < ((size - l.sum : Nat) : Int)) = true := decide_eq_true (by omega)
    constructor
    unfold fmB
    rw [All_seq]
    simp only [ex, ev, v_0, v_s, br, m_gt, c1, c_asB]
    have ht := (top_ev Γ (size := size) q hp (x4 := y4) (x5 := x5) (h34 _)).h
    rw [Out.All_bind, Out.All_bind]
    refine ht.mono ?_
    rintro d ⟨t, t1, t2, t3, rfl⟩
    have hb : decide ((l.map nI).length < lim) = true := decide_eq_true (by rw [List.length_map]; unfold lim; omega)
    simp only [g_nm, Out.ofO_some, br, Out.All_ret, List.set_cons_zero, List.set_cons_succ, own_own, v_0, v_s, c_cons, c_unt, h33 t t1 (by omega), Out.All_bind, All_pick, b_add, hb, Out.All_guard, true_and]
    intro i hi
    have e1 : (1 : Int) + (i : Int) = ((1 + i : Nat) : Int) := by omega
    have e2 : l.map nI ++ [PyData.int (1 + (i : Int))] = (l ++ [1 + i]).map nI := by rw [e1, List.map_append]; rfl
    have e3 : ixD (.list ((l ++ [1 + i]).map nI)) (.int (-1)) = .ret (nI (1 + i)) := by
      show Out.ofO (L2.atI ((l ++ [1 + i]).map nI) (-1)) = _
      rw [at_last (y := 1 + i) (by simp)]
      rfl
    have e4 : ((size - l.sum : Nat) : Int) - ((1 + i : Nat) : Int) = ((size - (l ++ [1 + i]).sum : Nat) : Int) := by
      rw [List.sum_append, List.sum_cons, List.sum_nil]
      omega
    simp only [e2, pk_own, c_asI, e3, b_sub, e4, Out.All_bind, Out.All_ret, Out.All_guard, Out.guard_true, br, g_nm, Out.ofO_some, List.set_cons_zero, List.set_cons_succ]
    refine ⟨_, rfl, l ++ [1 + i], _, _, ?_, ?_, ?_, ?_, rfl⟩
    · intro x hx
      rcases List.mem_append.mp hx with hx | hx
      · exact hp x hx
      · rw [List.mem_singleton] at hx; omega
    · rw [List.pairwise_append]
      refine ⟨hd, List.pairwise_singleton _ _, ?_⟩
      intro a ha b hb
      rw [List.mem_singleton] at hb
      subst hb
      cases e : l.getLast? with
      | none => rw [List.getLast?_eq_none_iff] at e; subst e; cases ha
      | some y =>
        have h5 := t3 y e
        obtain ⟨l', rfl⟩ := List.getLast?_eq_some_iff.mp e
        rcases List.mem_append.mp ha with ha | ha
        · have := (List.pairwise_append.mp hd).2.2 a ha y List.mem_cons_self
          show 1 + i ≤ a
          omega
        · rw [List.mem_singleton] at ha
          show 1 + i ≤ a
          omega
    · rw [List.sum_append, List.sum_cons, List.sum_nil]; omega
    · right; rw [List.length_append, List.length_singleton, hk]
  · have c1 : decide ((0 : Int) < ((size - l.sum : Nat) : Int)) = false := decide_eq_false (by omega)
    constructor
    unfold fmB
    simp only [ex, ev, v_0, v_s, br, m_gt, c1, c_asB, Out.All_ret]
    exact ⟨_, rfl, l, _, _, hp, hd, hsum, Or.inl (by omega), rfl⟩
theorem form_ok {n size : Nat} (hs : size ≤ 40) : Al (fun d => ∃ l, Shp l 40 ∧ l.sum = size ∧ d = tN l) (cV (n + 3) 35 [.dict [], nI size]) := by
  have h34 : ∀ (left : Nat) (P : D → Prop), (∀ x ∈ [nI left, .int 2, .int 4, .int 7], P x) → Al P ((Γ (n + 2)).call 34 [.dict [], .list [nI left, .int 2, .int 4, .int 7]]) := fun left P h => by
    rw [gv]
    exact of_list (n := n) (Nat.succ_pos _) (by show 4 < 1000; omega) h
  have h33 : ∀ t : Nat, 1 ≤ t → t ≤ 40 → (Γ (n + 2)).call 33 [.dict [], nI t] = .pick t fun i => .ret (.int i) := fun t h1 h2 => (gv _ _ _).trans ((dip_is (n + 1) t (by omega) (by omega)).trans (by rw [Int.toNat_natCast]))
  rw [v_eq (F := d_law_form) (by decide) rfl rfl]
  show Al _ ((ex (Γ (n + 2)) τ.W d_law_form.body [some (.val (.dict [])), some (.val (nI size)), none, none, none, none]).bind retOf)
  generalize Γ (n + 2) = Γ' at *
  have hl := forGo_k (g := .nm 4) (body := ex Γ' τ.W fmB) (R := fmR size) size 0 (fmS size [] size none none) ⟨[], none, none, (fun x hx => absurd hx (List.not_mem_nil)), List.Pairwise.nil, Nat.zero_le _, Or.inr rfl, rfl⟩ fun j ρ h1 h2 h3 => ⟨_, g_nm, fm_lap Γ' τ.W hs h3 h34 h33⟩
  rw [show ((0 : Nat) : Int) = 0 from rfl, Nat.zero_add] at hl
  rw [fm_body]
  have p1 : ex Γ' τ.W (.par 2 3 true false (.lst .nil) (.var 1)) [some (.val (.dict [])), some (.val (nI size)), none, none, none, none] = .ret (.nx (fmS size [] size none none)) := rfl
  have p2 : ex Γ' τ.W (.for_ (.nm 4) (.rng1 (.var 1)) fmB) (fmS size [] size none none) = forGo (.nm 4) (ex Γ' τ.W fmB) (rngL 0 size) (fmS size [] size none none) := by
    refine for_eq (d := .list (rngL 0 size)) ?_ rfl
    simp only [ev, v_0, v_s, br, c_asI, sm62 (show (-1000000 : Int) ≤ (size : Int) by omega) (show (size : Int) ≤ 1000000 by omega), Out.guard_true, Int.toNat_natCast]
  constructor
  rw [Out.All_bind]
  rw [All_seq, p1, Out.All_ret]
  show (ex Γ' τ.W (.seq (.for_ (.nm 4) (.rng1 (.var 1)) fmB) _) (fmS size [] size none none)).All _
  rw [All_seq, p2]
  refine hl.h.mono ?_
  rintro fl ⟨ρ, rfl, l, x4, x5, hp, hd, hsum, hor, rfl⟩
  simp only [ex, ev, pk_own, Out.guard_true, c_cons, c_unt, br, Out.All_bind, Out.All_ret]
  have hlen := len_sum hp
  exact ⟨l, ⟨hp, hd, by omega⟩, by omega, rfl⟩
/-! ### caught -/
theorem lam_bind (n : Nat) (a : Out D) : cA (n + 1) a = a.bind fun d => cA (n + 1) (.ret d) := by
  have e : ∀ a, cA (n + 1) a = (ex (gam τ n a) τ.W d_law_caught.body [some .act, none, none, none]).bind retOf := fun a => by
    show callB τ (n + 1) .act 37 [.none] a = _
    rw [callB_eq (F := d_law_caught) (by decide) rfl (by decide +kernel)]
    rfl
  have hc : ∀ (a : Out D) f ds, (gam τ n a).call f ds = callB τ n .val f ds .bad := fun _ _ _ => rfl
  have ha : ∀ a : Out D, (gam τ n a).act = a := fun _ => rfl
  have hs : ∀ ρ : Ro, slot (some .act :: ρ) 0 = .ret .act := fun _ => rfl
  simp only [e, d_law_caught, ex, ev, hs, br, ha, hc, Out.bind_assoc]
theorem caught_gave {n : Nat} (d : D) : cA (n + 1) (.ret (.tuple [d])) = .ret (.tuple [.str "gave", d]) := by
  have e : cA (n + 1) (.ret (.tuple [d])) = (ex (gam τ n (.ret (.tuple [d]))) τ.W d_law_caught.body [some .act, none, none, none]).bind retOf := by
    show callB τ (n + 1) .act 37 [.none] _ = _
    rw [callB_eq (F := d_law_caught) (by decide) rfl (by decide +kernel)]
    rfl
  rw [e]
  rfl
theorem caught_c : (retIs (cA 7 (.ret (xcD 201 "limit" (.int 40)))) (.tuple [.str "many", .str "40"]) && (retIs (cA 7 (.ret (xcD 88 "given" (.int 41)))) (.tuple [.str "row", .str "41"]) && (retIs (cA 7 (.ret (xcD 130 "given" (.int 9)))) (.tuple [.str "number", .str "9"]) && (retIs (cA 7 (.ret (xc0 168))) (.tuple [.str "sizes", .str ""]) && retIs (cA 7 (cX 7 17 [.int 13])) (.tuple [.str "number", .str "13"]))))) = true := by kernel_rfl
end K07

set_option Elab.async false
set_option linter.all false
set_option maxRecDepth 1000000
set_option maxHeartbeats 4000000
namespace K07
open PySem L2 Ev
def due (l : List Nat) : List D := [.tuple [.str "many", .str "40"], .tuple [.str "row", .str "41"], .tuple [.str "many", .str "40"], .tuple [.str "number", .str "9"], .tuple [.str "gave", .tuple [tN l]], .tuple [.str "sizes", .str ""]]
theorem sok : PyData.strOk "many" = true ∧ PyData.strOk "40" = true ∧ PyData.strOk "row" = true ∧ PyData.strOk "41" = true ∧ PyData.strOk "number" = true ∧ PyData.strOk "9" = true ∧ PyData.strOk "gave" = true ∧ PyData.strOk "sizes" = true ∧ PyData.strOk "" = true := by decide +kernel
theorem lay_due (l : List Nat) : PyData.canLay0 (.list (due l)) = true := by
  obtain ⟨h1, h2, h3, h4, h5, h6, h7, h8, h9⟩ := sok
  simp only [due, PyData.canLay0, PyData.canLayAll0, lay_N, h1, h2, h3, h4, h5, h6, h7, h8, h9, Bool.and_self]
theorem due_ne (l : List Nat) : cmpD .ne (.list (due l)) (.list (due l)) = .ret (.bool false) := by
  have hd : PyData.depth (.list (due l)) ≤ 64 := by
    have := dep_N l
    simp only [due, PyData.depth, PyData.depthAll]
    omega
  have hs : SeqAt.shaped (.list (due l)) = true := by
    show (PyData.canLay0 (.list (due l)) && decide (PyData.depth (.list (due l)) ≤ 64)) = true
    rw [lay_due, decide_eq_true hd]
    rfl
  show Out.guard (SeqAt.shaped (.list (due l)) && SeqAt.shaped (.list (due l))) (Out.ret (PyData.bool (!PyData.eqv (.list (due l)) (.list (due l))))) = _
  rw [hs, SeqAt.eqv_refl _ (lay_due l)]
  rfl
theorem ne_N (l : List Nat) : cmpD .ne (tN l) (tN l) = .ret (.bool false) := by
  show Out.guard (SeqAt.shaped (tN l) && SeqAt.shaped (tN l)) (Out.ret (PyData.bool (!PyData.eqv (tN l) (tN l)))) = _
  rw [shp_N, eqv_N]
  rfl
theorem eq_13 : cmpD .eq (.tuple [.str "number", .str "13"]) (.tuple [.str "number", .str "13"]) = .ret (.bool true) := by
  have h : retIs (cmpD .eq (.tuple [.str "number", .str "13"]) (.tuple [.str "number", .str "13"])) (.bool true) = true := by kernel_rfl
  exact retIs_eq h
abbrev retT (fl : Fl) : Prop := fl = .rt (.bool true)
theorem pk3 {a b c : Option Sl} {xs : List D} {ρ : Ro} : peekOf (a :: b :: c :: some (.own xs) :: ρ) 3 = .ret (.list xs) := rfl
theorem own3 {a b c : Option Sl} {xs : List D} {ρ : Ro} : ownOf (a :: b :: c :: some (.own xs) :: ρ) 3 = .ret xs := rfl
theorem lk2 : decide (0 + 1 + 1 ≤ lim) = true := by decide
theorem lk6 : decide (0 + 1 + 1 + 1 + 1 + 1 + 1 ≤ lim) = true := by decide
theorem la1 : decide (0 + 1 < lim) = true := by decide
theorem la2 : decide (0 + 1 + 1 < lim) = true := by decide
theorem la3 : decide (0 + 1 + 1 + 1 < lim) = true := by decide
theorem la4 : decide (0 + 1 + 1 + 1 + 1 < lim) = true := by decide
theorem la5 : decide (0 + 1 + 1 + 1 + 1 + 1 < lim) = true := by decide
theorem ist_t (Γ : Ev.Env) (e : E) (ρ : Ro) (h : ev Γ true e ρ = .ret (.bool true)) : ev Γ true (.ist true e true) ρ = .ret (.bool false) := by
  show (ev Γ true e ρ).bind _ = _
  rw [h]
  rfl
theorem l2' : decide (1 + 1 ≤ lim) = true := by decide
theorem l6' : decide (1 + 1 + 1 + 1 + 1 + 1 ≤ lim) = true := by decide
theorem seq_ret {Γ : Ev.Env} {W : Nat} {s r : S} {ρ ρ1 : Ro} {P : Fl → Prop} (h : ex Γ W s ρ = .ret (.nx ρ1)) (k : Al P (ex Γ W r ρ1)) : Al P (ex Γ W (.seq s r) ρ) := by
  constructor
  rw [All_seq, h, Out.All_ret]
  exact k.h
theorem app_lam {Γ : Ev.Env} {W : Nat} {e : E} {a b c x : Option Sl} {xs : List D} {d : D} (hl : xs.length < lim) (h : ev Γ false e [a, b, c, some (.own xs), x] = .ret d) : ex Γ W (.app 3 e) [a, b, c, some (.own xs), x] = .ret (.nx [a, b, c, some (.own (xs ++ [d])), x]) := by
  simp only [ex, own3, h, br, decide_eq_true hl, Out.guard_true, List.set_cons_zero, List.set_cons_succ]
theorem or_ff {Γ : Ev.Env} {r : Bool} {a b : E} {ρ : Ro} (h1 : ev Γ true a ρ = .ret (.bool false)) (h2 : ev Γ true b ρ = .ret (.bool false)) : ev Γ r (.or a b) ρ = .ret (.bool false) := by
  simp only [ev, h1, h2, br, c_asB]
theorem and_tt {Γ : Ev.Env} {r : Bool} {a b : E} {ρ : Ro} (h1 : ev Γ true a ρ = .ret (.bool true)) (h2 : ev Γ true b ρ = .ret (.bool true)) : ev Γ r (.and a b) ρ = .ret (.bool true) := by
  simp only [ev, h1, h2, br, c_asB]
theorem ife_f {Γ : Ev.Env} {W : Nat} {c : E} {a : S} {ρ : Ro} (h : ev Γ true c ρ = .ret (.bool false)) : ex Γ W (.ife c a .nil) ρ = .ret (.nx ρ) := by
  simp only [ex, h, br, c_asB]
theorem full_core (Γ : Ev.Env) (W : Nat) (L : D → Out D) (hL : ∀ a, Γ.lam 37 a = a.bind L)
    (h35 : Al (fun d => ∃ l, Shp l 40 ∧ l.sum = 40 ∧ d = tN l) (Γ.call 35 [.dict [], .int 40]))
    (h21 : ∀ l, Shp l 40 → Γ.call 21 [tN l] = .ret (tN (outs l)))
    (h34 : ∀ l, Shp l 40 → Al (fun d => ∃ r, r ∈ outs l ∧ d = nI r) (Γ.call 34 [.dict [], tN (outs l)]))
    (x22 : ∀ l, Shp l 40 → l.sum = 40 → ∀ r ∈ outs l, Γ.callx 22 [tN l, nI r] = .ret (xcD 201 "limit" (.int 40)))
    (x22b : ∀ l, Shp l 40 → Γ.callx 22 [tN l, .int 41] = .ret (xcD 88 "given" (.int 41)))
    (x28 : ∀ l, Shp l 40 → l.sum = 40 → Γ.callx 28 [tN l, .int 1] = .ret (xcD 201 "limit" (.int 40)))
    (x29 : ∀ l, Shp l 40 → Γ.callx 29 [tN l, .int 9] = .ret (xcD 130 "given" (.int 9)))
    (x28b : ∀ l, Shp l 40 → Γ.callx 28 [tN l, .int 0] = .ret (.tuple [.tuple [tN l]]))
    (x24 : ∀ l, Shp l 40 → l.sum = 40 → Γ.callx 24 [tN l, tN [39]] = .ret (xc0 168))
    (h18 : ∀ l, Shp l 40 → Γ.call 18 [tN l] = .ret (tN (cj l)))
    (h24 : ∀ l, Shp l 40 → l.sum = 40 → Γ.call 24 [tN [40], tN l] = .ret (.bool true))
    (x17 : (Γ.callx 17 [.int 13]).bind L = .ret (.tuple [.str "number", .str "13"]))
    (h17 : (Γ.call 17 [.int 12]).bind (fun d => bltD .len [d]) = .ret (.int 77))
    (l1 : L (xcD 201 "limit" (.int 40)) = .ret (.tuple [.str "many", .str "40"])) (l2 : L (xcD 88 "given" (.int 41)) = .ret (.tuple [.str "row", .str "41"])) (l3 : L (xcD 130 "given" (.int 9)) = .ret (.tuple [.str "number", .str "9"])) (l4 : L (xc0 168) = .ret (.tuple [.str "sizes", .str ""])) (l5 : ∀ d, L (.tuple [d]) = .ret (.tuple [.str "gave", d])) :
    Al retT (ex Γ W d_law_full_right.body [some (.val (.dict [])), none, none, none, none]) := by
  have hlam : ∀ (e : E) (ρ : Ro) (r : Bool) (w d : D), ev Γ false e (valR ρ) = .ret w → L w = .ret d → ev Γ r (.lam 37 false e) ρ = .ret d := fun e ρ r w d h1 h2 => by
    show Γ.lam 37 (ev Γ false e (valR ρ)) = _
    rw [h1, hL]
    exact h2
  unfold d_law_full_right
  refine Al.seq _ (Al.asg (Q := fun d => ∃ l, Shp l 40 ∧ l.sum = 40 ∧ d = tN l) (Al.call (ds := [.dict [], .int 40]) rfl h35)) ?_
  rintro ρ ⟨d, ⟨l, s, hs, rfl⟩, rfl⟩
  have e39 : (PyData.tuple [.int 39]) = tN [39] := rfl
  have e40 : (PyData.tuple [.int 40]) = tN [40] := rfl
  refine seq_ret (ρ1 := [some (.val (.dict [])), some (.val (tN l)), some (.val (tN (outs l))), none, none]) ?_ ?_
  · simp only [ex, ev, v_0, v_s, c_cons, c_unt, br, List.set_cons_zero, List.set_cons_succ, h21 l s, g_nm, Out.ofO_some]
  refine Al.seq (fun ρ => ρ = [some (.val (.dict [])), some (.val (tN l)), some (.val (tN (outs l))), some (.own [.tuple [.str "many", .str "40"]]), none]) ?_ ?_
  · constructor
    have hx : ∀ ρ : Ro, ev Γ false (.lam 37 false (.xcall 22 (.cons (.var 1) (.cons (.call 34 (.cons (.var 0) (.cons (.var 2) .nil))) .nil)))) ρ = (ev Γ false (.xcall 22 (.cons (.var 1) (.cons (.call 34 (.cons (.var 0) (.cons (.var 2) .nil))) .nil))) (valR ρ)).bind L := fun ρ => hL _
    have hown : ∀ (e : E) (ρ : Ro) (P : Fl → Prop), ((ev Γ false e ρ).All fun d => (Out.ret (Fl.nx (ρ.set 3 (some (.own [d]))))).All P) → (ex Γ W (.own 3 (.lst (.cons e .nil))) ρ).All P := fun e ρ P h => by
      simp only [ex, ev]
      rw [Out.All_bind, Out.All_bind, Out.All_bind]
      refine h.mono fun d h => ?_
      simp only [br, c_cons, Out.All_ret, c_unt, List.length_cons, List.length_nil, Nat.zero_add, K07.l1, Out.guard_true, as_list]
      exact h
    refine hown _ _ _ ?_
    rw [hx, Out.All_bind]
    simp only [ev, vr_cons, vr_nil, vs_val, vs_none, v_0, v_s, br, c_cons, c_unt, Out.All_bind, Out.All_ret]
    refine (h34 l s).h.mono ?_
    rintro d ⟨r, hr, rfl⟩
    simp only [c_cons, c_unt, Out.All_ret, x22 l s hs r hr, l1]
    exact ⟨_, rfl, rfl⟩
  rintro ρ rfl
  refine seq_ret (app_lam (d := .tuple [.str "row", .str "41"]) (by decide) (hlam _ _ _ _ _ ?_ l2)) ?_
  · simp only [ev, vr_cons, vr_nil, vs_val, vs_own, vs_none, v_0, v_s, br, c_cons, c_unt, x22b l s]
  refine seq_ret (app_lam (d := .tuple [.str "many", .str "40"]) (by decide) (hlam _ _ _ _ _ ?_ l1)) ?_
  · simp only [ev, vr_cons, vr_nil, vs_val, vs_own, vs_none, v_0, v_s, br, c_cons, c_unt, x28 l s hs]
  refine seq_ret (app_lam (d := .tuple [.str "number", .str "9"]) (by decide) (hlam _ _ _ _ _ ?_ l3)) ?_
  · simp only [ev, vr_cons, vr_nil, vs_val, vs_own, vs_none, v_0, v_s, br, c_cons, c_unt, x29 l s]
  refine seq_ret (app_lam (d := .tuple [.str "gave", .tuple [tN l]]) (by decide) (hlam _ _ _ _ _ ?_ (l5 _))) ?_
  · have q := x28b l s
    simp only [ev, vr_cons, vr_nil, vs_val, vs_own, vs_none, v_0, v_s, br, c_cons, c_unt, q]
  refine seq_ret (app_lam (d := .tuple [.str "sizes", .str ""]) (by show 5 < lim; decide) (hlam _ _ _ _ _ ?_ l4)) ?_
  · have q := x24 l s hs
    simp only [ev, vr_cons, vr_nil, vs_val, vs_own, vs_none, v_0, v_s, br, c_cons, c_unt, List.length_cons, List.length_nil, Nat.zero_add, K07.l1, Out.guard_true]
    exact q
  refine seq_ret (ρ1 := [some (.val (.dict [])), some (.val (tN l)), some (.val (tN (outs l))), some (.own (due l)), some (.val (.list (due l)))]) ?_ ?_
  · simp only [ex, ev, v_0, v_s, c_cons, c_unt, br, List.length_cons, List.length_nil, K07.l1, lk2, lk6, Nat.zero_add, l2', l6', Out.guard_true, g_nm, Out.ofO_some, List.set_cons_zero, List.set_cons_succ, List.cons_append, List.nil_append]
    rfl
  refine seq_ret (ρ1 := [some (.val (.dict [])), some (.val (tN l)), some (.val (tN (outs l))), some (.own (due l)), some (.val (.list (due l)))]) ?_ ?_
  · have n1 : ev Γ true (.cmp .ne (.pk 3) (.var 4)) [some (.val (.dict [])), some (.val (tN l)), some (.val (tN (outs l))), some (.own (due l)), some (.val (.list (due l)))] = .ret (.bool false) := by
      simp only [ev, pk3, Out.guard_true, v_0, v_s, br, due_ne]
    have n2 : ev Γ true (.cmp .ne (.call 18 (.cons (.call 18 (.cons (.var 1) .nil)) .nil)) (.var 1)) [some (.val (.dict [])), some (.val (tN l)), some (.val (tN (outs l))), some (.own (due l)), some (.val (.list (due l)))] = .ret (.bool false) := by
      simp only [ev, v_0, v_s, c_cons, c_unt, br, h18 l s, h18 _ (cj_shp s), cj_cj s.pos s.desc, ne_N]
    have n3 : ev Γ true (.ist true (.call 24 (.cons (.tup (.cons (.con (.int 40)) .nil)) (.cons (.var 1) .nil))) true) [some (.val (.dict [])), some (.val (tN l)), some (.val (tN (outs l))), some (.own (due l)), some (.val (.list (due l)))] = .ret (.bool false) := by
      refine ist_t Γ _ _ ?_
      simp only [ev, v_0, v_s, c_cons, c_unt, br, List.length_cons, List.length_nil, Nat.zero_add, K07.l1, Out.guard_true]
      exact h24 l s hs
    exact ife_f (or_ff n1 (or_ff n2 n3))
  constructor
  have n4 : ∀ ρ : Ro, ev Γ true (.cmp .eq (.lam 37 false (.xcall 17 (.cons (.con (.int 13)) .nil))) (.tup (.cons (.con (.str "number")) (.cons (.con (.str "13")) .nil)))) ρ = .ret (.bool true) := fun ρ => by
    have k1 : ev Γ true (.lam 37 false (.xcall 17 (.cons (.con (.int 13)) .nil))) ρ = .ret (.tuple [.str "number", .str "13"]) := (hL _).trans x17
    have k2 : ev Γ true (.tup (.cons (.con (.str "number")) (.cons (.con (.str "13")) .nil))) ρ = .ret (.tuple [.str "number", .str "13"]) := rfl
    show (ev Γ true (.lam 37 false (.xcall 17 (.cons (.con (.int 13)) .nil))) ρ).bind (fun x => (ev Γ true (.tup (.cons (.con (.str "number")) (.cons (.con (.str "13")) .nil))) ρ).bind fun y => cmpD .eq x y) = _
    rw [k1, br, k2, br, eq_13]
  have n5 : ∀ ρ : Ro, ev Γ true (.cmp .eq (.blt .len (.cons (.call 17 (.cons (.con (.int 12)) .nil)) .nil)) (.con (.int 77))) ρ = .ret (.bool true) := fun ρ => by
    have k1 : ev Γ true (.blt .len (.cons (.call 17 (.cons (.con (.int 12)) .nil)) .nil)) ρ = .ret (.int 77) := by
      rw [← h17]
      show ((Γ.call 17 [.int 12]).bind fun x => (Out.ret (.tuple [])).bind fun y => consD x y).bind (fun x => (unTup x).bind fun xs => bltD .len xs) = _
      rw [Out.bind_assoc]
      rfl
    show (ev Γ true (.blt .len (.cons (.call 17 (.cons (.con (.int 12)) .nil)) .nil)) ρ).bind (fun x => (ev Γ true (.con (.int 77)) ρ).bind fun y => cmpD .eq x y) = _
    rw [k1, br]
    exact (m_eqI 77 77)
  rw [show ∀ (a b : E) (ρ : Ro), ex Γ W (.seq (.ret (.and a b)) .nil) ρ = ((ev Γ false (.and a b) ρ).bind fun d => Out.ret (Fl.rt d)).bind (fun
    | .nx ρ1 => .ret (.nx ρ1)
    | f => .ret f) from fun _ _ _ => rfl]
  rw [and_tt (n4 _) (n5 _)]
  rfl
end K07

set_option Elab.async false
set_option linter.all false
set_option maxRecDepth 1000000
set_option maxHeartbeats 400000
namespace K07
open PySem L2 Ev
theorem shapes_7 : retIs ((callB τ 7 .val 17 [.int 12] .bad).bind fun d => bltD .len [d]) (.int 77) = true := by kernel_rfl
theorem full_ok : Al retT (ex (Γ 7) τ.W d_law_full_right.body [some (.val (.dict [])), none, none, none, none]) := by
  have q := caught_c
  simp only [Bool.and_eq_true] at q
  obtain ⟨q1, q2, q3, q4, q5⟩ := q
  refine full_core (Γ 7) τ.W (fun d => cA 7 (.ret d)) (fun a => (gl _ _ _).trans (lam_bind 6 a)) ?_ ?_ ?_ ?_ ?_ ?_ ?_ ?_ ?_ ?_ ?_ ?_ ?_ ?_ ?_ ?_ ?_ ?_
  · rw [gv]
    exact form_ok (n := 4) (size := 40) (Nat.le_refl _)
  · exact fun l s => (gv _ _ _).trans (outer_rows_ok (n := 3) s)
  · intro l s
    rw [gv]
    exact of_tup (n := 5) (by rw [List.length_map]; exact outs_pos l) (by rw [List.length_map]; have := outs_len l; have := s.len; omega) fun x hx => by
      obtain ⟨r, hr, rfl⟩ := List.mem_map.mp hx
      exact ⟨r, hr, rfl⟩
  · exact fun l s hs r hr => (gx _ _ _).trans (with_box_many (n := 3) s hs hr)
  · exact fun l s => (gx _ _ _).trans (with_box_41 (n := 3) s)
  · exact fun l s hs => (gx _ _ _).trans (strips_many (n := 2) s hs)
  · exact fun l s => (gx _ _ _).trans (columns_9 (n := 2) s)
  · exact fun l s => (gx _ _ _).trans (strips_one (n := 2) s)
  · exact fun l s hs => (gx _ _ _).trans (heavier_no (n := 2) s hs)
  · exact fun l s => (gv _ _ _).trans (flipped_ok (n := 3) s)
  · exact fun l s hs => (gv _ _ _).trans (heavier_ok (n := 2) s hs)
  · show (cX 7 17 [.int 13]).bind (fun d => cA 7 (.ret d)) = _
    rw [← lam_bind 6]
    exact retIs_eq q5
  · exact retIs_eq shapes_7
  · exact retIs_eq q1
  · exact retIs_eq q2
  · exact retIs_eq q3
  · exact retIs_eq q4
  · exact fun d => caught_gave d
/-! ### the law's look -/
/-- every answer is True -/
structure Tru (o : Out D) : Prop where
  h : o.All fun d => d = .bool true
theorem tru_of {o : Out Fl} (h : Al retT o) : Tru (o.bind retOf) := by
  constructor
  rw [Out.All_bind]
  refine h.h.mono ?_
  rintro fl rfl
  rfl
theorem full_tru : Tru (cV 8 41 [.dict []]) := by
  rw [v_eq (F := d_law_full_right) (by decide) rfl rfl]
  exact tru_of full_ok
def tup38 : S → S × (S × E)
  | .seq a (.seq b (.seq (.ret (.call _ e)) _)) => (a, b, e)
  | _ => (.nil, .nil, .nil)
theorem od_body : d_law_odd.body = .seq (tup38 d_law_odd.body).1 (.seq (tup38 d_law_odd.body).2.1 (.seq (.ret (.call 34 (tup38 d_law_odd.body).2.2)) .nil)) := rfl
theorem od_1 (Γ : Ev.Env) (W : Nat) : ex Γ W (tup38 d_law_odd.body).1 [some (.val (.dict [])), none] = .ret (.nx [some (.val (.dict [])), some (.val (.list (odds.take 14)))]) := by kernel_rfl
theorem od_2 (Γ : Ev.Env) (W : Nat) : ex Γ W (tup38 d_law_odd.body).2.1 [some (.val (.dict [])), some (.val (.list (odds.take 14)))] = .ret (.nx [some (.val (.dict [])), some (.val (.list (odds.take 20)))]) := by kernel_rfl
theorem od_3 (Γ : Ev.Env) : ev Γ false (tup38 d_law_odd.body).2.2 [some (.val (.dict [])), some (.val (.list (odds.take 20)))] = .ret (.tuple [.dict [], .list odds]) := by kernel_rfl
theorem ret_al {Γ : Ev.Env} {W : Nat} {e : E} {ρ : Ro} {Q : D → Prop} (h : Al Q (ev Γ false e ρ)) : Al (fun fl => ∃ d, Q d ∧ fl = .rt d) (ex Γ W (.seq (.ret e) .nil) ρ) := by
  constructor
  rw [All_seq]
  simp only [ex]
  rw [Out.All_bind]
  refine h.h.mono ?_
  intro d q
  exact ⟨d, q, rfl⟩
theorem rt_al {o : Out Fl} {Q : D → Prop} (h : Al (fun fl => ∃ d, Q d ∧ fl = .rt d) o) : Al Q (o.bind retOf) := by
  constructor
  rw [Out.All_bind]
  refine h.h.mono ?_
  rintro fl ⟨d, q, rfl⟩
  exact q
theorem odd_core (Γ : Ev.Env) (W : Nat) (h : Al (fun d => d ∈ odds) (Γ.call 34 [.dict [], .list odds])) : Al (fun d => d ∈ odds) ((ex Γ W d_law_odd.body [some (.val (.dict [])), none]).bind retOf) := by
  have h1 := od_1 Γ W
  have h2 := od_2 Γ W
  have h3 := od_3 Γ
  refine rt_al ?_
  rw [od_body]
  generalize (tup38 d_law_odd.body).1 = s1 at *
  generalize (tup38 d_law_odd.body).2.1 = s2 at *
  generalize (tup38 d_law_odd.body).2.2 = e at *
  exact seq_ret h1 (seq_ret h2 (ret_al (Al.call h3 h)))
theorem odd_al : Al (fun d => d ∈ odds) (cV 8 38 [.dict []]) := by
  rw [v_eq (F := d_law_odd) (by decide) rfl rfl]
  refine odd_core (Γ 7) τ.W ?_
  rw [gv]
  exact of_list (n := 5) (by decide) (by decide) fun x hx => hx
def badE : E := (.lst (.cons (.con .none) (.cons (.neg (.con (.int 1))) (.cons (.con (.bool true)) (.cons (.con (.bool false)) (.cons (.con (.str "0")) (.cons (.tup (.cons (.con (.int 0)) .nil)) (.cons (.lst (.cons (.con (.int 1)) .nil)) (.cons (.con (dkD [])) (.cons (.bin .pow (.con (.int 10)) (.con (.int 30))) (.cons (.con (.int 99)) .nil)))))))))))
theorem bad_ev (Γ : Ev.Env) (ρ : Ro) : ev Γ false badE ρ = .ret (.list bads) := by kernel_rfl
def Tb (ρ : Ro) : Prop := ∃ x1 x2 x3 : Option Sl, ρ = [some (.val (.dict [])), x1, x2, x3]
theorem rt_body : d_law_right.body = (.seq (.for_ (.nm 1) (.rng1 (.con (.int 6))) (.seq (.wip [1, 2, 3]) (.seq (.asg (.nm 2) (.call 35 (.cons (.var 0) (.cons (.bin .add (.con (.int 1)) (.call 33 (.cons (.var 0) (.cons (.con (.int 12)) .nil)))) .nil)))) (.seq (.ife (.not (.call 39 (.cons (.call 38 (.cons (.var 0) .nil)) .nil))) (.seq (.ret (.con (.bool false))) .nil) .nil) (.seq (.asg (.nm 3) (.call 34 (.cons (.var 0) (.cons badE .nil)))) (.seq (.ife (.not (.call 40 (.cons (.var 2) (.cons (.var 3) .nil)))) (.seq (.ret (.con (.bool false))) .nil) .nil) .nil)))))) (.seq (.wip [1, 2, 3]) (.seq (.ret (.call 41 (.cons (.var 0) .nil))) .nil))) := rfl
theorem right_core (Γ : Ev.Env) (W : Nat) (h33 : Γ.call 33 [.dict [], .int 12] = .pick 12 fun i => .ret (.int i)) (h35 : ∀ size : Nat, size ≤ 40 → Al (fun d => ∃ l, Shp l 40 ∧ d = tN l) (Γ.call 35 [.dict [], nI size]))
    (h38 : Al (fun d => d ∈ odds) (Γ.call 38 [.dict []])) (h39 : ∀ d, d ∈ odds → Γ.call 39 [d] = .ret (.bool true)) (h34 : Al (fun d => d ∈ bads) (Γ.call 34 [.dict [], .list bads])) (h40 : ∀ l, Shp l 40 → ∀ b, b ∈ bads → Γ.call 40 [tN l, b] = .ret (.bool true)) (h41 : Tru (Γ.call 41 [.dict []])) :
    Al retT (ex Γ W d_law_right.body [some (.val (.dict [])), none, none, none]) := by
  rw [rt_body]
  refine Al.seq Tb ?_ ?_
  · refine Al.rng rfl ⟨_, _, _, rfl⟩ ?_
    rintro x ρ ⟨x1, x2, x3, rfl⟩
    refine Al.wip [some (.val (.dict [])), none, none, none] (by simp only [wipeR, List.set_cons_zero, List.set_cons_succ]) ?_
    refine Al.seq _ (Al.asg (Q := fun d => ∃ l, Shp l 40 ∧ d = tN l) ?_) ?_
    · constructor
      simp only [ev, v_0, c_cons, c_unt, br, Out.All_bind, h33, All_pick, b_add, Out.All_ret]
      intro i hi
      have e : (1 : Int) + (i : Int) = ((1 + i : Nat) : Int) := by omega
      rw [e]
      exact (h35 (1 + i) (by omega)).h
    rintro ρ ⟨d, ⟨l, s, rfl⟩, rfl⟩
    refine Al.seq (fun ρ => ρ = [some (.val (.dict [])), none, some (.val (tN l)), none]) ?_ ?_
    · constructor
      simp only [ex, ev, Out.All_bind, Out.All_ret, List.set_cons_zero, List.set_cons_succ, v_0, v_s, c_cons, c_unt]
      refine h38.h.mono ?_
      intro d hd
      simp only [c_cons, c_unt, Out.All_ret, Out.All_bind, h39 d hd, c_asB, Bool.not_true]
      exact ⟨_, rfl, rfl⟩
    rintro ρ rfl
    refine Al.seq _ (Al.asg (Q := fun d => d ∈ bads) ?_) ?_
    · refine Al.call (ds := [.dict [], .list bads]) ?_ h34
      simp only [ev, v_0, bad_ev, br, c_cons]
    rintro ρ ⟨b, hb, rfl⟩
    constructor
    simp only [ex, ev, Out.All_bind, Out.All_ret, List.set_cons_zero, List.set_cons_succ, v_0, v_s, c_cons, c_unt, h40 l s b hb, c_asB, Bool.not_true]
    exact ⟨_, rfl, _, _, _, rfl⟩
  · rintro ρ ⟨x1, x2, x3, rfl⟩
    refine Al.wip [some (.val (.dict [])), none, none, none] (by simp only [wipeR, List.set_cons_zero, List.set_cons_succ]) ?_
    constructor
    simp only [ex, ev, Out.All_bind, Out.All_ret, v_0, c_cons, c_unt]
    refine h41.h.mono ?_
    rintro d rfl
    rfl
theorem right_ok : Tru (cV 9 42 [.dict []]) := by
  rw [v_eq (F := d_law_right) (by decide) rfl rfl]
  refine tru_of ?_
  refine right_core (Γ 8) τ.W ?_ ?_ ?_ ?_ ?_ ?_ ?_
  · exact (gv _ _ _).trans (dip_is 7 12 (by decide) (by decide))
  · intro size hs
    rw [gv]
    exact (form_ok (n := 5) hs).mono fun d ⟨l, s, _, e⟩ => ⟨l, s, e⟩
  · rw [gv]
    exact odd_al
  · exact fun d hd => (gv _ _ _).trans (odds_ok hd)
  · rw [gv]
    exact of_list (n := 6) (by decide) (by decide) fun x hx => hx
  · exact fun l s b hb => (gv _ _ _).trans (rows_ok s hb)
  · rw [gv]
    exact full_tru
/-! ### the drawing list -/
theorem tub_body (Γ : Ev.Env) (W : Nat) (ns : List Int) (hn : ns.length ≤ 63) (k : Nat) (hk : k < 4) :
    ((ex Γ W d_law_tub.body [some (.val (scr ns)), some (.val (.int k)), none, none, none]).bind retF).All fun d => ∃ a b c : Int, d = .list [.int a, .int b, .int c] ∧ tubB b = true := by
  rw [Out.All_bind]
  unfold d_law_tub
  have o1 : mulOk 9151 k = true := mulOk_l (smallI_lt (by omega) (by omega))
  have o2 : mulOk 659 k = true := mulOk_l (smallI_lt (by omega) (by omega))
  have o3 : ∀ c : Int, mulOk c 54001 = true := fun c => mulOk_r (smallI_lt (by omega) (by omega))
  have tb : ∀ v : Int, tubB (v % 2147482877) = true := fun v => by
    unfold tubB
    rw [Bool.and_eq_true, decide_eq_true_eq, decide_eq_true_eq]
    exact ⟨by omega, by omega⟩
  refine seq_nx (R := fun ρ => ∃ c : Int, ρ = [some (.val (scr ns)), some (.val (.int k)), some (.val (.int c)), none, none]) ?_ ?_
  · simp only [ex, ev, Out.All_bind, Out.All_ret, Out.ofO_some, v_0, v_s, m_lt, t_lenS, c_cons, c_unt, c_asB, g_nm, List.set_cons_zero, List.set_cons_succ]
    by_cases h : (k : Int) < ns.length
    · obtain ⟨c, e⟩ := at_int (ns := ns) (k := k) (by omega)
      rw [decide_eq_true h]
      simp only [Out.All_bind, Out.All_ret, Out.ofO_some, v_0, v_s, x_idxS, e, t_int, c_cons, c_unt]
      exact ⟨_, rfl, c, rfl⟩
    · rw [decide_eq_false h]
      simp only [Out.All_bind, Out.All_ret, Out.ofO_some, Out.All_guard, v_0, v_s, b_add, b_mul, o1, true_and]
      exact ⟨_, rfl, _, rfl⟩
  rintro ρ ⟨c, rfl⟩
  refine seq_nx (R := fun ρ => ∃ (e : Int) (x : Option Sl), tubB e = true ∧ ρ = [some (.val (scr ns)), some (.val (.int k)), some (.val (.int c)), some (.val (.int e)), x]) ?_ ?_
  · simp only [ex, ev, Out.All_bind, Out.All_ret, Out.ofO_some, Out.All_guard, v_0, v_s, b_add, b_mul, o2, true_and, g_nm, List.set_cons_zero, List.set_cons_succ]
    exact ⟨_, rfl, _, _, by unfold tubB; rw [Bool.and_eq_true, decide_eq_true_eq, decide_eq_true_eq]; omega, rfl⟩
  rintro ρ ⟨e, x, he, rfl⟩
  refine seq_nx (R := fun ρ => ∃ (e : Int) (x : Option Sl), tubB e = true ∧ ρ = [some (.val (scr ns)), some (.val (.int k)), some (.val (.int c)), some (.val (.int e)), x]) ?_ ?_
  · simp only [ex, ev, isNilE, partE, br, slS, c_asI, Out.All_bind, Out.All_ret, Out.All_guard, v_0, v_s, c_cons, c_unt, c_itL, List.length_cons, List.length_nil, Nat.zero_add, l1, true_and, b_addL]
    refine ⟨decide_eq_true (by have := cut_len ns none (some 5); rw [List.length_map]; unfold lim; omega), ?_⟩
    refine forGo_inv _ _ ?_ ⟨e, x, he, rfl⟩
    rintro y hy ρ ⟨e, w, he, rfl⟩
    obtain ⟨z, rfl⟩ : ∃ z : Int, y = .int z := by
      rcases List.mem_append.mp hy with hy | hy
      · obtain ⟨z, _, rfl⟩ := List.mem_map.mp hy
        exact ⟨z, rfl⟩
      · rw [List.mem_singleton] at hy
        exact ⟨c, hy⟩
    refine ⟨_, g_nm, ?_⟩
    simp only [ex, ev, Out.All_bind, Out.All_ret, Out.All_guard, Out.ofO_some, v_0, v_s, c_cons, c_unt, b_add, b_mul, b_mod, t_int, o3, true_and, g_nm, List.set_cons_zero, List.set_cons_succ]
    exact ⟨by decide, _, rfl, _, _, tb _, rfl⟩
  rintro ρ ⟨e, x, he, rfl⟩
  have o4 : binD .pow (.int 10) (.int 18) = .ret (.int 1000000000000000000) := rfl
  have l3 : decide (0 + 1 + 1 + 1 ≤ lim) = true := by decide
  simp only [ex, ev, Out.All_bind, Out.All_ret, v_0, v_s, m_lt, m_ge, o4, c_asB, c_cons, c_unt]
  cases decide (c < 0)
  · simp only [Out.All_bind, Out.All_ret, v_0, v_s, m_ge, o4, c_asB]
    cases decide (1000000000000000000 ≤ c)
    · simp only [Out.All_bind, Out.All_ret, Out.All_guard, v_0, v_s, c_cons, c_unt, List.length_cons, List.length_nil, l3, true_and]
      exact ⟨_, _, _, rfl, he⟩
    · simp only [Out.All_bind, Out.All_ret, Out.All_guard, v_0, v_s, t_abs, c_cons, c_unt, List.length_cons, List.length_nil, l3, true_and]
      exact ⟨_, _, _, rfl, he⟩
  · simp only [Out.All_bind, Out.All_ret, Out.All_guard, v_0, v_s, t_abs, c_asB, c_cons, c_unt, List.length_cons, List.length_nil, l3, true_and]
    exact ⟨_, _, _, rfl, he⟩
theorem tub_ok (ns : List Int) (hn : ns.length ≤ 63) (k : Nat) (hk : k < 4) : (callB τ 9 .new 32 [scr ns, .int k] .bad).All fun d => ∃ a b c : Int, d = .list [.int a, .int b, .int c] ∧ tubB b = true := by
  rw [callB_eq (F := d_law_tub) (by decide) rfl (by decide +kernel), Out.All_guard]
  exact ⟨rfl, tub_body _ _ ns hn k hk⟩
/-- what the drawing list is -/
structure TubT (o : Out D) : Prop where
  h : o.All fun d => ∃ a b c : Int, d = .list [.int a, .int b, .int c] ∧ tubB b = true
theorem tru_bind {o : Out Fl} (h : o.All fun fl => (retOf fl).All fun d => d = .bool true) : Tru (o.bind retOf) := by
  constructor
  rw [Out.All_bind]
  exact h
theorem law_core (Γ : Ev.Env) (W : Nat) (ns : List Int) (hn : ns.length ≤ 63) (ht : ∀ k : Nat, k < 4 → TubT (Γ.calln 32 [scr ns, .int k])) (hr : Tru (Γ.call 42 [.dict []])) : Tru ((ex Γ W d_law.body [some (.val (scr ns)), none]).bind retOf) := by
  refine tru_bind ?_
  unfold d_law
  have hm : ∀ i j : Int, bltD .min [.int i, .int j] = .ret (.int (min i j)) := fun i j => by
    rw [t_min]; congr 2; split <;> omega
  have hM : ∀ i j : Int, bltD .max [.int i, .int j] = .ret (.int (max i j)) := fun i j => by
    rw [t_max]; congr 2; split <;> omega
  have hs : small62 (max 2 (min (ns.length : Int) 4)) = true := by
    unfold small62
    rw [Bool.and_eq_true, decide_eq_true_eq, decide_eq_true_eq]
    omega
  simp only [ex, ev, Out.All_bind, Out.All_ret, Out.All_guard, v_0, c_cons, c_unt, c_asI, t_lenS, hm, hM, hs, true_and, c_itL]
  refine ⟨?_, ?_⟩
  · rw [rngL_length]
    exact decide_eq_true (by unfold lim; omega)
  · refine (lc_true _ 0 ?_).mono ?_
    · intro x hx
      obtain ⟨k, hk, rfl⟩ := mem_rngL _ _ _ hx
      rw [Int.zero_add]
      simp only [g_nm, wipeR, List.set_cons_zero, List.set_cons_succ, Out.ofO_some, br, c_asB, v_0, v_s, c_cons, c_unt, Out.All_bind]
      refine (ht k (by omega)).h.mono ?_
      rintro d ⟨a, b, c, rfl, hb⟩
      simp only [Out.All_bind, Out.All_guard, hb, true_and]
      refine hr.h.mono ?_
      rintro d rfl
      rfl
    · rintro d ⟨m, rfl⟩
      simp only [all_true, Out.All_ret, Out.All_bind]
      rfl
structure LawT (c : List D → Out D) : Prop where
  h : ∀ ns : List Int, ns.length ≤ 63 → (c [scr ns]).All fun d => d = .bool true
theorem gn (n f : Nat) (ds : List D) : (Γ n).calln f ds = callB τ n .new f ds .bad := rfl
theorem tub_t (ns : List Int) (hn : ns.length ≤ 63) (k : Nat) (hk : k < 4) : TubT (callB τ 9 .new 32 [scr ns, .int k] .bad) := ⟨tub_ok ns hn k hk⟩
theorem law_tru (ns : List Int) (hn : ns.length ≤ 63) : Tru (cV 10 43 [scr ns]) := by
  rw [v_eq (F := d_law) (by decide) rfl rfl]
  refine law_core (Γ 9) τ.W ns hn ?_ ?_
  · intro k hk
    rw [gn]
    exact tub_t ns hn k hk
  · rw [gv]
    exact right_ok
theorem lawT_of {c : List D → Out D} (h : ∀ ns : List Int, ns.length ≤ 63 → Tru (c [scr ns])) : LawT c := ⟨fun ns hn => (h ns hn).h⟩
theorem law_t : LawT (callT τ 10 43) := lawT_of law_tru
end K07

set_option Elab.async false
set_option linter.all false
set_option maxRecDepth 1000000
set_option maxHeartbeats 0
namespace K07
open PySem L2 Ev
open C8 (fnBody fnScope scC)
section
variable {P : Program} {w : World} {K : PySem.W.Frag} {mg : Str → Option Value} {base : Heap}
theorem r_is_number {f : Addr} {fd : FuncData} (Df : C8.Def K mg "is_number" (top 16) f fd) (df : fd.defaults = .none) : RowOk P w K mg base τ kws 0 d_is_number := by
  refine ⟨top 16, f, fd, Df, Df.fn.binds df ?_, ?_, ?_, ?_⟩
  · exact fun _ _ _ _ _ _ us hl => match us, hl with | [_, _, _], _ => rfl
  · intro m ks perm h
    simp [kws] at h
  · have h := c_is_number
    rw [Bool.and_eq_true] at h
    exact fun _ => ⟨h.1, h.2, fun h => absurd h (by decide), fun h => absurd h (by decide), fun h => absurd h (by decide), fun h => absurd h (by decide)⟩
  · exact fun h => absurd h (by decide)
theorem r_is_shape {f : Addr} {fd : FuncData} (Df : C8.Def K mg "is_shape" (top 17) f fd) (df : fd.defaults = .none) : RowOk P w K mg base τ kws 1 d_is_shape := by
  refine ⟨top 17, f, fd, Df, Df.fn.binds df ?_, ?_, ?_, ?_⟩
  · exact fun _ _ _ _ _ _ us hl => match us, hl with | [_, _], _ => rfl
  · intro m ks perm h
    simp [kws] at h
  · have h := c_is_shape
    rw [Bool.and_eq_true] at h
    exact fun _ => ⟨h.1, h.2, fun h => absurd h (by decide), fun h => absurd h (by decide), fun h => absurd h (by decide), fun h => absurd h (by decide)⟩
  · exact fun h => absurd h (by decide)
theorem r_check_shape {f : Addr} {fd : FuncData} (Df : C8.Def K mg "check_shape" (top 18) f fd) (df : fd.defaults = .none) : RowOk P w K mg base τ kws 2 d_check_shape := by
  refine ⟨top 18, f, fd, Df, Df.fn.binds df ?_, ?_, ?_, ?_⟩
  · exact fun _ _ _ _ _ _ us hl => match us, hl with | [_, _], _ => rfl
  · intro m ks perm h
    simp [kws] at h
  · have h := c_check_shape
    rw [Bool.and_eq_true] at h
    exact fun _ => ⟨h.1, h.2, fun h => absurd h (by decide), fun h => absurd h (by decide), fun h => absurd h (by decide), fun h => absurd h (by decide)⟩
  · exact fun h => absurd h (by decide)
theorem r_trimmed {f : Addr} {fd : FuncData} (Df : C8.Def K mg "trimmed" (top 19) f fd) (df : fd.defaults = .none) : RowOk P w K mg base τ kws 3 d_trimmed := by
  refine ⟨top 19, f, fd, Df, Df.fn.binds df ?_, ?_, ?_, ?_⟩
  · exact fun _ _ _ _ _ _ us hl => match us, hl with | [_], _ => rfl
  · intro m ks perm h
    simp [kws] at h
  · have h := c_trimmed
    rw [Bool.and_eq_true] at h
    exact fun _ => ⟨h.1, h.2, fun h => absurd h (by decide), fun h => absurd h (by decide), fun h => absurd h (by decide), fun h => absurd h (by decide)⟩
  · exact fun h => absurd h (by decide)
theorem r_flipped_of {f : Addr} {fd : FuncData} (Df : C8.Def K mg "flipped_of" (top 20) f fd) (df : fd.defaults = .none) : RowOk P w K mg base τ kws 4 d_flipped_of := by
  refine ⟨top 20, f, fd, Df, Df.fn.binds df ?_, ?_, ?_, ?_⟩
  · exact fun _ _ _ _ _ _ us hl => match us, hl with | [_], _ => rfl
  · intro m ks perm h
    simp [kws] at h
  · have h := c_flipped_of
    rw [Bool.and_eq_true] at h
    exact fun _ => ⟨h.1, h.2, fun h => absurd h (by decide), fun h => absurd h (by decide), fun h => absurd h (by decide), fun h => absurd h (by decide)⟩
  · exact fun h => absurd h (by decide)
theorem r_corners_of {f : Addr} {fd : FuncData} (Df : C8.Def K mg "corners_of" (top 21) f fd) (df : fd.defaults = .none) : RowOk P w K mg base τ kws 5 d_corners_of := by
  refine ⟨top 21, f, fd, Df, Df.fn.binds df ?_, ?_, ?_, ?_⟩
  · exact fun _ _ _ _ _ _ us hl => match us, hl with | [_], _ => rfl
  · intro m ks perm h
    simp [kws] at h
  · have h := c_corners_of
    rw [Bool.and_eq_true] at h
    exact fun _ => ⟨h.1, h.2, fun h => absurd h (by decide), fun h => absurd h (by decide), fun h => absurd h (by decide), fun h => absurd h (by decide)⟩
  · exact fun h => absurd h (by decide)
theorem r_outers_of {f : Addr} {fd : FuncData} (Df : C8.Def K mg "outers_of" (top 22) f fd) (df : fd.defaults = .none) : RowOk P w K mg base τ kws 6 d_outers_of := by
  refine ⟨top 22, f, fd, Df, Df.fn.binds df ?_, ?_, ?_, ?_⟩
  · exact fun _ _ _ _ _ _ us hl => match us, hl with | [_], _ => rfl
  · intro m ks perm h
    simp [kws] at h
  · have h := c_outers_of
    rw [Bool.and_eq_true] at h
    exact fun _ => ⟨h.1, h.2, fun h => absurd h (by decide), fun h => absurd h (by decide), fun h => absurd h (by decide), fun h => absurd h (by decide)⟩
  · exact fun h => absurd h (by decide)
theorem r_more_of {f : Addr} {fd : FuncData} (Df : C8.Def K mg "more_of" (top 23) f fd) (df : fd.defaults = .none) : RowOk P w K mg base τ kws 7 d_more_of := by
  refine ⟨top 23, f, fd, Df, Df.fn.binds df ?_, ?_, ?_, ?_⟩
  · exact fun _ _ _ _ _ _ us hl => match us, hl with | [_, _], _ => rfl
  · intro m ks perm h
    simp [kws] at h
  · have h := c_more_of
    rw [Bool.and_eq_true] at h
    exact fun _ => ⟨h.1, h.2, fun h => absurd h (by decide), fun h => absurd h (by decide), fun h => absurd h (by decide), fun h => absurd h (by decide)⟩
  · exact fun h => absurd h (by decide)
theorem r_less_of {f : Addr} {fd : FuncData} (Df : C8.Def K mg "less_of" (top 24) f fd) (df : fd.defaults = .none) : RowOk P w K mg base τ kws 8 d_less_of := by
  refine ⟨top 24, f, fd, Df, Df.fn.binds df ?_, ?_, ?_, ?_⟩
  · exact fun _ _ _ _ _ _ us hl => match us, hl with | [_, _], _ => rfl
  · intro m ks perm h
    simp [kws] at h
  · have h := c_less_of
    rw [Bool.and_eq_true] at h
    exact fun _ => ⟨h.1, h.2, fun h => absurd h (by decide), fun h => absurd h (by decide), fun h => absurd h (by decide), fun h => absurd h (by decide)⟩
  · exact fun h => absurd h (by decide)
theorem r_is_held {f : Addr} {fd : FuncData} (Df : C8.Def K mg "is_held" (top 25) f fd) (df : fd.defaults = .none) : RowOk P w K mg base τ kws 9 d_is_held := by
  refine ⟨top 25, f, fd, Df, Df.fn.binds df ?_, ?_, ?_, ?_⟩
  · exact fun _ _ _ _ _ _ us hl => match us, hl with | [_, _], _ => rfl
  · intro m ks perm h
    simp [kws] at h
  · have h := c_is_held
    rw [Bool.and_eq_true] at h
    exact fun _ => ⟨h.1, h.2, fun h => absurd h (by decide), fun h => absurd h (by decide), fun h => absurd h (by decide), fun h => absurd h (by decide)⟩
  · exact fun h => absurd h (by decide)
theorem r_all_shapes {f : Addr} {fd : FuncData} (Df : C8.Def K mg "all_shapes" (top 26) f fd) (df : fd.defaults = .none) : RowOk P w K mg base τ kws 10 d_all_shapes := by
  refine ⟨top 26, f, fd, Df, Df.fn.binds df ?_, ?_, ?_, ?_⟩
  · exact fun _ _ _ _ _ _ us hl => match us, hl with | [_, _], _ => rfl
  · intro m ks perm h
    simp [kws] at h
  · have h := c_all_shapes
    rw [Bool.and_eq_true] at h
    exact fun _ => ⟨h.1, h.2, fun h => absurd h (by decide), fun h => absurd h (by decide), fun h => absurd h (by decide), fun h => absurd h (by decide)⟩
  · exact fun h => absurd h (by decide)
theorem r_strips_on {f : Addr} {fd : FuncData} (Df : C8.Def K mg "strips_on" (top 27) f fd) (df : fd.defaults = .none) : RowOk P w K mg base τ kws 11 d_strips_on := by
  refine ⟨top 27, f, fd, Df, Df.fn.binds df ?_, ?_, ?_, ?_⟩
  · exact fun _ _ _ _ _ _ us hl => match us, hl with | [_, _], _ => rfl
  · intro m ks perm h
    simp [kws] at h
  · have h := c_strips_on
    rw [Bool.and_eq_true] at h
    exact fun _ => ⟨h.1, h.2, fun h => absurd h (by decide), fun h => absurd h (by decide), fun h => absurd h (by decide), fun h => absurd h (by decide)⟩
  · exact fun h => absurd h (by decide)
theorem r_columns_on {f : Addr} {fd : FuncData} (Df : C8.Def K mg "columns_on" (top 28) f fd) (df : fd.defaults = .none) : RowOk P w K mg base τ kws 12 d_columns_on := by
  refine ⟨top 28, f, fd, Df, Df.fn.binds df ?_, ?_, ?_, ?_⟩
  · exact fun _ _ _ _ _ _ us hl => match us, hl with | [_, _], _ => rfl
  · intro m ks perm h
    simp [kws] at h
  · have h := c_columns_on
    rw [Bool.and_eq_true] at h
    exact fun _ => ⟨h.1, h.2, fun h => absurd h (by decide), fun h => absurd h (by decide), fun h => absurd h (by decide), fun h => absurd h (by decide)⟩
  · exact fun h => absurd h (by decide)
theorem r_sums_along {f : Addr} {fd : FuncData} (Df : C8.Def K mg "sums_along" (top 29) f fd) (df : fd.defaults = .none) : RowOk P w K mg base τ kws 13 d_sums_along := by
  refine ⟨top 29, f, fd, Df, Df.fn.binds df ?_, ?_, ?_, ?_⟩
  · exact fun _ _ _ _ _ _ us hl => match us, hl with | [_, _], _ => rfl
  · intro m ks perm h
    simp [kws] at h
  · have h := c_sums_along
    rw [Bool.and_eq_true] at h
    exact fun _ => ⟨h.1, h.2, fun h => absurd h (by decide), fun h => absurd h (by decide), fun h => absurd h (by decide), fun h => absurd h (by decide)⟩
  · exact fun h => absurd h (by decide)
theorem r_lighter_at {f : Addr} {fd : FuncData} (Df : C8.Def K mg "lighter_at" (top 30) f fd) (df : fd.defaults = .none) : RowOk P w K mg base τ kws 14 d_lighter_at := by
  refine ⟨top 30, f, fd, Df, Df.fn.binds df ?_, ?_, ?_, ?_⟩
  · exact fun _ _ _ _ _ _ us hl => match us, hl with | [_, _], _ => rfl
  · intro m ks perm h
    simp [kws] at h
  · have h := c_lighter_at
    rw [Bool.and_eq_true] at h
    exact fun _ => ⟨h.1, h.2, fun h => absurd h (by decide), fun h => absurd h (by decide), fun h => absurd h (by decide), fun h => absurd h (by decide)⟩
  · exact fun h => absurd h (by decide)
theorem r_lowered_to {f : Addr} {fd : FuncData} (Df : C8.Def K mg "lowered_to" (top 31) f fd) (df : fd.defaults = .none) : RowOk P w K mg base τ kws 15 d_lowered_to := by
  refine ⟨top 31, f, fd, Df, Df.fn.binds df ?_, ?_, ?_, ?_⟩
  · exact fun _ _ _ _ _ _ us hl => match us, hl with | [_, _], _ => rfl
  · intro m ks perm h
    simp [kws] at h
  · have h := c_lowered_to
    rw [Bool.and_eq_true] at h
    exact fun _ => ⟨h.1, h.2, fun h => absurd h (by decide), fun h => absurd h (by decide), fun h => absurd h (by decide), fun h => absurd h (by decide)⟩
  · exact fun h => absurd h (by decide)
theorem r_check_sizes {f : Addr} {fd : FuncData} (Df : C8.Def K mg "check_sizes" (top 32) f fd) (df : fd.defaults = .none) : RowOk P w K mg base τ kws 16 d_check_sizes := by
  refine ⟨top 32, f, fd, Df, Df.fn.binds df ?_, ?_, ?_, ?_⟩
  · exact fun _ _ _ _ _ _ us hl => match us, hl with | [_, _], _ => rfl
  · intro m ks perm h
    simp [kws] at h
  · have h := c_check_sizes
    rw [Bool.and_eq_true] at h
    exact fun _ => ⟨h.1, h.2, fun h => absurd h (by decide), fun h => absurd h (by decide), fun h => absurd h (by decide), fun h => absurd h (by decide)⟩
  · exact fun h => absurd h (by decide)
theorem r_shapes_of {f : Addr} {fd : FuncData} (Df : C8.Def K mg "shapes_of" (top 33) f fd) (df : fd.defaults = .none) : RowOk P w K mg base τ kws 17 d_shapes_of := by
  refine ⟨top 33, f, fd, Df, Df.fn.binds df ?_, ?_, ?_, ?_⟩
  · exact fun _ _ _ _ _ _ us hl => match us, hl with | [_], _ => rfl
  · intro m ks perm h
    simp [kws] at h
  · have h := c_shapes_of
    rw [Bool.and_eq_true] at h
    exact fun _ => ⟨h.1, h.2, fun h => absurd h (by decide), fun h => absurd h (by decide), fun h => absurd h (by decide), fun h => absurd h (by decide)⟩
  · exact fun h => absurd h (by decide)
theorem r_flipped {f : Addr} {fd : FuncData} (Df : C8.Def K mg "flipped" (top 34) f fd) (df : fd.defaults = .none) : RowOk P w K mg base τ kws 18 d_flipped := by
  refine ⟨top 34, f, fd, Df, Df.fn.binds df ?_, ?_, ?_, ?_⟩
  · exact fun _ _ _ _ _ _ us hl => match us, hl with | [_], _ => rfl
  · intro m ks perm h
    simp [kws] at h
  · have h := c_flipped
    rw [Bool.and_eq_true] at h
    exact fun _ => ⟨h.1, h.2, fun h => absurd h (by decide), fun h => absurd h (by decide), fun h => absurd h (by decide), fun h => absurd h (by decide)⟩
  · exact fun h => absurd h (by decide)
theorem r_holds {f : Addr} {fd : FuncData} (Df : C8.Def K mg "holds" (top 35) f fd) (df : fd.defaults = .none) : RowOk P w K mg base τ kws 19 d_holds := by
  refine ⟨top 35, f, fd, Df, Df.fn.binds df ?_, ?_, ?_, ?_⟩
  · exact fun _ _ _ _ _ _ us hl => match us, hl with | [_, _], _ => rfl
  · intro m ks perm h
    simp [kws] at h
  · have h := c_holds
    rw [Bool.and_eq_true] at h
    exact fun _ => ⟨h.1, h.2, fun h => absurd h (by decide), fun h => absurd h (by decide), fun h => absurd h (by decide), fun h => absurd h (by decide)⟩
  · exact fun h => absurd h (by decide)
theorem r_corner_rows {f : Addr} {fd : FuncData} (Df : C8.Def K mg "corner_rows" (top 36) f fd) (df : fd.defaults = .none) : RowOk P w K mg base τ kws 20 d_corner_rows := by
  refine ⟨top 36, f, fd, Df, Df.fn.binds df ?_, ?_, ?_, ?_⟩
  · exact fun _ _ _ _ _ _ us hl => match us, hl with | [_], _ => rfl
  · intro m ks perm h
    obtain ⟨oc, od, dV, kV, doc, pm, an, cdv, ct, osl, rfl, lk, hcd⟩ := Df.fn.ex
    obtain rfl : dV = .none := df
    simp [kws] at h
    obtain ⟨rfl, rfl, rfl⟩ := h
    exact fun s us ws bs _ h1 h2 h3 => match us, ws, h1, h2, h3 with | [], [w0], _, _, h3 => by cases h3; exact .of_eq rfl
  · have h := c_corner_rows
    rw [Bool.and_eq_true] at h
    exact fun _ => ⟨h.1, h.2, fun h => absurd h (by decide), fun h => absurd h (by decide), fun h => absurd h (by decide), fun h => absurd h (by decide)⟩
  · exact fun h => absurd h (by decide)
theorem r_outer_rows {f : Addr} {fd : FuncData} (Df : C8.Def K mg "outer_rows" (top 37) f fd) (df : fd.defaults = .none) : RowOk P w K mg base τ kws 21 d_outer_rows := by
  refine ⟨top 37, f, fd, Df, Df.fn.binds df ?_, ?_, ?_, ?_⟩
  · exact fun _ _ _ _ _ _ us hl => match us, hl with | [_], _ => rfl
  · intro m ks perm h
    simp [kws] at h
  · have h := c_outer_rows
    rw [Bool.and_eq_true] at h
    exact fun _ => ⟨h.1, h.2, fun h => absurd h (by decide), fun h => absurd h (by decide), fun h => absurd h (by decide), fun h => absurd h (by decide)⟩
  · exact fun h => absurd h (by decide)
theorem r_with_box {f : Addr} {fd : FuncData} (Df : C8.Def K mg "with_box" (top 38) f fd) (df : fd.defaults = .none) : RowOk P w K mg base τ kws 22 d_with_box := by
  refine ⟨top 38, f, fd, Df, Df.fn.binds df ?_, ?_, ?_, ?_⟩
  · exact fun _ _ _ _ _ _ us hl => match us, hl with | [_, _], _ => rfl
  · intro m ks perm h
    simp [kws] at h
  · have h := c_with_box
    rw [Bool.and_eq_true] at h
    exact fun _ => ⟨h.1, h.2, fun h => absurd h (by decide), fun h => absurd h (by decide), fun h => absurd h (by decide), fun h => absurd h (by decide)⟩
  · exact fun h => absurd h (by decide)
theorem r_without_box {f : Addr} {fd : FuncData} (Df : C8.Def K mg "without_box" (top 39) f fd) (df : fd.defaults = .none) : RowOk P w K mg base τ kws 23 d_without_box := by
  refine ⟨top 39, f, fd, Df, Df.fn.binds df ?_, ?_, ?_, ?_⟩
  · exact fun _ _ _ _ _ _ us hl => match us, hl with | [_, _], _ => rfl
  · intro m ks perm h
    obtain ⟨oc, od, dV, kV, doc, pm, an, cdv, ct, osl, rfl, lk, hcd⟩ := Df.fn.ex
    obtain rfl : dV = .none := df
    simp [kws] at h
    obtain ⟨rfl, rfl, rfl⟩ := h
    exact fun s us ws bs _ h1 h2 h3 => match us, ws, h1, h2, h3 with | [], [w0, w1], _, _, h3 => by cases h3; exact .of_eq rfl
  · have h := c_without_box
    rw [Bool.and_eq_true] at h
    exact fun _ => ⟨h.1, h.2, fun h => absurd h (by decide), fun h => absurd h (by decide), fun h => absurd h (by decide), fun h => absurd h (by decide)⟩
  · exact fun h => absurd h (by decide)
theorem r_heavier {f : Addr} {fd : FuncData} (Df : C8.Def K mg "heavier" (top 40) f fd) (df : fd.defaults = .none) : RowOk P w K mg base τ kws 24 d_heavier := by
  refine ⟨top 40, f, fd, Df, Df.fn.binds df ?_, ?_, ?_, ?_⟩
  · exact fun _ _ _ _ _ _ us hl => match us, hl with | [_, _], _ => rfl
  · intro m ks perm h
    obtain ⟨oc, od, dV, kV, doc, pm, an, cdv, ct, osl, rfl, lk, hcd⟩ := Df.fn.ex
    obtain rfl : dV = .none := df
    simp [kws] at h
    obtain ⟨rfl, rfl, rfl⟩ := h
    exact fun s us ws bs _ h1 h2 h3 => match us, ws, h1, h2, h3 with | [], [w0, w1], _, _, h3 => by cases h3; exact .of_eq rfl
  · have h := c_heavier
    rw [Bool.and_eq_true] at h
    exact fun _ => ⟨h.1, h.2, fun h => absurd h (by decide), fun h => absurd h (by decide), fun h => absurd h (by decide), fun h => absurd h (by decide)⟩
  · exact fun h => absurd h (by decide)
theorem r_steps_down {f : Addr} {fd : FuncData} (Df : C8.Def K mg "steps_down" (top 41) f fd) (df : fd.defaults = .none) : RowOk P w K mg base τ kws 25 d_steps_down := by
  refine ⟨top 41, f, fd, Df, Df.fn.binds df ?_, ?_, ?_, ?_⟩
  · exact fun _ _ _ _ _ _ us hl => match us, hl with | [_, _], _ => rfl
  · intro m ks perm h
    simp [kws] at h
  · have h := c_steps_down
    rw [Bool.and_eq_true] at h
    exact fun _ => ⟨h.1, h.2, fun h => absurd h (by decide), fun h => absurd h (by decide), fun h => absurd h (by decide), fun h => absurd h (by decide)⟩
  · exact fun h => absurd h (by decide)
theorem r_first_lighter {f : Addr} {fd : FuncData} (Df : C8.Def K mg "first_lighter" (top 42) f fd) (df : fd.defaults = .none) : RowOk P w K mg base τ kws 26 d_first_lighter := by
  refine ⟨top 42, f, fd, Df, Df.fn.binds df ?_, ?_, ?_, ?_⟩
  · exact fun _ _ _ _ _ _ us hl => match us, hl with | [_, _], _ => rfl
  · intro m ks perm h
    simp [kws] at h
  · have h := c_first_lighter
    rw [Bool.and_eq_true] at h
    exact fun _ => ⟨h.1, h.2, fun h => absurd h (by decide), fun h => absurd h (by decide), fun h => absurd h (by decide), fun h => absurd h (by decide)⟩
  · exact fun h => absurd h (by decide)
theorem r_check_strip {f : Addr} {fd : FuncData} (Df : C8.Def K mg "check_strip" (top 43) f fd) (df : fd.defaults = .none) : RowOk P w K mg base τ kws 27 d_check_strip := by
  refine ⟨top 43, f, fd, Df, Df.fn.binds df ?_, ?_, ?_, ?_⟩
  · exact fun _ _ _ _ _ _ us hl => match us, hl with | [_, _], _ => rfl
  · intro m ks perm h
    simp [kws] at h
  · have h := c_check_strip
    rw [Bool.and_eq_true] at h
    exact fun _ => ⟨h.1, h.2, fun h => absurd h (by decide), fun h => absurd h (by decide), fun h => absurd h (by decide), fun h => absurd h (by decide)⟩
  · exact fun h => absurd h (by decide)
theorem r_with_strips {f : Addr} {fd : FuncData} (Df : C8.Def K mg "with_strips" (top 44) f fd) (df : fd.defaults = .none) : RowOk P w K mg base τ kws 28 d_with_strips := by
  refine ⟨top 44, f, fd, Df, Df.fn.binds df ?_, ?_, ?_, ?_⟩
  · exact fun _ _ _ _ _ _ us hl => match us, hl with | [_, _], _ => rfl
  · intro m ks perm h
    simp [kws] at h
  · have h := c_with_strips
    rw [Bool.and_eq_true] at h
    exact fun _ => ⟨h.1, h.2, fun h => absurd h (by decide), fun h => absurd h (by decide), fun h => absurd h (by decide), fun h => absurd h (by decide)⟩
  · exact fun h => absurd h (by decide)
theorem r_with_columns {f : Addr} {fd : FuncData} (Df : C8.Def K mg "with_columns" (top 45) f fd) (df : fd.defaults = .none) : RowOk P w K mg base τ kws 29 d_with_columns := by
  refine ⟨top 45, f, fd, Df, Df.fn.binds df ?_, ?_, ?_, ?_⟩
  · exact fun _ _ _ _ _ _ us hl => match us, hl with | [_, _], _ => rfl
  · intro m ks perm h
    obtain ⟨oc, od, dV, kV, doc, pm, an, cdv, ct, osl, rfl, lk, hcd⟩ := Df.fn.ex
    obtain rfl : dV = .none := df
    simp [kws] at h
    obtain ⟨rfl, rfl, rfl⟩ := h
    exact fun s us ws bs _ h1 h2 h3 => match us, ws, h1, h2, h3 with | [], [w0, w1], _, _, h3 => by cases h3; exact .of_eq rfl
  · have h := c_with_columns
    rw [Bool.and_eq_true] at h
    exact fun _ => ⟨h.1, h.2, fun h => absurd h (by decide), fun h => absurd h (by decide), fun h => absurd h (by decide), fun h => absurd h (by decide)⟩
  · exact fun h => absurd h (by decide)
theorem r_hook_of {f : Addr} {fd : FuncData} (Df : C8.Def K mg "hook_of" (top 46) f fd) (df : fd.defaults = .none) : RowOk P w K mg base τ kws 30 d_hook_of := by
  refine ⟨top 46, f, fd, Df, Df.fn.binds df ?_, ?_, ?_, ?_⟩
  · exact fun _ _ _ _ _ _ us hl => match us, hl with | [_, _, _], _ => rfl
  · intro m ks perm h
    simp [kws] at h
  · have h := c_hook_of
    rw [Bool.and_eq_true] at h
    exact fun _ => ⟨h.1, h.2, fun h => absurd h (by decide), fun h => absurd h (by decide), fun h => absurd h (by decide), fun h => absurd h (by decide)⟩
  · exact fun h => absurd h (by decide)
theorem r_hook {f : Addr} {fd : FuncData} (Df : C8.Def K mg "hook" (top 47) f fd) (df : fd.defaults = .none) : RowOk P w K mg base τ kws 31 d_hook := by
  refine ⟨top 47, f, fd, Df, Df.fn.binds df ?_, ?_, ?_, ?_⟩
  · exact fun _ _ _ _ _ _ us hl => match us, hl with | [_, _, _], _ => rfl
  · intro m ks perm h
    simp [kws] at h
  · have h := c_hook
    rw [Bool.and_eq_true] at h
    exact fun _ => ⟨h.1, h.2, fun h => absurd h (by decide), fun h => absurd h (by decide), fun h => absurd h (by decide), fun h => absurd h (by decide)⟩
  · exact fun h => absurd h (by decide)
theorem r_law_tub {f : Addr} {fd : FuncData} (Df : C8.Def K mg "_law_tub" (top 49) f fd) (df : fd.defaults = .none) : RowOk P w K mg base τ kws 32 d_law_tub := by
  refine ⟨top 49, f, fd, Df, Df.fn.binds df ?_, ?_, ?_, ?_⟩
  · exact fun _ _ _ _ _ _ us hl => match us, hl with | [_, _], _ => rfl
  · intro m ks perm h
    simp [kws] at h
  · have h := c_law_tub
    rw [Bool.and_eq_true] at h
    have h2 := n_law_tub
    rw [Bool.and_eq_true] at h2
    exact fun _ => ⟨h.1, h.2, fun _ => h2.2, fun h => absurd h (by decide), fun h => absurd h (by decide), fun h => absurd h (by decide)⟩
  · exact fun h => absurd h (by decide)
theorem r_law_dip {f : Addr} {fd : FuncData} (Df : C8.Def K mg "_law_dip" (top 50) f fd) (df : fd.defaults = .none) (hb : ∀ x ∈ bltNames, mg x = none) : RowOk P w K mg base τ kws 33 d_law_dip := by
  refine ⟨top 50, f, fd, Df, Df.fn.binds df ?_, ?_, ?_, ?_⟩
  · exact fun _ _ _ _ _ _ us hl => match us, hl with | [_, _], _ => rfl
  · intro m ks perm h
    simp [kws] at h
  · exact fun h => absurd rfl h
  · exact fun _ k => dip_row Df hb s_law_dip t_law_dip dip_weak
theorem r_law_of {f : Addr} {fd : FuncData} (Df : C8.Def K mg "_law_of" (top 51) f fd) (df : fd.defaults = .none) : RowOk P w K mg base τ kws 34 d_law_of := by
  refine ⟨top 51, f, fd, Df, Df.fn.binds df ?_, ?_, ?_, ?_⟩
  · exact fun _ _ _ _ _ _ us hl => match us, hl with | [_, _], _ => rfl
  · intro m ks perm h
    simp [kws] at h
  · have h := c_law_of
    rw [Bool.and_eq_true] at h
    exact fun _ => ⟨h.1, h.2, fun h => absurd h (by decide), fun h => absurd h (by decide), fun h => absurd h (by decide), fun h => absurd h (by decide)⟩
  · exact fun h => absurd h (by decide)
theorem r_law_form {f : Addr} {fd : FuncData} (Df : C8.Def K mg "_law_form" (top 52) f fd) (df : fd.defaults = .none) : RowOk P w K mg base τ kws 35 d_law_form := by
  refine ⟨top 52, f, fd, Df, Df.fn.binds df ?_, ?_, ?_, ?_⟩
  · exact fun _ _ _ _ _ _ us hl => match us, hl with | [_, _], _ => rfl
  · intro m ks perm h
    simp [kws] at h
  · have h := c_law_form
    rw [Bool.and_eq_true] at h
    exact fun _ => ⟨h.1, h.2, fun h => absurd h (by decide), fun h => absurd h (by decide), fun h => absurd h (by decide), fun h => absurd h (by decide)⟩
  · exact fun h => absurd h (by decide)
theorem r_law_sort {f : Addr} {fd : FuncData} (Df : C8.Def K mg "_law_sort" (top 53) f fd) (df : fd.defaults = .none) : RowOk P w K mg base τ kws 36 d_law_sort := by
  refine ⟨top 53, f, fd, Df, Df.fn.binds df ?_, ?_, ?_, ?_⟩
  · exact fun _ _ _ _ _ _ us hl => match us, hl with | [_], _ => rfl
  · intro m ks perm h
    simp [kws] at h
  · have h := c_law_sort
    rw [Bool.and_eq_true] at h
    have h3 := h_law_sort
    rw [Bool.and_eq_true] at h3
    exact fun _ => ⟨h.1, h.2, fun h => absurd h (by decide), fun _ => h3.2, fun h => absurd h (by decide), fun h => absurd h (by decide)⟩
  · exact fun h => absurd h (by decide)
theorem r_law_caught {f : Addr} {fd : FuncData} (Df : C8.Def K mg "_law_caught" (top 54) f fd) (df : fd.defaults = .none) : RowOk P w K mg base τ kws 37 d_law_caught := by
  refine ⟨top 54, f, fd, Df, Df.fn.binds df ?_, ?_, ?_, ?_⟩
  · exact fun _ _ _ _ _ _ us hl => match us, hl with | [_], _ => rfl
  · intro m ks perm h
    simp [kws] at h
  · have h := c_law_caught
    rw [Bool.and_eq_true] at h
    exact fun _ => ⟨h.1, h.2, fun h => absurd h (by decide), fun h => absurd h (by decide), fun _ a => l_law_caught a, fun h => absurd h (by decide)⟩
  · exact fun h => absurd h (by decide)
theorem r_law_odd {f : Addr} {fd : FuncData} (Df : C8.Def K mg "_law_odd" (top 55) f fd) (df : fd.defaults = .none) : RowOk P w K mg base τ kws 38 d_law_odd := by
  refine ⟨top 55, f, fd, Df, Df.fn.binds df ?_, ?_, ?_, ?_⟩
  · exact fun _ _ _ _ _ _ us hl => match us, hl with | [_], _ => rfl
  · intro m ks perm h
    simp [kws] at h
  · have h := c_law_odd
    rw [Bool.and_eq_true] at h
    exact fun _ => ⟨h.1, h.2, fun h => absurd h (by decide), fun h => absurd h (by decide), fun h => absurd h (by decide), fun h => absurd h (by decide)⟩
  · exact fun h => absurd h (by decide)
theorem r_law_lone_right {f : Addr} {fd : FuncData} (Df : C8.Def K mg "_law_lone_right" (top 56) f fd) (df : fd.defaults = .none) (hl : LamR base mg τ.tabs fd ("_law_lone_right" ++ ".<locals>.")) : RowOk P w K mg base τ kws 39 d_law_lone_right := by
  refine ⟨top 56, f, fd, Df, Df.fn.binds df ?_, ?_, ?_, ?_⟩
  · exact fun _ _ _ _ _ _ us hl => match us, hl with | [_], _ => rfl
  · intro m ks perm h
    simp [kws] at h
  · have h := c_law_lone_right
    rw [Bool.and_eq_true] at h
    exact fun _ => ⟨h.1, h.2, fun h => absurd h (by decide), fun h => absurd h (by decide), fun h => absurd h (by decide), fun _ => hl⟩
  · exact fun h => absurd h (by decide)
theorem r_law_rows_right {f : Addr} {fd : FuncData} (Df : C8.Def K mg "_law_rows_right" (top 57) f fd) (df : fd.defaults = .none) (hl : LamR base mg τ.tabs fd ("_law_rows_right" ++ ".<locals>.")) : RowOk P w K mg base τ kws 40 d_law_rows_right := by
  refine ⟨top 57, f, fd, Df, Df.fn.binds df ?_, ?_, ?_, ?_⟩
  · exact fun _ _ _ _ _ _ us hl => match us, hl with | [_, _], _ => rfl
  · intro m ks perm h
    simp [kws] at h
  · have h := c_law_rows_right
    rw [Bool.and_eq_true] at h
    exact fun _ => ⟨h.1, h.2, fun h => absurd h (by decide), fun h => absurd h (by decide), fun h => absurd h (by decide), fun _ => hl⟩
  · exact fun h => absurd h (by decide)
theorem r_law_full_right {f : Addr} {fd : FuncData} (Df : C8.Def K mg "_law_full_right" (top 58) f fd) (df : fd.defaults = .none) (hl : LamR base mg τ.tabs fd ("_law_full_right" ++ ".<locals>.")) : RowOk P w K mg base τ kws 41 d_law_full_right := by
  refine ⟨top 58, f, fd, Df, Df.fn.binds df ?_, ?_, ?_, ?_⟩
  · exact fun _ _ _ _ _ _ us hl => match us, hl with | [_], _ => rfl
  · intro m ks perm h
    simp [kws] at h
  · have h := c_law_full_right
    rw [Bool.and_eq_true] at h
    exact fun _ => ⟨h.1, h.2, fun h => absurd h (by decide), fun h => absurd h (by decide), fun h => absurd h (by decide), fun _ => hl⟩
  · exact fun h => absurd h (by decide)
theorem r_law_right {f : Addr} {fd : FuncData} (Df : C8.Def K mg "_law_right" (top 59) f fd) (df : fd.defaults = .none) : RowOk P w K mg base τ kws 42 d_law_right := by
  refine ⟨top 59, f, fd, Df, Df.fn.binds df ?_, ?_, ?_, ?_⟩
  · exact fun _ _ _ _ _ _ us hl => match us, hl with | [_], _ => rfl
  · intro m ks perm h
    simp [kws] at h
  · have h := c_law_right
    rw [Bool.and_eq_true] at h
    exact fun _ => ⟨h.1, h.2, fun h => absurd h (by decide), fun h => absurd h (by decide), fun h => absurd h (by decide), fun h => absurd h (by decide)⟩
  · exact fun h => absurd h (by decide)
theorem r_law {f : Addr} {fd : FuncData} (Df : C8.Def K mg "law" (top 60) f fd) (df : fd.defaults = .none) : RowOk P w K mg base τ kws 43 d_law := by
  refine ⟨top 60, f, fd, Df, Df.fn.binds df ?_, ?_, ?_, ?_⟩
  · exact fun _ _ _ _ _ _ us hl => match us, hl with | [_], _ => rfl
  · intro m ks perm h
    simp [kws] at h
  · have h := c_law
    rw [Bool.and_eq_true] at h
    exact fun _ => ⟨h.1, h.2, fun h => absurd h (by decide), fun h => absurd h (by decide), fun h => absurd h (by decide), fun h => absurd h (by decide)⟩
  · exact fun h => absurd h (by decide)
end
theorem ck_t (K : PySem.W.Frag) (h : ck K = true) : ckT lt K = true := (He.ba (He.ba h).2).1
section
variable {w : World} {K : PySem.W.Frag} {mg : Str → Option Value} {base : Heap}
theorem tab_ok {h : Heap} (X : K.In h) (G : h.Ns mainGlobals mg) (c : SaysX ck fnsD K) (hTB : ∀ p ∈ csOf lt, LamX.TabB base mg p.1 p.2) : TabOk Pq w K mg base τ kws := by
  obtain ⟨c1, c0⟩ := He.ba c.look
  obtain ⟨ct, c2⟩ := He.ba c0
  have hb := ckL_b X G c1
  obtain ⟨fd0, D0, q0⟩ := c.def_ X G 0 (x := "is_number") (st := top 16) rfl (ckL_n c1 _ (by simp [names, names0, names1, names2]))
  obtain ⟨fd1, D1, q1⟩ := c.def_ X G 1 (x := "is_shape") (st := top 17) rfl (ckL_n c1 _ (by simp [names, names0, names1, names2]))
  obtain ⟨fd2, D2, q2⟩ := c.def_ X G 2 (x := "check_shape") (st := top 18) rfl (ckL_n c1 _ (by simp [names, names0, names1, names2]))
  obtain ⟨fd3, D3, q3⟩ := c.def_ X G 3 (x := "trimmed") (st := top 19) rfl (ckL_n c1 _ (by simp [names, names0, names1, names2]))
  obtain ⟨fd4, D4, q4⟩ := c.def_ X G 4 (x := "flipped_of") (st := top 20) rfl (ckL_n c1 _ (by simp [names, names0, names1, names2]))
  obtain ⟨fd5, D5, q5⟩ := c.def_ X G 5 (x := "corners_of") (st := top 21) rfl (ckL_n c1 _ (by simp [names, names0, names1, names2]))
  obtain ⟨fd6, D6, q6⟩ := c.def_ X G 6 (x := "outers_of") (st := top 22) rfl (ckL_n c1 _ (by simp [names, names0, names1, names2]))
  obtain ⟨fd7, D7, q7⟩ := c.def_ X G 7 (x := "more_of") (st := top 23) rfl (ckL_n c1 _ (by simp [names, names0, names1, names2]))
  obtain ⟨fd8, D8, q8⟩ := c.def_ X G 8 (x := "less_of") (st := top 24) rfl (ckL_n c1 _ (by simp [names, names0, names1, names2]))
  obtain ⟨fd9, D9, q9⟩ := c.def_ X G 9 (x := "is_held") (st := top 25) rfl (ckL_n c1 _ (by simp [names, names0, names1, names2]))
  obtain ⟨fd10, D10, q10⟩ := c.def_ X G 10 (x := "all_shapes") (st := top 26) rfl (ckL_n c1 _ (by simp [names, names0, names1, names2]))
  obtain ⟨fd11, D11, q11⟩ := c.def_ X G 11 (x := "strips_on") (st := top 27) rfl (ckL_n c1 _ (by simp [names, names0, names1, names2]))
  obtain ⟨fd12, D12, q12⟩ := c.def_ X G 12 (x := "columns_on") (st := top 28) rfl (ckL_n c1 _ (by simp [names, names0, names1, names2]))
  obtain ⟨fd13, D13, q13⟩ := c.def_ X G 13 (x := "sums_along") (st := top 29) rfl (ckL_n c1 _ (by simp [names, names0, names1, names2]))
  obtain ⟨fd14, D14, q14⟩ := c.def_ X G 14 (x := "lighter_at") (st := top 30) rfl (ckL_n c1 _ (by simp [names, names0, names1, names2]))
  obtain ⟨fd15, D15, q15⟩ := c.def_ X G 15 (x := "lowered_to") (st := top 31) rfl (ckL_n c1 _ (by simp [names, names0, names1, names2]))
  obtain ⟨fd16, D16, q16⟩ := c.def_ X G 16 (x := "check_sizes") (st := top 32) rfl (ckL_n c1 _ (by simp [names, names0, names1, names2]))
  obtain ⟨fd17, D17, q17⟩ := c.def_ X G 17 (x := "shapes_of") (st := top 33) rfl (ckL_n c1 _ (by simp [names, names0, names1, names2]))
  obtain ⟨fd18, D18, q18⟩ := c.def_ X G 18 (x := "flipped") (st := top 34) rfl (ckL_n c1 _ (by simp [names, names0, names1, names2]))
  obtain ⟨fd19, D19, q19⟩ := c.def_ X G 19 (x := "holds") (st := top 35) rfl (ckL_n c1 _ (by simp [names, names0, names1, names2]))
  obtain ⟨fd20, D20, q20⟩ := c.def_ X G 20 (x := "corner_rows") (st := top 36) rfl (ckL_n c1 _ (by simp [names, names0, names1, names2]))
  obtain ⟨fd21, D21, q21⟩ := c.def_ X G 21 (x := "outer_rows") (st := top 37) rfl (ckL_n c1 _ (by simp [names, names0, names1, names2]))
  obtain ⟨fd22, D22, q22⟩ := c.def_ X G 22 (x := "with_box") (st := top 38) rfl (ckL_n c1 _ (by simp [names, names0, names1, names2]))
  obtain ⟨fd23, D23, q23⟩ := c.def_ X G 23 (x := "without_box") (st := top 39) rfl (ckL_n c1 _ (by simp [names, names0, names1, names2]))
  obtain ⟨fd24, D24, q24⟩ := c.def_ X G 24 (x := "heavier") (st := top 40) rfl (ckL_n c1 _ (by simp [names, names0, names1, names2]))
  obtain ⟨fd25, D25, q25⟩ := c.def_ X G 25 (x := "steps_down") (st := top 41) rfl (ckL_n c1 _ (by simp [names, names0, names1, names2]))
  obtain ⟨fd26, D26, q26⟩ := c.def_ X G 26 (x := "first_lighter") (st := top 42) rfl (ckL_n c1 _ (by simp [names, names0, names1, names2]))
  obtain ⟨fd27, D27, q27⟩ := c.def_ X G 27 (x := "check_strip") (st := top 43) rfl (ckL_n c1 _ (by simp [names, names0, names1, names2]))
  obtain ⟨fd28, D28, q28⟩ := c.def_ X G 28 (x := "with_strips") (st := top 44) rfl (ckL_n c1 _ (by simp [names, names0, names1, names2]))
  obtain ⟨fd29, D29, q29⟩ := c.def_ X G 29 (x := "with_columns") (st := top 45) rfl (ckL_n c1 _ (by simp [names, names0, names1, names2]))
  obtain ⟨fd30, D30, q30⟩ := c.def_ X G 30 (x := "hook_of") (st := top 46) rfl (ckL_n c1 _ (by simp [names, names0, names1, names2]))
  obtain ⟨fd31, D31, q31⟩ := c.def_ X G 31 (x := "hook") (st := top 47) rfl (ckL_n c1 _ (by simp [names, names0, names1, names2]))
  obtain ⟨fd32, D32, q32⟩ := c.def_ X G 32 (x := "_law_tub") (st := top 49) rfl (ckL_n c1 _ (by simp [names, names0, names1, names2]))
  obtain ⟨fd33, D33, q33⟩ := c.def_ X G 33 (x := "_law_dip") (st := top 50) rfl (ckL_n c1 _ (by simp [names, names0, names1, names2]))
  obtain ⟨fd34, D34, q34⟩ := c.def_ X G 34 (x := "_law_of") (st := top 51) rfl (ckL_n c1 _ (by simp [names, names0, names1, names2]))
  obtain ⟨fd35, D35, q35⟩ := c.def_ X G 35 (x := "_law_form") (st := top 52) rfl (ckL_n c1 _ (by simp [names, names0, names1, names2]))
  obtain ⟨fd36, D36, q36⟩ := c.def_ X G 36 (x := "_law_sort") (st := top 53) rfl (ckL_n c1 _ (by simp [names, names0, names1, names2]))
  obtain ⟨fd37, D37, q37⟩ := c.def_ X G 37 (x := "_law_caught") (st := top 54) rfl (ckL_n c1 _ (by simp [names, names0, names1, names2]))
  obtain ⟨fd38, D38, q38⟩ := c.def_ X G 38 (x := "_law_odd") (st := top 55) rfl (ckL_n c1 _ (by simp [names, names0, names1, names2]))
  obtain ⟨fd39, D39, q39⟩ := c.def_ X G 39 (x := "_law_lone_right") (st := top 56) rfl (ckL_n c1 _ (by simp [names, names0, names1, names2]))
  obtain ⟨fd40, D40, q40⟩ := c.def_ X G 40 (x := "_law_rows_right") (st := top 57) rfl (ckL_n c1 _ (by simp [names, names0, names1, names2]))
  obtain ⟨fd41, D41, q41⟩ := c.def_ X G 41 (x := "_law_full_right") (st := top 58) rfl (ckL_n c1 _ (by simp [names, names0, names1, names2]))
  obtain ⟨fd42, D42, q42⟩ := c.def_ X G 42 (x := "_law_right") (st := top 59) rfl (ckL_n c1 _ (by simp [names, names0, names1, names2]))
  obtain ⟨fd43, D43, q43⟩ := c.def_ X G 43 (x := "law") (st := top 60) rfl (ckL_n c1 _ (by simp [names, names0, names1, names2]))
  refine ⟨hb, fun x d h => ?_, fun f F h => ?_, ckX_ok X G rfl c2, by decide⟩
  · have h := lookup_mem (l := globs) h
    simp [globs] at h
    rcases h with ⟨rfl, rfl⟩ | ⟨rfl, rfl⟩ | ⟨rfl, rfl⟩
    · obtain ⟨t, m⟩ := ckL_i X G c1 ("MOST_LONG", 12) (by simp [ints_]); exact ⟨_, .int 12, m, ⟨t, rfl⟩, fun _ _ => .int _⟩
    · obtain ⟨t, m⟩ := ckL_i X G c1 ("MOST_BOXES", 40) (by simp [ints_]); exact ⟨_, .int 40, m, ⟨t, rfl⟩, fun _ _ => .int _⟩
    · obtain ⟨t, m⟩ := ckL_i X G c1 ("MOST_DEGREE", 8) (by simp [ints_]); exact ⟨_, .int 8, m, ⟨t, rfl⟩, fun _ _ => .int _⟩
  match f, h with
  | 0, h => cases h; exact r_is_number D0 q0
  | 1, h => cases h; exact r_is_shape D1 q1
  | 2, h => cases h; exact r_check_shape D2 q2
  | 3, h => cases h; exact r_trimmed D3 q3
  | 4, h => cases h; exact r_flipped_of D4 q4
  | 5, h => cases h; exact r_corners_of D5 q5
  | 6, h => cases h; exact r_outers_of D6 q6
  | 7, h => cases h; exact r_more_of D7 q7
  | 8, h => cases h; exact r_less_of D8 q8
  | 9, h => cases h; exact r_is_held D9 q9
  | 10, h => cases h; exact r_all_shapes D10 q10
  | 11, h => cases h; exact r_strips_on D11 q11
  | 12, h => cases h; exact r_columns_on D12 q12
  | 13, h => cases h; exact r_sums_along D13 q13
  | 14, h => cases h; exact r_lighter_at D14 q14
  | 15, h => cases h; exact r_lowered_to D15 q15
  | 16, h => cases h; exact r_check_sizes D16 q16
  | 17, h => cases h; exact r_shapes_of D17 q17
  | 18, h => cases h; exact r_flipped D18 q18
  | 19, h => cases h; exact r_holds D19 q19
  | 20, h => cases h; exact r_corner_rows D20 q20
  | 21, h => cases h; exact r_outer_rows D21 q21
  | 22, h => cases h; exact r_with_box D22 q22
  | 23, h => cases h; exact r_without_box D23 q23
  | 24, h => cases h; exact r_heavier D24 q24
  | 25, h => cases h; exact r_steps_down D25 q25
  | 26, h => cases h; exact r_first_lighter D26 q26
  | 27, h => cases h; exact r_check_strip D27 q27
  | 28, h => cases h; exact r_with_strips D28 q28
  | 29, h => cases h; exact r_with_columns D29 q29
  | 30, h => cases h; exact r_hook_of D30 q30
  | 31, h => cases h; exact r_hook D31 q31
  | 32, h => cases h; exact r_law_tub D32 q32
  | 33, h => cases h; exact r_law_dip D33 q33 hb
  | 34, h => cases h; exact r_law_of D34 q34
  | 35, h => cases h; exact r_law_form D35 q35
  | 36, h => cases h; exact r_law_sort D36 q36
  | 37, h => cases h; exact r_law_caught D37 q37
  | 38, h => cases h; exact r_law_odd D38 q38
  | 39, h => cases h; exact r_law_lone_right D39 q39 (lamR_of rfl (by decide) ct hTB (p := lt[0]) (by simp [lt]) D39)
  | 40, h => cases h; exact r_law_rows_right D40 q40 (lamR_of rfl (by decide) ct hTB (p := lt[1]) (by simp [lt]) D40)
  | 41, h => cases h; exact r_law_full_right D41 q41 (lamR_of rfl (by decide) ct hTB (p := lt[2]) (by simp [lt]) D41)
  | 42, h => cases h; exact r_law_right D42 q42
  | 43, h => cases h; exact r_law D43 q43
  | n + 44, h => cases h
theorem law_g {h : Heap} {fa : Addr} (X : K.In h) (G : h.Ns mainGlobals mg) (hfa : mg "law" = some (.ref fa)) (c : SaysX ck fnsD K) (hTB : ∀ p ∈ csOf lt, LamX.TabB base mg p.1 p.2) : ∃ fd, Binds K fd ["cells"] [] ∧ FnG Pq w K mg base τ.tabs 10 fa fd ["cells"] (callT τ 10 43) := by
  have t : TabOk Pq w K mg base τ kws := tab_ok X G c hTB
  obtain ⟨a, fd, q1, q2, _, q4, _⟩ := (tab_fns t 10).fns 43 d_law rfl
  rw [show d_law.name = "law" from rfl, hfa] at q2
  cases q2
  exact ⟨fd, q4, q1⟩
end
end K07
open PySem PySem.W PySem.Calls PyProof.Rows
theorem PySem.Challenge.cw_shapelore_k07_shapes_refused_holds : PySem.Challenge.rw_shapelore_k07_shapes_refused.Holds := by
  w_on; o_law
  refine HandSHeadRun.head_any (r := OpenLaw.row PySem.Challenge.rw_shapelore_k07_shapes_refused) (q := view (OpenLaw.row PySem.Challenge.rw_shapelore_k07_shapes_refused).prog [60]) (H := K07.hk) (ob := K07.ob) (M := 4200) (loose := K07.loose) (d := HandSHeadRun.topDef (OpenLaw.row PySem.Challenge.rw_shapelore_k07_shapes_refused).prog 60) (kwd := []) K07.ob_eq
    (by kernel_rfl) (fun s => by kernel_rfl) K07.run (by kernel_rfl) (by kernel_rfl) (by kernel_rfl) (by rfl) (by first | assumption | decide +kernel) (by decide +kernel) ⟨rfl, rfl, rfl, rfl, rfl, by decide +kernel⟩ ?hw ?hc
  case hw => w_witness2
  case hc =>
    refine Ev.walk_x (l := PySem.Challenge.rw_shapelore_k07_shapes_refused) (n := 63) (k := 10) (x := "cells") (Fn := Ev.callT K07.τ 10 43) (ck := K07.ck) (fn := K07.fnsD) (lt := K07.lt) (tb := K07.τ.tabs) (m := 5) rfl (by decide) (by kernel_rfl) ⟨rfl, by decide, by decide⟩ (by rfl) K07.ck_t ?F K07.law_t.h
    intro w K mg fa h KX c G hmg0 base KB GB TB
    have hmg : mg ("law" : PySem.Str) = some (.ref fa) := by
      have e : (HandSHeadRun.topDef (OpenLaw.row PySem.Challenge.rw_shapelore_k07_shapes_refused).prog 60).name = ("law" : PySem.Str) := by kernel_rfl
      rw [← e]
      exact hmg0
    exact K07.law_g KX G hmg c TB

