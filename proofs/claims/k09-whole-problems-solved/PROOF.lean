import PyProof.Rows.All
import Wide.All
import OpenK.AllK
import Wide.FinOn
import KE.KStateDown
import KE.KSuper
import HandS.Words
import HandS.HeadHook1
import HandS.HeadHook2
import HandS.HeadHook4
import HandS.Head0
import HandS.Head1
import HandS.Head2
import HandS.Head3
import HandS.Base
import HandS.Call
import HandS.List
import HandS.Comp
import HandS.Iter
import HandS.Zip
import HandS.Ends
import HandS.WordsList
import HandS.Codes
import HandS.Star
import HandS.Wide
import HandS.Gcd
import HandS.IsInst
import HandS.Property
import HandS.Style
import HandS.TupMul
import HandS.TupAny
import HandS.OwnEq
import HandS.Defaults
import KE.GoesNew
import KE.GoesMore
import KE.GoesEnum
import HandS.Small
import HandS.Lambda
import HandS.SortKw
import KE.KMinKey
import HandS.NestedK
import HandS.ClsMeth
import PyProof.InstNe
import PyProof.Rows.StrIntSpec
import PyProof.ReprBulk
import PyProof.ReprRoads
import HandS.EndTab
import PySem.Challenge.RW_missingmiles_k09_whole_problems_solved
set_option Elab.async false
set_option linter.all false
set_option maxRecDepth 100000
set_option maxHeartbeats 4000000
namespace MM
open PySem PySem.Spec PyProof.Rows L2
/-! ### the text by places -/
abbrev PP := PySem.Challenge.pw_missingmiles_k09_whole_problems_solved
def topS (i : Nat) : Stmt := PP.main.body.getD i (.Pass ⟨0, 0, 0, 0⟩)
/-- an empty table -/
def tabO : Obj := { cls := .none, data := .fields #[] }
/-! ### what stands behind the top -/
def cT (K : PySem.W.Frag) : Addr := He.ga K "Tableau"
def cP (K : PySem.W.Frag) : Addr := He.ga K "Problem"
def cA (K : PySem.W.Frag) : Addr := He.ga K "Answer"
def cS (K : PySem.W.Frag) : Addr := He.ga K "Solved"
def cB (K : PySem.W.Frag) : Addr := He.ga K "Barred"
/-- a property's getter -/
def gtr (K : PySem.W.Frag) (C : Addr) (f : Str) : Addr := match PySem.W.recIn K (He.ma K C f) "property" with
  | some (.ref g :: _) => g
  | _ => 0
/-- a function's first cell, its code -/
def cell1 (K : PySem.W.Frag) (a : Addr) : Addr := match K.lookup a with
  | some ⟨_, _, .func fd, _⟩ => (match fd.closure with
    | (_, c) :: _ => c
    | _ => 0)
  | _ => 0
def code1 (K : PySem.W.Frag) (a : Addr) : Addr := match K.lookup a with
  | some ⟨_, _, .func fd, _⟩ => (match fd.code with
    | .ref c => c
    | _ => 0)
  | _ => 0
/-! ### looks -/
def insB (K : PySem.W.Frag) (C D : Addr) (b : Bool) : Bool := He.eqO (PySem.W.findIn K (.ref C) "__class__") (some (some (.builtin "object.__class__"))) && (He.eqO (PySem.W.specialIn K (.builtin "object.__class__") "__get__") (some (some (.builtin "getset_descriptor.__get__"))) &&
  (decide (PySem.W.takesIn K (.builtin "object.__class__") = some true) && (decide (PySem.W.mroIn K C (.type "object") = some true) && decide (PySem.W.kitOne K (.ref C) (.ref D) = some b))))
def prpB (K : PySem.W.Frag) (C : Addr) (f : Str) : Bool := He.eqO (PySem.W.findIn K (.ref C) f) (some (some (.ref (He.ma K C f)))) && (He.eqO (PySem.W.specialIn K (.ref (He.ma K C f)) "__get__") (some (some (.builtin "property.__get__"))) && (decide (PySem.W.takesIn K (.ref (He.ma K C f)) = some true) &&
  (match PySem.W.recIn K (He.ma K C f) "property" with
    | some (.ref g :: _) => decide (g = gtr K C f)
    | _ => false)))
/-- the class at C, whose __init__ calls super().__init__ -/
def supB (K : PySem.W.Frag) (C : Addr) : Bool :=
  (match K.lookup (code1 K (He.ma K C "__init__")) with
    | some ⟨_, _, .fields vs, _⟩ => (match (vs[2]? : Option Value) with
      | some (.str file _) => PP.main.file == file
      | _ => false)
    | _ => false) && ((match K.lookup (cell1 K (He.ma K C "__init__")) with
    | some ⟨_, _, .cell (some (.ref D)), _⟩ => decide (D = C)
    | _ => false) && ((PySem.W.clsIn K C).isSome && (decide (PySem.W.mroIn K C (.ref C) = some true) && (He.eqO (PySem.W.nsIn K cStatics "thirdparty.any") (some none) && (He.eqO (PySem.W.ks_superIn K C C "__init__") (some (some (.ref (He.ma K (cA K) "__init__")))) &&
    (decide (PySem.W.typeIn K (.ref (He.ma K (cA K) "__init__")) = some (.type "function")) && PySem.W.fnIn K (He.ma K (cA K) "__init__")))))))
/-! ### functions found by a path of their own -/
structure DefY where
  at_ : PySem.W.Frag → Addr
  name : Str
  qual : Str
  st : Stmt
  cl : List Str
abbrev FnYV : Type := Option (Str × Str × Arguments × FuncBody × Scope × Addr × List Str × Addr)
def fnY (K : PySem.W.Frag) (a : Addr) : FnYV := match K.lookup a with
  | some ⟨_, _, .func fd, _⟩ => some (fd.name, fd.qualname, fd.params, fd.body, fd.scope, fd.globals, fd.closure.map (·.1), fd.builtins)
  | _ => none
def DefY.val (d : DefY) : FnYV := some (d.name, d.qual, defArgs d.st, .stmts (defBody d.st), defScope d.st, mainGlobals, d.cl, builtinsNs)
def noV : Value → Bool
  | .none => true
  | _ => false
def DefY.ok (K : PySem.W.Frag) (d : DefY) : Bool := PySem.W.keepIn K (.ref (d.at_ K)) && (match K.lookup (d.at_ K) with
  | some ⟨_, _, .func fd, _⟩ => PySem.W.codeIn K fd.code d.qual && noV fd.defaults
  | _ => false)
/-! ### the lists -/
def faO0 : List He.Fa := [.glo "is_whole",
  .glo "is_number",
  .glo "is_ratio",
  .glo "is_valued",
  .glo "ratio_of",
  .glo "lowest",
  .glo "plus",
  .glo "minus",
  .glo "times",
  .glo "inverse",
  .glo "below",
  .glo "dot",
  .glo "exchanged",
  .glo "least_weights",
  .glo "is_row",
  .glo "are_ratios",
  .glo "own_copy",
  .glo "as_list",
  .glo "_law_source",
  .glo "_law_draw",
  .glo "_law_low",
  .glo "_law_plus",
  .glo "_law_times",
  .glo "_law_minus",
  .glo "_law_less",
  .glo "_law_total",
  .glo "_law_dot",
  .glo "_law_gain",
  .glo "_law_rows",
  .glo "_law_keeps"]
def faO1 : List He.Fa := [.glo "_law_barred",
  .glo "_law_same",
  .glo "law",
  .glo "ZERO",
  .glo "ONE",
  .glo "Tableau",
  .glo "Problem",
  .glo "Answer",
  .glo "Solved",
  .glo "Barred",
  .free "len",
  .free "isinstance",
  .free "abs",
  .free "all",
  .free "any",
  .free "int",
  .free "bool",
  .free "list",
  .free "tuple",
  .free "repr",
  .free "range",
  .free "enumerate",
  .free "zip",
  .free "min",
  .free "super",
  .int "MOST_UNKNOWNS" 60,
  .cls "Tableau",
  .cls "Problem",
  .cls "Solved",
  .cls "Barred"]
def faO2 : List He.Fa := [.noat "Tableau" "width",
  .noat "Tableau" "many",
  .noat "Tableau" "rest",
  .noat "Tableau" "base",
  .noat "Tableau" "cells",
  .noat "Tableau" "goal",
  .noat "Problem" "own_size",
  .noat "Problem" "own_rows",
  .noat "Solved" "own_problem",
  .noat "Solved" "own_values",
  .noat "Barred" "own_problem",
  .noat "Barred" "own_weights",
  .meth "Tableau" "pivot",
  .meth "Tableau" "row_for",
  .meth "Tableau" "improve",
  .meth "Tableau" "drop",
  .meth "Tableau" "begin",
  .meth "Tableau" "aim",
  .meth "Tableau" "present",
  .meth "Tableau" "weights",
  .meth "Problem" "rows",
  .meth "Problem" "keeps",
  .meth "Problem" "solve",
  .meth "Solved" "numbers",
  .meth "Solved" "holds",
  .meth "Barred" "weights",
  .meth "Barred" "holds",
  .mkr "Tableau",
  .mkr "Problem",
  .mkr "Solved"]
def faO3 : List He.Fa := [.mkr "Barred"]
def faO : List He.Fa := faO0 ++ faO1 ++ faO2 ++ faO3
def fnO0 : List He.DefD := [⟨("is_whole", none), "is_whole", "is_whole", defArgs (topS 10), defBody (topS 10), defScope (topS 10), [], []⟩,
  ⟨("is_number", none), "is_number", "is_number", defArgs (topS 11), defBody (topS 11), defScope (topS 11), [], []⟩,
  ⟨("is_ratio", none), "is_ratio", "is_ratio", defArgs (topS 12), defBody (topS 12), defScope (topS 12), [], []⟩,
  ⟨("is_valued", none), "is_valued", "is_valued", defArgs (topS 13), defBody (topS 13), defScope (topS 13), [], []⟩,
  ⟨("ratio_of", none), "ratio_of", "ratio_of", defArgs (topS 15), defBody (topS 15), defScope (topS 15), [], []⟩,
  ⟨("lowest", none), "lowest", "lowest", defArgs (topS 14), defBody (topS 14), defScope (topS 14), [], []⟩,
  ⟨("plus", none), "plus", "plus", defArgs (topS 16), defBody (topS 16), defScope (topS 16), [], []⟩,
  ⟨("minus", none), "minus", "minus", defArgs (topS 17), defBody (topS 17), defScope (topS 17), [], []⟩,
  ⟨("times", none), "times", "times", defArgs (topS 18), defBody (topS 18), defScope (topS 18), [], []⟩,
  ⟨("inverse", none), "inverse", "inverse", defArgs (topS 19), defBody (topS 19), defScope (topS 19), [], []⟩,
  ⟨("below", none), "below", "below", defArgs (topS 20), defBody (topS 20), defScope (topS 20), [], []⟩,
  ⟨("dot", none), "dot", "dot", defArgs (topS 21), defBody (topS 21), defScope (topS 21), [], []⟩,
  ⟨("exchanged", none), "exchanged", "exchanged", defArgs (topS 24), defBody (topS 24), defScope (topS 24), [], []⟩,
  ⟨("least_weights", none), "least_weights", "least_weights", defArgs (topS 25), defBody (topS 25), defScope (topS 25), [], []⟩,
  ⟨("is_row", none), "is_row", "is_row", defArgs (topS 28), defBody (topS 28), defScope (topS 28), [], []⟩,
  ⟨("are_ratios", none), "are_ratios", "are_ratios", defArgs (topS 30), defBody (topS 30), defScope (topS 30), [], []⟩,
  ⟨("own_copy", none), "own_copy", "own_copy", defArgs (topS 31), defBody (topS 31), defScope (topS 31), [], []⟩,
  ⟨("as_list", none), "as_list", "as_list", defArgs (topS 32), defBody (topS 32), defScope (topS 32), [], []⟩,
  ⟨("_law_source", none), "_law_source", "_law_source", defArgs (topS 37), defBody (topS 37), defScope (topS 37), [], []⟩,
  ⟨("_law_draw", none), "_law_draw", "_law_draw", defArgs (topS 38), defBody (topS 38), defScope (topS 38), [], []⟩,
  ⟨("_law_low", none), "_law_low", "_law_low", defArgs (topS 40), defBody (topS 40), defScope (topS 40), [], []⟩,
  ⟨("_law_plus", none), "_law_plus", "_law_plus", defArgs (topS 41), defBody (topS 41), defScope (topS 41), [], []⟩,
  ⟨("_law_times", none), "_law_times", "_law_times", defArgs (topS 42), defBody (topS 42), defScope (topS 42), [], []⟩,
  ⟨("_law_minus", none), "_law_minus", "_law_minus", defArgs (topS 43), defBody (topS 43), defScope (topS 43), [], []⟩,
  ⟨("_law_less", none), "_law_less", "_law_less", defArgs (topS 44), defBody (topS 44), defScope (topS 44), [], []⟩,
  ⟨("_law_total", none), "_law_total", "_law_total", defArgs (topS 45), defBody (topS 45), defScope (topS 45), [], []⟩,
  ⟨("_law_dot", none), "_law_dot", "_law_dot", defArgs (topS 46), defBody (topS 46), defScope (topS 46), [], []⟩,
  ⟨("_law_gain", none), "_law_gain", "_law_gain", defArgs (topS 47), defBody (topS 47), defScope (topS 47), [], []⟩,
  ⟨("_law_rows", none), "_law_rows", "_law_rows", defArgs (topS 48), defBody (topS 48), defScope (topS 48), [], []⟩,
  ⟨("_law_keeps", none), "_law_keeps", "_law_keeps", defArgs (topS 49), defBody (topS 49), defScope (topS 49), [], []⟩]
def fnO1 : List He.DefD := [⟨("_law_barred", none), "_law_barred", "_law_barred", defArgs (topS 50), defBody (topS 50), defScope (topS 50), [], []⟩,
  ⟨("_law_same", none), "_law_same", "_law_same", defArgs (topS 39), defBody (topS 39), defScope (topS 39), [], []⟩,
  ⟨("law", none), "law", "law", defArgs (topS 51), defBody (topS 51), defScope (topS 51), [], []⟩,
  ⟨("Tableau", some "__init__"), "__init__", "Tableau.__init__", defArgs (inClass (topS 23) 0), defBody (inClass (topS 23) 0), defScope (inClass (topS 23) 0), [], []⟩,
  ⟨("Tableau", some "pivot"), "pivot", "Tableau.pivot", defArgs (inClass (topS 23) 1), defBody (inClass (topS 23) 1), defScope (inClass (topS 23) 1), [], []⟩,
  ⟨("Tableau", some "row_for"), "row_for", "Tableau.row_for", defArgs (inClass (topS 23) 2), defBody (inClass (topS 23) 2), defScope (inClass (topS 23) 2), [], []⟩,
  ⟨("Tableau", some "improve"), "improve", "Tableau.improve", defArgs (inClass (topS 23) 3), defBody (inClass (topS 23) 3), defScope (inClass (topS 23) 3), [], []⟩,
  ⟨("Tableau", some "drop"), "drop", "Tableau.drop", defArgs (inClass (topS 23) 5), defBody (inClass (topS 23) 5), defScope (inClass (topS 23) 5), [], []⟩,
  ⟨("Tableau", some "begin"), "begin", "Tableau.begin", defArgs (inClass (topS 23) 4), defBody (inClass (topS 23) 4), defScope (inClass (topS 23) 4), [], []⟩,
  ⟨("Tableau", some "aim"), "aim", "Tableau.aim", defArgs (inClass (topS 23) 6), defBody (inClass (topS 23) 6), defScope (inClass (topS 23) 6), [], []⟩,
  ⟨("Tableau", some "present"), "present", "Tableau.present", defArgs (inClass (topS 23) 7), defBody (inClass (topS 23) 7), defScope (inClass (topS 23) 7), [], []⟩,
  ⟨("Tableau", some "weights"), "weights", "Tableau.weights", defArgs (inClass (topS 23) 8), defBody (inClass (topS 23) 8), defScope (inClass (topS 23) 8), [], []⟩,
  ⟨("Problem", some "__init__"), "__init__", "Problem.__init__", defArgs (inClass (topS 29) 1), defBody (inClass (topS 29) 1), defScope (inClass (topS 29) 1), [.adr (He.dflAt ("Problem", some "__init__") 0)], []⟩,
  ⟨("Problem", some "rows"), "rows", "Problem.rows", defArgs (inClass (topS 29) 3), defBody (inClass (topS 29) 3), defScope (inClass (topS 29) 3), [], []⟩,
  ⟨("Problem", some "keeps"), "keeps", "Problem.keeps", defArgs (inClass (topS 29) 5), defBody (inClass (topS 29) 5), defScope (inClass (topS 29) 5), [], [("loose", .bl false)]⟩,
  ⟨("Problem", some "solve"), "solve", "Problem.solve", defArgs (inClass (topS 29) 6), defBody (inClass (topS 29) 6), defScope (inClass (topS 29) 6), [], []⟩,
  ⟨("Problem", some "__eq__"), "__eq__", "Problem.__eq__", defArgs (inClass (topS 29) 9), defBody (inClass (topS 29) 9), defScope (inClass (topS 29) 9), [], []⟩,
  ⟨("Answer", some "__init__"), "__init__", "Answer.__init__", defArgs (inClass (topS 33) 1), defBody (inClass (topS 33) 1), defScope (inClass (topS 33) 1), [], []⟩,
  ⟨("Answer", some "__bool__"), "__bool__", "Answer.__bool__", defArgs (inClass (topS 33) 5), defBody (inClass (topS 33) 5), defScope (inClass (topS 33) 5), [], []⟩,
  ⟨("Solved", some "__bool__"), "__bool__", "Solved.__bool__", defArgs (inClass (topS 34) 4), defBody (inClass (topS 34) 4), defScope (inClass (topS 34) 4), [], []⟩,
  ⟨("Solved", some "numbers"), "numbers", "Solved.numbers", defArgs (inClass (topS 34) 2), defBody (inClass (topS 34) 2), defScope (inClass (topS 34) 2), [], []⟩,
  ⟨("Solved", some "holds"), "holds", "Solved.holds", defArgs (inClass (topS 34) 3), defBody (inClass (topS 34) 3), defScope (inClass (topS 34) 3), [], []⟩,
  ⟨("Barred", some "weights"), "weights", "Barred.weights", defArgs (inClass (topS 35) 2), defBody (inClass (topS 35) 2), defScope (inClass (topS 35) 2), [], []⟩,
  ⟨("Barred", some "holds"), "holds", "Barred.holds", defArgs (inClass (topS 35) 3), defBody (inClass (topS 35) 3), defScope (inClass (topS 35) 3), [], []⟩]
def fnO : List He.DefD := fnO0 ++ fnO1
def exO0 : List (PySem.W.Frag → Bool) := [fun K => He.eqO (PySem.W.nsIn K mainGlobals "gcd") (some (some (.builtin "math.gcd"))),
  fun K => He.tupB K "ZERO" [.int 0, .int 1],
  fun K => He.tupB K "ONE" [.int 1, .int 1],
  fun K => insB K (cS K) (cA K) true,
  fun K => insB K (cB K) (cA K) true,
  fun K => insB K (cS K) (cS K) true,
  fun K => insB K (cB K) (cS K) false,
  fun K => insB K (cB K) (cB K) true,
  fun K => insB K (cP K) (cP K) true,
  fun K => He.eqO (PySem.W.findIn K (.ref (cP K)) "__ne__") (some (some (.builtin "object.__ne__"))),
  fun K => He.eqO (PySem.W.findIn K (.ref (cP K)) "__eq__") (some (some (.ref (He.ma K (cP K) "__eq__")))) && PySem.W.isFn K (.ref (He.ma K (cP K) "__eq__")),
  fun K => decide (PySem.W.mroIn K (cP K) (.type "object") = some true),
  fun K => He.eqO (PySem.W.findIn K (.ref (cS K)) "__bool__") (some (some (.ref (He.ma K (cS K) "__bool__")))) && PySem.W.isFn K (.ref (He.ma K (cS K) "__bool__")),
  fun K => He.eqO (PySem.W.findIn K (.ref (cB K)) "__bool__") (some (some (.ref (He.ma K (cA K) "__bool__")))) && PySem.W.isFn K (.ref (He.ma K (cA K) "__bool__")),
  fun K => prpB K (cP K) "size",
  fun K => prpB K (cS K) "problem",
  fun K => prpB K (cB K) "problem",
  fun K => supB K (cS K),
  fun K => supB K (cB K)]
def exO : List (PySem.W.Frag → Bool) := exO0
def ysO0 : List DefY := [⟨fun K => gtr K (cP K) "size", "size", "Problem.size", inClass (topS 29) 2, []⟩,
  ⟨fun K => gtr K (cS K) "problem", "problem", "Answer.problem", inClass (topS 33) 2, []⟩,
  ⟨fun K => gtr K (cB K) "problem", "problem", "Answer.problem", inClass (topS 33) 2, []⟩,
  ⟨fun K => He.ma K (cS K) "__init__", "__init__", "Solved.__init__", inClass (topS 34) 1, ["__class__"]⟩,
  ⟨fun K => He.ma K (cB K) "__init__", "__init__", "Barred.__init__", inClass (topS 35) 1, ["__class__"]⟩]
def ysO : List DefY := ysO0
def impD : He.Defn := ("Tableau", some "improve")
/-! ### the Hook -/
abbrev AlO : Type := He.AlD × Bool × List FnYV
def moreB (K : PySem.W.Frag) : Bool := (exO.all fun f => f K) && ysO.all fun d => d.ok K
def frO (g : Addr → Option Obj) : PySem.W.Frag := He.frT g (List.range 640)
def obsO (g : Addr → Option Obj) : AlO := (He.obsD faO fnO (frO g), moreB (frO g) && He.tabsB g [impD] (frO g), ysO.map fun d => fnY (frO g) (d.at_ (frO g)))
def valO : AlO := (He.valD fnO, true, ysO.map DefY.val)
structure SaysO (h : Heap) (K : PySem.W.Frag) : Prop where
  d : He.SaysD faO fnO K
  more : moreB K = true
  ys : (ysO.map fun d => fnY K (d.at_ K)) = ysO.map DefY.val
  hd : PySem.W.codeHdIn K (He.cT K impD).1 (He.cT K impD).2 = true
  out : K.lookup (He.cT K impD).2 = none
  empty : h.get? (He.cT K impD).2 = some tabO
theorem saysO_of {h : Heap} (e : obsO h.get? = valO) : SaysO h (frO h.get?) := by
  have e1 : He.obsD faO fnO (frO h.get?) = He.valD fnO := congrArg (fun z : AlO => z.1) e
  have e2 : (moreB (frO h.get?) && He.tabsB h.get? [impD] (frO h.get?)) = true := congrArg (fun z : AlO => z.2.1) e
  have e3 : (ysO.map fun d => fnY (frO h.get?) (d.at_ (frO h.get?))) = ysO.map DefY.val := congrArg (fun z : AlO => z.2.2) e
  obtain ⟨h1, h2⟩ := He.ba e2
  have h3 : ([impD].all fun p => PySem.W.codeHdIn (frO h.get?) (He.cT (frO h.get?) p).1 (He.cT (frO h.get?) p).2 && (match h.get? (He.cT (frO h.get?) p).2 with
    | some o => He.emptyTab o
    | none => false)) = true := h2
  obtain ⟨h4, h5⟩ := He.ba (List.all_eq_true.mp h3 impD (List.mem_singleton.mpr rfl))
  cases q : h.get? (He.cT (frO h.get?) impD).2 with
  | none =>
    rw [q] at h5
    cases h5
  | some o =>
    rw [q] at h5
    refine ⟨e1, h1, e3, h4, He.frT_none q h5, ?_⟩
    rw [q, He.emptyTab_eq h5]; rfl
def hkO : PySem.W.Hook where
  α := AlO
  obs := fun s => obsO s.heap.get?
  val := fun _ => valO
  says := fun _ h => ∃ K : PySem.W.Frag, K.In h ∧ SaysO h K
  of := fun _ _ e => ⟨_, He.frT_in, saysO_of e⟩
  keeps := fun _ _ _ ⟨K, hK, c⟩ k => ⟨K, PySem.W.Frag.In.keeps hK k, ⟨c.d, c.more, c.ys, c.hd, c.out, k _ _ c.empty⟩⟩
def obO (s : PySem.W.SharedT) : AlO := obsO (HandSHeadRun.getT s)
theorem obO_eq (s : PySem.W.SharedT) : obO s = hkO.obs s.abs := by
  have e : HandSHeadRun.getT s = s.abs.heap.get? := funext fun a => HandSHeadRun.getT_eq s a
  unfold obO
  rw [e]; rfl
end MM
/-! the run of the top -/
namespace MM
open PySem PySem.W PySem.Calls PyProof.Rows
abbrev rowO : OpenRow := OpenLaw.row PySem.Challenge.rw_missingmiles_k09_whole_problems_solved
abbrev viewO : Program := view rowO.prog [0, 51]
def namesA : List PySem.Str := ["_wall", "MilesError", "InvalidRatio", "InvalidNumber", "InvalidRow", "ZERO", "ONE", "is_whole", "is_number", "is_ratio", "is_valued", "lowest", "ratio_of", "plus", "minus", "times", "inverse", "below", "dot", "Tableau", "exchanged", "least_weights", "MOST_UNKNOWNS", "is_row", "Problem", "are_ratios", "own_copy", "as_list", "Answer", "Solved"]
def namesB : List PySem.Str := ["Barred", "_law_source", "_law_draw", "_law_same", "_law_low", "_law_plus", "_law_times", "_law_minus", "_law_less", "_law_total", "_law_dot", "_law_gain", "_law_rows", "_law_keeps", "_law_barred"]
def namesO : List PySem.Str := namesA ++ namesB
set_option maxHeartbeats 0 in
theorem run_o (w : World) : HandSHeadRun.RunEqI rowO viewO hkO obO 6000 namesO w := by
  unfold HandSHeadRun.RunEqI
  kernel_rfl
end MM
namespace Mm

/-! ### sums -/
def sm (f : Nat → Rat) : Nat → Rat
  | 0 => 0
  | n + 1 => sm f n + f n
theorem sm_congr {f g : Nat → Rat} : ∀ {n : Nat}, (∀ j, j < n → f j = g j) → sm f n = sm g n
  | 0, _ => rfl
  | n + 1, h => by
    show sm f n + f n = sm g n + g n
    rw [sm_congr fun j hj => h j (by omega), h n (by omega)]
theorem sm_lin (a b : Rat) (f g : Nat → Rat) : ∀ n : Nat, sm (fun j => a * f j + b * g j) n = a * sm f n + b * sm g n
  | 0 => by simp [sm, Rat.mul_zero, Rat.add_zero]
  | n + 1 => by
    show sm (fun j => a * f j + b * g j) n + (a * f n + b * g n) = a * (sm f n + f n) + b * (sm g n + g n)
    rw [sm_lin a b f g n]; grind
theorem sm_zero : ∀ {f : Nat → Rat} {n : Nat}, (∀ j, j < n → f j = 0) → sm f n = 0
  | _, 0, _ => rfl
  | f, n + 1, h => by
    show sm f n + f n = 0
    rw [sm_zero fun j hj => h j (by omega), h n (by omega)]; grind
/-- the sum without its q-th part, and that part -/
theorem sm_split (f : Nat → Rat) (q : Nat) : ∀ {n : Nat}, q < n → sm f n = sm (fun j => if j = q then 0 else f j) n + f q
  | 0, h => by omega
  | n + 1, h => by
    show sm f n + f n = sm (fun j => if j = q then 0 else f j) n + (if n = q then 0 else f n) + f q
    by_cases e : n = q
    · subst e
      rw [if_pos rfl, sm_congr (f := fun j => if j = n then 0 else f j) (g := f) fun j hj => if_neg (by omega)]
      grind
    · rw [sm_split f q (show q < n by omega), if_neg e]; grind
theorem sm_single {f : Nat → Rat} {q n : Nat} (h : q < n) (h0 : ∀ j, j < n → j ≠ q → f j = 0) : sm f n = f q := by
  rw [sm_split f q h, sm_zero (f := fun j => if j = q then 0 else f j)]
  · grind
  · intro j hj
    by_cases e : j = q
    · exact if_pos e
    · rw [if_neg e]; exact h0 j hj e
theorem sm_pos : ∀ {f : Nat → Rat} {n : Nat}, 0 < sm f n → ∃ j, j < n ∧ 0 < f j
  | _, 0, h => by simp [sm] at h
  | f, n + 1, h => by
    have h' : 0 < sm f n + f n := h
    by_cases e : 0 < f n
    · exact ⟨n, by omega, e⟩
    · obtain ⟨j, hj, h2⟩ := sm_pos (f := f) (n := n) (by grind)
      exact ⟨j, by omega, h2⟩
theorem sm_nonneg : ∀ {f : Nat → Rat} {n : Nat}, (∀ j, j < n → 0 ≤ f j) → 0 ≤ sm f n
  | _, 0, _ => by simp [sm]
  | f, n + 1, h => by
    show 0 ≤ sm f n + f n
    have a := sm_nonneg (f := f) (n := n) fun j hj => h j (by omega)
    have b := h n (by omega)
    grind

/-! ### dictionaries: basic unknowns b i told by the others r j -/
structure D where
  m : Nat
  n : Nat
  b : Nat → Nat
  r : Nat → Nat
  c : Nat → Nat → Rat
  g : Nat → Rat
/-- what a row with these cells is worth -/
def rv (n : Nat) (r : Nat → Nat) (e : Nat → Rat) (x : Nat → Rat) : Rat := e 0 + sm (fun j => e (j + 1) * x (r j)) n
def Sol (d : D) (x : Nat → Rat) : Prop := ∀ i, i < d.m → x (d.b i) = rv d.n d.r (d.c i) x
def Obj (d : D) (x : Nat → Rat) : Rat := rv d.n d.r d.g x
structure Inj (d : D) : Prop where
  b : ∀ i j, i < d.m → j < d.m → d.b i = d.b j → i = j
  r : ∀ i j, i < d.n → j < d.n → d.r i = d.r j → i = j
  br : ∀ i j, i < d.m → j < d.n → d.b i ≠ d.r j
/-- the cells of a row behind the exchange by row p (cells f) and column q -/
def ex (e f : Nat → Rat) (q : Nat) : Nat → Rat := fun k => if k = q + 1 then e (q + 1) / f (q + 1) else e k - e (q + 1) * f k / f (q + 1)
def exp (f : Nat → Rat) (q : Nat) : Nat → Rat := fun k => if k = q + 1 then 1 / f (q + 1) else - f k / f (q + 1)
structure Piv (d e : D) (p q : Nat) : Prop where
  hp : p < d.m
  hq : q < d.n
  m : e.m = d.m
  n : e.n = d.n
  nz : d.c p (q + 1) ≠ 0
  b : ∀ i, i < d.m → e.b i = if i = p then d.r q else d.b i
  r : ∀ j, j < d.n → e.r j = if j = q then d.b p else d.r j
  cp : ∀ k, k ≤ d.n → e.c p k = exp (d.c p) q k
  c : ∀ i k, i < d.m → i ≠ p → k ≤ d.n → e.c i k = ex (d.c i) (d.c p) q k
  g : ∀ k, k ≤ d.n → e.g k = ex d.g (d.c p) q k

theorem rv_congr {n : Nat} {r r' : Nat → Nat} {e e' x x' : Nat → Rat} (he : ∀ k, k ≤ n → e k = e' k) (hx : ∀ j, j < n → x (r j) = x' (r' j)) : rv n r e x = rv n r' e' x' := by
  unfold rv
  rw [he 0 (Nat.zero_le _), sm_congr fun j hj => by rw [he (j + 1) hj, hx j hj]]
/-- a row's worth, split at a column -/
theorem rv_split (n : Nat) (r : Nat → Nat) (e x : Nat → Rat) {q : Nat} (hq : q < n) : rv n r e x = e 0 + sm (fun j => if j = q then 0 else e (j + 1) * x (r j)) n + e (q + 1) * x (r q) := by
  unfold rv
  rw [sm_split _ q hq]; grind
theorem ex_rv {n q v : Nat} {r r' : Nat → Nat} {e f x : Nat → Rat} (hq : q < n) (nz : f (q + 1) ≠ 0) (hr : ∀ j, j < n → r' j = if j = q then v else r j) (hv : x v = rv n r f x) : rv n r' (ex e f q) x = rv n r e x := by
  rw [rv_split n r' _ x hq, rv_split n r e x hq]
  rw [rv_split n r f x hq] at hv
  have e1 : sm (fun j => if j = q then 0 else ex e f q (j + 1) * x (r' j)) n = 1 * sm (fun j => if j = q then 0 else e (j + 1) * x (r j)) n + (- (e (q + 1) / f (q + 1))) * sm (fun j => if j = q then 0 else f (j + 1) * x (r j)) n := by
    rw [← sm_lin]
    refine sm_congr fun j hj => ?_
    by_cases c : j = q
    · simp only [if_pos c]; grind
    · simp only [if_neg c]
      rw [hr j hj, if_neg c]
      unfold ex
      rw [if_neg (by omega)]
      grind
  rw [e1, hr q hq, if_pos rfl, hv]
  unfold ex
  rw [if_neg (by omega), if_pos rfl]
  grind
theorem exp_rv {n q v : Nat} {r r' : Nat → Nat} {f x : Nat → Rat} (hq : q < n) (nz : f (q + 1) ≠ 0) (hr : ∀ j, j < n → r' j = if j = q then v else r j) : x v = rv n r f x ↔ x (r q) = rv n r' (exp f q) x := by
  rw [rv_split n r' _ x hq, rv_split n r f x hq]
  have e1 : sm (fun j => if j = q then 0 else exp f q (j + 1) * x (r' j)) n = (- (1 / f (q + 1))) * sm (fun j => if j = q then 0 else f (j + 1) * x (r j)) n + 0 * sm (fun j => 0) n := by
    rw [← sm_lin]
    refine sm_congr fun j hj => ?_
    by_cases c : j = q
    · simp only [if_pos c]; grind
    · simp only [if_neg c]
      rw [hr j hj, if_neg c]
      unfold exp
      rw [if_neg (by omega)]
      grind
  rw [e1, hr q hq, if_pos rfl]
  unfold exp
  rw [if_neg (by omega), if_pos rfl]
  constructor <;> intro h <;> grind
theorem Piv.sol {d e : D} {p q : Nat} (P : Piv d e p q) (x : Nat → Rat) : Sol d x ↔ Sol e x := by
  have hrow : ∀ i, i < d.m → i ≠ p → x (d.b p) = rv d.n d.r (d.c p) x → rv e.n e.r (e.c i) x = rv d.n d.r (d.c i) x := fun i hi hn hv => by
    rw [P.n, rv_congr (e' := ex (d.c i) (d.c p) q) (r' := e.r) (x' := x) (fun k hk => P.c i k hi hn hk) fun _ _ => rfl]
    exact ex_rv P.hq P.nz P.r hv
  have hpr : x (d.b p) = rv d.n d.r (d.c p) x ↔ x (e.b p) = rv e.n e.r (e.c p) x := by
    rw [P.b p P.hp, if_pos rfl, P.n, rv_congr (e' := exp (d.c p) q) (r' := e.r) (x' := x) (fun k hk => P.cp k hk) fun _ _ => rfl]
    exact exp_rv P.hq P.nz P.r
  constructor
  · intro h i hi
    rw [P.m] at hi
    by_cases c : i = p
    · subst c; exact hpr.mp (h i hi)
    · rw [hrow i hi c (h p P.hp), P.b i hi, if_neg c]; exact h i hi
  · intro h i hi
    have h0 := hpr.mpr (h p (by rw [P.m]; exact P.hp))
    by_cases c : i = p
    · subst c; exact h0
    · rw [← hrow i hi c h0]
      have := h i (by rw [P.m]; exact hi)
      rw [P.b i hi, if_neg c] at this
      exact this
theorem Piv.obj {d e : D} {p q : Nat} (P : Piv d e p q) {x : Nat → Rat} (h : Sol d x) : Obj e x = Obj d x := by
  unfold Obj
  rw [P.n, rv_congr (e' := ex d.g (d.c p) q) (r' := e.r) (x' := x) (fun k hk => P.g k hk) fun _ _ => rfl]
  exact ex_rv P.hq P.nz P.r (h p P.hp)
theorem Piv.inj {d e : D} {p q : Nat} (P : Piv d e p q) (I : Inj d) : Inj e := by
  have hb := P.b
  have hr := P.r
  have h1 := I.b; have h2 := I.r; have h3 := I.br
  have hp := P.hp; have hq := P.hq
  refine ⟨fun i j hi hj h => ?_, fun i j hi hj h => ?_, fun i j hi hj h => ?_⟩
  · rw [P.m] at hi hj
    rw [hb i hi, hb j hj] at h
    split at h <;> split at h
    · omega
    · exact absurd h.symm (h3 j q hj hq)
    · exact absurd h (h3 i q hi hq)
    · exact h1 i j hi hj h
  · rw [P.n] at hi hj
    rw [hr i hi, hr j hj] at h
    split at h <;> split at h
    · omega
    · exact absurd h (h3 p j hp hj)
    · exact absurd h.symm (h3 p i hp hi)
    · exact h2 i j hi hj h
  · rw [P.m] at hi
    rw [P.n] at hj
    rw [hb i hi, hr j hj] at h
    split at h <;> split at h
    · exact h3 p q hp hq h.symm
    · have := h2 q j hq hj h; omega
    · have := h1 i p hi hp h; omega
    · exact h3 i j hi hj h

/-! ### the unknowns -/
def Bas (d : D) (v : Nat) : Prop := ∃ i, i < d.m ∧ d.b i = v
def Non (d : D) (v : Nat) : Prop := ∃ j, j < d.n ∧ d.r j = v
def Var (d : D) (v : Nat) : Prop := Bas d v ∨ Non d v
theorem bas_non {d : D} (I : Inj d) {v : Nat} (h : Bas d v) (h' : Non d v) : False := by
  obtain ⟨i, hi, rfl⟩ := h
  obtain ⟨j, hj, e⟩ := h'
  exact I.br i j hi hj e.symm
/-- who is basic behind an exchange -/
theorem Piv.bas {d e : D} {p q : Nat} (P : Piv d e p q) (I : Inj d) (v : Nat) : Bas e v ↔ v = d.r q ∨ (Bas d v ∧ v ≠ d.b p) := by
  constructor
  · rintro ⟨i, hi, h⟩
    rw [P.m] at hi
    rw [P.b i hi] at h
    split at h
    · exact .inl h.symm
    · refine .inr ⟨⟨i, hi, h⟩, fun e => ?_⟩
      have := I.b i p hi P.hp (h.trans e); omega
  · rintro (h | ⟨⟨i, hi, h⟩, h'⟩)
    · exact ⟨p, by rw [P.m]; exact P.hp, by rw [P.b p P.hp, if_pos rfl, h]⟩
    · have : i ≠ p := fun e => h' (by rw [← h, e])
      exact ⟨i, by rw [P.m]; exact hi, by rw [P.b i hi, if_neg this, h]⟩
theorem Piv.non {d e : D} {p q : Nat} (P : Piv d e p q) (I : Inj d) (v : Nat) : Non e v ↔ v = d.b p ∨ (Non d v ∧ v ≠ d.r q) := by
  constructor
  · rintro ⟨i, hi, h⟩
    rw [P.n] at hi
    rw [P.r i hi] at h
    split at h
    · exact .inl h.symm
    · refine .inr ⟨⟨i, hi, h⟩, fun e => ?_⟩
      have := I.r i q hi P.hq (h.trans e); omega
  · rintro (h | ⟨⟨i, hi, h⟩, h'⟩)
    · exact ⟨q, by rw [P.n]; exact P.hq, by rw [P.r q P.hq, if_pos rfl, h]⟩
    · have : i ≠ q := fun e => h' (by rw [← h, e])
      exact ⟨i, by rw [P.n]; exact hi, by rw [P.r i hi, if_neg this, h]⟩
theorem Piv.var {d e : D} {p q : Nat} (P : Piv d e p q) (I : Inj d) (v : Nat) : Var e v ↔ Var d v := by
  unfold Var
  rw [P.bas I, P.non I]
  have h1 : Non d (d.r q) := ⟨q, P.hq, rfl⟩
  have h2 : Bas d (d.b p) := ⟨p, P.hp, rfl⟩
  constructor
  · rintro ((h | h) | (h | h))
    · rw [h]; exact .inr h1
    · exact .inl h.1
    · rw [h]; exact .inl h2
    · exact .inr h.1
  · rintro (h | h)
    · by_cases c : v = d.b p
      · exact .inr (.inl c)
      · exact .inl (.inr ⟨h, c⟩)
    · by_cases c : v = d.r q
      · exact .inl (.inl c)
      · exact .inr (.inr ⟨h, c⟩)

/-- a solution with any values of the unknowns that are not basic -/
theorem sol_ex {d : D} (I : Inj d) (y : Nat → Rat) : ∃ x, Sol d x ∧ (∀ j, j < d.n → x (d.r j) = y j) ∧ ∀ i, i < d.m → x (d.b i) = d.c i 0 + sm (fun j => d.c i (j + 1) * y j) d.n := by
  classical
  let x : Nat → Rat := fun v => if h : Non d v then y h.choose else if h : Bas d v then d.c h.choose 0 + sm (fun j => d.c h.choose (j + 1) * y j) d.n else 0
  have hr : ∀ j, j < d.n → x (d.r j) = y j := fun j hj => by
    have h : Non d (d.r j) := ⟨j, hj, rfl⟩
    show (if h : Non d (d.r j) then y h.choose else _) = y j
    rw [dif_pos h]
    rw [I.r h.choose j h.choose_spec.1 hj h.choose_spec.2]
  have hb : ∀ i, i < d.m → x (d.b i) = d.c i 0 + sm (fun j => d.c i (j + 1) * y j) d.n := fun i hi => by
    have h : Bas d (d.b i) := ⟨i, hi, rfl⟩
    have hn : ¬ Non d (d.b i) := fun q => bas_non I h q
    show (if h : Non d (d.b i) then _ else if h : Bas d (d.b i) then _ else _) = _
    rw [dif_neg hn, dif_pos h]
    rw [I.b h.choose i h.choose_spec.1 hi h.choose_spec.2]
  refine ⟨x, fun i hi => ?_, hr, hb⟩
  rw [hb i hi]
  unfold rv
  rw [sm_congr (f := fun j => d.c i (j + 1) * y j) (g := fun j => d.c i (j + 1) * x (d.r j)) fun j hj => by rw [hr j hj]]
theorem obj_at {d : D} {x y : Nat → Rat} (h : ∀ j, j < d.n → x (d.r j) = y j) : Obj d x = d.g 0 + sm (fun j => d.g (j + 1) * y j) d.n := by
  unfold Obj rv
  rw [sm_congr (f := fun j => d.g (j + 1) * x (d.r j)) (g := fun j => d.g (j + 1) * y j) fun j hj => by rw [h j hj]]

/-! ### two dictionaries of one system -/
structure Eqv (d e : D) : Prop where
  sol : ∀ x, Sol d x ↔ Sol e x
  obj : ∀ x, Sol d x → Obj d x = Obj e x
  var : ∀ v, Var d v ↔ Var e v
  id : Inj d
  ie : Inj e
theorem Eqv.refl {d : D} (I : Inj d) : Eqv d d := ⟨fun _ => .rfl, fun _ _ => rfl, fun _ => .rfl, I, I⟩
theorem Eqv.symm {d e : D} (E : Eqv d e) : Eqv e d := ⟨fun x => (E.sol x).symm, fun x h => (E.obj x ((E.sol x).mpr h)).symm, fun v => (E.var v).symm, E.ie, E.id⟩
theorem Eqv.trans {d e f : D} (E : Eqv d e) (F : Eqv e f) : Eqv d f := ⟨fun x => (E.sol x).trans (F.sol x), fun x h => (E.obj x h).trans (F.obj x ((E.sol x).mp h)), fun v => (E.var v).trans (F.var v), E.id, F.ie⟩
theorem Piv.eqv {d e : D} {p q : Nat} (P : Piv d e p q) (I : Inj d) : Eqv d e := ⟨P.sol, fun _ h => (P.obj h).symm, fun v => (P.var I v).symm, I, P.inj I⟩

/-! ### the rule of least names -/
def Fea (d : D) : Prop := ∀ i, i < d.m → 0 ≤ d.c i 0
structure Bl (d : D) (p q : Nat) : Prop where
  hp : p < d.m
  hq : q < d.n
  gq : 0 < d.g (q + 1)
  least : ∀ j, j < d.n → 0 < d.g (j + 1) → d.r q ≤ d.r j
  cq : d.c p (q + 1) < 0
  ratio : ∀ i, i < d.m → d.c i (q + 1) < 0 → d.c p 0 / (- d.c p (q + 1)) < d.c i 0 / (- d.c i (q + 1)) ∨ (d.c p 0 / (- d.c p (q + 1)) = d.c i 0 / (- d.c i (q + 1)) ∧ d.b p ≤ d.b i)

theorem div_le_of {a b c : Rat} (hb : 0 < b) (h : a ≤ c * b) : a / b ≤ c := by
  have e : a / b * b = a := by grind
  rcases @Rat.le_total (a / b) c with h' | h'
  · exact h'
  · have := Rat.mul_le_mul_of_nonneg_right h' (Rat.le_of_lt hb)
    have e2 : a / b * b = c * b := by grind
    have e3 : a / b = c := by grind
    grind
theorem div_nonneg {a b : Rat} (ha : 0 ≤ a) (hb : 0 < b) : 0 ≤ a / b := by
  rcases @Rat.le_total 0 (a / b) with h' | h'
  · exact h'
  · have := Rat.mul_le_mul_of_nonneg_right h' (Rat.le_of_lt hb)
    have e : a / b * b = a := by grind
    have z : a = 0 := by grind
    subst z
    have : (0 : Rat) / b = 0 := by grind
    rw [this]; exact Rat.le_refl
theorem Bl.fea {d e : D} {p q : Nat} (B : Bl d p q) (P : Piv d e p q) (F : Fea d) : Fea e := by
  have h0 := F p B.hp
  have hc := B.cq
  have t0 : 0 ≤ d.c p 0 / (- d.c p (q + 1)) := div_nonneg h0 (by grind)
  intro i hi
  rw [P.m] at hi
  by_cases c : i = p
  · subst c
    rw [P.cp 0 (Nat.zero_le _)]
    unfold exp
    rw [if_neg (by omega)]
    have : - d.c i 0 / d.c i (q + 1) = d.c i 0 / (- d.c i (q + 1)) := by grind
    rw [this]; exact t0
  · rw [P.c i 0 hi c (Nat.zero_le _)]
    unfold ex
    rw [if_neg (by omega)]
    have hi0 := F i hi
    have e1 : d.c i 0 - d.c i (q + 1) * d.c p 0 / d.c p (q + 1) = d.c i 0 + d.c i (q + 1) * (d.c p 0 / (- d.c p (q + 1))) := by grind
    rw [e1]
    rcases @Rat.le_total 0 (d.c i (q + 1)) with h | h
    · have := Rat.mul_nonneg h t0; grind
    · by_cases hz : d.c i (q + 1) = 0
      · rw [hz]; grind
      · have hneg : d.c i (q + 1) < 0 := by grind
        have hr : d.c p 0 / (- d.c p (q + 1)) ≤ d.c i 0 / (- d.c i (q + 1)) := by
          rcases B.ratio i hi hneg with h | h
          · exact Rat.le_of_lt h
          · rw [h.1]; exact Rat.le_refl
        have := Rat.mul_le_mul_of_nonneg_right hr (show 0 ≤ - d.c i (q + 1) by grind)
        have e2 : d.c i 0 / (- d.c i (q + 1)) * (- d.c i (q + 1)) = d.c i 0 := by grind
        grind
theorem Bl.up {d e : D} {p q : Nat} (B : Bl d p q) (P : Piv d e p q) (F : Fea d) : d.g 0 ≤ e.g 0 := by
  have t0 : 0 ≤ d.c p 0 / (- d.c p (q + 1)) := div_nonneg (F p B.hp) (by have := B.cq; grind)
  have := Rat.mul_nonneg (Rat.le_of_lt B.gq) t0
  rw [P.g 0 (Nat.zero_le _)]
  unfold ex
  rw [if_neg (by omega)]
  have hc := B.cq
  grind
theorem Bl.flat {d e : D} {p q : Nat} (B : Bl d p q) (P : Piv d e p q) (h : e.g 0 = d.g 0) : d.c p 0 = 0 := by
  rw [P.g 0 (Nat.zero_le _)] at h
  unfold ex at h
  rw [if_neg (by omega)] at h
  have hc := B.cq
  have hg := B.gq
  have h1 : d.g (q + 1) * d.c p 0 / d.c p (q + 1) = 0 := by grind
  have h2 : d.g (q + 1) * d.c p 0 = 0 := by grind
  rcases Rat.mul_eq_zero.mp h2 with h | h
  · grind
  · exact h
end Mm
namespace Mm

/-! ### pigeons -/
theorem pigeon : ∀ (M : Nat) (f : Nat → Nat), (∀ k, k ≤ M → f k < M) → ∃ i j, i < j ∧ j ≤ M ∧ f i = f j
  | 0, f, h => by have := h 0 (Nat.le_refl _); omega
  | M + 1, f, h => by
    by_cases hc : ∃ i, i ≤ M ∧ f i = f (M + 1)
    · obtain ⟨i, hi, e⟩ := hc
      exact ⟨i, M + 1, by omega, Nat.le_refl _, e⟩
    · let g : Nat → Nat := fun k => if f k = M then f (M + 1) else f k
      have hg : ∀ k, k ≤ M → g k < M := fun k hk => by
        have h1 := h k (by omega)
        have h2 := h (M + 1) (Nat.le_refl _)
        have h3 : f k ≠ f (M + 1) := fun e => hc ⟨k, hk, e⟩
        show (if f k = M then f (M + 1) else f k) < M
        split <;> omega
      obtain ⟨i, j, hij, hj, e⟩ := pigeon M g hg
      refine ⟨i, j, hij, by omega, ?_⟩
      have h1 : f i ≠ f (M + 1) := fun e => hc ⟨i, by omega, e⟩
      have h2 : f j ≠ f (M + 1) := fun e => hc ⟨j, by omega, e⟩
      have e' : (if f i = M then f (M + 1) else f i) = (if f j = M then f (M + 1) else f j) := e
      split at e' <;> split at e' <;> omega
/-- the unknowns below N that are basic, as a number -/
noncomputable def code (d : D) : Nat → Nat
  | 0 => 0
  | N + 1 => code d N * 2 + (open Classical in if Bas d N then 1 else 0)
theorem code_lt (d : D) : ∀ N, code d N < 2 ^ N
  | 0 => by simp [code]
  | N + 1 => by
    have := code_lt d N
    show code d N * 2 + _ < 2 ^ (N + 1)
    rw [Nat.pow_succ]
    split <;> omega
theorem code_inj {d e : D} : ∀ {N : Nat}, code d N = code e N → ∀ v, v < N → (Bas d v ↔ Bas e v)
  | 0, _, v, h => by omega
  | N + 1, h, v, hv => by
    have h' : code d N * 2 + (open Classical in if Bas d N then 1 else 0) = code e N * 2 + (open Classical in if Bas e N then 1 else 0) := h
    by_cases c : v = N
    · subst c
      by_cases h1 : Bas d v <;> by_cases h2 : Bas e v <;> simp [h1, h2] at h' ⊢ <;> omega
    · refine code_inj (N := N) ?_ v (by omega)
      split at h' <;> split at h' <;> omega

/-! ### the basic solution -/
noncomputable def val (d : D) (v : Nat) : Rat := open Classical in if h : Bas d v then d.c h.choose 0 else 0
theorem val_b {d : D} (I : Inj d) {i : Nat} (hi : i < d.m) : val d (d.b i) = d.c i 0 := by
  have h : Bas d (d.b i) := ⟨i, hi, rfl⟩
  unfold val
  rw [dif_pos h, I.b h.choose i h.choose_spec.1 hi h.choose_spec.2]
theorem val_n {d : D} {v : Nat} (h : ¬ Bas d v) : val d v = 0 := by
  unfold val
  rw [dif_neg h]
theorem val_r {d : D} (I : Inj d) {j : Nat} (hj : j < d.n) : val d (d.r j) = 0 := val_n fun h => bas_non I h ⟨j, hj, rfl⟩
theorem val_sol {d : D} (I : Inj d) : Sol d (val d) := fun i hi => by
  rw [val_b I hi]
  unfold rv
  rw [sm_zero fun j hj => by rw [val_r I hj]; grind]
  grind
theorem val_obj {d : D} (I : Inj d) : Obj d (val d) = d.g 0 := by
  unfold Obj rv
  rw [sm_zero fun j hj => by rw [val_r I hj]; grind]
  grind
theorem sol_eq {d : D} {x y : Nat → Rat} (hx : Sol d x) (hy : Sol d y) (h : ∀ v, Non d v → x v = y v) : ∀ v, Var d v → x v = y v := by
  rintro v (⟨i, hi, rfl⟩ | hv)
  · rw [hx i hi, hy i hi]
    exact rv_congr (fun _ _ => rfl) fun j hj => h _ ⟨j, hj, rfl⟩
  · exact h v hv
theorem obj_eq {d : D} {x y : Nat → Rat} (h : ∀ v, Non d v → x v = y v) : Obj d x = Obj d y :=
  rv_congr (fun _ _ => rfl) fun j hj => h _ ⟨j, hj, rfl⟩
/-- equal bases: the same basic solution, the same worth -/
theorem same_g {d e : D} (E : Eqv d e) (h : ∀ v, Var d v → (Bas d v ↔ Bas e v)) : d.g 0 = e.g 0 := by
  have hn : ∀ v, Non d v → val d v = 0 ∧ val e v = 0 := fun v hv => by
    have hb : ¬ Bas d v := fun q => bas_non E.id q hv
    exact ⟨val_n hb, val_n fun q => hb ((h v (.inr hv)).mpr q)⟩
  have s1 := val_sol E.id
  have s2 := (E.sol _).mpr (val_sol E.ie)
  have e1 : Obj d (val d) = Obj d (val e) := obj_eq fun v hv => by rw [(hn v hv).1, (hn v hv).2]
  rw [← val_obj E.id, ← val_obj E.ie, e1]
  exact E.obj _ s2
theorem flat_val {d e : D} {p q : Nat} (P : Piv d e p q) (I : Inj d) (h : d.c p 0 = 0) (v : Nat) : val e v = val d v := by
  by_cases hb : Bas e v
  · obtain ⟨i, hi, rfl⟩ := hb
    rw [val_b (P.inj I) hi]
    rw [P.m] at hi
    by_cases c : i = p
    · subst c
      rw [P.b i hi, if_pos rfl, val_r I P.hq, P.cp 0 (Nat.zero_le _)]
      unfold exp
      rw [if_neg (by omega), h]; grind
    · rw [P.b i hi, if_neg c, val_b I hi, P.c i 0 hi c (Nat.zero_le _)]
      unfold ex
      rw [if_neg (by omega), h]; grind
  · rw [val_n hb]
    by_cases hd : Bas d v
    · rw [P.bas I] at hb
      have : v = d.b p := by
        by_cases c : v = d.b p
        · exact c
        · exact absurd (.inr ⟨hd, c⟩) hb
      rw [this, val_b I P.hp, h]
    · rw [val_n hd]

/-! ### no run of exchanges by the rule goes on for ever -/
structure Run (s : Nat → D) (p q : Nat → Nat) : Prop where
  I : Inj (s 0)
  F : Fea (s 0)
  piv : ∀ k, Piv (s k) (s (k + 1)) (p k) (q k)
  bl : ∀ k, Bl (s k) (p k) (q k)
section
variable {s : Nat → D} {p q : Nat → Nat}
theorem Run.inj (R : Run s p q) : ∀ k, Inj (s k)
  | 0 => R.I
  | k + 1 => (R.piv k).inj (R.inj k)
theorem Run.fea (R : Run s p q) : ∀ k, Fea (s k)
  | 0 => R.F
  | k + 1 => (R.bl k).fea (R.piv k) (R.fea k)
theorem Run.eqv (R : Run s p q) (i : Nat) : ∀ k, Eqv (s i) (s (i + k))
  | 0 => Eqv.refl (R.inj i)
  | k + 1 => (R.eqv i k).trans ((R.piv (i + k)).eqv (R.inj (i + k)))
theorem Run.up (R : Run s p q) (i : Nat) : ∀ k, (s i).g 0 ≤ (s (i + k)).g 0
  | 0 => Rat.le_refl
  | k + 1 => Rat.le_trans (R.up i k) ((R.bl (i + k)).up (R.piv (i + k)) (R.fea (i + k)))
/-- one that is basic at one time and not at a later one has left in between -/
theorem Run.left (R : Run s p q) {v a : Nat} : ∀ k, Bas (s a) v → ¬ Bas (s (a + k)) v → ∃ t, a ≤ t ∧ t < a + k ∧ (s t).b (p t) = v
  | 0, h, h' => absurd h h'
  | k + 1, h, h' => by
    by_cases c : Bas (s (a + k)) v
    · refine ⟨a + k, by omega, by omega, ?_⟩
      have e := (R.piv (a + k)).bas (R.inj (a + k)) v
      by_cases c2 : (s (a + k)).b (p (a + k)) = v
      · exact c2
      · exact absurd (e.mpr (.inr ⟨c, fun z => c2 z.symm⟩)) h'
    · obtain ⟨t, h1, h2, h3⟩ := R.left k h c
      exact ⟨t, h1, by omega, h3⟩
theorem Run.entered (R : Run s p q) {v a : Nat} : ∀ k, ¬ Bas (s a) v → Bas (s (a + k)) v → ∃ t, a ≤ t ∧ t < a + k ∧ (s t).r (q t) = v
  | 0, h, h' => absurd h' h
  | k + 1, h, h' => by
    by_cases c : Bas (s (a + k)) v
    · obtain ⟨t, h1, h2, h3⟩ := R.entered k h c
      exact ⟨t, h1, by omega, h3⟩
    · refine ⟨a + k, by omega, by omega, ?_⟩
      rcases ((R.piv (a + k)).bas (R.inj (a + k)) v).mp h' with e | e
      · exact e.symm
      · exact absurd e.1 c
/-- the greatest that enters in a stretch -/
theorem max_at (f : Nat → Nat) (a : Nat) : ∀ k, ∃ t, a ≤ t ∧ t < a + (k + 1) ∧ ∀ u, a ≤ u → u < a + (k + 1) → f u ≤ f t
  | 0 => ⟨a, by omega, by omega, fun u h1 h2 => by
    have : u = a := by omega
    rw [this]; exact Nat.le_refl _⟩
  | k + 1 => by
    obtain ⟨t, h1, h2, h3⟩ := max_at f a k
    by_cases c : f t ≤ f (a + (k + 1))
    · refine ⟨a + (k + 1), by omega, by omega, fun u hu1 hu2 => ?_⟩
      by_cases e : u = a + (k + 1)
      · rw [e]; exact Nat.le_refl _
      · exact Nat.le_trans (h3 u hu1 (by omega)) c
    · refine ⟨t, h1, by omega, fun u hu1 hu2 => ?_⟩
      by_cases e : u = a + (k + 1)
      · rw [e]; omega
      · exact h3 u hu1 (by omega)

/-- THE CYCLE CANNOT BE: one enters in dictionary e, and leaves in d -/
theorem no_cycle {d e : D} {pd qd pe qe t : Nat} (E : Eqv d e) (Bd : Bl d pd qd) (Be : Bl e pe qe) (ht : e.r qe = t) (hl : d.b pd = t) (hs : d.r qd ≤ t) (h0 : d.c pd 0 = 0)
    (hv : ∀ v, val d v = val e v) (hle : ∀ v, Bas d v → Non e v → v ≤ t) : False := by
  obtain ⟨x1, s1, r1, b1⟩ := sol_ex E.id (fun j => if j = qd then 1 else 0)
  have s0 := val_sol E.id
  have g1 : Obj d x1 = d.g 0 + d.g (qd + 1) := by
    rw [obj_at r1, sm_single (f := fun j => d.g (j + 1) * (if j = qd then 1 else 0)) Bd.hq]
    · rw [if_pos rfl]; grind
    · intro j _ hj
      rw [if_neg hj]; grind
  have g0 := val_obj E.id
  have e1 := E.obj _ s1
  have e0 := E.obj _ s0
  have hsum : Obj e x1 - Obj e (val d) = sm (fun j => e.g (j + 1) * (x1 (e.r j) - val d (e.r j))) e.n := by
    unfold Obj rv
    have : sm (fun j => e.g (j + 1) * (x1 (e.r j) - val d (e.r j))) e.n = 1 * sm (fun j => e.g (j + 1) * x1 (e.r j)) e.n + (-1) * sm (fun j => e.g (j + 1) * val d (e.r j)) e.n := by
      rw [← sm_lin]
      exact sm_congr fun j _ => by grind
    rw [this]; grind
  have hpos : 0 < sm (fun j => e.g (j + 1) * (x1 (e.r j) - val d (e.r j))) e.n := by
    rw [← hsum, ← e1, ← e0, g1, g0]
    have := Bd.gq
    grind
  obtain ⟨j, hj, hp⟩ := sm_pos hpos
  have hcand : 0 < e.g (j + 1) → t ≤ e.r j := fun h => by rw [← ht]; exact Be.least j hj h
  rcases (E.var (e.r j)).mpr (.inr ⟨j, hj, rfl⟩) with hb | hn
  · obtain ⟨i, hi, ei⟩ := hb
    have hlt := hle (e.r j) ⟨i, hi, ei⟩ ⟨j, hj, rfl⟩
    have xi : x1 (e.r j) - val d (e.r j) = d.c i (qd + 1) := by
      rw [← ei, b1 i hi, val_b E.id hi, sm_single (f := fun j => d.c i (j + 1) * (if j = qd then 1 else 0)) Bd.hq]
      · rw [if_pos rfl]; grind
      · intro j _ hj
        rw [if_neg hj]; grind
    rw [xi] at hp
    have z0 : d.c i 0 = 0 := by
      rw [← val_b E.id hi, ei, hv, val_r E.ie hj]
    have hcp := Bd.cq
    by_cases ct : e.r j = t
    · have eq : i = pd := E.id.b i pd hi Bd.hp (by rw [ei, hl]; exact ct)
      have eqj : j = qe := E.ie.r j qe hj Be.hq (by rw [ct, ht])
      subst eq; subst eqj
      have := Rat.mul_pos Be.gq (show 0 < - d.c i (qd + 1) by grind)
      grind
    · have hng : ¬ 0 < e.g (j + 1) := fun h => by have := hcand h; omega
      have hneg : d.c i (qd + 1) < 0 := by
        rcases @Rat.le_total 0 (d.c i (qd + 1)) with h | h
        · have := Rat.mul_nonneg (show 0 ≤ - e.g (j + 1) by grind) h
          grind
        · by_cases hz : d.c i (qd + 1) = 0
          · rw [hz] at hp; grind
          · grind
      rcases Bd.ratio i hi hneg with h | h
      · rw [h0, z0] at h
        have e1 : (0 : Rat) / - d.c pd (qd + 1) = 0 := by grind
        have e2 : (0 : Rat) / - d.c i (qd + 1) = 0 := by grind
        rw [e1, e2] at h
        exact absurd h (by decide)
      · have := h.2
        rw [hl, ei] at this
        omega
  · obtain ⟨k, hk, ek⟩ := hn
    have xk : x1 (e.r j) - val d (e.r j) = if k = qd then 1 else 0 := by
      rw [← ek, r1 k hk, val_r E.id hk]; grind
    rw [xk] at hp
    by_cases c : k = qd
    · rw [if_pos c] at hp
      have := hcand (by grind)
      subst c
      have h2 : t = d.r k := by omega
      exact E.id.br pd k Bd.hp hk (by rw [hl]; exact h2)
    · rw [if_neg c] at hp; grind

theorem Run.false (R : Run s p q) {N : Nat} (hN : ∀ v, Var (s 0) v → v < N) : False := by
  obtain ⟨a, b, hab, hb, hc⟩ := pigeon (2 ^ N) (fun k => code (s k) N) fun k _ => code_lt _ _
  obtain ⟨l, rfl⟩ : ∃ l, b = a + (l + 1) := ⟨b - a - 1, by omega⟩
  have E0 : ∀ k, Eqv (s 0) (s k) := fun k => by
    have := R.eqv 0 k
    rw [Nat.zero_add] at this
    exact this
  have hvar : ∀ k v, Var (s k) v → v < N := fun k v h => hN v (((E0 k).var v).mpr h)
  have hbas : ∀ v, Bas (s a) v ↔ Bas (s (a + (l + 1))) v := fun v => by
    constructor
    · intro h; exact (code_inj hc v (hvar a v (.inl h))).mp h
    · intro h; exact (code_inj hc v (hvar _ v (.inl h))).mpr h
  have hg := same_g (R.eqv a (l + 1)) fun v _ => hbas v
  have gk : ∀ k, k ≤ l + 1 → (s (a + k)).g 0 = (s a).g 0 := fun k hk => by
    have h1 := R.up a k
    have h2 := R.up (a + k) (l + 1 - k)
    have e : a + k + (l + 1 - k) = a + (l + 1) := by omega
    rw [e, ← hg] at h2
    grind
  have flat : ∀ k, k < l + 1 → (s (a + k)).c (p (a + k)) 0 = 0 := fun k hk =>
    (R.bl (a + k)).flat (R.piv (a + k)) (by
      rw [show a + k + 1 = a + (k + 1) by omega, gk (k + 1) (by omega), gk k (by omega)])
  have hval : ∀ k, k ≤ l + 1 → ∀ v, val (s (a + k)) v = val (s a) v := fun k => by
    induction k with
    | zero => intro _ v; rfl
    | succ k ih =>
      intro hk v
      rw [← ih (by omega) v]
      exact flat_val (R.piv (a + k)) (R.inj (a + k)) (flat k (by omega)) v
  -- the greatest that enters
  obtain ⟨ke, h1, h2, hmax⟩ := max_at (fun k => (s k).r (q k)) a l
  let t := (s ke).r (q ke)
  have entT : ∀ k, a ≤ k → k < a + (l + 1) → (s k).r (q k) ≤ t := hmax
  -- one that leaves enters, too
  have leaveT : ∀ k, a ≤ k → k < a + (l + 1) → (s k).b (p k) ≤ t := fun k hk1 hk2 => by
    have hb1 : Bas (s k) ((s k).b (p k)) := ⟨p k, (R.piv k).hp, rfl⟩
    have hb2 : ¬ Bas (s (k + 1)) ((s k).b (p k)) := fun h => by
      rcases ((R.piv k).bas (R.inj k) _).mp h with e | e
      · exact (R.inj k).br _ _ (R.piv k).hp (R.piv k).hq e
      · exact e.2 rfl
    by_cases c : Bas (s a) ((s k).b (p k))
    · have c' := (hbas _).mp c
      obtain ⟨u, u1, u2, u3⟩ := R.entered (a := k + 1) (a + (l + 1) - (k + 1)) hb2 (by
        rw [show k + 1 + (a + (l + 1) - (k + 1)) = a + (l + 1) by omega]; exact c')
      rw [← u3]
      exact entT u (by omega) (by omega)
    · obtain ⟨u, u1, u2, u3⟩ := R.entered (a := a) (k - a) c (by
        rw [show a + (k - a) = k by omega]; exact hb1)
      rw [← u3]
      exact entT u u1 (by omega)
  -- the greatest leaves
  have hn1 : ¬ Bas (s ke) t := fun h => bas_non (R.inj ke) h ⟨q ke, (R.piv ke).hq, rfl⟩
  have hn2 : Bas (s (ke + 1)) t := ((R.piv ke).bas (R.inj ke) t).mpr (.inl rfl)
  obtain ⟨kl, l1, l2, l3⟩ : ∃ k, a ≤ k ∧ k < a + (l + 1) ∧ (s k).b (p k) = t := by
    by_cases c : Bas (s a) t
    · obtain ⟨u, u1, u2, u3⟩ := R.left (a := a) (ke - a) c (by rw [show a + (ke - a) = ke by omega]; exact hn1)
      exact ⟨u, u1, by omega, u3⟩
    · have c' : ¬ Bas (s (a + (l + 1))) t := fun h => c ((hbas _).mpr h)
      obtain ⟨u, u1, u2, u3⟩ := R.left (a := ke + 1) (a + (l + 1) - (ke + 1)) hn2 (by
        rw [show ke + 1 + (a + (l + 1) - (ke + 1)) = a + (l + 1) by omega]; exact c')
      exact ⟨u, by omega, by omega, u3⟩
  have hst : ∀ v k k', a ≤ k → k < a + (l + 1) → a ≤ k' → k' < a + (l + 1) → Bas (s k) v → ¬ Bas (s k') v → v ≤ t := fun v k k' x1 x2 x3 x4 hb1 hb2 => by
    by_cases c : k ≤ k'
    · obtain ⟨u, u1, u2, u3⟩ := R.left (a := k) (k' - k) hb1 (by rw [show k + (k' - k) = k' by omega]; exact hb2)
      rw [← u3]; exact leaveT u (by omega) (by omega)
    · obtain ⟨u, u1, u2, u3⟩ := R.entered (a := k') (k - k') hb2 (by rw [show k' + (k - k') = k by omega]; exact hb1)
      rw [← u3]; exact entT u (by omega) (by omega)
  have hv : ∀ v, val (s kl) v = val (s ke) v := fun v => by
    have e1 := hval (kl - a) (by omega) v
    have e2 := hval (ke - a) (by omega) v
    rw [show a + (kl - a) = kl by omega] at e1
    rw [show a + (ke - a) = ke by omega] at e2
    rw [e1, e2]
  have hf := flat (kl - a) (by omega)
  rw [show a + (kl - a) = kl by omega] at hf
  exact no_cycle ((E0 kl).symm.trans (E0 ke)) (R.bl kl) (R.bl ke) rfl l3 (entT kl l1 l2) hf hv
    fun v x y => hst v kl ke l1 l2 h1 h2 x fun z => bas_non (R.inj ke) z y
end
end Mm
namespace Mm

/-! ### bounds: whole numbers over one denominator -/
def IsN (D M : Nat) (r : Rat) : Prop := ∃ n : Int, r * (D : Rat) = (n : Rat) ∧ n.natAbs ≤ M
structure Big (Dn M : Nat) (d : D) : Prop where
  c : ∀ i k, i < d.m → k ≤ d.n → IsN Dn M (d.c i k)

theorem natAbs_mul_le {a b : Int} {M : Nat} (ha : a.natAbs ≤ M) (hb : b.natAbs ≤ M) : (a * b).natAbs ≤ M * M := by
  rw [Int.natAbs_mul]; exact Nat.mul_le_mul ha hb
/-- n over D times D·|w| where everything is over D·w -/
theorem isN_of {D M : Nat} {r : Rat} {w n : Int} (hw : w ≠ 0) (h : r * ((D : Rat) * (w : Rat)) = (n : Rat)) (hn : n.natAbs ≤ M) : IsN (D * w.natAbs) M r := by
  rcases Int.natAbs_eq w with e | e
  · refine ⟨n, ?_, hn⟩
    rw [← h, Rat.natCast_mul]
    have : ((w.natAbs : Nat) : Rat) = (w : Rat) := by
      rw [← Rat.intCast_natCast, ← e]
    rw [this]
  · refine ⟨-n, ?_, by rw [Int.natAbs_neg]; exact hn⟩
    rw [Rat.natCast_mul, Rat.intCast_neg, ← h]
    have : ((w.natAbs : Nat) : Rat) = -(w : Rat) := by
      rw [← Rat.intCast_natCast, ← Rat.intCast_neg]
      congr 1
      omega
    rw [this]; grind
theorem Piv.big {d e : Mm.D} {p q D M : Nat} (P : Piv d e p q) (B : Big D M d) (h1 : 1 ≤ D) (h2 : D ≤ M) : ∃ D', 1 ≤ D' ∧ D' ≤ 2 * M * M ∧ Big D' (2 * M * M) e := by
  obtain ⟨w, hw, lw⟩ := B.c p (q + 1) P.hp (by have := P.hq; omega)
  have hD : (D : Rat) ≠ 0 := by
    intro e
    have := Rat.natCast_eq_zero_iff.mp e
    omega
  have w0 : w ≠ 0 := fun e => by
    rw [e] at hw
    have : d.c p (q + 1) * (D : Rat) = 0 := hw
    rcases Rat.mul_eq_zero.mp this with h | h
    · exact P.nz h
    · exact hD h
  have wr : (w : Rat) ≠ 0 := fun e => w0 (Rat.intCast_eq_zero_iff.mp e)
  have ea : d.c p (q + 1) = (w : Rat) / D := by grind
  have MM : M * M ≤ 2 * M * M := by rw [Nat.mul_assoc]; omega
  have DM : (D : Int).natAbs ≤ M := by simpa using h2
  have wpos : 1 ≤ w.natAbs := by
    have := Int.natAbs_pos.mpr w0; omega
  refine ⟨D * w.natAbs, Nat.mul_pos h1 wpos, Nat.le_trans (Nat.mul_le_mul h2 lw) MM, ⟨fun i k hi hk => ?_⟩⟩
  rw [P.m] at hi
  rw [P.n] at hk
  by_cases ci : i = p
  · subst ci
    rw [P.cp k hk]
    unfold exp
    by_cases ck : k = q + 1
    · rw [if_pos ck]
      refine isN_of w0 (n := (D : Int) * (D : Int)) ?_ (Nat.le_trans (natAbs_mul_le DM DM) MM)
      rw [ea, Rat.intCast_mul, Rat.intCast_natCast]; grind
    · rw [if_neg ck]
      obtain ⟨u, hu, lu⟩ := B.c i k hi hk
      have eu : d.c i k = (u : Rat) / D := by grind
      refine isN_of w0 (n := -u * (D : Int)) ?_ (Nat.le_trans (natAbs_mul_le (by rw [Int.natAbs_neg]; exact lu) DM) MM)
      rw [ea, eu, Rat.intCast_mul, Rat.intCast_neg, Rat.intCast_natCast]; grind
  · rw [P.c i k hi ci hk]
    unfold ex
    obtain ⟨v, hv, lv⟩ := B.c i (q + 1) hi (by have := P.hq; omega)
    have ev : d.c i (q + 1) = (v : Rat) / D := by grind
    by_cases ck : k = q + 1
    · rw [if_pos ck]
      refine isN_of w0 (n := v * (D : Int)) ?_ (Nat.le_trans (natAbs_mul_le lv DM) MM)
      rw [ea, ev, Rat.intCast_mul, Rat.intCast_natCast]; grind
    · rw [if_neg ck]
      obtain ⟨u, hu, lu⟩ := B.c p k P.hp hk
      have eu : d.c p k = (u : Rat) / D := by grind
      obtain ⟨z, hz, lz⟩ := B.c i k hi hk
      have ez : d.c i k = (z : Rat) / D := by grind
      refine isN_of w0 (n := z * w - v * u) ?_ ?_
      · rw [ea, ev, eu, ez, Rat.intCast_sub, Rat.intCast_mul, Rat.intCast_mul]; grind
      · have a1 := natAbs_mul_le lz lw
        have a2 := natAbs_mul_le lv lu
        have := Int.natAbs_sub_le (z * w) (v * u)
        rw [Nat.mul_assoc]
        omega

/-- how many below n -/
noncomputable def cnt (P : Nat → Prop) : Nat → Nat
  | 0 => 0
  | n + 1 => cnt P n + (open Classical in if P n then 1 else 0)
theorem cnt_congr {P Q : Nat → Prop} : ∀ {n : Nat}, (∀ j, j < n → (P j ↔ Q j)) → cnt P n = cnt Q n
  | 0, _ => rfl
  | n + 1, h => by
    show cnt P n + _ = cnt Q n + _
    rw [cnt_congr fun j hj => h j (by omega)]
    have := h n (by omega)
    by_cases c : P n
    · rw [if_pos c, if_pos (this.mp c)]
    · rw [if_neg c, if_neg (fun x => c (this.mpr x))]
theorem cnt_zero {P : Nat → Prop} : ∀ {n : Nat}, cnt P n = 0 → ∀ j, j < n → ¬ P j
  | 0, _, j, h => by omega
  | n + 1, h, j, hj => by
    have h' : cnt P n + (open Classical in if P n then 1 else 0) = 0 := h
    by_cases c : j = n
    · subst c
      intro hp
      rw [if_pos hp] at h'; omega
    · exact cnt_zero (n := n) (by omega) j (by omega)
theorem cnt_some {P : Nat → Prop} : ∀ {n : Nat}, cnt P n ≠ 0 → ∃ j, j < n ∧ P j
  | 0, h => absurd rfl h
  | n + 1, h => by
    by_cases c : P n
    · exact ⟨n, by omega, c⟩
    · have h' : cnt P n + (open Classical in if P n then 1 else 0) ≠ 0 := h
      rw [if_neg c] at h'
      obtain ⟨j, hj, hp⟩ := cnt_some (n := n) h'
      exact ⟨j, by omega, hp⟩
theorem cnt_less {P Q : Nat → Prop} {q : Nat} (hq : P q) : ∀ {n : Nat}, q < n → (∀ j, j < n → (Q j ↔ P j ∧ j ≠ q)) → cnt P n = cnt Q n + 1
  | 0, h, _ => by omega
  | n + 1, h, hQ => by
    show cnt P n + _ = cnt Q n + _ + 1
    by_cases c : q = n
    · subst c
      rw [if_pos hq, if_neg (fun x => ((hQ q (by omega)).mp x).2 rfl), cnt_congr (P := P) (Q := Q) fun j hj => ?_]
      rw [hQ j (by omega)]
      exact ⟨fun x => ⟨x, by omega⟩, fun x => x.1⟩
    · rw [cnt_less hq (n := n) (by omega) fun j hj => hQ j (by omega)]
      by_cases d : P n
      · rw [if_pos d, if_pos ((hQ n (by omega)).mpr ⟨d, fun x => c x.symm⟩)]
      · rw [if_neg d, if_neg (fun x => d ((hQ n (by omega)).mp x).1)]
theorem cnt_le (P : Nat → Prop) : ∀ n, cnt P n ≤ n
  | 0 => Nat.le_refl _
  | n + 1 => by
    have := cnt_le P n
    show cnt P n + _ ≤ n + 1
    split <;> omega

/-- the solution that moves one unknown alone by one -/
theorem sol_unit {d : D} (I : Inj d) {q : Nat} (hq : q < d.n) : ∃ x, Sol d x ∧ (∀ j, j < d.n → x (d.r j) = if j = q then 1 else 0) ∧ (∀ i, i < d.m → x (d.b i) = d.c i 0 + d.c i (q + 1)) ∧ Obj d x = d.g 0 + d.g (q + 1) := by
  obtain ⟨x, s, r, b⟩ := sol_ex I (fun j => if j = q then 1 else 0)
  refine ⟨x, s, r, fun i hi => ?_, ?_⟩
  · rw [b i hi, sm_single (f := fun j => d.c i (j + 1) * (if j = q then 1 else 0)) hq]
    · rw [if_pos rfl]; grind
    · intro j _ hj
      rw [if_neg hj]; grind
  · rw [obj_at r, sm_single (f := fun j => d.g (j + 1) * (if j = q then 1 else 0)) hq]
    · rw [if_pos rfl]; grind
    · intro j _ hj
      rw [if_neg hj]; grind
/-- a basic of e that is not basic in d may come in by an exchange with one that e has not -/
theorem exch_ex {d e : D} (E : Eqv d e) {q : Nat} (hq : q < d.n) (hb : Bas e (d.r q)) : ∃ p, p < d.m ∧ Non e (d.b p) ∧ d.c p (q + 1) ≠ 0 := by
  refine Classical.byContradiction fun hn => ?_
  have h0 : ∀ i, i < d.m → Non e (d.b i) → d.c i (q + 1) = 0 := fun i hi h => Classical.byContradiction fun c => hn ⟨i, hi, h, c⟩
  obtain ⟨x, s, r, b, _⟩ := sol_unit E.id hq
  have hx := sol_eq (d := e) ((E.sol x).mp s) ((E.sol _).mp (val_sol E.id)) (fun v hv => by
    rcases (E.var v).mpr (.inr hv) with ⟨i, hi, rfl⟩ | ⟨j, hj, rfl⟩
    · rw [b i hi, val_b E.id hi, h0 i hi hv]; grind
    · rw [r j hj, val_r E.id hj, if_neg (fun c => ?_)]
      subst c
      exact bas_non E.ie hb hv) (d.r q) (.inl hb)
  rw [r q hq, if_pos rfl, val_r E.id hq] at hx
  exact absurd hx (by decide)
/-- the dictionary behind an exchange -/
def mkPiv (d : D) (p q : Nat) : D where
  m := d.m
  n := d.n
  b := fun i => if i = p then d.r q else d.b i
  r := fun j => if j = q then d.b p else d.r j
  c := fun i => if i = p then exp (d.c p) q else ex (d.c i) (d.c p) q
  g := ex d.g (d.c p) q
theorem mkPiv_ok {d : D} {p q : Nat} (hp : p < d.m) (hq : q < d.n) (nz : d.c p (q + 1) ≠ 0) : Piv d (mkPiv d p q) p q where
  hp := hp
  hq := hq
  m := rfl
  n := rfl
  nz := nz
  b := fun _ _ => rfl
  r := fun _ _ => rfl
  cp := fun k _ => by
    show (if p = p then exp (d.c p) q else ex (d.c p) (d.c p) q) k = _
    rw [if_pos rfl]
  c := fun i k _ h _ => by
    show (if i = p then exp (d.c p) q else ex (d.c i) (d.c p) q) k = _
    rw [if_neg h]
  g := fun _ _ => rfl
/-- two dictionaries with the same basics have the same cells -/
theorem same_cells {d e : D} (E : Eqv d e) (h : ∀ j, j < d.n → ¬ Bas e (d.r j)) : ∀ i k, i < e.m → k ≤ e.n → ∃ i' k', i' < d.m ∧ k' ≤ d.n ∧ e.c i k = d.c i' k' := by
  have dn : ∀ v, Non d v → Non e v := fun v hv => by
    obtain ⟨j, hj, rfl⟩ := hv
    rcases (E.var (d.r j)).mp (.inr ⟨j, hj, rfl⟩) with x | x
    · exact absurd x (h j hj)
    · exact x
  have nd : ∀ v, Non e v → Non d v := fun v hv => by
    rcases (E.var v).mpr (.inr hv) with hb | x
    · exfalso
      obtain ⟨j, hj, rfl⟩ := id hv
      obtain ⟨x, s, r, b, _⟩ := sol_unit E.ie hj
      have hx := sol_eq (d := d) ((E.sol x).mpr s) ((E.sol _).mpr (val_sol E.ie)) (fun v hd => by
        obtain ⟨k, hk, rfl⟩ := dn v hd
        rw [r k hk, val_r E.ie hk, if_neg (fun c => ?_)]
        subst c
        exact bas_non E.id hb hd) (e.r j) (.inl hb)
      rw [r j hj, if_pos rfl, val_r E.ie hj] at hx
      exact absurd hx (by decide)
    · exact x
  intro i k hi hk
  have hbi : Bas d (e.b i) := by
    rcases (E.var (e.b i)).mpr (.inl ⟨i, hi, rfl⟩) with x | x
    · exact x
    · exact absurd (dn _ x) fun y => bas_non E.ie ⟨i, hi, rfl⟩ y
  obtain ⟨i', hi', ei⟩ := hbi
  have c0 : e.c i 0 = d.c i' 0 := by
    have h1 := sol_eq (d := d) ((E.sol _).mpr (val_sol E.ie)) (val_sol E.id) (fun v hv => by
      obtain ⟨j, hj, rfl⟩ := id hv
      obtain ⟨k, hk, ek⟩ := dn _ hv
      rw [val_r E.id hj, ← ek, val_r E.ie hk]) (e.b i) (.inl ⟨i', hi', ei⟩)
    rw [val_b E.ie hi, ← ei, val_b E.id hi'] at h1
    exact h1
  cases k with
  | zero => exact ⟨i', 0, hi', Nat.zero_le _, c0⟩
  | succ j =>
    have hj : j < e.n := by omega
    obtain ⟨j', hj', ej⟩ := nd (e.r j) ⟨j, hj, rfl⟩
    obtain ⟨x, s, r, b, _⟩ := sol_unit E.ie hj
    obtain ⟨y, s', r', b', _⟩ := sol_unit E.id hj'
    have h1 := sol_eq (d := d) ((E.sol _).mpr s) s' (fun v hv => by
      obtain ⟨u, hu, rfl⟩ := id hv
      obtain ⟨l, hl, el⟩ := dn _ hv
      rw [r' u hu, ← el, r l hl]
      by_cases c : l = j
      · subst c
        have : u = j' := E.id.r u j' hu hj' (by rw [← el, ej])
        rw [if_pos rfl, if_pos this]
      · rw [if_neg c, if_neg (fun z => c ?_)]
        subst z
        exact E.ie.r l j hl hj (by rw [el, ej])) (e.b i) (.inl ⟨i', hi', ei⟩)
    rw [b i hi, ← ei, b' i' hi', c0] at h1
    exact ⟨i', j' + 1, hi', by omega, by grind⟩
def grow : Nat → Nat → Nat
  | 0, M => M
  | k + 1, M => grow k (2 * M * M)
theorem path : ∀ (k : Nat) (d e : D) (Dn M : Nat), Eqv d e → cnt (fun j => Bas e (d.r j)) d.n = k → Big Dn M d → 1 ≤ Dn → Dn ≤ M → ∃ D', 1 ≤ D' ∧ D' ≤ grow k M ∧ Big D' (grow k M) e
  | 0, d, e, Dn, M, E, hc, B, h1, h2 => ⟨Dn, h1, h2, ⟨fun i k hi hk => by
      obtain ⟨i', k', hi', hk', ee⟩ := same_cells E (cnt_zero hc) i k hi hk
      rw [ee]; exact B.c i' k' hi' hk'⟩⟩
  | k + 1, d, e, Dn, M, E, hc, B, h1, h2 => by
    obtain ⟨q, hq, hb⟩ := cnt_some (P := fun j => Bas e (d.r j)) (n := d.n) (by omega)
    obtain ⟨p, hp, hn, nz⟩ := exch_ex E hq hb
    have P := mkPiv_ok hp hq nz
    obtain ⟨D', d1, d2, B'⟩ := P.big B h1 h2
    refine path k (mkPiv d p q) e D' (2 * M * M) ((P.eqv E.id).symm.trans E) ?_ B' d1 d2
    have := cnt_less (P := fun j => Bas e (d.r j)) (Q := fun j => Bas e ((mkPiv d p q).r j)) hb hq (fun j hj => by
      rw [P.r j hj]
      by_cases c : j = q
      · rw [if_pos c]
        exact ⟨fun x => absurd hn fun y => bas_non E.ie x y, fun x => absurd c x.2⟩
      · rw [if_neg c]
        exact ⟨fun x => ⟨x, c⟩, fun x => x.1⟩)
    rw [hc] at this
    show cnt _ d.n = k
    omega
theorem grow_mono : ∀ {k l M : Nat}, k ≤ l → 1 ≤ M → grow k M ≤ grow l M
  | 0, 0, _, _, _ => Nat.le_refl _
  | 0, l + 1, M, _, h => by
    have h2 : M ≤ 2 * M * M := by
      rw [Nat.mul_assoc]
      have := Nat.mul_le_mul h (Nat.le_refl M)
      omega
    exact Nat.le_trans h2 (grow_mono (k := 0) (l := l) (Nat.zero_le _) (by omega))
  | k + 1, l + 1, M, hk, h => grow_mono (k := k) (l := l) (by omega) (by
      have := Nat.mul_le_mul h h
      rw [Nat.mul_assoc]; omega)
/-- the objective is one unknown, or its opposite: its cells are those of that unknown -/
theorem goal_cells {d : D} (I : Inj d) {v : Nat} {a : Rat} (hv : Var d v) (h : ∀ x, Sol d x → Obj d x = a * x v) :
    (∃ i, i < d.m ∧ d.b i = v ∧ ∀ k, k ≤ d.n → d.g k = a * d.c i k) ∨ (∃ j, j < d.n ∧ d.r j = v ∧ ∀ k, k ≤ d.n → d.g k = if k = j + 1 then a else 0) := by
  have h0 := h _ (val_sol I)
  rw [val_obj I] at h0
  rcases hv with ⟨i, hi, rfl⟩ | ⟨j, hj, rfl⟩
  · refine .inl ⟨i, hi, rfl, fun k hk => ?_⟩
    rw [val_b I hi] at h0
    cases k with
    | zero => exact h0
    | succ j =>
      obtain ⟨x, s, r, b, o⟩ := sol_unit I (show j < d.n by omega)
      have := h x s
      rw [o, b i hi] at this
      grind
  · refine .inr ⟨j, hj, rfl, fun k hk => ?_⟩
    rw [val_r I hj] at h0
    cases k with
    | zero => rw [if_neg (by omega)]; grind
    | succ l =>
      obtain ⟨x, s, r, b, o⟩ := sol_unit I (show l < d.n by omega)
      have := h x s
      rw [o, r j hj] at this
      by_cases c : j = l
      · rw [if_pos c] at this
        rw [if_pos (by omega)]; grind
      · rw [if_neg c] at this
        rw [if_neg (by omega)]; grind
/-- a column without a bound -/
theorem endless {d : D} (I : Inj d) (F : Fea d) {q : Nat} (hq : q < d.n) (hg : 0 < d.g (q + 1)) (hc : ∀ i, i < d.m → 0 ≤ d.c i (q + 1)) (Y : Rat) : ∃ x, Sol d x ∧ (∀ v, Var d v → 0 ≤ x v) ∧ Y < Obj d x := by
  obtain ⟨t, t0, ht⟩ : ∃ t : Rat, 0 ≤ t ∧ Y < d.g 0 + d.g (q + 1) * t := by
    by_cases c : Y < d.g 0
    · exact ⟨0, Rat.le_refl, by grind⟩
    · refine ⟨(Y - d.g 0) / d.g (q + 1) + 1, ?_, ?_⟩
      · have := div_nonneg (show 0 ≤ Y - d.g 0 by grind) hg
        grind
      · have : d.g (q + 1) * ((Y - d.g 0) / d.g (q + 1) + 1) = Y - d.g 0 + d.g (q + 1) := by grind
        rw [this]; grind
  obtain ⟨x, s, r, b⟩ := sol_ex I (fun j => if j = q then t else 0)
  refine ⟨x, s, ?_, ?_⟩
  · rintro v (⟨i, hi, rfl⟩ | ⟨j, hj, rfl⟩)
    · rw [b i hi, sm_single (f := fun j => d.c i (j + 1) * (if j = q then t else 0)) hq]
      · rw [if_pos rfl]
        have h1 := F i hi
        have h2 := Rat.mul_nonneg (hc i hi) t0
        grind
      · intro j _ hj
        rw [if_neg hj]; grind
    · rw [r j hj]
      split
      · exact t0
      · exact Rat.le_refl
  · rw [obj_at r, sm_single (f := fun j => d.g (j + 1) * (if j = q then t else 0)) hq]
    · rw [if_pos rfl]; exact ht
    · intro j _ hj
      rw [if_neg hj]; grind
end Mm
namespace Mm
/-! ### ratios as pairs in lowest terms -/
theorem low_ok {t b : Int} (hb : 0 < b) : ((t : Rat) / (b : Rat)).num = t / ((Nat.gcd t.natAbs b.natAbs : Nat) : Int) ∧ ((((t : Rat) / (b : Rat)).den : Nat) : Int) = b / ((Nat.gcd t.natAbs b.natAbs : Nat) : Int) := by
  obtain ⟨n, rfl⟩ : ∃ n : Nat, b = (n : Int) := ⟨b.toNat, by omega⟩
  have hn : n ≠ 0 := by omega
  have e : (t : Rat) / ((n : Int) : Rat) = mkRat t n := by
    rw [Rat.mkRat_eq_div, Rat.intCast_natCast]
  rw [e]
  unfold mkRat
  rw [dif_neg hn, Rat.normalize_eq]
  simp
theorem num_den (r : Rat) : r = (r.num : Rat) / ((r.den : Int) : Rat) := by
  rw [Rat.intCast_natCast, ← Rat.mkRat_eq_div, Rat.mkRat_self]
theorem den_pos (r : Rat) : (0 : Int) < (r.den : Int) := by
  have := r.den_nz
  omega
theorem den_ne (r : Rat) : ((r.den : Int) : Rat) ≠ 0 := fun e => by
  have := Rat.intCast_eq_zero_iff.mp e
  have := den_pos r
  omega
theorem rat_ext {a b : Rat} (h1 : a.num = b.num) (h2 : (a.den : Int) = (b.den : Int)) : a = b := by
  rw [num_den a, num_den b, h1, h2]
theorem int_num (n : Int) : (n : Rat).num = n := rfl
theorem int_den (n : Int) : ((n : Rat).den : Int) = 1 := rfl
theorem eq_int_of_den {r : Rat} (h : (r.den : Int) = 1) : r = (r.num : Rat) := by
  have := num_den r
  rw [h] at this
  rw [this]
  grind
theorem add_low (a b : Rat) : a + b = ((a.num * b.den + b.num * a.den : Int) : Rat) / (((a.den : Int) * b.den : Int) : Rat) := by
  have ha := num_den a
  have hb := num_den b
  have h1 := den_ne a
  have h2 := den_ne b
  rw [Rat.intCast_add, Rat.intCast_mul, Rat.intCast_mul, Rat.intCast_mul]
  generalize ((a.den : Int) : Rat) = x at *
  generalize ((b.den : Int) : Rat) = y at *
  generalize ((a.num : Int) : Rat) = u at *
  generalize ((b.num : Int) : Rat) = v at *
  rw [ha, hb]; grind
theorem add_low_same (a b : Rat) (h : (a.den : Int) = b.den) : a + b = ((a.num + b.num : Int) : Rat) / ((a.den : Int) : Rat) := by
  have ha := num_den a
  have hb := num_den b
  have h1 := den_ne a
  rw [← h] at hb
  rw [Rat.intCast_add]
  generalize ((a.den : Int) : Rat) = x at *
  generalize ((a.num : Int) : Rat) = u at *
  generalize ((b.num : Int) : Rat) = v at *
  rw [ha, hb]; grind
theorem mul_low (a b : Rat) : a * b = ((a.num * b.num : Int) : Rat) / (((a.den : Int) * b.den : Int) : Rat) := by
  have ha := num_den a
  have hb := num_den b
  have h1 := den_ne a
  have h2 := den_ne b
  rw [Rat.intCast_mul, Rat.intCast_mul]
  generalize ((a.den : Int) : Rat) = x at *
  generalize ((b.den : Int) : Rat) = y at *
  generalize ((a.num : Int) : Rat) = u at *
  generalize ((b.num : Int) : Rat) = v at *
  rw [ha, hb]; grind
theorem inv_num {r : Rat} (h : r ≠ 0) : (if 0 < r.num then ((1 / r : Rat).num = r.den ∧ ((1 / r : Rat).den : Int) = r.num) else ((1 / r : Rat).num = -(r.den : Int) ∧ ((1 / r : Rat).den : Int) = - r.num)) := by
  have e : 1 / r = r⁻¹ := by grind
  rw [e]
  rw [Rat.num_inv, Rat.den_inv]
  have h0 : r.num ≠ 0 := fun e => h (Rat.num_eq_zero.mp e)
  split
  · rename_i hp
    have : r.num.sign = 1 := Int.sign_eq_one_of_pos hp
    rw [this]
    constructor <;> omega
  · rename_i hp
    have : r.num.sign = -1 := Int.sign_eq_neg_one_of_neg (by omega)
    rw [this]
    constructor <;> omega
theorem lt_pair (a b : Rat) : a < b ↔ a.num * (b.den : Int) < b.num * (a.den : Int) := Rat.lt_iff a b
theorem neg_pair (a : Rat) : (-a).num = - a.num ∧ ((-a).den : Int) = a.den := ⟨rfl, rfl⟩
theorem pos_num {a : Rat} : 0 < a ↔ 0 < a.num := by
  rw [lt_pair]
  have : ((0 : Rat).num) = 0 := rfl
  have h2 : ((0 : Rat).den : Int) = 1 := rfl
  rw [this, h2]; omega
theorem neg_num {a : Rat} : a < 0 ↔ a.num < 0 := by
  rw [lt_pair]
  have : ((0 : Rat).num) = 0 := rfl
  have h2 : ((0 : Rat).den : Int) = 1 := rfl
  rw [this, h2]; omega
theorem zero_num {a : Rat} : a = 0 ↔ a.num = 0 := ⟨fun h => by rw [h]; rfl, fun h => Rat.num_eq_zero.mp h⟩
theorem nonneg_num {a : Rat} : 0 ≤ a ↔ 0 ≤ a.num := Rat.num_nonneg.symm

/-! ### sizes -/
def Lt (k : Nat) (r : Rat) : Prop := r.num.natAbs < 2 ^ k ∧ r.den < 2 ^ k
theorem Lt.mono {k l : Nat} {r : Rat} (h : Lt k r) (hl : k ≤ l) : Lt l r :=
  ⟨Nat.lt_of_lt_of_le h.1 (Nat.pow_le_pow_right (by decide) hl), Nat.lt_of_lt_of_le h.2 (Nat.pow_le_pow_right (by decide) hl)⟩
theorem isN_num {N M : Nat} {r : Rat} (h1 : 1 ≤ N) (h : IsN N M r) : r.num.natAbs ≤ M ∧ r.den ≤ N := by
  obtain ⟨n, e, hn⟩ := h
  have hd := num_den r
  have dn := den_ne r
  have e2 : ((r.num * (N : Int) : Int) : Rat) = ((n * (r.den : Int) : Int) : Rat) := by
    rw [Rat.intCast_mul, Rat.intCast_mul, Rat.intCast_natCast, ← e]
    generalize ((r.den : Int) : Rat) = x at *
    generalize ((r.num : Int) : Rat) = u at *
    rw [hd]; grind
  have e3 : r.num * (N : Int) = n * (r.den : Int) := Rat.intCast_inj.mp e2
  have e4 : r.num.natAbs * N = n.natAbs * r.den := by
    have := congrArg Int.natAbs e3
    rw [Int.natAbs_mul, Int.natAbs_mul, Int.natAbs_natCast, Int.natAbs_natCast] at this
    exact this
  have hdv : r.den ∣ N := by
    have : r.den ∣ r.num.natAbs * N := ⟨n.natAbs, by rw [e4, Nat.mul_comm]⟩
    exact Nat.Coprime.dvd_of_dvd_mul_left (Nat.Coprime.symm r.reduced) this
  have hle : r.den ≤ N := Nat.le_of_dvd h1 hdv
  refine ⟨?_, hle⟩
  have : r.num.natAbs * N ≤ n.natAbs * N := by
    rw [e4]; exact Nat.mul_le_mul_left _ hle
  exact Nat.le_trans (Nat.le_of_mul_le_mul_right this h1) hn
theorem isN_lt {N M k : Nat} {r : Rat} (h1 : 1 ≤ N) (h2 : N ≤ M) (hM : M < 2 ^ k) (h : IsN N M r) : Lt k r := by
  obtain ⟨a, b⟩ := isN_num h1 h
  exact ⟨by omega, by omega⟩
/-- sizes of results -/
theorem low_lt {t b : Int} {k : Nat} (hb : 0 < b) (ht : t.natAbs < 2 ^ k) (hbk : b.natAbs < 2 ^ k) : Lt k ((t : Rat) / (b : Rat)) := by
  obtain ⟨h1, h2⟩ := low_ok (t := t) hb
  have g0 : 0 < Nat.gcd t.natAbs b.natAbs := Nat.gcd_pos_of_pos_right _ (by omega)
  have d1 : ((Nat.gcd t.natAbs b.natAbs : Nat) : Int) ∣ t := Int.ofNat_dvd_left.mpr (Nat.gcd_dvd_left _ _)
  have d2 : ((Nat.gcd t.natAbs b.natAbs : Nat) : Int) ∣ b := Int.ofNat_dvd_left.mpr (Nat.gcd_dvd_right _ _)
  generalize Nat.gcd t.natAbs b.natAbs = g at *
  have e1 := Int.ediv_mul_cancel d1
  have e2 := Int.ediv_mul_cancel d2
  rw [← h1] at e1
  rw [← h2] at e2
  have f1 := congrArg Int.natAbs e1
  have f2 := congrArg Int.natAbs e2
  rw [Int.natAbs_mul, Int.natAbs_natCast] at f1 f2
  rw [Int.natAbs_natCast] at f2
  have m1 := Nat.mul_le_mul_left ((t : Rat) / (b : Rat)).num.natAbs g0
  have m2 := Nat.mul_le_mul_left ((t : Rat) / (b : Rat)).den g0
  exact ⟨by omega, by omega⟩
theorem add_natAbs {a b : Int} {k : Nat} (ha : a.natAbs < 2 ^ k) (hb : b.natAbs < 2 ^ k) : (a + b).natAbs < 2 ^ (k + 1) := by
  have := Int.natAbs_add_le a b
  rw [Nat.pow_succ]; omega
theorem mul_natAbs {a b : Int} {k l : Nat} (ha : a.natAbs < 2 ^ k) (hb : b.natAbs < 2 ^ l) : (a * b).natAbs < 2 ^ (k + l) := by
  rw [Int.natAbs_mul, Nat.pow_add]
  exact Nat.mul_lt_mul'' ha hb
theorem Lt.add {a b : Rat} {k l : Nat} (ha : Lt k a) (hb : Lt l b) : Lt (k + l + 1) (a + b) := by
  rw [add_low]
  have da := den_pos a
  have db := den_pos b
  refine low_lt (Int.mul_pos da db) (add_natAbs (mul_natAbs ha.1 (by rw [Int.natAbs_natCast]; exact hb.2)) ?_) ?_
  · rw [Nat.add_comm k l]; exact mul_natAbs hb.1 (by rw [Int.natAbs_natCast]; exact ha.2)
  · have := mul_natAbs (a := (a.den : Int)) (b := (b.den : Int)) (k := k) (l := l) (by rw [Int.natAbs_natCast]; exact ha.2) (by rw [Int.natAbs_natCast]; exact hb.2)
    exact Nat.lt_of_lt_of_le this (Nat.pow_le_pow_right (by decide) (by omega))
theorem Lt.mul {a b : Rat} {k l : Nat} (ha : Lt k a) (hb : Lt l b) : Lt (k + l) (a * b) := by
  rw [mul_low]
  have da := den_pos a
  have db := den_pos b
  refine low_lt (Int.mul_pos da db) (mul_natAbs ha.1 hb.1) ?_
  exact mul_natAbs (a := (a.den : Int)) (b := (b.den : Int)) (k := k) (l := l) (by rw [Int.natAbs_natCast]; exact ha.2) (by rw [Int.natAbs_natCast]; exact hb.2)
theorem Lt.neg {a : Rat} {k : Nat} (ha : Lt k a) : Lt k (-a) := by
  obtain ⟨e1, e2⟩ := neg_pair a
  refine ⟨by rw [e1, Int.natAbs_neg]; exact ha.1, ?_⟩
  have : (-a).den = a.den := by omega
  rw [this]; exact ha.2
theorem Lt.inv {a : Rat} {k : Nat} (h : a ≠ 0) (ha : Lt k a) : Lt k (1 / a) := by
  have e := inv_num h
  have h1 := ha.1
  have h2 := ha.2
  split at e
  · exact ⟨by rw [e.1, Int.natAbs_natCast]; exact h2, by omega⟩
  · exact ⟨by rw [e.1, Int.natAbs_neg, Int.natAbs_natCast]; exact h2, by omega⟩
end Mm
namespace Mm
/-! ### the tableau as lists -/
structure Tab where
  width : Nat
  many : Nat
  rest : List Nat
  base : List Nat
  cells : List (List Rat)
  goal : List Rat
/-- a row in which the unknown of col is replaced -/
def exch (rs fs : List Rat) (col : Nat) : List Rat := if rs.getD col 0 = 0 then rs else (List.zipWith (fun x y => x + rs.getD col 0 * y) rs fs).set col (rs.getD col 0 * fs.getD col 0)
def freshR (r : List Rat) (col : Nat) : List Rat := (r.map fun c => -(c * (1 / r.getD col 0))).set col (1 / r.getD col 0)
def Tab.row (T : Tab) (i : Nat) : List Rat := T.cells.getD i []
def Tab.at_ (T : Tab) (i j : Nat) : Rat := (T.row i).getD j 0
def Tab.pivot (T : Tab) (row col : Nat) : Tab :=
  { T with rest := T.rest.set (col - 1) (T.base.getD row 0), base := T.base.set row (T.rest.getD (col - 1) 0),
           cells := (List.range T.cells.length).map fun i => if i = row then freshR (T.row row) col else exch (T.row i) (freshR (T.row row) col) col,
           goal := exch T.goal (freshR (T.row row) col) col }
/-- shape and sizes -/
structure Tab.Ok (k : Nat) (T : Tab) : Prop where
  gl : T.goal.length = T.rest.length + 1
  bl : T.base.length = T.cells.length
  cl : ∀ r ∈ T.cells, r.length = T.goal.length
  n1 : T.rest.length ≤ 100
  n2 : T.cells.length ≤ 100
  cb : ∀ r ∈ T.cells, ∀ x ∈ r, Lt k x
  gb : ∀ x ∈ T.goal, Lt k x
/-- the row that leaves: what the loop holds ahead of row n -/
def Tab.rf (T : Tab) (col : Nat) : Nat → Option Nat × Rat
  | 0 => (none, 0)
  | n + 1 =>
    if T.at_ n col < 0 then
      match T.rf col n with
      | (none, _) => (some n, T.at_ n 0 * (1 / (-(T.at_ n col))))
      | (some f, l) => if T.at_ n 0 * (1 / (-(T.at_ n col))) < l ∨ (T.at_ n 0 * (1 / (-(T.at_ n col))) = l ∧ T.base.getD n 0 < T.base.getD f 0) then (some n, T.at_ n 0 * (1 / (-(T.at_ n col)))) else (some f, l)
    else T.rf col n
def Tab.rowFor (T : Tab) (col : Nat) : Option Nat := (T.rf col T.cells.length).1
def Tab.Way (T : Tab) (col : Nat) : Prop := 1 ≤ col ∧ col < T.goal.length ∧ 0 < T.goal.getD col 0
def Tab.Best (T : Tab) (col : Nat) : Prop := T.Way col ∧ ∀ c, T.Way c → T.rest.getD (col - 1) 0 ≤ T.rest.getD (c - 1) 0
/-- improve, n pivots, entries below 2^k on the way -/
inductive Imp (k : Nat) : Nat → Tab → Tab → Prop
  | stop {T : Tab} : T.Ok k → (∀ c, ¬ T.Way c) → Imp k 0 T T
  | step {n : Nat} {T T' : Tab} {row col : Nat} : T.Ok k → T.Best col → (∀ c, T.Best c → c = col) → T.rowFor col = some row → row < T.cells.length → T.at_ row col ≠ 0 → Imp k n (T.pivot row col) T' → Imp k (n + 1) T T'
/-! ### the other methods -/
def Tab.init (n : Nat) (rows : List (List Rat × Rat)) : Tab :=
  { width := n, many := rows.length, rest := List.range n, base := (List.range rows.length).map (fun i => n + i), cells := rows.map fun r => r.2 :: r.1.map (fun x => -x), goal := List.replicate (n + 1) 0 }
def Tab.help (T : Tab) : Tab :=
  { T with rest := T.rest ++ [T.width + T.many], cells := T.cells.map (fun r => r ++ [1]), goal := List.replicate (T.width + 1) 0 ++ [-1] }
/-- the row of the least bound, among the first n -/
def Tab.lst (T : Tab) : Nat → Nat
  | 0 => 0
  | n + 1 => if T.at_ n 0 < T.at_ (T.lst n) 0 then n else T.lst n
/-- the columns of row that are not nothing -/
def Tab.nz (T : Tab) (row n : Nat) : List Nat := ((List.range n).filter fun c => decide (T.at_ row (c + 1) ≠ 0)).map (fun c => c + 1)
def Tab.cut (T : Tab) (col : Nat) : Tab :=
  { T with rest := T.rest.take (col - 1) ++ T.rest.drop col, cells := T.cells.map fun r => r.take col ++ r.drop (col + 1) }
/-- shape and sizes of the rows alone -/
structure Tab.Ok0 (k : Nat) (T : Tab) : Prop where
  bl : T.base.length = T.cells.length
  cl : ∀ r ∈ T.cells, r.length = T.rest.length + 1
  n1 : T.rest.length ≤ 100
  n2 : T.cells.length ≤ 100
  cb : ∀ r ∈ T.cells, ∀ x ∈ r, Lt k x
theorem Tab.Ok.ok0 {k : Nat} {T : Tab} (h : T.Ok k) : T.Ok0 k := ⟨h.bl, fun r hr => by rw [h.cl r hr, h.gl], h.n1, h.n2, h.cb⟩
/-- drop: the helper's name leaves -/
inductive Drop (k : Nat) (h : Nat) : Tab → Tab → Prop
  | out {T : Tab} : T.Ok k → h ∉ T.base → h ∈ T.rest → Drop k h T (T.cut (T.rest.idxOf h + 1))
  | turn {T : Tab} {col : Nat} : T.Ok k → h ∈ T.base → (T.nz (T.base.idxOf h) T.rest.length)[0]? = some col → (T.pivot (T.base.idxOf h) col).Ok k → h ∈ (T.pivot (T.base.idxOf h) col).rest → Drop k h T ((T.pivot (T.base.idxOf h) col).cut ((T.pivot (T.base.idxOf h) col).rest.idxOf h + 1))
/-- begin -/
inductive Begin (k : Nat) : Tab → Tab → Bool → Prop
  | fine {T : Tab} : T.Ok k → (∀ i, i < T.cells.length → 0 ≤ T.at_ i 0) → Begin k T T true
  | not {n : Nat} {T T2 : Tab} : T.Ok k → (∃ i, i < T.cells.length ∧ T.at_ i 0 < 0) → T.help.Ok k → Imp k n (T.help.pivot (T.help.lst T.help.cells.length) T.help.rest.length) T2 → T2.goal.getD 0 0 < 0 → Begin k T T2 false
  | yes {n : Nat} {T T2 T3 : Tab} : T.Ok k → (∃ i, i < T.cells.length ∧ T.at_ i 0 < 0) → T.help.Ok k → Imp k n (T.help.pivot (T.help.lst T.help.cells.length) T.help.rest.length) T2 → 0 ≤ T2.goal.getD 0 0 → Drop k (T.width + T.many) T2 T3 → Begin k T T3 true
/-- aim at the one unknown n -/
def Tab.aimed (T : Tab) (n : Nat) : Tab := { T with goal := if n ∈ T.rest then (List.replicate (T.rest.length + 1) 0).set (T.rest.idxOf n + 1) 1 else T.row (T.base.idxOf n) }
def Tab.pr (T : Tab) : Nat → List Rat
  | 0 => List.replicate T.width 0
  | i + 1 => if T.base.getD i 0 < T.width then (T.pr i).set (T.base.getD i 0) (T.at_ i 0) else T.pr i
def Tab.present (T : Tab) : List Rat := T.pr T.cells.length
def Tab.wt (T : Tab) : Nat → List Rat
  | 0 => List.replicate T.many 0
  | i + 1 => if T.width ≤ T.rest.getD i 0 ∧ T.rest.getD i 0 < T.width + T.many then (T.wt i).set (T.rest.getD i 0 - T.width) (-(T.goal.getD (i + 1) 0)) else T.wt i
def Tab.weights (T : Tab) : List Rat := T.wt T.rest.length
/-! ### solve -/
structure Row where
  f : List Rat
  b : Rat
  s : Bool
/-- the rows of the tableau -/
def slack (n : Nat) (rows : List Row) : List (List Rat × Rat) := rows.map (fun r => (r.f ++ [if r.s then 1 else 0], r.b)) ++ [(List.replicate n 0 ++ [1], 1)]
inductive Solve (k n : Nat) (rows : List Row) : Bool → List Rat → Prop
  | no {T1 : Tab} : Begin k (Tab.init (n + 1) (slack n rows)) T1 false → T1.Ok k → T1.many = rows.length + 1 → Solve k n rows false (T1.weights.take rows.length)
  | yes {m : Nat} {T1 T3 : Tab} : Begin k (Tab.init (n + 1) (slack n rows)) T1 true → T1.Ok0 k → (n ∈ T1.rest ∨ n ∈ T1.base) → Imp k m (T1.aimed n) T3 → T3.width = n + 1 → T3.many = rows.length + 1 → 0 < T3.goal.getD 0 0 → Solve k n rows true (T3.present.take n)
  | flat {m : Nat} {T1 T3 : Tab} : Begin k (Tab.init (n + 1) (slack n rows)) T1 true → T1.Ok0 k → (n ∈ T1.rest ∨ n ∈ T1.base) → Imp k m (T1.aimed n) T3 → T3.width = n + 1 → T3.many = rows.length + 1 → ¬ 0 < T3.goal.getD 0 0 → Solve k n rows false (T3.weights.take rows.length)
end Mm
namespace Mm
/-! ### lists read with getD -/
theorem gd_lt {α : Type} {l : List α} {i : Nat} {d : α} (h : i < l.length) : l.getD i d = l[i] := by
  rw [List.getD_eq_getElem?_getD, List.getElem?_eq_getElem h]; rfl
theorem gd_ge {α : Type} {l : List α} {i : Nat} {d : α} (h : l.length ≤ i) : l.getD i d = d := by
  rw [List.getD_eq_getElem?_getD, List.getElem?_eq_none h]; rfl
theorem gd_set {α : Type} {l : List α} {i k : Nat} {x d : α} (h : k < l.length) : (l.set k x).getD i d = if i = k then x else l.getD i d := by
  rw [List.getD_eq_getElem?_getD, List.getD_eq_getElem?_getD, List.getElem?_set]
  by_cases c : i = k
  · rw [if_pos c.symm, if_pos (by omega), if_pos c]; rfl
  · rw [if_neg (fun z => c z.symm), if_neg c]
theorem gd_mem {α : Type} {l : List α} {i : Nat} {d : α} (h : i < l.length) : l.getD i d ∈ l := by
  rw [gd_lt h]; exact List.getElem_mem h
theorem gd_map {α β : Type} {f : α → β} {l : List α} {i : Nat} {d : β} {e : α} (h : i < l.length) : (l.map f).getD i d = f (l.getD i e) := by
  rw [gd_lt (by rw [List.length_map]; exact h), gd_lt h, List.getElem_map]
theorem gd_range {n i d : Nat} (h : i < n) : (List.range n).getD i d = i := by
  rw [gd_lt (by rw [List.length_range]; exact h), List.getElem_range]
/-- the dictionary of a tableau -/
def dic (T : Tab) : D where
  m := T.cells.length
  n := T.rest.length
  b := fun i => T.base.getD i 0
  r := fun j => T.rest.getD j 0
  c := fun i k => T.at_ i k
  g := fun k => T.goal.getD k 0
structure Sh0 (T : Tab) : Prop where
  bl : T.base.length = T.cells.length
  cl : ∀ i, i < T.cells.length → (T.row i).length = T.rest.length + 1
structure Sh (T : Tab) : Prop extends Sh0 T where
  gl : T.goal.length = T.rest.length + 1
theorem exch_len {rs fs : List Rat} {col : Nat} (h : rs.length = fs.length) : (exch rs fs col).length = rs.length := by
  unfold exch
  by_cases c : rs.getD col 0 = 0
  · rw [if_pos c]
  · rw [if_neg c, List.length_set, List.length_zipWith, h, Nat.min_self]
theorem fresh_len {r : List Rat} {col : Nat} : (freshR r col).length = r.length := by
  unfold freshR
  rw [List.length_set, List.length_map]
theorem fresh_at {r : List Rat} {col k : Nat} (hc : col < r.length) (hk : k < r.length) : (freshR r col).getD k 0 = if k = col then 1 / r.getD col 0 else -(r.getD k 0 * (1 / r.getD col 0)) := by
  unfold freshR
  rw [gd_set (by rw [List.length_map]; exact hc)]
  by_cases c : k = col
  · rw [if_pos c, if_pos c]
  · rw [if_neg c, if_neg c, gd_map (e := 0) hk]
theorem exch_at {rs fs : List Rat} {col k : Nat} (h : rs.length = fs.length) (hc : col < rs.length) (hk : k < rs.length) (hf : rs.getD col 0 = 0 → k = col → True) :
    (exch rs fs col).getD k 0 = if rs.getD col 0 = 0 then rs.getD k 0 else if k = col then rs.getD col 0 * fs.getD col 0 else rs.getD k 0 + rs.getD col 0 * fs.getD k 0 := by
  unfold exch
  by_cases c : rs.getD col 0 = 0
  · rw [if_pos c, if_pos c]
  · rw [if_neg c, if_neg c, gd_set (by rw [List.length_zipWith, ← h, Nat.min_self]; exact hc)]
    by_cases e : k = col
    · rw [if_pos e, if_pos e]
    · rw [if_neg e, if_neg e, gd_lt (by rw [List.length_zipWith, ← h, Nat.min_self]; exact hk), List.getElem_zipWith, gd_lt hk, gd_lt (show k < fs.length by omega)]
theorem fresh_exp {r : List Rat} {q k : Nat} (hc : q + 1 < r.length) (hk : k < r.length) : (freshR r (q + 1)).getD k 0 = exp (fun k => r.getD k 0) q k := by
  rw [fresh_at hc hk]
  unfold exp
  by_cases c : k = q + 1
  · rw [if_pos c, if_pos c]
  · rw [if_neg c, if_neg c]; grind
theorem exch_exq {rs r : List Rat} {q k : Nat} (h : rs.length = r.length) (hc : q + 1 < r.length) (hk : k < r.length) (nz : r.getD (q + 1) 0 ≠ 0) : (exch rs (freshR r (q + 1)) (q + 1)).getD k 0 = ex (fun k => rs.getD k 0) (fun k => r.getD k 0) q k := by
  rw [exch_at (by rw [fresh_len]; exact h) (by omega) (by omega) (fun _ _ => trivial)]
  rw [fresh_at hc hc, fresh_at hc hk]
  unfold ex
  by_cases c : rs.getD (q + 1) 0 = 0
  · rw [if_pos c]
    by_cases e : k = q + 1
    · rw [if_pos e, e, c]; grind
    · rw [if_neg e]
      show rs.getD k 0 = rs.getD k 0 - rs.getD (q + 1) 0 * r.getD k 0 / r.getD (q + 1) 0
      rw [c]; grind
  · rw [if_neg c]
    by_cases e : k = q + 1
    · rw [if_pos e, if_pos e, if_pos rfl]; grind
    · rw [if_neg e, if_neg e, if_neg e]; grind
theorem row_piv {T : Tab} {row col i : Nat} (hi : i < T.cells.length) : (T.pivot row col).row i = if i = row then freshR (T.row row) col else exch (T.row i) (freshR (T.row row) col) col := by
  show ((List.range T.cells.length).map _).getD i [] = _
  rw [gd_map (e := 0) (by rw [List.length_range]; exact hi), gd_range hi]
theorem piv_clen {T : Tab} {row col : Nat} : (T.pivot row col).cells.length = T.cells.length := by
  show ((List.range T.cells.length).map _).length = _
  rw [List.length_map, List.length_range]
theorem piv_rlen {T : Tab} {row col : Nat} : (T.pivot row col).rest.length = T.rest.length := List.length_set ..
theorem piv_sh0 {T : Tab} {row col : Nat} (S : Sh0 T) (hr : row < T.cells.length) : Sh0 (T.pivot row col) := by
  refine ⟨?_, fun i hi => ?_⟩
  · show (T.base.set _ _).length = _
    rw [List.length_set, piv_clen, S.bl]
  · rw [piv_clen] at hi
    rw [row_piv hi, piv_rlen]
    by_cases c : i = row
    · rw [if_pos c, fresh_len, S.cl row hr]
    · rw [if_neg c, exch_len (by rw [fresh_len, S.cl row hr, S.cl i hi]), S.cl i hi]
theorem piv_sh {T : Tab} {row col : Nat} (S : Sh T) (hr : row < T.cells.length) : Sh (T.pivot row col) := by
  refine ⟨piv_sh0 S.toSh0 hr, ?_⟩
  show (exch T.goal _ col).length = _
  rw [exch_len (by rw [fresh_len, S.cl row hr, S.gl]), S.gl, piv_rlen]
theorem dic_piv {T : Tab} {row q : Nat} (S : Sh T) (hr : row < T.cells.length) (hq : q < T.rest.length) (nz : T.at_ row (q + 1) ≠ 0) : Piv (dic T) (dic (T.pivot row (q + 1))) row q where
  hp := hr
  hq := hq
  m := piv_clen
  n := piv_rlen
  nz := nz
  b := fun i hi => by
    show (T.base.set row (T.rest.getD (q + 1 - 1) 0)).getD i 0 = _
    rw [gd_set (by rw [S.bl]; exact hr)]; rfl
  r := fun j hj => by
    show (T.rest.set (q + 1 - 1) (T.base.getD row 0)).getD j 0 = _
    rw [gd_set (by simpa using hq)]; rfl
  cp := fun k hk => by
    have hk : k ≤ T.rest.length := hk
    show ((T.pivot row (q + 1)).row row).getD k 0 = _
    rw [row_piv hr, if_pos rfl, fresh_exp (by rw [S.cl row hr]; omega) (by rw [S.cl row hr]; omega)]; rfl
  c := fun i k hi hn hk => by
    have hk : k ≤ T.rest.length := hk
    have hi : i < T.cells.length := hi
    show ((T.pivot row (q + 1)).row i).getD k 0 = _
    rw [row_piv hi, if_neg hn, exch_exq (by rw [S.cl row hr, S.cl i hi]) (by rw [S.cl row hr]; omega) (by rw [S.cl row hr]; omega) nz]; rfl
  g := fun k hk => by
    have hk : k ≤ T.rest.length := hk
    show (exch T.goal (freshR (T.row row) (q + 1)) (q + 1)).getD k 0 = _
    rw [exch_exq (by rw [S.cl row hr, S.gl]) (by rw [S.cl row hr]; omega) (by rw [S.cl row hr]; omega) nz]; rfl
/-! ### the row that leaves -/
theorem rf_none (T : Tab) (col : Nat) : ∀ n, (T.rf col n).1 = none → ∀ i, i < n → ¬ T.at_ i col < 0
  | 0, _, i, h => by omega
  | n + 1, h, i, hi => by
    unfold Tab.rf at h
    by_cases c : T.at_ n col < 0
    · rw [if_pos c] at h
      split at h
      · cases h
      · split at h <;> cases h
    · rw [if_neg c] at h
      by_cases e : i = n
      · rw [e]; exact c
      · exact rf_none T col n h i (by omega)
def Tab.rt (T : Tab) (col i : Nat) : Rat := T.at_ i 0 * (1 / (-(T.at_ i col)))
theorem rf_some (T : Tab) (col : Nat) : ∀ n p, (T.rf col n).1 = some p → p < n ∧ T.at_ p col < 0 ∧ (T.rf col n).2 = T.rt col p ∧ ∀ i, i < n → T.at_ i col < 0 → T.rt col p < T.rt col i ∨ (T.rt col p = T.rt col i ∧ T.base.getD p 0 ≤ T.base.getD i 0)
  | 0, p, h => by cases h
  | n + 1, p, h => by
    unfold Tab.rf at h ⊢
    by_cases c : T.at_ n col < 0
    · rw [if_pos c] at h ⊢
      split at h
      · rename_i l e
        have hn := rf_none T col n (by rw [e])
        injection h with h
        subst h
        refine ⟨by omega, c, rfl, fun i hi hc => ?_⟩
        by_cases z : i = n
        · rw [z]; exact .inr ⟨rfl, Nat.le_refl _⟩
        · exact absurd hc (hn i (by omega))
      · rename_i f l e
        obtain ⟨f1, f2, f3, f4⟩ := rf_some T col n f (by rw [e])
        rw [e] at f3
        have f3 : l = T.rt col f := f3
        subst f3
        have hh : T.rt col n < T.rt col f ∨ (T.rt col n = T.rt col f ∧ T.base.getD n 0 < T.base.getD f 0) ∨ ¬ (T.rt col n < T.rt col f ∨ (T.rt col n = T.rt col f ∧ T.base.getD n 0 < T.base.getD f 0)) := by
          by_cases z : T.rt col n < T.rt col f ∨ (T.rt col n = T.rt col f ∧ T.base.getD n 0 < T.base.getD f 0)
          · rcases z with z | z
            · exact .inl z
            · exact .inr (.inl z)
          · exact .inr (.inr z)
        by_cases z : T.rt col n < T.rt col f ∨ (T.rt col n = T.rt col f ∧ T.base.getD n 0 < T.base.getD f 0)
        · have z' := z
          unfold Tab.rt at z'
          rw [show (T.rt col f) = T.at_ f 0 * (1 / (-(T.at_ f col))) from rfl] at h ⊢
          rw [if_pos z'] at h ⊢
          injection h with h
          subst h
          refine ⟨by omega, c, rfl, fun i hi hc => ?_⟩
          by_cases y : i = n
          · rw [y]; exact .inr ⟨rfl, Nat.le_refl _⟩
          · rcases f4 i (by omega) hc with g | g
            · left; rcases z with z | z <;> grind
            · rcases z with z | z
              · left; grind
              · right; exact ⟨by grind, by omega⟩
        · have z' := z
          unfold Tab.rt at z'
          rw [show (T.rt col f) = T.at_ f 0 * (1 / (-(T.at_ f col))) from rfl] at h ⊢
          rw [if_neg z'] at h ⊢
          injection h with h
          subst h
          refine ⟨by omega, f2, rfl, fun i hi hc => ?_⟩
          by_cases y : i = n
          · subst y
            by_cases y : T.rt col f < T.rt col i
            · exact .inl y
            · right
              have e1 : T.rt col f = T.rt col i := by grind
              exact ⟨e1, by
                by_cases w : T.base.getD i 0 < T.base.getD f 0
                · exact absurd (.inr ⟨e1.symm, w⟩) z
                · omega⟩
          · exact f4 i (by omega) hc
    · rw [if_neg c] at h ⊢
      obtain ⟨f1, f2, f3, f4⟩ := rf_some T col n p h
      refine ⟨by omega, f2, f3, fun i hi hc => ?_⟩
      by_cases y : i = n
      · rw [y] at hc; exact absurd hc c
      · exact f4 i (by omega) hc
theorem bl_of {T : Tab} {row q : Nat} (S : Sh T) (hb : T.Best (q + 1)) (hr : T.rowFor (q + 1) = some row) : Bl (dic T) row q := by
  obtain ⟨h1, h2, _, h4⟩ := rf_some T (q + 1) _ _ hr
  obtain ⟨⟨_, w2, w3⟩, bb⟩ := hb
  have hq : q < T.rest.length := by rw [S.gl] at w2; omega
  refine ⟨h1, hq, w3, fun j hj hg => ?_, h2, fun i hi hc => ?_⟩
  · exact bb (j + 1) ⟨by omega, by rw [S.gl]; exact Nat.add_lt_add_right hj 1, hg⟩
  · have e : ∀ i, (dic T).c i 0 / (-(dic T).c i (q + 1)) = T.rt (q + 1) i := fun i => by
      show T.at_ i 0 / (-(T.at_ i (q + 1))) = T.at_ i 0 * (1 / (-(T.at_ i (q + 1))))
      grind
    rw [e, e]
    exact h4 i hi hc
end Mm
namespace Mm
theorem min_ex {P : Nat → Prop} (f : Nat → Nat) : ∀ N, (∃ c, P c ∧ f c ≤ N) → ∃ c, P c ∧ ∀ c', P c' → f c ≤ f c'
  | 0, ⟨c, h, hc⟩ => ⟨c, h, fun c' _ => by omega⟩
  | N + 1, ⟨c, h, hc⟩ => by
    by_cases e : ∃ c', P c' ∧ f c' ≤ N
    · exact min_ex f N e
    · exact ⟨c, h, fun c' h' => by
        by_cases z : f c' ≤ N
        · exact absurd ⟨c', h', z⟩ e
        · omega⟩
theorem best_ex {T : Tab} (h : ∃ c, T.Way c) : ∃ c, T.Best c := by
  obtain ⟨c, hc⟩ := h
  obtain ⟨d, h1, h2⟩ := min_ex (P := T.Way) (fun c => T.rest.getD (c - 1) 0) _ ⟨c, hc, Nat.le_refl _⟩
  exact ⟨d, h1, h2⟩
theorem best_one {T : Tab} (S : Sh T) (I : Inj (dic T)) {c d : Nat} (hc : T.Best c) (hd : T.Best d) : d = c := by
  have h1 := hc.2 d hd.1
  have h2 := hd.2 c hc.1
  obtain ⟨⟨c1, c2, _⟩, _⟩ := hc
  obtain ⟨⟨d1, d2, _⟩, _⟩ := hd
  rw [S.gl] at c2 d2
  have := I.r (c - 1) (d - 1) (show c - 1 < T.rest.length by omega) (show d - 1 < T.rest.length by omega) (by show T.rest.getD (c - 1) 0 = T.rest.getD (d - 1) 0; omega)
  omega
/-- on the way from T0 -/
structure Sys (T0 T : Tab) : Prop where
  sh : Sh T
  eqv : Eqv (dic T0) (dic T)
  fea : Fea (dic T)
  w : T.width = T0.width
  m : T.many = T0.many
  rl : T.rest.length = T0.rest.length
  cl : T.cells.length = T0.cells.length
theorem sys_step {T0 T : Tab} (S : Sys T0 T) (hbd : ∀ col, T.Way col → T.rowFor col ≠ none) (h : ∃ c, T.Way c) : ∃ row q, T.Best (q + 1) ∧ T.rowFor (q + 1) = some row ∧ row < T.cells.length ∧ T.at_ row (q + 1) ≠ 0 ∧
    Sys T0 (T.pivot row (q + 1)) ∧ Piv (dic T) (dic (T.pivot row (q + 1))) row q ∧ Bl (dic T) row q := by
  obtain ⟨c, hc⟩ := best_ex h
  obtain ⟨q, rfl⟩ : ∃ q, c = q + 1 := ⟨c - 1, by have := hc.1.1; omega⟩
  cases hr : T.rowFor (q + 1) with
  | none => exact absurd hr (hbd _ hc.1)
  | some row =>
    have B := bl_of S.sh hc hr
    have h1 : row < T.cells.length := B.hp
    have h2 : q < T.rest.length := B.hq
    have h3 : T.at_ row (q + 1) < 0 := B.cq
    have h4 : T.at_ row (q + 1) ≠ 0 := by grind
    have P := dic_piv S.sh h1 h2 h4
    exact ⟨row, q, hc, hr, h1, h4, ⟨piv_sh S.sh h1, S.eqv.trans (P.eqv S.eqv.ie), B.fea P S.fea, S.w, S.m, piv_rlen.trans S.rl, piv_clen.trans S.cl⟩, P, B⟩
theorem var_bound {T : Tab} (S : Sh T) : ∃ N, ∀ v, Var (dic T) v → v < N := by
  refine ⟨(T.base ++ T.rest).foldr max 0 + 1, ?_⟩
  have hm : ∀ (l : List Nat) (v : Nat), v ∈ l → v ≤ l.foldr max 0 := by
    intro l
    induction l with
    | nil => intro v h; simp at h
    | cons a l ih =>
      intro v h
      rw [List.foldr_cons]
      rcases List.mem_cons.mp h with h | h
      · omega
      · have := ih v h; omega
  rintro v (⟨i, hi, rfl⟩ | ⟨j, hj, rfl⟩)
  · have := hm (T.base ++ T.rest) _ (List.mem_append.mpr (.inl (gd_mem (d := 0) (show i < T.base.length by rw [S.bl]; exact hi))))
    exact Nat.lt_succ_of_le this
  · have := hm (T.base ++ T.rest) _ (List.mem_append.mpr (.inr (gd_mem (d := 0) (show j < T.rest.length from hj))))
    exact Nat.lt_succ_of_le this
theorem imp_ends {k : Nat} {T0 : Tab} (S0 : Sh T0) (I : Inj (dic T0)) (F : Fea (dic T0)) (hok : ∀ T, Sys T0 T → T.Ok k) (hbd : ∀ T, Sys T0 T → ∀ col, T.Way col → T.rowFor col ≠ none) :
    ∃ n T', Imp k n T0 T' ∧ Sys T0 T' ∧ ∀ c, ¬ T'.Way c := by
  classical
  have st : ∀ T : {T // Sys T0 T}, (∃ c, T.1.Way c) → ∃ z : {T // Sys T0 T} × Nat × Nat, T.1.Best (z.2.2 + 1) ∧ T.1.rowFor (z.2.2 + 1) = some z.2.1 ∧ z.2.1 < T.1.cells.length ∧ T.1.at_ z.2.1 (z.2.2 + 1) ≠ 0 ∧
      z.1.1 = T.1.pivot z.2.1 (z.2.2 + 1) ∧ Piv (dic T.1) (dic z.1.1) z.2.1 z.2.2 ∧ Bl (dic T.1) z.2.1 z.2.2 := fun T h => by
    obtain ⟨row, q, h1, h2, h3, h4, h5, h6, h7⟩ := sys_step T.2 (hbd _ T.2) h
    exact ⟨(⟨_, h5⟩, row, q), h1, h2, h3, h4, rfl, h6, h7⟩
  let nx : {T // Sys T0 T} → {T // Sys T0 T} × Nat × Nat := fun T => if h : ∃ c, T.1.Way c then (st T h).choose else (T, 0, 0)
  have nxp : ∀ T : {T // Sys T0 T}, (∃ c, T.1.Way c) → T.1.Best ((nx T).2.2 + 1) ∧ T.1.rowFor ((nx T).2.2 + 1) = some (nx T).2.1 ∧ (nx T).2.1 < T.1.cells.length ∧ T.1.at_ (nx T).2.1 ((nx T).2.2 + 1) ≠ 0 ∧
      (nx T).1.1 = T.1.pivot (nx T).2.1 ((nx T).2.2 + 1) ∧ Piv (dic T.1) (dic (nx T).1.1) (nx T).2.1 (nx T).2.2 ∧ Bl (dic T.1) (nx T).2.1 (nx T).2.2 := fun T h => by
    have e : nx T = (st T h).choose := dif_pos h
    rw [e]
    exact (st T h).choose_spec
  have s0 : Sys T0 T0 := ⟨S0, Eqv.refl I, F, rfl, rfl, rfl, rfl⟩
  let sq : Nat → {T // Sys T0 T} := fun k => Nat.rec ⟨T0, s0⟩ (fun _ T => (nx T).1) k
  have hs : ∀ k, sq (k + 1) = (nx (sq k)).1 := fun _ => rfl
  have hK : ∃ K, ¬ ∃ c, (sq K).1.Way c := Classical.byContradiction fun hn => by
    have hw : ∀ K, ∃ c, (sq K).1.Way c := fun K => Classical.byContradiction fun z => hn ⟨K, z⟩
    have R : Run (fun k => dic (sq k).1) (fun k => (nx (sq k)).2.1) (fun k => (nx (sq k)).2.2) := ⟨I, F, fun k => (nxp (sq k) (hw k)).2.2.2.2.2.1, fun k => (nxp (sq k) (hw k)).2.2.2.2.2.2⟩
    obtain ⟨N, hN⟩ := var_bound S0
    exact R.false hN
  obtain ⟨K, hK⟩ := hK
  have fin : ∀ j i, (¬ ∃ c, (sq (i + j)).1.Way c) → ∃ n T', Imp k n (sq i).1 T' ∧ Sys T0 T' ∧ ∀ c, ¬ T'.Way c := by
    intro j
    induction j with
    | zero => exact fun i h => ⟨0, _, .stop (hok _ (sq i).2) (fun c hc => h ⟨c, hc⟩), (sq i).2, fun c hc => h ⟨c, hc⟩⟩
    | succ j ih =>
      intro i h
      by_cases w : ∃ c, (sq i).1.Way c
      · obtain ⟨p1, p2, p3, p4, p5, _, _⟩ := nxp (sq i) w
        obtain ⟨n, T', h1, h2, h3⟩ := ih (i + 1) (by rw [show i + 1 + j = i + (j + 1) by omega]; exact h)
        rw [hs, p5] at h1
        exact ⟨n + 1, T', .step (hok _ (sq i).2) p1 (fun c hc => best_one (sq i).2.sh (sq i).2.eqv.ie p1 hc) p2 p3 p4 h1, h2, h3⟩
      · exact ⟨0, _, .stop (hok _ (sq i).2) (fun c hc => w ⟨c, hc⟩), (sq i).2, fun c hc => w ⟨c, hc⟩⟩
  exact fin K 0 (by rw [Nat.zero_add]; exact hK)
end Mm
namespace Mm
/-! ### sizes on the way -/
def M0 : Nat := 60000000000
def G0 : Nat := grow 5 (2 * M0)
theorem G0_lt : G0 < 2 ^ 1290 := by decide +kernel
theorem G0_pos : 1 ≤ G0 := by decide +kernel
theorem IsN.mono {D M M' : Nat} {r : Rat} (h : IsN D M r) (hM : M ≤ M') : IsN D M' r := by
  obtain ⟨n, e, hn⟩ := h
  exact ⟨n, e, Nat.le_trans hn hM⟩
theorem IsN.neg {D M : Nat} {r : Rat} (h : IsN D M r) : IsN D M (-r) := by
  obtain ⟨n, e, hn⟩ := h
  refine ⟨-n, ?_, by rw [Int.natAbs_neg]; exact hn⟩
  rw [Rat.intCast_neg]; grind
theorem IsN.add {D M M' : Nat} {r s : Rat} (h : IsN D M r) (h' : IsN D M' s) : IsN D (M + M') (r + s) := by
  obtain ⟨n, e, hn⟩ := h
  obtain ⟨n', e', hn'⟩ := h'
  refine ⟨n + n', ?_, ?_⟩
  · rw [Rat.intCast_add]; grind
  · have := Int.natAbs_add_le n n'; omega
theorem IsN.mul {D D' M M' : Nat} {r s : Rat} (h : IsN D M r) (h' : IsN D' M' s) : IsN (D * D') (M * M') (r * s) := by
  obtain ⟨n, e, hn⟩ := h
  obtain ⟨n', e', hn'⟩ := h'
  refine ⟨n * n', ?_, ?_⟩
  · rw [Rat.intCast_mul, Rat.natCast_mul]; grind
  · rw [Int.natAbs_mul]; exact Nat.mul_le_mul hn hn'
theorem isN_zero {D M : Nat} : IsN D M 0 := ⟨0, by rw [Rat.zero_mul]; rfl, Nat.zero_le _⟩
theorem isN_one {D M : Nat} (h : D ≤ M) : IsN D M 1 := ⟨(D : Int), by rw [Rat.one_mul, Rat.intCast_natCast], by rw [Int.natAbs_natCast]; exact h⟩
theorem size_path {d e : D} {k : Nat} (E : Eqv d e) (hk : cnt (fun j => Bas e (d.r j)) d.n = k) (h5 : k ≤ 5) (B : Big 60 (2 * M0) d) : ∃ D', 1 ≤ D' ∧ D' ≤ G0 ∧ Big D' G0 e := by
  obtain ⟨D', h1, h2, h3⟩ := path k d e 60 (2 * M0) E hk B (by decide) (by decide)
  have hg : grow k (2 * M0) ≤ G0 := grow_mono h5 (by decide)
  exact ⟨D', h1, Nat.le_trans h2 hg, ⟨fun i j hi hj => (h3.c i j hi hj).mono hg⟩⟩
theorem size_a {d e : D} (E : Eqv d e) (hn : d.n ≤ 5) (B : Big 60 M0 d) : ∃ D', 1 ≤ D' ∧ D' ≤ G0 ∧ Big D' G0 e :=
  size_path E rfl (Nat.le_trans (cnt_le _ _) hn) ⟨fun i j hi hj => (B.c i j hi hj).mono (by decide)⟩
theorem size_b {d e : D} {q : Nat} (E : Eqv d e) (hn : d.n ≤ 6) (hq : q < d.n) (ones : ∀ i, i < d.m → d.c i (q + 1) = 1) (B : Big 60 M0 d) : ∃ D', 1 ≤ D' ∧ D' ≤ G0 ∧ Big D' G0 e := by
  by_cases hb : Bas e (d.r q)
  · obtain ⟨p, hp, hnn, nz⟩ := exch_ex E hq hb
    have P := mkPiv_ok hp hq nz
    refine size_path (k := cnt (fun j => Bas e ((mkPiv d p q).r j)) (mkPiv d p q).n) ((P.eqv E.id).symm.trans E) rfl ?_ ⟨fun i k hi hk => ?_⟩
    · have := cnt_less (P := fun j => Bas e (d.r j)) (Q := fun j => Bas e ((mkPiv d p q).r j)) hb hq (fun j hj => by
        rw [P.r j hj]
        by_cases c : j = q
        · rw [if_pos c]
          exact ⟨fun x => absurd hnn fun y => bas_non E.ie x y, fun x => absurd c x.2⟩
        · rw [if_neg c]
          exact ⟨fun x => ⟨x, c⟩, fun x => x.1⟩)
      have h2 := cnt_le (fun j => Bas e (d.r j)) d.n
      show cnt _ d.n ≤ 5
      omega
    · have hi : i < d.m := hi
      have hk : k ≤ d.n := hk
      have o1 := ones p hp
      by_cases c : i = p
      · rw [c, P.cp k hk]
        unfold exp
        by_cases z : k = q + 1
        · rw [if_pos z, o1]
          have : (1 : Rat) / 1 = 1 := by grind
          rw [this]; exact isN_one (by decide)
        · rw [if_neg z, o1]
          have : -d.c p k / 1 = -d.c p k := by grind
          rw [this]; exact ((B.c p k hp hk).neg).mono (by decide)
      · rw [P.c i k hi c hk]
        unfold ex
        by_cases z : k = q + 1
        · rw [if_pos z, o1, ones i hi]
          have : (1 : Rat) / 1 = 1 := by grind
          rw [this]; exact isN_one (by decide)
        · rw [if_neg z, o1, ones i hi]
          have : d.c i k - 1 * d.c p k / 1 = d.c i k + -d.c p k := by grind
          rw [this]
          exact ((B.c i k hi hk).add (B.c p k hp hk).neg).mono (by decide)
  · refine size_path E rfl ?_ ⟨fun i j hi hj => (B.c i j hi hj).mono (by decide)⟩
    have h1 := cnt_less (P := fun j => Bas e (d.r j) ∨ j = q) (Q := fun j => Bas e (d.r j)) (.inr rfl) hq (fun j hj => ⟨fun x => ⟨.inl x, fun z => hb (z ▸ x)⟩, fun x => x.1.resolve_right x.2⟩)
    have h2 := cnt_le (fun j => Bas e (d.r j) ∨ j = q) d.n
    omega
/-- the goal row is of the same size -/
theorem size_goal {d : D} {v : Nat} {a : Rat} {D' : Nat} (I : Inj d) (ha : a = 1 ∨ a = -1) (hv : Var d v) (h : ∀ x, Sol d x → Obj d x = a * x v) (h2 : D' ≤ G0) (B : Big D' G0 d) : ∀ k, k ≤ d.n → IsN D' G0 (d.g k) := by
  have ia : IsN D' G0 a := by
    rcases ha with rfl | rfl
    · exact isN_one h2
    · exact (isN_one h2).neg
  rcases goal_cells I hv h with ⟨i, hi, _, g⟩ | ⟨j, hj, _, g⟩
  · intro k hk
    rw [g k hk]
    rcases ha with rfl | rfl
    · rw [Rat.one_mul]; exact B.c i k hi hk
    · have : -1 * d.c i k = -d.c i k := by grind
      rw [this]; exact (B.c i k hi hk).neg
  · intro k hk
    rw [g k hk]
    by_cases c : k = j + 1
    · rw [if_pos c]; exact ia
    · rw [if_neg c]; exact isN_zero
theorem isN_1300 {D' : Nat} {r : Rat} (h1 : 1 ≤ D') (h2 : D' ≤ G0) (h : IsN D' G0 r) : Lt 1300 r := (isN_lt (k := 1290) h1 h2 G0_lt h).mono (by decide)
/-- shape and sizes give Ok -/
theorem ok0_of {T : Tab} {D' : Nat} (S : Sh0 T) (n1 : T.rest.length ≤ 100) (n2 : T.cells.length ≤ 100) (h1 : 1 ≤ D') (h2 : D' ≤ G0) (B : Big D' G0 (dic T)) : T.Ok0 1300 := by
  have hr : ∀ r ∈ T.cells, ∃ i, i < T.cells.length ∧ r = T.row i := fun r hr => by
    obtain ⟨i, hi, rfl⟩ := List.mem_iff_getElem.mp hr
    exact ⟨i, hi, (gd_lt hi).symm⟩
  refine ⟨S.bl, fun r h => ?_, n1, n2, fun r h x hx => ?_⟩
  · obtain ⟨i, hi, rfl⟩ := hr r h
    exact S.cl i hi
  · obtain ⟨i, hi, rfl⟩ := hr r h
    obtain ⟨k, hk, rfl⟩ := List.mem_iff_getElem.mp hx
    have hk2 : k ≤ T.rest.length := by rw [S.cl i hi] at hk; omega
    have e : (T.row i)[k] = T.at_ i k := (gd_lt hk).symm
    rw [e]
    exact isN_1300 h1 h2 (B.c i k hi hk2)
theorem ok_of {T : Tab} {D' : Nat} (S : Sh T) (n1 : T.rest.length ≤ 100) (n2 : T.cells.length ≤ 100) (h1 : 1 ≤ D') (h2 : D' ≤ G0) (B : Big D' G0 (dic T)) (Bg : ∀ k, k ≤ T.rest.length → IsN D' G0 (T.goal.getD k 0)) : T.Ok 1300 := by
  have h := ok0_of S.toSh0 n1 n2 h1 h2 B
  refine ⟨S.gl, S.bl, fun r hr => by rw [h.cl r hr, S.gl], n1, n2, h.cb, fun x hx => ?_⟩
  obtain ⟨k, hk, rfl⟩ := List.mem_iff_getElem.mp hx
  have e : T.goal[k] = T.goal.getD k 0 := (gd_lt hk).symm
  rw [e]
  exact isN_1300 h1 h2 (Bg k (by rw [S.gl] at hk; omega))
end Mm
namespace Mm
/-! ### a column leaves -/
def sk (j k : Nat) : Nat := if k < j then k else k + 1
theorem gd_cut {α : Type} {l : List α} {j k : Nat} {d : α} (h : j < l.length) : (l.take j ++ l.drop (j + 1)).getD k d = l.getD (sk j k) d := by
  unfold sk
  rw [List.getD_eq_getElem?_getD, List.getD_eq_getElem?_getD]
  have ht : (l.take j).length = j := by rw [List.length_take]; omega
  by_cases c : k < j
  · rw [if_pos c, List.getElem?_append_left (by omega), List.getElem?_take_of_lt c]
  · rw [if_neg c, List.getElem?_append_right (by omega), ht, List.getElem?_drop]
    congr 2; omega
theorem cut_len {α : Type} {l : List α} {j : Nat} (h : j < l.length) : (l.take j ++ l.drop (j + 1)).length + 1 = l.length := by
  rw [List.length_append, List.length_take, List.length_drop]; omega
theorem sm_cut (f : Nat → Rat) (j : Nat) : ∀ n, j ≤ n → sm f (n + 1) = sm (fun k => f (sk j k)) n + f j
  | 0, h => by
    have : j = 0 := by omega
    subst this; rfl
  | n + 1, h => by
    by_cases c : j = n + 1
    · subst c
      show sm f (n + 1) + f (n + 1) = _
      rw [sm_congr (f := f) (g := fun k => f (sk (n + 1) k)) fun k hk => by
        show f k = f (sk (n + 1) k)
        unfold sk
        rw [if_pos hk]]
    · have := sm_cut f j n (by omega)
      show sm f (n + 1) + f (n + 1) = sm (fun k => f (sk j k)) n + f (sk j n) + f j
      rw [this]
      have e : sk j n = n + 1 := by unfold sk; rw [if_neg (by omega)]
      rw [e]; grind
section
variable {T : Tab} {j : Nat}
theorem cut_rl (h : j < T.rest.length) : (T.cut (j + 1)).rest.length + 1 = T.rest.length := cut_len h
theorem cut_r (h : j < T.rest.length) (k : Nat) : (T.cut (j + 1)).rest.getD k 0 = T.rest.getD (sk j k) 0 := gd_cut h
theorem cut_cl : (T.cut (j + 1)).cells.length = T.cells.length := List.length_map ..
theorem cut_m {i : Nat} : i < (dic (T.cut (j + 1))).m ↔ i < (dic T).m := by
  show i < (T.cut (j + 1)).cells.length ↔ i < T.cells.length
  rw [cut_cl]
theorem cut_row {i : Nat} (hi : i < T.cells.length) : (T.cut (j + 1)).row i = (T.row i).take (j + 1) ++ (T.row i).drop (j + 2) := gd_map (e := []) hi
theorem cut_at (S : Sh0 T) (h : j < T.rest.length) {i k : Nat} (hi : i < T.cells.length) : (T.cut (j + 1)).at_ i k = T.at_ i (sk (j + 1) k) := by
  unfold Tab.at_
  rw [cut_row hi]
  exact gd_cut (by rw [S.cl i hi]; omega)
theorem cut_sh0 (S : Sh0 T) (h : j < T.rest.length) : Sh0 (T.cut (j + 1)) := by
  refine ⟨?_, fun i hi => ?_⟩
  · rw [cut_cl]; exact S.bl
  · rw [cut_cl] at hi
    rw [cut_row hi]
    have := cut_len (l := T.row i) (j := j + 1) (by rw [S.cl i hi]; omega)
    have h2 := cut_rl h
    rw [S.cl i hi] at this
    show _ = (T.cut (j + 1)).rest.length + 1
    have : ((T.row i).take (j + 1) ++ (T.row i).drop (j + 2)).length + 1 = T.rest.length + 1 := this
    omega
theorem sk_lt {j k n : Nat} (h : k < n) : sk j k < n + 1 := by
  unfold sk
  by_cases c : k < j
  · rw [if_pos c]; omega
  · rw [if_neg c]; omega
theorem sk_ne {j k : Nat} : sk j k ≠ j := by
  unfold sk
  by_cases c : k < j
  · rw [if_pos c]; omega
  · rw [if_neg c]; omega
theorem sk_inj {j a b : Nat} (h : sk j a = sk j b) : a = b := by
  unfold sk at h
  by_cases c : a < j
  · rw [if_pos c] at h
    by_cases d : b < j
    · rw [if_pos d] at h; exact h
    · rw [if_neg d] at h; omega
  · rw [if_neg c] at h
    by_cases d : b < j
    · rw [if_pos d] at h; omega
    · rw [if_neg d] at h; omega
theorem sk_sur {j a n : Nat} (h : a < n + 1) (hj : j < n + 1) (e : a ≠ j) : ∃ k, k < n ∧ sk j k = a := by
  by_cases c : a < j
  · exact ⟨a, by omega, by unfold sk; rw [if_pos c]⟩
  · exact ⟨a - 1, by omega, by unfold sk; rw [if_neg (by omega)]; omega⟩
theorem cut_inj (I : Inj (dic T)) (h : j < T.rest.length) : Inj (dic (T.cut (j + 1))) := by
  have hl := cut_rl h
  refine ⟨fun a b ha hb e => I.b a b ?_ ?_ e, fun a b ha hb e => ?_, fun a b ha hb e => ?_⟩
  · exact cut_m.mp ha
  · exact cut_m.mp hb
  · have ha : a < (T.cut (j + 1)).rest.length := ha
    have hb : b < (T.cut (j + 1)).rest.length := hb
    have e : (T.cut (j + 1)).rest.getD a 0 = (T.cut (j + 1)).rest.getD b 0 := e
    rw [cut_r h, cut_r h] at e
    have h1 := sk_lt (j := j) ha
    have h2 := sk_lt (j := j) hb
    exact sk_inj (I.r _ _ (show sk j a < T.rest.length by omega) (show sk j b < T.rest.length by omega) e)
  · have hb : b < (T.cut (j + 1)).rest.length := hb
    have e : T.base.getD a 0 = (T.cut (j + 1)).rest.getD b 0 := e
    rw [cut_r h] at e
    have h2 := sk_lt (j := j) hb
    exact I.br a (sk j b) (cut_m.mp ha) (show sk j b < T.rest.length by omega) e
theorem cut_var (I : Inj (dic T)) (h : j < T.rest.length) (v : Nat) : Var (dic (T.cut (j + 1))) v ↔ Var (dic T) v ∧ v ≠ T.rest.getD j 0 := by
  have hl := cut_rl h
  constructor
  · rintro (⟨i, hi, rfl⟩ | ⟨k, hk, rfl⟩)
    · have hi : i < T.cells.length := cut_cl (j := j) ▸ hi
      exact ⟨.inl ⟨i, hi, rfl⟩, I.br i j hi h⟩
    · have hk : k < (T.cut (j + 1)).rest.length := hk
      have h2 := sk_lt (j := j) hk
      have e : (dic (T.cut (j + 1))).r k = T.rest.getD (sk j k) 0 := cut_r h k
      rw [e]
      exact ⟨.inr ⟨sk j k, show sk j k < T.rest.length by omega, rfl⟩, fun z => sk_ne (I.r (sk j k) j (show sk j k < T.rest.length by omega) h z)⟩
  · rintro ⟨⟨i, hi, rfl⟩ | ⟨k, hk, rfl⟩, hn⟩
    · exact .inl ⟨i, by show i < (T.cut (j + 1)).cells.length; rw [cut_cl]; exact hi, rfl⟩
    · have hk : k < T.rest.length := hk
      obtain ⟨k', h1, h2⟩ := sk_sur (j := j) (a := k) (n := (T.cut (j + 1)).rest.length) (by omega) (by omega) (fun z => hn (by rw [z]; rfl))
      refine .inr ⟨k', h1, ?_⟩
      show (T.cut (j + 1)).rest.getD k' 0 = T.rest.getD k 0
      rw [cut_r h, h2]
theorem cut_sol0 (S : Sh0 T) (h : j < T.rest.length) {x : Nat → Rat} (hx : x (T.rest.getD j 0) = 0) : Sol (dic (T.cut (j + 1))) x ↔ Sol (dic T) x := by
  have hl := cut_rl h
  have key : ∀ i, i < T.cells.length → rv (dic (T.cut (j + 1))).n (dic (T.cut (j + 1))).r ((dic (T.cut (j + 1))).c i) x = rv (dic T).n (dic T).r ((dic T).c i) x := fun i hi => by
    unfold rv
    have e0 : (dic (T.cut (j + 1))).c i 0 = (dic T).c i 0 := by
      show (T.cut (j + 1)).at_ i 0 = T.at_ i 0
      rw [cut_at S h hi]; rfl
    rw [e0]
    congr 1
    have en : (dic T).n = (dic (T.cut (j + 1))).n + 1 := hl.symm
    rw [en, sm_cut (fun j => (dic T).c i (j + 1) * x ((dic T).r j)) j (dic (T.cut (j + 1))).n (show j ≤ (T.cut (j + 1)).rest.length by omega)]
    have hz : (dic T).c i (j + 1) * x ((dic T).r j) = 0 := by
      have : x ((dic T).r j) = 0 := hx
      rw [this, Rat.mul_zero]
    rw [hz, Rat.add_zero]
    refine sm_congr fun k hk => ?_
    show (T.cut (j + 1)).at_ i (k + 1) * x ((T.cut (j + 1)).rest.getD k 0) = T.at_ i (sk j k + 1) * x (T.rest.getD (sk j k) 0)
    rw [cut_at S h hi, cut_r h]
    have : sk (j + 1) (k + 1) = sk j k + 1 := by
      unfold sk
      by_cases c : k < j
      · rw [if_pos c, if_pos (by omega)]
      · rw [if_neg c, if_neg (by omega)]
    rw [this]
  constructor
  · intro s i hi
    have := s i (show i < (T.cut (j + 1)).cells.length by rw [cut_cl]; exact hi)
    rw [key i hi] at this
    exact this
  · intro s i hi
    have hi' : i < T.cells.length := cut_cl (j := j) ▸ hi
    rw [key i hi']
    exact s i hi'
theorem sol_congr {d : D} {x y : Nat → Rat} (h : ∀ v, Var d v → x v = y v) : Sol d x ↔ Sol d y := by
  have e : ∀ i, rv d.n d.r (d.c i) x = rv d.n d.r (d.c i) y := fun i => rv_congr (fun _ _ => rfl) fun j hj => h _ (.inr ⟨j, hj, rfl⟩)
  constructor
  · intro s i hi
    rw [← h _ (.inl ⟨i, hi, rfl⟩), ← e i]; exact s i hi
  · intro s i hi
    rw [h _ (.inl ⟨i, hi, rfl⟩), e i]; exact s i hi
def zap (h : Nat) (x : Nat → Rat) : Nat → Rat := fun v => if v = h then 0 else x v
theorem cut_sol (S : Sh0 T) (I : Inj (dic T)) (h : j < T.rest.length) (x : Nat → Rat) : Sol (dic (T.cut (j + 1))) x ↔ Sol (dic T) (zap (T.rest.getD j 0) x) := by
  rw [← cut_sol0 S h (x := zap (T.rest.getD j 0) x) (by unfold zap; rw [if_pos rfl])]
  exact sol_congr fun v hv => by
    unfold zap
    rw [if_neg ((cut_var I h v).mp hv).2]
theorem cut_fea (S : Sh0 T) (F : Fea (dic T)) (h : j < T.rest.length) : Fea (dic (T.cut (j + 1))) := fun i hi => by
  have hi' : i < T.cells.length := cut_cl (j := j) ▸ hi
  show 0 ≤ (T.cut (j + 1)).at_ i 0
  rw [cut_at S h hi']
  exact F i hi'
end
end Mm
namespace Mm
theorem gd_idx {l : List Nat} {a : Nat} (h : a ∈ l) : l.idxOf a < l.length ∧ l.getD (l.idxOf a) 0 = a := by
  have h1 : l.idxOf a < l.length := List.idxOf_lt_length_iff.mpr h
  exact ⟨h1, by rw [gd_lt h1]; exact List.getElem_idxOf h1⟩
theorem gd_rep {n k : Nat} {x : Rat} (h : k < n) : (List.replicate n x).getD k 0 = x := by
  rw [gd_lt (by rw [List.length_replicate]; exact h), List.getElem_replicate]
theorem gd_rep0 {n k : Nat} : (List.replicate n (0 : Rat)).getD k 0 = 0 := by
  by_cases h : k < n
  · exact gd_rep h
  · exact gd_ge (by rw [List.length_replicate]; omega)
theorem bas_mem {T : Tab} (S : Sh0 T) {v : Nat} : Bas (dic T) v ↔ v ∈ T.base := by
  constructor
  · rintro ⟨i, hi, rfl⟩
    exact gd_mem (d := 0) (show i < T.base.length by rw [S.bl]; exact hi)
  · intro h
    obtain ⟨h1, h2⟩ := gd_idx h
    exact ⟨_, show T.base.idxOf v < T.cells.length by rw [← S.bl]; exact h1, h2⟩
theorem non_mem {T : Tab} {v : Nat} : Non (dic T) v ↔ v ∈ T.rest := by
  constructor
  · rintro ⟨i, hi, rfl⟩
    exact gd_mem (d := 0) (show i < T.rest.length from hi)
  · intro h
    obtain ⟨h1, h2⟩ := gd_idx h
    exact ⟨_, h1, h2⟩
theorem aimed_sh {T : Tab} (S : Sh0 T) {n : Nat} (h : Var (dic T) n) : Sh (T.aimed n) := by
  refine ⟨⟨S.bl, S.cl⟩, ?_⟩
  show (if n ∈ T.rest then _ else _ : List Rat).length = T.rest.length + 1
  by_cases c : n ∈ T.rest
  · rw [if_pos c, List.length_set, List.length_replicate]
  · rw [if_neg c]
    have hb : n ∈ T.base := (bas_mem S).mp (h.resolve_right fun z => c (non_mem.mp z))
    exact S.cl _ (by rw [← S.bl]; exact (gd_idx hb).1)
theorem aimed_obj {T : Tab} (S : Sh0 T) {n : Nat} (h : Var (dic T) n) {x : Nat → Rat} (s : Sol (dic T) x) : Obj (dic (T.aimed n)) x = x n := by
  by_cases c : n ∈ T.rest
  · obtain ⟨h1, h2⟩ := gd_idx c
    have hg : ∀ k, (dic (T.aimed n)).g k = if k = T.rest.idxOf n + 1 then 1 else 0 := fun k => by
      show (if n ∈ T.rest then _ else _ : List Rat).getD k 0 = _
      rw [if_pos c, gd_set (by rw [List.length_replicate]; omega), gd_rep0]
    show (dic (T.aimed n)).g 0 + sm (fun j => (dic (T.aimed n)).g (j + 1) * x (T.rest.getD j 0)) T.rest.length = x n
    rw [sm_single (q := T.rest.idxOf n) h1 (fun j hj hn => by
      show (dic (T.aimed n)).g (j + 1) * x (T.rest.getD j 0) = 0
      rw [hg, if_neg (by omega), Rat.zero_mul])]
    show (dic (T.aimed n)).g 0 + (dic (T.aimed n)).g (T.rest.idxOf n + 1) * x (T.rest.getD (T.rest.idxOf n) 0) = x n
    rw [hg, hg, if_pos rfl, if_neg (by omega), h2]; grind
  · have hb : n ∈ T.base := (bas_mem S).mp (h.resolve_right fun z => c (non_mem.mp z))
    obtain ⟨h1, h2⟩ := gd_idx hb
    have hs := s (T.base.idxOf n) (show T.base.idxOf n < T.cells.length by rw [← S.bl]; exact h1)
    have e : (dic T).b (T.base.idxOf n) = n := h2
    rw [e] at hs
    rw [hs]
    refine rv_congr (fun k _ => ?_) fun _ _ => rfl
    show (if n ∈ T.rest then _ else _ : List Rat).getD k 0 = _
    rw [if_neg c]; rfl
/-- the two aimed dictionaries of one system -/
theorem aimed_eqv {T U : Tab} (S : Sh0 T) (S' : Sh0 U) (I : Inj (dic T)) (I' : Inj (dic U)) {n : Nat} (h : Var (dic T) n) (hs : ∀ x, Sol (dic T) x ↔ Sol (dic U) x) (hv : ∀ v, Var (dic T) v ↔ Var (dic U) v) : Eqv (dic (T.aimed n)) (dic (U.aimed n)) where
  sol := hs
  obj := fun x s => by rw [aimed_obj S h s, aimed_obj S' ((hv n).mp h) ((hs x).mp s)]
  var := hv
  id := ⟨I.b, I.r, I.br⟩
  ie := ⟨I'.b, I'.r, I'.br⟩
/-! ### the helper -/
theorem help_cl {T : Tab} : T.help.cells.length = T.cells.length := List.length_map ..
theorem help_rl {T : Tab} : T.help.rest.length = T.rest.length + 1 := by
  show (T.rest ++ [_]).length = _
  rw [List.length_append]; rfl
theorem help_row {T : Tab} {i : Nat} (hi : i < T.cells.length) : T.help.row i = T.row i ++ [1] := gd_map (e := []) hi
theorem gd_snoc {α : Type} {l : List α} {x d : α} {k n : Nat} (hl : l.length = n) : (l ++ [x]).getD k d = if k = n then x else l.getD k d := by
  rw [List.getD_eq_getElem?_getD, List.getD_eq_getElem?_getD]
  by_cases c : k < n
  · rw [if_neg (by omega), List.getElem?_append_left (by omega)]
  · rw [List.getElem?_append_right (by omega)]
    by_cases e : k = n
    · rw [if_pos e, hl, e, Nat.sub_self]; rfl
    · rw [if_neg e, List.getElem?_eq_none (by show 1 ≤ k - l.length; omega), List.getElem?_eq_none (by omega)]
theorem help_at {T : Tab} (S : Sh0 T) {i k : Nat} (hi : i < T.cells.length) : T.help.at_ i k = if k = T.rest.length + 1 then 1 else T.at_ i k := by
  unfold Tab.at_
  rw [help_row hi, gd_snoc (S.cl i hi)]
theorem help_sh {T : Tab} (S : Sh0 T) (hw : T.rest.length = T.width) : Sh T.help := by
  refine ⟨⟨?_, fun i hi => ?_⟩, ?_⟩
  · rw [help_cl]; exact S.bl
  · rw [help_cl] at hi
    rw [help_row hi, List.length_append, S.cl i hi, help_rl]; rfl
  · show (List.replicate (T.width + 1) (0 : Rat) ++ [-1]).length = T.help.rest.length + 1
    rw [List.length_append, List.length_replicate, help_rl, hw]; rfl
theorem help_r {T : Tab} {k : Nat} : T.help.rest.getD k 0 = if k = T.rest.length then T.width + T.many else T.rest.getD k 0 := gd_snoc rfl
theorem help_inj {T : Tab} (I : Inj (dic T)) (hn : ¬ Var (dic T) (T.width + T.many)) : Inj (dic T.help) := by
  have hlr : ∀ j, j < (dic T.help).n → j = T.rest.length ∨ j < T.rest.length := fun j hj => by
    have hj : j < T.help.rest.length := hj
    rw [help_rl] at hj; omega
  refine ⟨fun i j hi hj e => I.b i j (by rw [show (dic T).m = T.cells.length from rfl, ← help_cl]; exact hi) (by rw [show (dic T).m = T.cells.length from rfl, ← help_cl]; exact hj) e, fun i j hi hj e => ?_, fun i j hi hj e => ?_⟩
  · have e : T.help.rest.getD i 0 = T.help.rest.getD j 0 := e
    rw [help_r, help_r] at e
    rcases hlr i hi with h | h <;> rcases hlr j hj with h' | h'
    · omega
    · rw [if_pos h, if_neg (by omega)] at e
      exact absurd (.inr ⟨j, h', e.symm⟩) hn
    · rw [if_neg (by omega), if_pos h'] at e
      exact absurd (.inr ⟨i, h, e⟩) hn
    · rw [if_neg (by omega), if_neg (by omega)] at e
      exact I.r i j h h' e
  · have e : T.base.getD i 0 = T.help.rest.getD j 0 := e
    have hi : i < T.cells.length := by rw [← help_cl]; exact hi
    rw [help_r] at e
    rcases hlr j hj with h' | h'
    · rw [if_pos h'] at e
      exact absurd (.inl ⟨i, hi, e⟩) hn
    · rw [if_neg (by omega)] at e
      exact I.br i j hi h' e
theorem help_obj {T : Tab} (hw : T.rest.length = T.width) (x : Nat → Rat) : Obj (dic T.help) x = -1 * x (T.width + T.many) := by
  have hg : ∀ k, (dic T.help).g k = if k = T.width + 1 then -1 else 0 := fun k => by
    show (List.replicate (T.width + 1) (0 : Rat) ++ [-1]).getD k 0 = _
    rw [gd_snoc (List.length_replicate ..), gd_rep0]
  show (dic T.help).g 0 + sm (fun j => (dic T.help).g (j + 1) * x (T.help.rest.getD j 0)) T.help.rest.length = _
  rw [sm_single (q := T.width) (by rw [help_rl, hw]; omega) (fun j hj hn => by
    show (dic T.help).g (j + 1) * x (T.help.rest.getD j 0) = 0
    rw [hg, if_neg (by omega), Rat.zero_mul])]
  show (dic T.help).g 0 + (dic T.help).g (T.width + 1) * x (T.help.rest.getD T.width 0) = _
  rw [hg, hg, if_pos rfl, if_neg (by omega), help_r, if_pos hw.symm]; grind
/-- cut again, the helper is gone -/
theorem help_cut {T : Tab} (S : Sh0 T) : (T.help.cut (T.rest.length + 1)).rest = T.rest ∧ (T.help.cut (T.rest.length + 1)).cells = T.cells := by
  constructor
  · show (T.rest ++ [_]).take T.rest.length ++ (T.rest ++ [_]).drop (T.rest.length + 1) = T.rest
    rw [List.take_left' rfl, List.drop_of_length_le (by rw [List.length_append]; exact Nat.le_refl _), List.append_nil]
  · show (T.cells.map _).map _ = T.cells
    rw [List.map_map]
    refine List.ext_getElem (List.length_map ..) fun i h1 h2 => ?_
    rw [List.getElem_map]
    have hl : T.cells[i].length = T.rest.length + 1 := by
      have := S.cl i h2
      unfold Tab.row at this
      rw [gd_lt h2] at this
      exact this
    show (T.cells[i] ++ [1]).take (T.rest.length + 1) ++ (T.cells[i] ++ [1]).drop (T.rest.length + 1 + 1) = _
    rw [List.take_left' hl, List.drop_of_length_le (by rw [List.length_append, hl]; exact Nat.le_refl _), List.append_nil]
end Mm
namespace Mm
theorem lst_ok (T : Tab) : ∀ n, 1 ≤ n → T.lst n < n ∧ ∀ i, i < n → T.at_ (T.lst n) 0 ≤ T.at_ i 0
  | 0, h => by omega
  | 1, _ => by
    have e : T.lst 1 = 0 := by
      show (if T.at_ 0 0 < T.at_ 0 0 then 0 else 0) = 0
      split <;> rfl
    rw [e]
    exact ⟨by omega, fun i hi => by rw [show i = 0 by omega]; exact Rat.le_refl⟩
  | n + 2, _ => by
    obtain ⟨h1, h2⟩ := lst_ok T (n + 1) (by omega)
    have e : T.lst (n + 2) = if T.at_ (n + 1) 0 < T.at_ (T.lst (n + 1)) 0 then n + 1 else T.lst (n + 1) := rfl
    rw [e]
    by_cases c : T.at_ (n + 1) 0 < T.at_ (T.lst (n + 1)) 0
    · rw [if_pos c]
      refine ⟨by omega, fun i hi => ?_⟩
      by_cases z : i = n + 1
      · rw [z]; exact Rat.le_refl
      · have := h2 i (by omega); grind
    · rw [if_neg c]
      refine ⟨by omega, fun i hi => ?_⟩
      by_cases z : i = n + 1
      · rw [z]; grind
      · exact h2 i (by omega)
theorem bounded {T : Tab} (S : Sh T) (I : Inj (dic T)) (F : Fea (dic T)) (Y : Rat) (hY : ∀ x, Sol (dic T) x → (∀ v, Var (dic T) v → 0 ≤ x v) → Obj (dic T) x ≤ Y) : ∀ col, T.Way col → T.rowFor col ≠ none := by
  intro col hc hr
  obtain ⟨c1, c2, c3⟩ := hc
  obtain ⟨q, rfl⟩ : ∃ q, col = q + 1 := ⟨col - 1, by omega⟩
  rw [S.gl] at c2
  have hn := rf_none T (q + 1) _ hr
  obtain ⟨x, s, nn, hx⟩ := endless I F (q := q) (show q < T.rest.length by omega) c3 (fun i hi => by
    have := hn i hi
    show 0 ≤ T.at_ i (q + 1)
    grind) Y
  have := hY x s nn
  grind
theorem sol_same {A B : Tab} (h1 : A.rest = B.rest) (h2 : A.cells = B.cells) (h3 : A.base = B.base) (x : Nat → Rat) : Sol (dic A) x ↔ Sol (dic B) x := by
  unfold Sol dic Tab.at_ Tab.row rv
  simp only
  rw [h1, h2, h3]
theorem var_same {A B : Tab} (h1 : A.rest = B.rest) (h2 : A.cells = B.cells) (h3 : A.base = B.base) (v : Nat) : Var (dic A) v ↔ Var (dic B) v := by
  unfold Var Bas Non dic
  simp only
  rw [h1, h2, h3]
/-- the helper's column leaves -/
theorem drop_ok {T U : Tab} (S : Sh0 T) (I : Inj (dic T)) (hw : T.rest.length = T.width) (hI : Inj (dic T.help)) (hS : Sh T.help) (SU : Sh0 U) (E : Eqv (dic T.help) (dic U)) (F : Fea (dic U)) (h : T.width + T.many ∈ U.rest) :
    Sh0 (U.cut (U.rest.idxOf (T.width + T.many) + 1)) ∧ Inj (dic (U.cut (U.rest.idxOf (T.width + T.many) + 1))) ∧ Fea (dic (U.cut (U.rest.idxOf (T.width + T.many) + 1))) ∧
    (∀ x, Sol (dic T) x ↔ Sol (dic (U.cut (U.rest.idxOf (T.width + T.many) + 1))) x) ∧ (∀ v, Var (dic T) v ↔ Var (dic (U.cut (U.rest.idxOf (T.width + T.many) + 1))) v) := by
  obtain ⟨h1, h2⟩ := gd_idx h
  obtain ⟨g1, g2⟩ := help_cut S
  have hq : T.rest.length < T.help.rest.length := by rw [help_rl]; omega
  have hr : T.help.rest.getD T.rest.length 0 = T.width + T.many := by rw [help_r, if_pos rfl]
  refine ⟨cut_sh0 SU h1, cut_inj E.ie h1, cut_fea SU F h1, fun x => ?_, fun v => ?_⟩
  · rw [cut_sol SU E.ie h1, h2, ← E.sol, ← hr, ← cut_sol hS.toSh0 hI hq]
    exact (sol_same g1 g2 rfl x).symm
  · rw [cut_var E.ie h1, h2, ← E.var, ← hr, ← cut_var hI hq]
    exact (var_same g1 g2 rfl v).symm
end Mm
namespace Mm
/-- what begin leaves where it can begin -/
structure Fine (T T1 : Tab) : Prop where
  s : Sh0 T1
  i : Inj (dic T1)
  f : Fea (dic T1)
  sol : ∀ x, Sol (dic T) x ↔ Sol (dic T1) x
  var : ∀ v, Var (dic T) v ↔ Var (dic T1) v
  w : T1.width = T.width
  m : T1.many = T.many
  rl : T1.rest.length = T.rest.length
  cl : T1.cells.length = T.cells.length
/-- and where it can not -/
structure Stuck (T T1 : Tab) : Prop where
  s : Sh T1
  e : Eqv (dic T.help) (dic T1)
  no : ∀ c, ¬ T1.Way c
  neg : T1.goal.getD 0 0 < 0
  w : T1.width = T.width
  m : T1.many = T.many
  rl : T1.rest.length = T.rest.length + 1
  cl : T1.cells.length = T.cells.length
  ok : T1.Ok 1300
  sz : ∃ D', 1 ≤ D' ∧ D' ≤ G0 ∧ ∀ k, k ≤ T1.rest.length → IsN D' G0 (T1.goal.getD k 0)
theorem first_fea {T : Tab} (S : Sh0 T) (SH : Sh T.help) {p : Nat} (hp : p < T.cells.length) (hneg : T.help.at_ p 0 < 0) (hmin : ∀ i, i < T.cells.length → T.help.at_ p 0 ≤ T.help.at_ i 0) {e : D} (P : Piv (dic T.help) e p T.rest.length) : Fea e := by
  have one : ∀ i, i < T.cells.length → (dic T.help).c i (T.rest.length + 1) = 1 := fun i hi => by
    show T.help.at_ i (T.rest.length + 1) = 1
    rw [help_at S hi, if_pos rfl]
  intro i hi
  rw [P.m] at hi
  have hi' : i < T.cells.length := by rw [← help_cl]; exact hi
  by_cases c : i = p
  · rw [c, P.cp 0 (Nat.zero_le _)]
    unfold exp
    rw [if_neg (by omega), one p hp]
    have : (dic T.help).c p 0 < 0 := hneg
    have e : -(dic T.help).c p 0 / 1 = -(dic T.help).c p 0 := by grind
    rw [e]; grind
  · rw [P.c i 0 hi c (Nat.zero_le _)]
    unfold ex
    rw [if_neg (by omega), one p hp, one i hi']
    have : (dic T.help).c p 0 ≤ (dic T.help).c i 0 := hmin i hi'
    have e : (dic T.help).c i 0 - 1 * (dic T.help).c p 0 / 1 = (dic T.help).c i 0 - (dic T.help).c p 0 := by grind
    rw [e]; grind
theorem begin_ex {T : Tab} (S : Sh T) (hw : T.rest.length = T.width) (I : Inj (dic T)) (hn : ¬ Var (dic T) (T.width + T.many)) (h5 : T.rest.length ≤ 5) (hc : T.cells.length ≤ 100) (B : Big 60 M0 (dic T)) (hg : ∀ k, k ≤ T.rest.length → T.goal.getD k 0 = 0) :
    ∃ T1 b, Begin 1300 T T1 b ∧ (b = true → Fine T T1) ∧ (b = false → Stuck T T1) := by
  have hd : (60 : Nat) ≤ G0 := by decide +kernel
  have hm : M0 ≤ G0 := by decide +kernel
  have ok0 : T.Ok 1300 := ok_of S (by omega) hc (by decide) hd ⟨fun i k hi hk => (B.c i k hi hk).mono hm⟩ (fun k hk => by rw [hg k hk]; exact isN_zero)
  by_cases neg : ∃ i, i < T.cells.length ∧ T.at_ i 0 < 0
  · have SH : Sh T.help := help_sh S.toSh0 hw
    have IH := help_inj I hn
    have hrl := help_rl (T := T)
    have hcl := help_cl (T := T)
    have BH : Big 60 M0 (dic T.help) := ⟨fun i k hi hk => by
      have hi' : i < T.cells.length := by rw [← hcl]; exact hi
      show IsN 60 M0 (T.help.at_ i k)
      rw [help_at S.toSh0 hi']
      by_cases c : k = T.rest.length + 1
      · rw [if_pos c]; exact isN_one (by decide)
      · rw [if_neg c]
        have hk : k ≤ T.help.rest.length := hk
        exact B.c i k hi' (show k ≤ T.rest.length by omega)⟩
    have one : ∀ i, i < (dic T.help).m → (dic T.help).c i (T.rest.length + 1) = 1 := fun i hi => by
      have hi' : i < T.cells.length := by rw [← hcl]; exact hi
      show T.help.at_ i (T.rest.length + 1) = 1
      rw [help_at S.toSh0 hi', if_pos rfl]
    have hvar : Var (dic T.help) (T.width + T.many) := .inr ⟨T.rest.length, show T.rest.length < T.help.rest.length by omega, by show T.help.rest.getD _ 0 = _; rw [help_r, if_pos rfl]⟩
    -- sizes of every dictionary of the system
    have sz : ∀ U : Tab, Sh U → Eqv (dic T.help) (dic U) → U.rest.length = T.rest.length + 1 → U.cells.length = T.cells.length → U.Ok 1300 ∧ ∃ D', 1 ≤ D' ∧ D' ≤ G0 ∧ ∀ k, k ≤ U.rest.length → IsN D' G0 (U.goal.getD k 0) := fun U SU E rl cl => by
      obtain ⟨D', d1, d2, BU⟩ := size_b (q := T.rest.length) E (show T.help.rest.length ≤ 6 by omega) (show T.rest.length < T.help.rest.length by omega) one BH
      have gU := size_goal E.ie (.inr rfl) ((E.var _).mp hvar) (fun x s => by rw [← E.obj x ((E.sol x).mpr s)]; exact help_obj hw x) d2 BU
      exact ⟨ok_of SU (by omega) (by omega) d1 d2 BU gU, D', d1, d2, gU⟩
    obtain ⟨i0, hi0, hneg0⟩ := neg
    obtain ⟨l1, l2⟩ := lst_ok T.help T.help.cells.length (by omega)
    generalize hp : T.help.lst T.help.cells.length = p at l1 l2
    have hp' : p < T.cells.length := by omega
    have hnegp : T.help.at_ p 0 < 0 := by
      have h1 := l2 i0 (by omega)
      rw [help_at S.toSh0 hi0, if_neg (by omega)] at h1
      grind
    have P := dic_piv (T := T.help) (row := p) (q := T.rest.length) SH (by omega) (by omega) (by
      have : T.help.at_ p (T.rest.length + 1) = 1 := one p (show p < T.help.cells.length from l1)
      rw [this]; decide)
    have F1 := first_fea S.toSh0 SH hp' hnegp (fun i hi => l2 i (by omega)) P
    have E1 := P.eqv IH
    have S1 := piv_sh (row := p) (col := T.rest.length + 1) SH l1
    have rl1 : (T.help.pivot p (T.rest.length + 1)).rest.length = T.rest.length + 1 := piv_rlen.trans hrl
    have cl1 : (T.help.pivot p (T.rest.length + 1)).cells.length = T.cells.length := piv_clen.trans hcl
    obtain ⟨n, T2, im, sy, no⟩ := imp_ends (k := 1300) S1 E1.ie F1 (fun U sU => (sz U sU.sh (E1.trans sU.eqv) (sU.rl.trans rl1) (sU.cl.trans cl1)).1) (fun U sU => bounded sU.sh sU.eqv.ie sU.fea 0 fun x s nn => by
      have E := E1.trans sU.eqv
      rw [← E.obj x ((E.sol x).mpr s), help_obj hw]
      have := nn _ ((E.var _).mp hvar)
      grind)
    have E2 := E1.trans sy.eqv
    have rl2 := sy.rl.trans rl1
    have cl2 := sy.cl.trans cl1
    have im' : Imp 1300 n (T.help.pivot (T.help.lst T.help.cells.length) T.help.rest.length) T2 := by rw [hp, hrl]; exact im
    have okH : T.help.Ok 1300 := (sz T.help SH (Eqv.refl IH) hrl hcl).1
    by_cases g0 : T2.goal.getD 0 0 < 0
    · obtain ⟨ok2, z2⟩ := sz T2 sy.sh E2 rl2 cl2
      exact ⟨T2, false, .not ok0 ⟨i0, hi0, hneg0⟩ okH im' g0, fun h => (by cases h), fun _ => ⟨sy.sh, E2, no, g0, sy.w, sy.m, rl2, cl2, ok2, z2⟩⟩
    · have g0' : 0 ≤ T2.goal.getD 0 0 := by grind
      -- the helper is nothing
      have hval : (dic T2).g 0 = -1 * val (dic T2) (T.width + T.many) := by
        rw [← val_obj E2.ie, ← E2.obj _ ((E2.sol _).mpr (val_sol E2.ie)), help_obj hw]
      have hnon : 0 ≤ val (dic T2) (T.width + T.many) := by
        by_cases hb : Bas (dic T2) (T.width + T.many)
        · obtain ⟨i, hi, e⟩ := hb
          rw [← e, val_b E2.ie hi]; exact sy.fea i hi
        · rw [val_n hb]; exact Rat.le_refl
      have hz : val (dic T2) (T.width + T.many) = 0 := by
        have : 0 ≤ (dic T2).g 0 := g0'
        grind
      have hv2 := (E2.var _).mp hvar
      by_cases hb : T.width + T.many ∈ T2.base
      · obtain ⟨r1, r2⟩ := gd_idx hb
        generalize hrow : T2.base.idxOf (T.width + T.many) = row at r1 r2
        have hrl2 : row < T2.cells.length := by rw [← sy.sh.bl]; exact r1
        have c0 : (dic T2).c row 0 = 0 := by
          rw [← val_b E2.ie (i := row) hrl2]
          have : (dic T2).b row = T.width + T.many := r2
          rw [this]; exact hz
        -- a column that is not nothing
        have hcol : ∃ c, (T2.nz row T2.rest.length)[0]? = some c := by
          cases h : T2.nz row T2.rest.length with
          | cons c l => exact ⟨c, rfl⟩
          | nil =>
            exfalso
            have all0 : ∀ c, c < T2.rest.length → T2.at_ row (c + 1) = 0 := fun c hc => Classical.byContradiction fun z => by
              have : c + 1 ∈ T2.nz row T2.rest.length := List.mem_map.mpr ⟨c, List.mem_filter.mpr ⟨List.mem_range.mpr hc, decide_eq_true z⟩, rfl⟩
              rw [h] at this
              simp at this
            obtain ⟨x, s, hx, _, _⟩ := sol_unit IH (q := T.rest.length) (show T.rest.length < T.help.rest.length by omega)
            have e1 := hx T.rest.length (show T.rest.length < T.help.rest.length by omega)
            rw [if_pos rfl] at e1
            have e2 : (dic T.help).r T.rest.length = T.width + T.many := by show T.help.rest.getD _ 0 = _; rw [help_r, if_pos rfl]
            rw [e2] at e1
            have e3 := (E2.sol x).mp s row hrl2
            have e4 : (dic T2).b row = T.width + T.many := r2
            rw [e4, e1] at e3
            unfold rv at e3
            rw [c0, sm_zero fun j hj => by
              have : (dic T2).c row (j + 1) = 0 := all0 j hj
              rw [this, Rat.zero_mul]] at e3
            exact absurd e3 (by rw [Rat.add_zero]; decide)
        obtain ⟨col, hcol⟩ := hcol
        obtain ⟨c, hc1, hc2, rfl⟩ : ∃ c, c < T2.rest.length ∧ T2.at_ row (c + 1) ≠ 0 ∧ col = c + 1 := by
          have := List.mem_of_getElem? hcol
          obtain ⟨c, hc, rfl⟩ := List.mem_map.mp this
          obtain ⟨h1, h2⟩ := List.mem_filter.mp hc
          exact ⟨c, List.mem_range.mp h1, of_decide_eq_true h2, rfl⟩
        have P2 := dic_piv sy.sh hrl2 hc1 hc2
        have E3 := E2.trans (P2.eqv E2.ie)
        have S3 := piv_sh (row := row) (col := c + 1) sy.sh hrl2
        have F3 : Fea (dic (T2.pivot row (c + 1))) := fun i hi => by
          rw [P2.m] at hi
          by_cases z : i = row
          · rw [z, P2.cp 0 (Nat.zero_le _)]
            unfold exp
            rw [if_neg (by omega), c0]
            have : -(0 : Rat) / (dic T2).c row (c + 1) = 0 := by grind
            rw [this]; exact Rat.le_refl
          · rw [P2.c i 0 hi z (Nat.zero_le _)]
            unfold ex
            rw [if_neg (by omega), c0]
            have : (dic T2).c i 0 - (dic T2).c i (c + 1) * 0 / (dic T2).c row (c + 1) = (dic T2).c i 0 := by grind
            rw [this]; exact sy.fea i hi
        have ok3 := (sz _ S3 E3 (piv_rlen.trans rl2) (piv_clen.trans cl2)).1
        have hmem : T.width + T.many ∈ (T2.pivot row (c + 1)).rest := non_mem.mp ((P2.non E2.ie _).mpr (.inl r2.symm))
        obtain ⟨d1, d2, d3, d4, d5⟩ := drop_ok S.toSh0 I hw IH SH S3.toSh0 E3 F3 hmem
        have hl := cut_rl (gd_idx hmem).1
        have hpr : (T2.pivot row (c + 1)).rest.length = T.rest.length + 1 := piv_rlen.trans rl2
        refine ⟨_, true, .yes ok0 ⟨i0, hi0, hneg0⟩ okH im' g0' (.turn (col := c + 1) ((sz T2 sy.sh E2 rl2 cl2).1) hb (by rw [hrow]; exact hcol) (by rw [hrow]; exact ok3) (by rw [hrow]; exact hmem)), fun _ => ?_, fun h => (by cases h)⟩
        rw [hrow]
        exact ⟨d1, d2, d3, d4, d5, sy.w, sy.m, by omega, cut_cl.trans (piv_clen.trans cl2)⟩
      · have hmem : T.width + T.many ∈ T2.rest := non_mem.mp (hv2.resolve_left fun z => hb ((bas_mem sy.sh.toSh0).mp z))
        obtain ⟨d1, d2, d3, d4, d5⟩ := drop_ok S.toSh0 I hw IH SH sy.sh.toSh0 E2 sy.fea hmem
        have hl := cut_rl (gd_idx hmem).1
        exact ⟨_, true, .yes ok0 ⟨i0, hi0, hneg0⟩ okH im' g0' (.out ((sz T2 sy.sh E2 rl2 cl2).1) hb hmem), fun _ => ⟨d1, d2, d3, d4, d5, sy.w, sy.m, by omega, cut_cl.trans cl2⟩, fun h => (by cases h)⟩
  · have h0 : ∀ i, i < T.cells.length → 0 ≤ T.at_ i 0 := fun i hi => Classical.byContradiction fun z => neg ⟨i, hi, by grind⟩
    exact ⟨T, true, .fine ok0 h0, fun _ => ⟨S.toSh0, I, h0, fun _ => .rfl, fun _ => .rfl, rfl, rfl, rfl, rfl⟩, fun h => (by cases h)⟩
end Mm
namespace Mm
theorem pr_len (T : Tab) : ∀ i, (T.pr i).length = T.width
  | 0 => List.length_replicate ..
  | i + 1 => by
    unfold Tab.pr
    by_cases c : T.base.getD i 0 < T.width
    · rw [if_pos c, List.length_set, pr_len T i]
    · rw [if_neg c, pr_len T i]
theorem pr_at {T : Tab} (I : Inj (dic T)) {v : Nat} (hv : v < T.width) : ∀ i, i ≤ T.cells.length → ((∃ k, k < i ∧ T.base.getD k 0 = v) → (T.pr i).getD v 0 = val (dic T) v) ∧ ((¬ ∃ k, k < i ∧ T.base.getD k 0 = v) → (T.pr i).getD v 0 = 0)
  | 0, _ => ⟨fun ⟨k, h, _⟩ => by omega, fun _ => gd_rep hv⟩
  | i + 1, hi => by
    obtain ⟨h1, h2⟩ := pr_at I hv i (by omega)
    have hval : val (dic T) (T.base.getD i 0) = T.at_ i 0 := val_b I (show i < T.cells.length by omega)
    unfold Tab.pr
    by_cases c : T.base.getD i 0 < T.width
    · rw [if_pos c, gd_set (by rw [pr_len]; exact c)]
      by_cases e : v = T.base.getD i 0
      · rw [if_pos e]
        exact ⟨fun _ => by rw [e, hval], fun z => absurd ⟨i, by omega, e.symm⟩ z⟩
      · rw [if_neg e]
        refine ⟨fun ⟨k, hk, hk2⟩ => h1 ⟨k, ?_, hk2⟩, fun z => h2 fun ⟨k, hk, hk2⟩ => z ⟨k, by omega, hk2⟩⟩
        have : k ≠ i := fun y => e (by rw [← hk2, y])
        omega
    · rw [if_neg c]
      refine ⟨fun ⟨k, hk, hk2⟩ => h1 ⟨k, ?_, hk2⟩, fun z => h2 fun ⟨k, hk, hk2⟩ => z ⟨k, by omega, hk2⟩⟩
      have : k ≠ i := fun y => c (by rw [y] at hk2; omega)
      omega
theorem present_at {T : Tab} (I : Inj (dic T)) {v : Nat} (hv : v < T.width) : T.present.getD v 0 = val (dic T) v := by
  obtain ⟨h1, h2⟩ := pr_at I hv T.cells.length (Nat.le_refl _)
  by_cases c : ∃ k, k < T.cells.length ∧ T.base.getD k 0 = v
  · exact h1 c
  · rw [show T.present.getD v 0 = (T.pr T.cells.length).getD v 0 from rfl, h2 c, val_n fun ⟨i, hi, e⟩ => c ⟨i, hi, e⟩]
/-- the goal's cell of an unknown -/
def gam (T : Tab) (v : Nat) : Rat := sm (fun j => if T.rest.getD j 0 = v then T.goal.getD (j + 1) 0 else 0) T.rest.length
theorem sm_swap (f : Nat → Nat → Rat) (n : Nat) : ∀ N, sm (fun v => sm (fun j => f j v) n) N = sm (fun j => sm (fun v => f j v) N) n
  | 0 => by
    exact (sm_zero fun _ _ => rfl).symm
  | N + 1 => by
    show sm (fun v => sm (fun j => f j v) n) N + sm (fun j => f j N) n = sm (fun j => sm (fun v => f j v) N + f j N) n
    rw [sm_swap f n N]
    have := sm_lin 1 1 (fun j => sm (fun v => f j v) N) (fun j => f j N) n
    rw [sm_congr (f := fun j => sm (fun v => f j v) N + f j N) (g := fun j => 1 * sm (fun v => f j v) N + 1 * f j N) fun j _ => by grind, this]
    grind
theorem sm_mul (f : Nat → Rat) (a : Rat) (n : Nat) : sm f n * a = sm (fun j => f j * a) n := by
  have := sm_lin a 0 f f n
  rw [sm_congr (f := fun j => f j * a) (g := fun j => a * f j + 0 * f j) fun j _ => by grind, this]
  grind
theorem obj_gam {T : Tab} {N : Nat} (hN : ∀ j, j < T.rest.length → T.rest.getD j 0 < N) (x : Nat → Rat) : Obj (dic T) x = T.goal.getD 0 0 + sm (fun v => gam T v * x v) N := by
  show T.goal.getD 0 0 + sm (fun j => T.goal.getD (j + 1) 0 * x (T.rest.getD j 0)) T.rest.length = _
  congr 1
  unfold gam
  rw [sm_congr (f := fun v => sm (fun j => if T.rest.getD j 0 = v then T.goal.getD (j + 1) 0 else 0) T.rest.length * x v) (g := fun v => sm (fun j => (if T.rest.getD j 0 = v then T.goal.getD (j + 1) 0 else 0) * x v) T.rest.length) fun v _ => sm_mul _ _ _]
  rw [sm_swap]
  refine sm_congr fun j hj => ?_
  rw [sm_single (q := T.rest.getD j 0) (hN j hj) fun v _ hv => by rw [if_neg (fun z => hv z.symm), Rat.zero_mul]]
  rw [if_pos rfl]
theorem gam_le {T : Tab} (S : Sh T) (no : ∀ c, ¬ T.Way c) (v : Nat) : gam T v ≤ 0 := by
  have h : 0 ≤ sm (fun j => -(if T.rest.getD j 0 = v then T.goal.getD (j + 1) 0 else 0)) T.rest.length := sm_nonneg fun j hj => by
    have : ¬ 0 < T.goal.getD (j + 1) 0 := fun z => no (j + 1) ⟨by omega, by rw [S.gl]; omega, z⟩
    by_cases c : T.rest.getD j 0 = v
    · rw [if_pos c]; grind
    · rw [if_neg c]; grind
  have e := sm_lin (-1) 0 (fun j => if T.rest.getD j 0 = v then T.goal.getD (j + 1) 0 else 0) (fun _ => 0) T.rest.length
  rw [sm_congr (g := fun j => -1 * (if T.rest.getD j 0 = v then T.goal.getD (j + 1) 0 else 0) + 0 * 0) fun j _ => by grind, e] at h
  unfold gam
  grind
theorem gam_at {T : Tab} (I : Inj (dic T)) {j : Nat} (hj : j < T.rest.length) : gam T (T.rest.getD j 0) = T.goal.getD (j + 1) 0 := by
  unfold gam
  rw [sm_single (q := j) hj fun i hi hn => by rw [if_neg (show ¬ T.rest.getD i 0 = T.rest.getD j 0 from fun z => hn (I.r i j hi hj z))]]
  rw [if_pos rfl]
theorem gam_no {T : Tab} {v : Nat} (h : ¬ ∃ j, j < T.rest.length ∧ T.rest.getD j 0 = v) : gam T v = 0 := sm_zero fun j hj => by rw [if_neg fun z => h ⟨j, hj, z⟩]
theorem wt_len (T : Tab) : ∀ i, (T.wt i).length = T.many
  | 0 => List.length_replicate ..
  | i + 1 => by
    unfold Tab.wt
    split
    · rw [List.length_set, wt_len T i]
    · exact wt_len T i
theorem wt_at {T : Tab} (I : Inj (dic T)) {s : Nat} (hs : s < T.many) : ∀ i, i ≤ T.rest.length → ((∃ k, k < i ∧ T.rest.getD k 0 = T.width + s) → (T.wt i).getD s 0 = -(gam T (T.width + s))) ∧ ((¬ ∃ k, k < i ∧ T.rest.getD k 0 = T.width + s) → (T.wt i).getD s 0 = 0)
  | 0, _ => ⟨fun ⟨k, h, _⟩ => by omega, fun _ => gd_rep hs⟩
  | i + 1, hi => by
    obtain ⟨h1, h2⟩ := wt_at I hs i (by omega)
    have hg := gam_at I (j := i) (by omega)
    unfold Tab.wt
    by_cases c : T.width ≤ T.rest.getD i 0 ∧ T.rest.getD i 0 < T.width + T.many
    · rw [if_pos c, gd_set (by rw [wt_len]; omega)]
      by_cases e : s = T.rest.getD i 0 - T.width
      · rw [if_pos e]
        have e2 : T.rest.getD i 0 = T.width + s := by omega
        exact ⟨fun _ => by rw [← e2, hg], fun z => absurd ⟨i, by omega, e2⟩ z⟩
      · rw [if_neg e]
        refine ⟨fun ⟨k, hk, hk2⟩ => h1 ⟨k, ?_, hk2⟩, fun z => h2 fun ⟨k, hk, hk2⟩ => z ⟨k, by omega, hk2⟩⟩
        have : k ≠ i := fun y => e (by rw [y] at hk2; omega)
        omega
    · rw [if_neg c]
      refine ⟨fun ⟨k, hk, hk2⟩ => h1 ⟨k, ?_, hk2⟩, fun z => h2 fun ⟨k, hk, hk2⟩ => z ⟨k, by omega, hk2⟩⟩
      have : k ≠ i := fun y => c (by rw [y] at hk2; omega)
      omega
theorem weights_at {T : Tab} (I : Inj (dic T)) {s : Nat} (hs : s < T.many) : T.weights.getD s 0 = -(gam T (T.width + s)) := by
  obtain ⟨h1, h2⟩ := wt_at I hs T.rest.length (Nat.le_refl _)
  by_cases c : ∃ k, k < T.rest.length ∧ T.rest.getD k 0 = T.width + s
  · exact h1 c
  · rw [show T.weights.getD s 0 = (T.wt T.rest.length).getD s 0 from rfl, h2 c, gam_no c]; grind
end Mm
namespace Mm
/-! ### the first tableau -/
section
variable {N : Nat} {R : List (List Rat × Rat)}
theorem init_cl : (Tab.init N R).cells.length = R.length := List.length_map ..
theorem init_rl : (Tab.init N R).rest.length = N := List.length_range ..
theorem init_row {i : Nat} (hi : i < R.length) : (Tab.init N R).row i = R[i].2 :: R[i].1.map (fun x => -x) := by
  unfold Tab.row
  rw [gd_lt (by rw [init_cl]; exact hi)]
  exact List.getElem_map ..
theorem init_at0 {i : Nat} (hi : i < R.length) : (Tab.init N R).at_ i 0 = R[i].2 := by
  unfold Tab.at_
  rw [init_row hi]; rfl
theorem gd_neg {l : List Rat} {k : Nat} : (l.map (fun x => -x)).getD k 0 = -(l.getD k 0) := by
  by_cases h : k < l.length
  · exact gd_map (e := 0) h
  · rw [gd_ge (by rw [List.length_map]; omega), gd_ge (by omega)]; grind
theorem init_atk {i k : Nat} (hi : i < R.length) : (Tab.init N R).at_ i (k + 1) = -(R[i].1.getD k 0) := by
  unfold Tab.at_
  rw [init_row hi]
  show (R[i].1.map (fun x => -x)).getD k 0 = _
  exact gd_neg
theorem init_sh (h : ∀ r ∈ R, r.1.length = N) : Sh (Tab.init N R) := by
  refine ⟨⟨?_, fun i hi => ?_⟩, ?_⟩
  · rw [init_cl]
    show ((List.range R.length).map _).length = _
    rw [List.length_map, List.length_range]
  · rw [init_cl] at hi
    rw [init_row hi, List.length_cons, List.length_map, h _ (List.getElem_mem hi), init_rl]
  · rw [init_rl]; exact List.length_replicate ..
theorem init_b {i : Nat} (hi : i < R.length) : (dic (Tab.init N R)).b i = N + i := by
  show ((List.range R.length).map _).getD i 0 = _
  rw [gd_map (e := 0) (by rw [List.length_range]; exact hi), gd_range hi]
theorem init_r {j : Nat} (hj : j < N) : (dic (Tab.init N R)).r j = j := gd_range hj
theorem init_m : (dic (Tab.init N R)).m = R.length := init_cl
theorem init_n : (dic (Tab.init N R)).n = N := init_rl
theorem init_inj : Inj (dic (Tab.init N R)) := by
  refine ⟨fun i j hi hj e => ?_, fun i j hi hj e => ?_, fun i j hi hj e => ?_⟩
  · rw [init_m] at hi hj
    rw [init_b hi, init_b hj] at e; omega
  · rw [init_n] at hi hj
    rw [init_r hi, init_r hj] at e; omega
  · rw [init_m] at hi
    rw [init_n] at hj
    rw [init_b hi, init_r hj] at e; omega
theorem init_var (v : Nat) : Var (dic (Tab.init N R)) v ↔ v < N + R.length := by
  constructor
  · rintro (⟨i, hi, rfl⟩ | ⟨j, hj, rfl⟩)
    · rw [init_m] at hi
      rw [init_b hi]; omega
    · rw [init_n] at hj
      rw [init_r hj]; omega
  · intro h
    by_cases c : v < N
    · exact .inr ⟨v, by rw [init_n]; exact c, init_r c⟩
    · refine .inl ⟨v - N, by rw [init_m]; omega, ?_⟩
      rw [init_b (by omega)]; omega
theorem init_big (h : ∀ r ∈ R, IsN 60 M0 r.2 ∧ ∀ x ∈ r.1, IsN 60 M0 x) : Big 60 M0 (dic (Tab.init N R)) := ⟨fun i k hi hk => by
  rw [init_m] at hi
  obtain ⟨h1, h2⟩ := h _ (List.getElem_mem hi)
  show IsN 60 M0 ((Tab.init N R).at_ i k)
  cases k with
  | zero => rw [init_at0 hi]; exact h1
  | succ k =>
    rw [init_atk hi]
    refine IsN.neg ?_
    by_cases c : k < R[i].1.length
    · exact h2 _ (gd_mem c)
    · rw [gd_ge (by omega)]; exact isN_zero⟩
theorem init_goal (k : Nat) : (Tab.init N R).goal.getD k 0 = 0 := gd_rep0
/-- a solution told by the unknowns -/
theorem init_sol {x : Nat → Rat} (s : Sol (dic (Tab.init N R)) x) {i : Nat} (hi : i < R.length) : x (N + i) = R[i].2 - sm (fun v => R[i].1.getD v 0 * x v) N := by
  have h := s i (by rw [init_m]; exact hi)
  rw [init_b hi] at h
  rw [h]
  unfold rv
  rw [init_n]
  have e : (dic (Tab.init N R)).c i 0 = R[i].2 := init_at0 hi
  rw [e]
  have := sm_lin (-1) 0 (fun v => R[i].1.getD v 0 * x v) (fun _ => 0) N
  rw [sm_congr (f := fun j => (dic (Tab.init N R)).c i (j + 1) * x ((dic (Tab.init N R)).r j)) (g := fun v => -1 * (R[i].1.getD v 0 * x v) + 0 * 0) fun j hj => by
    have e : (dic (Tab.init N R)).c i (j + 1) = -(R[i].1.getD j 0) := init_atk hi
    rw [e, init_r hj]; grind, this]
  grind
/-- and one for every choice of them -/
theorem init_ex (y : Nat → Rat) : ∃ x, Sol (dic (Tab.init N R)) x ∧ ∀ v, v < N → x v = y v := by
  obtain ⟨x, s, h, _⟩ := sol_ex (init_inj (N := N) (R := R)) y
  exact ⟨x, s, fun v hv => by
    have := h v (by rw [init_n]; exact hv)
    rw [init_r hv] at this
    exact this⟩
end
end Mm
namespace Mm
theorem sm_app (f : Nat → Rat) (a : Nat) : ∀ b, sm f (a + b) = sm f a + sm (fun i => f (a + i)) b
  | 0 => by show sm f a = sm f a + 0; grind
  | b + 1 => by
    show sm f (a + b) + f (a + b) = sm f a + (sm (fun i => f (a + i)) b + f (a + b))
    rw [sm_app f a b]; grind
theorem sm_sub (f g : Nat → Rat) (n : Nat) : sm (fun j => f j - g j) n = sm f n - sm g n := by
  have := sm_lin 1 (-1) f g n
  rw [sm_congr (f := fun j => f j - g j) (g := fun j => 1 * f j + -1 * g j) fun j _ => by grind, this]; grind
/-- the coefficients of a law of all solutions -/
theorem farkas {N : Nat} {R : List (List Rat × Rat)} {n : Nat} {κ g0 : Rat} {γ : Nat → Rat} (hn : n < N) (h : ∀ x, Sol (dic (Tab.init N R)) x → κ * x n = g0 + sm (fun v => γ v * x v) (N + R.length)) :
    g0 = sm (fun i => -(γ (N + i)) * (R.getD i ([], 0)).2) R.length ∧ ∀ v, v < N → sm (fun i => -(γ (N + i)) * (R.getD i ([], 0)).1.getD v 0) R.length = (if v = n then κ else 0) - γ v := by
  have key : ∀ y : Nat → Rat, κ * y n = g0 + sm (fun v => γ v * y v) N + sm (fun i => γ (N + i) * ((R.getD i ([], 0)).2 - sm (fun v => (R.getD i ([], 0)).1.getD v 0 * y v) N)) R.length := fun y => by
    obtain ⟨x, s, hx⟩ := init_ex (N := N) (R := R) y
    have := h x s
    rw [sm_app, hx n hn] at this
    rw [this, sm_congr (f := fun v => γ v * x v) (g := fun v => γ v * y v) fun v hv => by rw [hx v hv]]
    rw [sm_congr (f := fun i => γ (N + i) * x (N + i)) (g := fun i => γ (N + i) * ((R.getD i ([], 0)).2 - sm (fun v => (R.getD i ([], 0)).1.getD v 0 * y v) N)) fun i hi => by
      rw [init_sol s hi, gd_lt hi]
      rw [sm_congr (f := fun v => R[i].1.getD v 0 * x v) (g := fun v => R[i].1.getD v 0 * y v) fun v hv => by rw [hx v hv]]]
    grind
  have neg : ∀ f : Nat → Rat, sm (fun i => -(γ (N + i)) * f i) R.length = -(sm (fun i => γ (N + i) * f i) R.length) := fun f => by
    have := sm_lin (-1) 0 (fun i => γ (N + i) * f i) (fun _ => 0) R.length
    rw [sm_congr (f := fun i => -(γ (N + i)) * f i) (g := fun i => -1 * (γ (N + i) * f i) + 0 * 0) fun j _ => by grind, this]; grind
  have h0 := key (fun _ => 0)
  rw [sm_zero (f := fun v => γ v * 0) fun j _ => by grind] at h0
  rw [sm_congr (f := fun i => γ (N + i) * ((R.getD i ([], 0)).2 - sm (fun v => (R.getD i ([], 0)).1.getD v 0 * 0) N)) (g := fun i => γ (N + i) * (R.getD i ([], 0)).2) fun i _ => by
    rw [sm_zero (f := fun v => (R.getD i ([], 0)).1.getD v 0 * 0) fun j _ => by grind]; grind] at h0
  refine ⟨by rw [neg]; grind, fun v hv => ?_⟩
  have h1 := key (fun u => if u = v then 1 else 0)
  rw [sm_single (f := fun u => γ u * if u = v then 1 else 0) (q := v) hv fun j _ hj => by rw [if_neg hj]; grind] at h1
  rw [sm_congr (f := fun i => γ (N + i) * ((R.getD i ([], 0)).2 - sm (fun u => (R.getD i ([], 0)).1.getD u 0 * if u = v then 1 else 0) N)) (g := fun i => γ (N + i) * (R.getD i ([], 0)).2 - γ (N + i) * (R.getD i ([], 0)).1.getD v 0) fun i _ => by
    rw [sm_single (f := fun u => (R.getD i ([], 0)).1.getD u 0 * if u = v then 1 else 0) (q := v) hv fun j _ hj => by rw [if_neg hj]; grind]
    rw [if_pos rfl]; grind] at h1
  rw [sm_sub] at h1
  rw [if_pos rfl] at h1
  rw [neg]
  by_cases c : v = n
  · rw [if_pos c]
    rw [if_pos c.symm] at h1
    grind
  · rw [if_neg c]
    rw [if_neg fun z => c z.symm] at h1
    grind
end Mm
namespace Mm
section
variable {n : Nat} {rows : List Row}
theorem slack_len : (slack n rows).length = rows.length + 1 := by
  unfold slack
  rw [List.length_append, List.length_map]; rfl
def sb (s : Bool) : Rat := if s then 1 else 0
theorem slack_at {i : Nat} (hi : i < rows.length) : (slack n rows).getD i ([], 0) = (rows[i].f ++ [sb rows[i].s], rows[i].b) := by
  unfold slack
  rw [List.getD_eq_getElem?_getD, List.getElem?_append_left (by rw [List.length_map]; exact hi), List.getElem?_map, List.getElem?_eq_getElem hi]; rfl
theorem slack_end : (slack n rows).getD rows.length ([], 0) = (List.replicate n 0 ++ [1], 1) := by
  unfold slack
  rw [List.getD_eq_getElem?_getD, List.getElem?_append_right (by rw [List.length_map]; exact Nat.le_refl _), List.length_map, Nat.sub_self]; rfl
theorem slack_ok (hl : ∀ r ∈ rows, r.f.length = n) (hb : ∀ r ∈ rows, IsN 60 M0 r.b ∧ ∀ x ∈ r.f, IsN 60 M0 x) : ∀ r ∈ slack n rows, r.1.length = n + 1 ∧ IsN 60 M0 r.2 ∧ ∀ x ∈ r.1, IsN 60 M0 x := by
  intro r hr
  have o : ∀ s, IsN 60 M0 (sb s) := fun s => by
    cases s
    · exact isN_zero
    · exact isN_one (by decide)
  unfold slack at hr
  rcases List.mem_append.mp hr with h | h
  · obtain ⟨q, hq, rfl⟩ := List.mem_map.mp h
    refine ⟨by show (q.f ++ [_]).length = n + 1; rw [List.length_append, hl q hq]; rfl, (hb q hq).1, fun x hx => ?_⟩
    rcases List.mem_append.mp hx with h | h
    · exact (hb q hq).2 x h
    · rw [List.mem_singleton.mp h]; exact o q.s
  · rw [List.mem_singleton.mp h]
    refine ⟨by show (List.replicate n (0 : Rat) ++ [1]).length = n + 1; rw [List.length_append, List.length_replicate]; rfl, isN_one (by decide), fun x hx => ?_⟩
    rcases List.mem_append.mp hx with h | h
    · rw [(List.mem_replicate.mp h).2]; exact isN_zero
    · rw [List.mem_singleton.mp h]; exact isN_one (by decide)
end
/-- the two answers, plain -/
structure Sat (n : Nat) (rows : List Row) (vals : List Rat) : Prop where
  len : vals.length = n
  sz : ∃ D', 1 ≤ D' ∧ D' ≤ G0 ∧ ∀ x ∈ vals, IsN D' G0 x
  nn : ∀ x ∈ vals, 0 ≤ x
  row : ∀ r ∈ rows, sm (fun j => r.f.getD j 0 * vals.getD j 0) n ≤ r.b ∧ (r.s = true → sm (fun j => r.f.getD j 0 * vals.getD j 0) n ≠ r.b)
structure Uns (n : Nat) (rows : List Row) (vals : List Rat) : Prop where
  len : vals.length = rows.length
  sz : ∃ D', 1 ≤ D' ∧ D' ≤ G0 ∧ ∀ x ∈ vals, IsN D' G0 x
  nn : ∀ x ∈ vals, 0 ≤ x
  pos : ∀ j, j < n → 0 ≤ sm (fun i => vals.getD i 0 * (rows.map fun r => r.f.getD j 0).getD i 0) rows.length
  bad : sm (fun i => vals.getD i 0 * (rows.map fun r => r.b).getD i 0) rows.length < 0 ∨ (sm (fun i => vals.getD i 0 * (rows.map fun r => r.b).getD i 0) rows.length = 0 ∧ ∃ i r, rows[i]? = some r ∧ r.s = true ∧ 0 < vals.getD i 0)
end Mm
namespace Mm
theorem uns_of {n : Nat} {rows : List Row} {vals : List Rat} {κ g0 : Rat} {γ : Nat → Rat} (hl : ∀ r ∈ rows, r.f.length = n) (len : vals.length = rows.length) (sz : ∃ D', 1 ≤ D' ∧ D' ≤ G0 ∧ ∀ x ∈ vals, IsN D' G0 x)
    (hg : ∀ v, γ v ≤ 0) (hv : ∀ i, i < rows.length → vals.getD i 0 = -(γ (n + 1 + i))) (hk : g0 < 0 ∨ (g0 ≤ 0 ∧ κ = 1))
    (h : ∀ x, Sol (dic (Tab.init (n + 1) (slack n rows))) x → κ * x n = g0 + sm (fun v => γ v * x v) (n + 1 + (slack n rows).length)) : Uns n rows vals := by
  obtain ⟨f1, f2⟩ := farkas (N := n + 1) (R := slack n rows) (n := n) (by omega) h
  have nn : ∀ x ∈ vals, 0 ≤ x := fun x hx => by
    obtain ⟨i, hi, rfl⟩ := List.mem_iff_getElem.mp hx
    have := hv i (by omega)
    rw [gd_lt hi] at this
    rw [this]
    have := hg (n + 1 + i); grind
  have hw := hg (n + 1 + rows.length)
  have eb : g0 = sm (fun i => vals.getD i 0 * (rows.map fun r => r.b).getD i 0) rows.length + -(γ (n + 1 + rows.length)) := by
    rw [slack_len] at f1
    have e : sm (fun i => -(γ (n + 1 + i)) * ((slack n rows).getD i ([], 0)).2) (rows.length + 1) = sm (fun i => -(γ (n + 1 + i)) * ((slack n rows).getD i ([], 0)).2) rows.length + -(γ (n + 1 + rows.length)) * ((slack n rows).getD rows.length ([], 0)).2 := rfl
    rw [e, slack_end] at f1
    rw [sm_congr (f := fun i => -(γ (n + 1 + i)) * ((slack n rows).getD i ([], 0)).2) (g := fun i => vals.getD i 0 * (rows.map fun r => r.b).getD i 0) fun i hi => by
      rw [slack_at hi, hv i hi, gd_lt (by rw [List.length_map]; exact hi), List.getElem_map]] at f1
    rw [f1]; grind
  have ev : ∀ j, j < n → sm (fun i => vals.getD i 0 * (rows.map fun r => r.f.getD j 0).getD i 0) rows.length = -(γ j) := fun j hj => by
    have f2 := f2 j (by omega)
    rw [if_neg (by omega), slack_len] at f2
    have e : sm (fun i => -(γ (n + 1 + i)) * ((slack n rows).getD i ([], 0)).1.getD j 0) (rows.length + 1) = sm (fun i => -(γ (n + 1 + i)) * ((slack n rows).getD i ([], 0)).1.getD j 0) rows.length + -(γ (n + 1 + rows.length)) * ((slack n rows).getD rows.length ([], 0)).1.getD j 0 := rfl
    rw [e, slack_end] at f2
    have z : (List.replicate n (0 : Rat) ++ [1]).getD j 0 = 0 := by
      rw [gd_snoc (List.length_replicate ..), if_neg (by omega), gd_rep0]
    rw [z] at f2
    rw [sm_congr (f := fun i => -(γ (n + 1 + i)) * ((slack n rows).getD i ([], 0)).1.getD j 0) (g := fun i => vals.getD i 0 * (rows.map fun r => r.f.getD j 0).getD i 0) fun i hi => by
      have e2 : (rows.map fun r => r.f.getD j 0).getD i 0 = rows[i].f.getD j 0 := by rw [gd_lt (by rw [List.length_map]; exact hi), List.getElem_map]
      rw [slack_at hi, hv i hi, e2]
      show _ * (rows[i].f ++ [sb rows[i].s]).getD j 0 = _
      rw [gd_snoc (hl _ (List.getElem_mem hi)), if_neg (by omega)]] at f2
    grind
  refine ⟨len, sz, nn, fun j hj => by rw [ev j hj]; have := hg j; grind, ?_⟩
  generalize hB : sm (fun i => vals.getD i 0 * (rows.map fun r => r.b).getD i 0) rows.length = B at eb
  by_cases c : B < 0
  · exact .inl c
  · have hk1 : g0 ≤ 0 ∧ κ = 1 := by
      rcases hk with h | h
      · exfalso; grind
      · exact h
    have hB0 : B = 0 := by grind
    have hw0 : γ (n + 1 + rows.length) = 0 := by grind
    refine .inr ⟨hB0, ?_⟩
    have f2 := f2 n (by omega)
    rw [if_pos rfl, slack_len, hk1.2] at f2
    have e : sm (fun i => -(γ (n + 1 + i)) * ((slack n rows).getD i ([], 0)).1.getD n 0) (rows.length + 1) = sm (fun i => -(γ (n + 1 + i)) * ((slack n rows).getD i ([], 0)).1.getD n 0) rows.length + -(γ (n + 1 + rows.length)) * ((slack n rows).getD rows.length ([], 0)).1.getD n 0 := rfl
    rw [e, hw0] at f2
    have hp : 0 < sm (fun i => -(γ (n + 1 + i)) * ((slack n rows).getD i ([], 0)).1.getD n 0) rows.length := by
      have := hg n
      grind
    obtain ⟨i, hi, hpos⟩ := sm_pos hp
    rw [slack_at hi] at hpos
    have hpos : 0 < -(γ (n + 1 + i)) * (rows[i].f ++ [sb rows[i].s]).getD n 0 := hpos
    rw [gd_snoc (hl _ (List.getElem_mem hi)), if_pos rfl, ← hv i hi] at hpos
    refine ⟨i, rows[i], List.getElem?_eq_getElem hi, ?_, ?_⟩
    · cases hs : rows[i].s with
      | true => rfl
      | false =>
        rw [hs] at hpos
        have : sb false = 0 := rfl
        rw [this] at hpos
        grind
    · cases hs : rows[i].s with
      | true =>
        rw [hs] at hpos
        have : sb true = 1 := rfl
        rw [this] at hpos
        grind
      | false =>
        rw [hs] at hpos
        have : sb false = 0 := rfl
        rw [this] at hpos
        grind
end Mm
namespace Mm
theorem sat_of {n : Nat} {rows : List Row} {vals : List Rat} {x : Nat → Rat} (hl : ∀ r ∈ rows, r.f.length = n) (len : vals.length = n) (sz : ∃ D', 1 ≤ D' ∧ D' ≤ G0 ∧ ∀ x ∈ vals, IsN D' G0 x)
    (hv : ∀ j, j < n → vals.getD j 0 = x j) (s : Sol (dic (Tab.init (n + 1) (slack n rows))) x) (nn : ∀ v, v < n + 1 + (slack n rows).length → 0 ≤ x v) (hx : 0 < x n) : Sat n rows vals := by
  refine ⟨len, sz, fun y hy => ?_, fun r hr => ?_⟩
  · obtain ⟨i, hi, rfl⟩ := List.mem_iff_getElem.mp hy
    have := hv i (by omega)
    rw [gd_lt hi] at this
    rw [this]
    exact nn i (by omega)
  · obtain ⟨i, hi, rfl⟩ := List.mem_iff_getElem.mp hr
    have hi2 : i < (slack n rows).length := by rw [slack_len]; omega
    have h1 := init_sol s hi2
    have h2 := nn (n + 1 + i) (by omega)
    have e : (slack n rows)[i] = (rows[i].f ++ [sb rows[i].s], rows[i].b) := by rw [← slack_at (n := n) hi, gd_lt hi2]
    rw [e] at h1
    have h1 : x (n + 1 + i) = rows[i].b - (sm (fun v => (rows[i].f ++ [sb rows[i].s]).getD v 0 * x v) n + (rows[i].f ++ [sb rows[i].s]).getD n 0 * x n) := h1
    rw [gd_snoc (hl _ hr), if_pos rfl] at h1
    rw [sm_congr (f := fun v => (rows[i].f ++ [sb rows[i].s]).getD v 0 * x v) (g := fun j => rows[i].f.getD j 0 * vals.getD j 0) fun j hj => by
      rw [gd_snoc (hl _ hr), if_neg (by omega), hv j hj]] at h1
    cases hs : rows[i].s with
    | true =>
      rw [hs] at h1
      have : sb true = 1 := rfl
      rw [this] at h1
      exact ⟨by grind, fun _ => by grind⟩
    | false =>
      rw [hs] at h1
      have : sb false = 0 := rfl
      rw [this] at h1
      exact ⟨by grind, fun z => by cases z⟩
end Mm
namespace Mm
theorem gd_take {α : Type} {l : List α} {i n : Nat} {d : α} (h : i < n) : (l.take n).getD i d = l.getD i d := by
  rw [List.getD_eq_getElem?_getD, List.getD_eq_getElem?_getD, List.getElem?_take_of_lt h]
/-- the weights' sizes are the goal's -/
theorem wt_sz {T : Tab} (I : Inj (dic T)) {D' m : Nat} (hm : m ≤ T.many) (h : ∀ k, k ≤ T.rest.length → IsN D' G0 (T.goal.getD k 0)) : ∀ x ∈ T.weights.take m, IsN D' G0 x := by
  intro x hx
  obtain ⟨i, hi, rfl⟩ := List.mem_iff_getElem.mp hx
  rw [List.length_take] at hi
  have e : (T.weights.take m)[i]'(by rw [List.length_take]; exact hi) = T.weights.getD i 0 := by
    rw [← gd_take (n := m) (by omega), gd_lt (by rw [List.length_take]; exact hi)]
  rw [e, weights_at I (by omega)]
  refine IsN.neg ?_
  by_cases c : ∃ j, j < T.rest.length ∧ T.rest.getD j 0 = T.width + i
  · obtain ⟨j, hj, e⟩ := c
    rw [← e, gam_at I hj]
    exact h (j + 1) (by omega)
  · rw [gam_no c]; exact isN_zero
end Mm
namespace Mm
theorem solve_ex {n : Nat} {rows : List Row} (hn : n ≤ 4) (hm : rows.length ≤ 9) (hl : ∀ r ∈ rows, r.f.length = n) (hb : ∀ r ∈ rows, IsN 60 M0 r.b ∧ ∀ x ∈ r.f, IsN 60 M0 x) :
    ∃ b vals, Solve 1300 n rows b vals ∧ (b = true → Sat n rows vals) ∧ (b = false → Uns n rows vals) := by
  have hs := slack_ok hl hb
  have sl := slack_len (n := n) (rows := rows)
  generalize hT : Tab.init (n + 1) (slack n rows) = T
  have S : Sh T := hT ▸ init_sh fun r hr => (hs r hr).1
  have I : Inj (dic T) := hT ▸ init_inj
  have hw : T.width = n + 1 := by rw [← hT]; rfl
  have hmm : T.many = rows.length + 1 := by rw [← hT]; exact sl
  have hrl : T.rest.length = n + 1 := by rw [← hT]; exact init_rl
  have hcl : T.cells.length = rows.length + 1 := by rw [← hT, init_cl, sl]
  have hvar : ∀ v, Var (dic T) v ↔ v < n + 1 + (rows.length + 1) := fun v => by rw [← hT, init_var, sl]
  have B : Big 60 M0 (dic T) := hT ▸ init_big fun r hr => (hs r hr).2
  obtain ⟨T1, b, bg, fine, stuck⟩ := begin_ex S (by omega) I (fun z => by have := (hvar _).mp z; omega) (by omega) (by omega) B (fun k _ => by rw [← hT]; exact init_goal k)
  cases b with
  | false =>
    obtain ⟨s, E, no, neg, w, m, rl, cl, ok, D', d1, d2, gz⟩ := stuck rfl
    refine ⟨false, T1.weights.take rows.length, .no (hT ▸ bg) ok (by omega), fun h => (by cases h), fun _ => ?_⟩
    have hrh : T.help.rest.getD T.rest.length 0 = T.width + T.many := by rw [help_r, if_pos rfl]
    have IH := help_inj I (fun z => by have := (hvar _).mp z; omega)
    have SH : Sh T.help := help_sh S.toSh0 (by omega)
    have hq : T.rest.length < T.help.rest.length := by rw [help_rl]; omega
    obtain ⟨g1, g2⟩ := help_cut S.toSh0
    refine uns_of (κ := 0) (g0 := T1.goal.getD 0 0) (γ := gam T1) hl ?_ ⟨D', d1, d2, wt_sz E.ie (by omega) gz⟩ (gam_le s no) (fun i hi => ?_) (.inl neg) (fun x sx => ?_)
    · rw [List.length_take, show T1.weights.length = T1.many from wt_len T1 _]; omega
    · rw [gd_take hi, weights_at E.ie (by omega)]
      congr 2; omega
    · rw [hT] at sx
      have sz := (cut_sol SH.toSh0 IH hq x).mp ((sol_same g1 g2 rfl x).mpr sx)
      rw [hrh] at sz
      have ho := E.obj _ sz
      rw [help_obj (by omega)] at ho
      have hN : ∀ j, j < T1.rest.length → T1.rest.getD j 0 < n + 1 + (rows.length + 1) + 1 := fun j hj => by
        have h1 := (E.var _).mpr (.inr ⟨j, hj, rfl⟩)
        by_cases c : (dic T1).r j = T.width + T.many
        · show (dic T1).r j < _; omega
        · have h2 := (cut_var IH hq ((dic T1).r j)).mpr ⟨h1, by rw [hrh]; exact c⟩
          have h3 := (hvar _).mp ((var_same g1 g2 rfl _).mp h2)
          show (dic T1).r j < _; omega
      rw [obj_gam hN] at ho
      have ez : zap (T.width + T.many) x (T.width + T.many) = 0 := if_pos rfl
      have ho : -1 * zap (T.width + T.many) x (T.width + T.many) = T1.goal.getD 0 0 + (sm (fun v => gam T1 v * zap (T.width + T.many) x v) (n + 1 + (rows.length + 1)) + gam T1 (n + 1 + (rows.length + 1)) * zap (T.width + T.many) x (n + 1 + (rows.length + 1))) := ho
      rw [show n + 1 + (rows.length + 1) = T.width + T.many by omega, ez] at ho
      rw [sl, show n + 1 + (rows.length + 1) = T.width + T.many by omega]
      rw [sm_congr (f := fun v => gam T1 v * x v) (g := fun v => gam T1 v * zap (T.width + T.many) x v) fun v hv => by
        unfold zap; rw [if_neg (by omega)]]
      grind
  | true =>
    obtain ⟨s1, i1, f1, sol, var, w1, m1, rl1, cl1⟩ := fine rfl
    have vn : Var (dic T) n := (hvar n).mpr (by omega)
    have vn1 := (var n).mp vn
    have SA := aimed_sh s1 vn1
    have IA : Inj (dic (T1.aimed n)) := ⟨i1.b, i1.r, i1.br⟩
    have FA : Fea (dic (T1.aimed n)) := f1
    have E0 := aimed_eqv S.toSh0 s1 I i1 vn sol var
    have BA : Big 60 M0 (dic (T.aimed n)) := ⟨B.c⟩
    have obj : ∀ U, Sys (T1.aimed n) U → ∀ x, Sol (dic U) x → Obj (dic U) x = 1 * x n := fun U sU x sx => by
      have h1 := (sU.eqv.sol x).mpr sx
      rw [← sU.eqv.obj x h1, aimed_obj s1 vn1 h1, Rat.one_mul]
    have toT : ∀ U, Sys (T1.aimed n) U → ∀ x, Sol (dic U) x → Sol (dic T) x := fun U sU x sx => (sol x).mpr ((sU.eqv.sol x).mpr sx)
    have sz : ∀ U, Sys (T1.aimed n) U → ∃ D', 1 ≤ D' ∧ D' ≤ G0 ∧ Big D' G0 (dic U) ∧ ∀ k, k ≤ U.rest.length → IsN D' G0 (U.goal.getD k 0) := fun U sU => by
      obtain ⟨D', d1, d2, BU⟩ := size_a (E0.trans sU.eqv) (show T.rest.length ≤ 5 by omega) BA
      exact ⟨D', d1, d2, BU, size_goal sU.eqv.ie (.inl rfl) ((sU.eqv.var n).mp vn1) (obj U sU) d2 BU⟩
    have rlA : (T1.aimed n).rest.length = n + 1 := rl1.trans hrl
    have clA : (T1.aimed n).cells.length = rows.length + 1 := cl1.trans hcl
    have last : ∀ x, Sol (dic T) x → x (n + 1 + rows.length) = 1 - x n := fun x sx => by
      rw [← hT] at sx
      have hi : rows.length < (slack n rows).length := by omega
      have h1 := init_sol sx hi
      have e : (slack n rows)[rows.length] = (List.replicate n 0 ++ [1], 1) := by rw [← slack_end, gd_lt hi]
      rw [e] at h1
      rw [h1, sm_single (q := n) (by omega) fun j hj hj2 => by
        show (List.replicate n (0 : Rat) ++ [1]).getD j 0 * x j = 0
        rw [gd_snoc (List.length_replicate ..), if_neg hj2, gd_rep0, Rat.zero_mul]]
      show (1 : Rat) - (List.replicate n (0 : Rat) ++ [1]).getD n 0 * x n = _
      rw [gd_snoc (List.length_replicate ..), if_pos rfl, Rat.one_mul]
    obtain ⟨m, T3, im, sy, no⟩ := imp_ends (k := 1300) SA IA FA (fun U sU => by
      obtain ⟨D', d1, d2, BU, gU⟩ := sz U sU
      have := sU.rl; have := sU.cl
      exact ok_of sU.sh (by omega) (by omega) d1 d2 BU gU) (fun U sU => bounded sU.sh sU.eqv.ie sU.fea 1 fun x sx nn => by
      rw [obj U sU x sx]
      have h1 := last x (toT U sU x sx)
      have h2 := nn (n + 1 + rows.length) ((sU.eqv.var _).mp ((var _).mp ((hvar _).mpr (by omega))))
      grind)
    obtain ⟨D', d1, d2, B3, g3⟩ := sz T3 sy
    have ok1 : T1.Ok0 1300 := by
      obtain ⟨D', d1, d2, BU⟩ := size_a E0 (show T.rest.length ≤ 5 by omega) BA
      exact ok0_of s1 (by omega) (by omega) d1 d2 ⟨BU.c⟩
    have hmem : n ∈ T1.rest ∨ n ∈ T1.base := vn1.elim (fun z => .inr ((bas_mem s1).mp z)) (fun z => .inl (non_mem.mp z))
    have w3 : T3.width = n + 1 := by have := sy.w; have : (T1.aimed n).width = T1.width := rfl; omega
    have m3 : T3.many = rows.length + 1 := by have := sy.m; have : (T1.aimed n).many = T1.many := rfl; omega
    have I3 := sy.eqv.ie
    have var3 : ∀ v, Var (dic T3) v ↔ v < n + 1 + (rows.length + 1) := fun v => by rw [← hvar, var v]; exact (sy.eqv.var v).symm
    by_cases g0 : 0 < T3.goal.getD 0 0
    · refine ⟨true, T3.present.take n, .yes (hT ▸ bg) ok1 hmem im w3 m3 g0, fun _ => ?_, fun h => (by cases h)⟩
      have s3 := val_sol I3
      have nn3 : ∀ v, 0 ≤ val (dic T3) v := fun v => by
        by_cases hb : Bas (dic T3) v
        · obtain ⟨i, hi, rfl⟩ := hb
          rw [val_b I3 hi]; exact sy.fea i hi
        · rw [val_n hb]; exact Rat.le_refl
      refine sat_of (x := val (dic T3)) hl ?_ ⟨D', d1, d2, fun y hy => ?_⟩ (fun j hj => ?_) (hT ▸ toT T3 sy _ s3) (fun v _ => nn3 v) ?_
      · rw [List.length_take, show T3.present.length = T3.width from pr_len T3 _]; omega
      · obtain ⟨i, hi, rfl⟩ := List.mem_iff_getElem.mp hy
        have hi' := hi
        rw [List.length_take] at hi
        have e : (T3.present.take n)[i]'hi' = T3.present.getD i 0 := by
          rw [← gd_take (n := n) (by omega), gd_lt hi']
        rw [e, present_at I3 (by omega)]
        by_cases hb : Bas (dic T3) i
        · obtain ⟨k, hk, e⟩ := hb
          rw [← e, val_b I3 hk]; exact B3.c k 0 hk (Nat.zero_le _)
        · rw [val_n hb]; exact isN_zero
      · rw [gd_take hj, present_at I3 (by omega)]
      · have := obj T3 sy _ s3
        rw [val_obj I3, Rat.one_mul] at this
        rw [← this]; exact g0
    · refine ⟨false, T3.weights.take rows.length, .flat (hT ▸ bg) ok1 hmem im w3 m3 g0, fun h => (by cases h), fun _ => ?_⟩
      refine uns_of (κ := 1) (g0 := T3.goal.getD 0 0) (γ := gam T3) hl ?_ ⟨D', d1, d2, wt_sz I3 (by omega) g3⟩ (gam_le sy.sh no) (fun i hi => ?_) (.inr ⟨by grind, rfl⟩) (fun x sx => ?_)
      · rw [List.length_take, show T3.weights.length = T3.many from wt_len T3 _]; omega
      · rw [gd_take hi, weights_at I3 (by omega)]
        congr 2; omega
      · rw [hT] at sx
        have sx3 := (sy.eqv.sol x).mp ((sol x).mp sx)
        have := obj T3 sy x sx3
        rw [← this, sl]
        exact obj_gam (fun j hj => (var3 _).mp (.inr ⟨j, hj, rfl⟩)) x
end Mm
namespace Mm
theorem isN_gd {D M : Nat} {xs : List Rat} (h : ∀ x ∈ xs, IsN D M x) (j : Nat) : IsN D M (xs.getD j 0) := by
  rw [List.getD_eq_getElem?_getD]
  cases e : xs[j]? with
  | none => exact isN_zero
  | some x => exact h x (List.mem_of_getElem? e)
theorem isN_sm {D M : Nat} {f : Nat → Rat} (h : ∀ j, IsN D M (f j)) : ∀ i, IsN D (i * M) (sm f i)
  | 0 => isN_zero
  | i + 1 => by
    have := (isN_sm h i).add (h i)
    rw [← Nat.succ_mul] at this
    exact this
/-- sums of few products of what is given and what is answered -/
theorem sm_lt {D' : Nat} {xs ys : List Rat} (hx : ∀ x ∈ xs, IsN 60 M0 x) (d1 : 1 ≤ D') (d2 : D' ≤ G0) (hy : ∀ y ∈ ys, IsN D' G0 y) {i : Nat} (hi : i ≤ 9) : Lt 3000 (sm (fun j => xs.getD j 0 * ys.getD j 0) i) := by
  have h := isN_sm (f := fun j => xs.getD j 0 * ys.getD j 0) (fun j => (isN_gd hx j).mul (isN_gd hy j)) i
  have hb : 60 * M0 * G0 < 2 ^ 3000 := by
    have h1 : 60 * M0 < 2 ^ 60 := by decide
    have h2 := Nat.mul_lt_mul'' h1 G0_lt
    rw [← Nat.pow_add] at h2
    exact Nat.lt_trans h2 (Nat.pow_lt_pow_right (by decide) (by decide))
  have hm : i * (M0 * G0) ≤ 60 * M0 * G0 := by
    rw [← Nat.mul_assoc]
    exact Nat.mul_le_mul_right _ (Nat.mul_le_mul_right _ (by omega))
  refine isN_lt (by omega) ?_ hb (h.mono hm)
  exact Nat.mul_le_mul (show 60 ≤ 60 * M0 by decide) d2
end Mm
/-! zip over lists and tuples in any mix -/
namespace MM
open PySem PySem.Spec PyProof.Rows L2
def SqK (k : Bool) (K : PySem.W.Frag) (H : Hp) (a : Addr) (xs : List V) : Prop := match k with
  | true => SqL K H a xs
  | false => SqT K H a xs
def SrcK (k : Bool) (h : Heap) (a : Addr) (its : List Value) : Prop := match k with
  | true => h.IsList a its.toArray
  | false => h.IsTuple a its.toArray
def ItK (k : Bool) (h : Heap) (it a : Addr) (i : Nat) : Prop := match k with
  | true => h.IsListIter it a i
  | false => h.IsTupleIter it a i
def itObj (k : Bool) (a : Addr) : Obj := match k with
  | true => { cls := .type "list_iterator", data := .fields #[.ref a, .int 0 0] }
  | false => { cls := .type "tuple_iterator", data := .fields #[.ref a, .int 0 0] }
section
variable {X : Cx} {pins : List (Addr × Obj)} {σ : L2.St} {H : Hp} {s : Shared} {a it : Addr} {xs ys : List V} {k : Bool}
theorem inv_src (I : Inv X pins σ H s) (h : SqK k X.K H a xs) : ∃ its : List Value, Vals xs its ∧ SrcK k s.heap a its ∧ a < s.heap.objs.size := by
  cases k with
  | true =>
    obtain ⟨its, r, p, _⟩ := I.list h
    exact ⟨its, r, p.isList, p.lt⟩
  | false =>
    obtain ⟨its, r, p, _⟩ := I.tuple h
    obtain ⟨o, ho, _⟩ := id p
    exact ⟨its, r, p, Heap.lt_size ho⟩
theorem inv_inj (I : Inv X pins σ H s) (h : SqK k X.K H a xs) (h' : SqK k X.K H a ys) : xs = ys := by
  cases k with
  | true => exact I.list_inj h h'
  | false => exact I.tuple_inj h h'
theorem draws_k {prog : Program} {w : World} {A : Around} (hh : A.handled = none) (hne : a ≠ it) (its : List Value) :
    Draws prog w A it [it, a] its.toArray.size (fun i v => its.toArray[i]? = some v) (fun i h => ItK k h it a i ∧ SrcK k h a its) := by
  cases k with
  | true => exact Draws.list hh it a hne its.toArray
  | false => exact Draws.tuple hh it a hne its.toArray
theorem begins_k (its : List Value) : Begins (.ref a) (itObj k a) (fun h => SrcK k h a its) := by
  cases k with
  | true => exact begins_list a its.toArray
  | false => exact begins_tuple a its.toArray
theorem itK_0 {h : Heap} (e : h.get? it = some (itObj k a)) : ItK k h it a 0 := by
  cases k with
  | true => exact ⟨_, e, rfl, rfl⟩
  | false => exact ⟨_, e, rfl, rfl⟩
theorem itK_obj {h : Heap} {i : Nat} (e : ItK k h it a i) : ∃ o, h.get? it = some o ∧ ∀ v, o.data ≠ .cell v := by
  cases k with
  | true =>
    obtain ⟨o, ho, _, hd⟩ := e
    exact ⟨o, ho, fun v q => by rw [hd] at q; cases q⟩
  | false =>
    obtain ⟨o, ho, _, hd⟩ := e
    exact ⟨o, ho, fun v q => by rw [hd] at q; cases q⟩
theorem itK_keep {h h' : Heap} {i : Nat} (e : ItK k h it a i) (kp : ∀ o, h.get? it = some o → h'.get? it = some o) : ItK k h' it a i := by
  cases k with
  | true =>
    obtain ⟨o, ho, r⟩ := e
    exact ⟨o, kp o ho, r⟩
  | false =>
    obtain ⟨o, ho, r⟩ := e
    exact ⟨o, kp o ho, r⟩
end
/-- the two as they stand at each turn, the items in new pairs -/
def ItzG (K : PySem.W.Frag) (k1 k2 : Bool) (a b : Addr) : It :=
  ⟨fun i H => ∃ (xs ys : List V) (x y : V), SqK k1 K H a xs ∧ SqK k2 K H b ys ∧ xs[i]? = some x ∧ ys[i]? = some y,
    fun i H v H' => ∃ T x y, v = .ref T ∧ H T = none ∧ H' = upd H T (.tup [x, y]) ∧ (∀ xs, SqK k1 K H a xs → xs[i]? = some x) ∧ ∀ ys, SqK k2 K H b ys → ys[i]? = some y,
    fun i H => ∃ xs ys : List V, SqK k1 K H a xs ∧ SqK k2 K H b ys ∧ xs.length = i ∧ ys.length = i⟩
theorem obj5 {k1 k2 : Bool} {a b N : Addr} (i : Nat) (h : Heap) (st : IsZip h (N + 4) (N + 2) (N + 3) .none ∧ IsTupOf2 h (N + 2) (.ref N) (.ref (N + 1)) ∧ (∃ a1 a2, IsTupOf2 h (N + 3) a1 a2) ∧ ItK k1 h N a i ∧ ItK k2 h (N + 1) b i) (c : Addr) (hc : c ∈ [N + 4, N + 2, N + 3, N, N + 1]) :
    ∃ o, h.get? c = some o ∧ ∀ v, o.data ≠ .cell v := by
    obtain ⟨h1, h2, ⟨a1, a2, h3⟩, h4, h5⟩ := st
    simp only [List.mem_cons, List.not_mem_nil, or_false] at hc
    rcases hc with z | z | z | z | z
    · rw [z]; exact ⟨_, h1, fun v q => nomatch q⟩
    · rw [z]; exact ⟨_, h2, fun v q => nomatch q⟩
    · rw [z]; exact ⟨_, h3, fun v q => nomatch q⟩
    · rw [z]; exact itK_obj h4
    · rw [z]; exact itK_obj h5
theorem turn_zipG {P : Program} {w : World} {K : PySem.W.Frag} {elts : List Expr} {kk : Nat} {tpos : Pos} {k1 k2 : Bool} {a b N : Addr} (ha : a < N) (hb : b < N) :
    Turn P w K (.Tuple elts kk tpos) (ItzG K k1 k2 a b) [N + 4, N + 2, N + 3, N, N + 1] (N + 4)
      (fun i h => IsZip h (N + 4) (N + 2) (N + 3) .none ∧ IsTupOf2 h (N + 2) (.ref N) (.ref (N + 1)) ∧ (∃ a1 a2, IsTupOf2 h (N + 3) a1 a2) ∧ ItK k1 h N a i ∧ ItK k2 h (N + 1) b i) where
  mem := by simp
  obj := fun i h st c hc => obj5 i h st c hc
  keep := fun i h h' st kp => by
    obtain ⟨h1, h2, ⟨a1, a2, h3⟩, h4, h5⟩ := st
    exact ⟨kp _ (by simp) _ h1, kp _ (by simp) _ h2, ⟨a1, a2, kp _ (by simp) _ h3⟩, itK_keep h4 fun o => kp _ (by simp) o, itK_keep h5 fun o => kp _ (by simp) o⟩
  item := by
    intro X hP hw hK hc i pins s σ H E I hf st hg
    subst hP hw hK
    obtain ⟨h1, h2, h3, h4, h5⟩ := st
    obtain ⟨xs, ys, x, y, hx, hy, ex, ey⟩ := hg
    obtain ⟨its, rx, sx, _⟩ := inv_src I hx
    obtain ⟨jts, ry, sy, _⟩ := inv_src I hy
    have hh := I.ok.hd hc
    have na : a ≠ N := Nat.ne_of_lt ha
    have nb : b ≠ N + 1 := Nat.ne_of_lt (Nat.lt_succ_of_lt hb)
    have G := GoesN.zip2 (prog := X.prog) (w := X.w) (A := X.A) (elts := elts) (x1 := kk) (pos := tpos) (zip_sep2 (N := N) (fp1 := [a]) (fp2 := [b]) (by simpa using ha) (by simpa using hb)) (draws_k (k := k1) (A := X.A.in1) hh na its) (draws_k (k := k2) (A := X.A.in1) hh nb jts)
    have l1 := rx.length
    have l2 := ry.length
    have hi1 := (List.getElem?_eq_some_iff.mp ex).1
    have hi2 := (List.getElem?_eq_some_iff.mp ey).1
    refine thn (G.goes i s _ _ (by simp only [List.size_toArray]; omega) ⟨h1, h2, h3, ⟨h4, sx⟩, h5, sy⟩ fun v h' tk hY hS hk _ => ?_) fun r s1 q => q
    obtain ⟨T, u, v', rfl, hT, e1, e2, ht⟩ := hY
    obtain ⟨z1, z2, z3, ⟨z4, _⟩, z5, _⟩ := hS
    obtain ⟨u', hu, ru⟩ := rx.get ex
    obtain ⟨w', hw', rw'⟩ := ry.get ey
    have eu : u = u' := by
      have : its[i]? = some u := by simpa using e1
      rw [hu] at this; exact (Option.some.inj this).symm
    have ev : v' = w' := by
      have : jts[i]? = some v' := by simpa using e2
      rw [hw'] at this; exact (Option.some.inj this).symm
    subst eu; subst ev
    have nT : ∀ c ∈ [N + 4, N + 2, N + 3, N, N + 1], c ≠ T := fun c hcm e => by
      obtain ⟨ob, hob, _⟩ := obj5 i _ ⟨h1, h2, h3, h4, h5⟩ c hcm
      have fc := Heap.lt_size hob
      rw [e] at fc
      exact absurd hT (Nat.not_le.mpr fc)
    have new : ObjOk X.prog X.w (upd H T (.tup [x, y])) h' T (.tup [x, y]) := ⟨by show 2 ≤ sizeLine; decide, [u, v'], .cons ru (.cons rw' .nil), ht⟩
    have I1 : Inv X pins σ (upd H T (.tup [x, y])) { s with heap := h', toks := tk } := I.turnedNew (ch := [N + 4, N + 2, N + 3, N, N + 1]) (fun c o hcm q => hk c o (fun z => hcm (by
      simp only [List.mem_cons, List.not_mem_nil, or_false] at z ⊢
      rcases z with z | z | z | z <;> simp [z])) q) hf hT new
    refine ⟨.ref T, _, I1, rfl, ⟨T, x, y, rfl, I.hok.fresh hT, rfl, fun xs' h' => by rw [inv_inj I h' hx]; exact ex, fun ys' h' => by rw [inv_inj I h' hy]; exact ey⟩, ⟨z1, z2, z3, z4, z5⟩, fun c hcm => ?_⟩
    rw [upd_ne (nT c hcm)]
    exact (hf c hcm).1
  done := by
    intro X hP hw hK hc i pins s σ H E I hf st hg
    subst hP hw hK
    obtain ⟨h1, h2, h3, h4, h5⟩ := st
    obtain ⟨xs, ys, hx, hy, ex, ey⟩ := hg
    obtain ⟨its, rx, sx, _⟩ := inv_src I hx
    obtain ⟨jts, ry, sy, _⟩ := inv_src I hy
    have hh := I.ok.hd hc
    have na : a ≠ N := Nat.ne_of_lt ha
    have nb : b ≠ N + 1 := Nat.ne_of_lt (Nat.lt_succ_of_lt hb)
    have G := GoesN.zip2 (prog := X.prog) (w := X.w) (A := X.A) (elts := elts) (x1 := kk) (pos := tpos) (zip_sep2 (N := N) (fp1 := [a]) (fp2 := [b]) (by simpa using ha) (by simpa using hb)) (draws_k (k := k1) (A := X.A.in1) hh na its) (draws_k (k := k2) (A := X.A.in1) hh nb jts)
    have l1 := rx.length
    have l2 := ry.length
    have en : min its.toArray.size jts.toArray.size = i := by simp only [List.size_toArray]; omega
    rw [en] at G
    exact G.stops s _ _ ⟨h1, h2, h3, ⟨h4, sx⟩, h5, sy⟩ fun h' tk hk _ => I.turnedL (ch := [N + 4, N + 2, N + 3, N, N + 1]) (fun c o hcm q => hk c o (fun z => hcm (by
      simp only [List.mem_cons, List.not_mem_nil, or_false] at z ⊢
      rcases z with z | z | z | z <;> simp [z])) q) hf
  self := fun A i s Q E st h => wpAny_pyIter_zip st.1 h
def iZipG (K : PySem.W.Frag) (ta : TA) : TI := fun σ H R => ta σ H fun vs H1 => ∃ k1 k2 a b xs ys, vs = [.ref a, .ref b] ∧ SqK k1 K H1 a xs ∧ SqK k2 K H1 b ys ∧ R (ItzG K k1 k2 a b) H1
theorem pi_zipG {X : Cx} {e e2 : Expr} {ta : TA} {p pos tpos : Pos} {elts : List Expr} {kk : Nat} (hg : Gl X "zip") (hm : X.mg "zip" = none) (ha : PA X [e, e2] ta)
    (hs : starEach [e, e2] X.env = (false, eval e X.env) :: starEach [e2] X.env := by rfl) (hpl : (backTo pos (starEach [e2] X.env)).any (·.1) = false := by rfl) :
    PI X (.Tuple elts kk tpos) (.Call (.Name "zip" p) [e, e2] [] pos) (iZipG X.K ta) := by
  refine ⟨fun pins s σ H R I h => Call_ (ld_blt I hg hm PyProof.Rows.boot_zip (PyProof.Rows.callWith_type1 (thn (ha.run pos pins s σ H _ I h) fun us s1 q0 => ?_) hs hpl))⟩
  obtain ⟨vs, H1, I1, r1, k1, k2, a, b, xs, ys, ex, hqx, hqy, q⟩ := q0
  subst ex
  obtain ⟨u1, u2, rfl, r2, r3⟩ := vals2 r1
  cases r2
  cases r3
  obtain ⟨its, rv, p1, la⟩ := inv_src I1 hqx
  obtain ⟨jts, rv2, p2, lb⟩ := inv_src I1 hqy
  refine zip_begins2 (begins_k (k := k1) its) (begins_k (k := k2) jts) p1 p2 fun h' hz hTI hTO h1 h2 hsz hk => wpAny_pyIter_zip hz ?_
  have I2 : Inv X pins σ H1 { s1 with heap := h' } := I1.kept (t' := s1.toks) hk
  refine ⟨s1.heap.objs.size + 4, _, _, _, H1, rfl, I2, turn_zipG (N := s1.heap.objs.size) (k1 := k1) (k2 := k2) la lb, ⟨hz, hTI, ⟨_, _, hTO⟩, itK_0 h1, itK_0 h2⟩, fun c hcm => ?_, q⟩
  have hle : s1.heap.objs.size ≤ c := by
    simp only [List.mem_cons, List.not_mem_nil, or_false] at hcm
    rcases hcm with z | z | z | z | z <;> (rw [z]; first | exact Nat.le_refl _ | exact Nat.le_add_right _ _)
  exact I1.fpOk hle (I1.hok.fresh hle)
/-- a loop over such a zip, of one length -/
theorem for_zipG {K : PySem.W.Frag} {k1 k2 : Bool} {a b : Addr} {xs ys : List V} {g : TG} {tb : TS} {D : Ends} {σ : L2.St} {H : Hp} (hl : xs.length = ys.length) (Pv : Nat → L2.St → Hp → Prop) (h0 : Pv 0 σ H) (hq : ∀ i σ H, Pv i σ H → SqK k1 K H a xs ∧ SqK k2 K H b ys)
    (hs : ∀ (i : Nat) (x y : V) (T : Addr) (σ : L2.St) (H : Hp), xs[i]? = some x → ys[i]? = some y → Pv i σ H → H T = none → g (.ref T) σ (upd H T (.tup [x, y])) fun σ2 H2 => tb { D with nx := Pv (i + 1), ct := Pv (i + 1), bk := D.nx } σ2 H2) (hd : ∀ σ H, Pv xs.length σ H → D.nx σ H) :
    ∃ W : Nat → Nat → L2.St → Hp → Prop, (∃ m, W 0 m σ H) ∧ ∀ i m σ H, W i m σ H →
      ((ItzG K k1 k2 a b).stop i H ∧ D.nx σ H) ∨ ((ItzG K k1 k2 a b).go i H ∧ ∃ N : L2.St → Hp → Prop, (∀ σ' H', N σ' H' → ∃ m', m' < m ∧ W (i + 1) m' σ' H') ∧ ∀ v H', (ItzG K k1 k2 a b).yld i H v H' → g v σ H' fun σ2 H2 => tb { D with nx := N, ct := N, bk := D.nx } σ2 H2) := by
  refine ⟨fun i m σ H => m = xs.length - i ∧ i ≤ xs.length ∧ Pv i σ H, ⟨_, rfl, Nat.zero_le _, h0⟩, ?_⟩
  rintro i m σ H ⟨rfl, hi, p⟩
  obtain ⟨qx, qy⟩ := hq i σ H p
  by_cases c : i < xs.length
  · refine .inr ⟨⟨xs, ys, xs[i], ys[i], qx, qy, List.getElem?_eq_getElem c, List.getElem?_eq_getElem (hl ▸ c)⟩, Pv (i + 1), fun σ' H' p' => ⟨_, by omega, rfl, c, p'⟩, ?_⟩
    rintro v H' ⟨T, x, y, rfl, hT, rfl, f1, f2⟩
    exact hs i x y T σ H (f1 xs qx) (f2 ys qy) p hT
  · have e : i = xs.length := by omega
    subst e
    exact .inl ⟨⟨xs, ys, qx, qy, rfl, hl.symm⟩, hd σ H p⟩
/-- a comprehension over such a zip, of one length -/
theorem lc_zipG {K : PySem.W.Frag} {k1 k2 : Bool} {a b : Addr} {xs ys : List V} {g : TG} {tt : TT} {te : TE} {vs : List Nat} {σ : L2.St} {H1 : Hp} {D : Addr} {Qd : Hp → Prop} (hl : xs.length = ys.length) (Pv : Nat → Hp → Prop) (h0 : Pv 0 (upd H1 D (.lst []))) (hq : ∀ i H, Pv i H → SqK k1 K H a xs ∧ SqK k2 K H b ys)
    (hs : ∀ (i : Nat) (x y : V) (T : Addr) (H : Hp), xs[i]? = some x → ys[i]? = some y → Pv i H → H T = none → g (.ref T) (wipe σ vs) (upd H T (.tup [x, y])) fun σ2 H2 => wipe σ2 vs = wipe σ vs ∧ tt σ2 H2 fun b H3 =>
      if b = true then te σ2 H3 fun y H4 => ∃ acc, H4 D = some (.lst acc) ∧ acc.length < sizeLine ∧ Pv (i + 1) (upd H4 D (.lst (acc ++ [y]))) else Pv (i + 1) H3) (hd : ∀ H, Pv xs.length H → Qd H) :
    ∃ W : Nat → Nat → Hp → Prop, (∃ m, W 0 m (upd H1 D (.lst []))) ∧ ∀ i m H, W i m H →
      ((ItzG K k1 k2 a b).stop i H ∧ Qd H) ∨ ((ItzG K k1 k2 a b).go i H ∧ ∃ Nx : Hp → Prop, (∀ H', Nx H' → ∃ m', m' < m ∧ W (i + 1) m' H') ∧ ∀ x H', (ItzG K k1 k2 a b).yld i H x H' → g x (wipe σ vs) H' fun σ2 H2 => wipe σ2 vs = wipe σ vs ∧ tt σ2 H2 fun b H3 =>
        if b = true then te σ2 H3 fun y H4 => ∃ acc, H4 D = some (.lst acc) ∧ acc.length < sizeLine ∧ Nx (upd H4 D (.lst (acc ++ [y]))) else Nx H3) := by
  refine ⟨fun i m H => m = xs.length - i ∧ i ≤ xs.length ∧ Pv i H, ⟨_, rfl, Nat.zero_le _, h0⟩, ?_⟩
  rintro i m H ⟨rfl, hi, p⟩
  obtain ⟨qx, qy⟩ := hq i H p
  by_cases c : i < xs.length
  · refine .inr ⟨⟨xs, ys, xs[i], ys[i], qx, qy, List.getElem?_eq_getElem c, List.getElem?_eq_getElem (hl ▸ c)⟩, Pv (i + 1), fun H' p' => ⟨_, by omega, rfl, c, p'⟩, ?_⟩
    rintro v H' ⟨T, x, y, rfl, hT, rfl, f1, f2⟩
    exact hs i x y T H (f1 xs qx) (f2 ys qy) p hT
  · have e : i = xs.length := by omega
    subst e
    exact .inl ⟨⟨xs, ys, qx, qy, rfl, hl.symm⟩, hd H p⟩
end MM
/-! the rules with the written part told by a letter -/
namespace MM
open PySem PySem.Spec PyProof.Rows L2
section
variable {X : Cx} {K : PySem.W.Frag} (h : X.K = K)
include h
theorem ixK : IxR X (rIx K) := h ▸ ix_seq
def rLenK (K : PySem.W.Frag) : List V → Hp → VK → Prop := fun xs H Q => ∃ p ys, xs = [.ref p] ∧ (SqL K H p ys ∨ SqT K H p ys) ∧ Q (.int ys.length) H
theorem lenK : CallR X (.builtin "len") (rLenK K) := h ▸ call_len_seq
theorem slK : SlR X (rSlL K) := h ▸ sl_list
theorem isiK : CallR X (.builtin "isinstance") (rIsi K) := h ▸ call_isi
theorem isiTK : CallR X (.builtin "isinstance") (rIsiT K) := h ▸ call_isiT
theorem allK (hc : X.calm = true) : CallR X (.builtin "all") (rAll K) := h ▸ cr_all hc
theorem anyK (hc : X.calm = true) : CallR X (.builtin "any") (rAny K) := h ▸ cr_any hc
def rListK (K : PySem.W.Frag) : List V → Hp → VK → Prop := fun xs H Q => ∃ p ys, xs = [.ref p] ∧ (SqL K H p ys ∨ SqT K H p ys) ∧ ∀ l, H l = none → Q (.ref l) (upd H l (.lst ys))
theorem listK : CallR X (.type "list") (rListK K) := h ▸ call_list_of
def rTupK (K : PySem.W.Frag) : List V → Hp → VK → Prop := fun xs H Q => ∃ p ys, xs = [.ref p] ∧ ((SqL K H p ys ∧ ∀ l, H l = none → Q (.ref l) (upd H l (.tup ys))) ∨ (SqT K H p ys ∧ Q (.ref p) H))
theorem tupK : CallR X (.type "tuple") (rTupK K) := h ▸ call_tuple_of
theorem inK : OpR X (compareOp .In) (rIn K false) := h ▸ op_in_seq
theorem notInK : OpR X (compareOp .NotIn) (rIn K true) := h ▸ op_notIn_seq
theorem eqDK (hu : X.A.units + 64 < cLine) : OpR X (compareOp .Eq) (rEqD K) := h ▸ op_eqD hu
theorem neDK (hu : X.A.units + 64 < cLine) : OpR X (compareOp .NotEq) (rNeD K) := h ▸ op_neD hu
theorem catTK : OpR X (binaryOp .Add) (rCatA K) := h ▸ op_catA
theorem indexK : MtR X "list.index" (rIndex K) := h ▸ mt_index
variable {e o : Expr} {es : List Expr} {f : Str} {pos : Pos} {ta tv tl te : TE} {t : TA} {tg : Expr} {value : Expr} {pos' : Pos}
theorem fldK (he : PE X e ta) (hb : attributeBase e f X.env (eval e X.env) = eval e X.env) : PE X (.Attribute e f pos) (tFld K ta f) := h ▸ pe_fld he hb
theorem psFldK (ha : PE X o ta) (hv : PE X value tv) (hs : swapsWith value (some (.Attribute o f pos')) pos.line X.env = pure false) : PS X (.Assign [.Attribute o f pos'] value pos) (sFld K ta tv f) := h ▸ ps_fld ha hv hs
theorem piListK {l : Expr} (hl : PE X l tl) : PI X tg l (iList K tl) := h ▸ pi_list hl
theorem piTupK {l : Expr} (hl : PE X l tl) : PI X tg l (iTup K tl) := h ▸ pi_tup hl
theorem piEnumK {e : Expr} {ta : TA} {p pos tpos : Pos} {elts : List Expr} {kk : Nat} (hg : Gl X "enumerate") (hm : X.mg "enumerate" = none) (ha : PA X [e] ta) (hs : starEach [e] X.env = [(false, eval e X.env)] := by rfl) :
    PI X (.Tuple elts kk tpos) (.Call (.Name "enumerate" p) [e] [] pos) (iEnum K ta) := h ▸ pi_enum hg hm ha hs
theorem piZipK {e e2 : Expr} {ta : TA} {p pos tpos : Pos} {elts : List Expr} {kk : Nat} (hg : Gl X "zip") (hm : X.mg "zip" = none) (ha : PA X [e, e2] ta)
    (hs : starEach [e, e2] X.env = (false, eval e X.env) :: starEach [e2] X.env := by rfl) (hpl : (backTo pos (starEach [e2] X.env)).any (·.1) = false := by rfl) :
    PI X (.Tuple elts kk tpos) (.Call (.Name "zip" p) [e, e2] [] pos) (iZipG K ta) := h ▸ pi_zipG hg hm ha hs hpl
theorem pgTupK {es : List Expr} {k : Nat} {t : TGs} {n : Nat} (hc : X.calm = true) (hp : PGs X es t) (hn : (assignEach es X.env).length = n := by rfl) (hst : (assignEach es X.env).findIdx? (·.1) = none := by rfl) : PG X (.Tuple es k pos) (gTup K n t) := h ▸ pg_tup hc hp hn hst
theorem starK {p : Pos} (he : PE X e te) (hr : PA X es t) (hs : starEach (.Starred e p :: es) X.env = (true, eval e X.env) :: starEach es X.env := by rfl) : PA X (.Starred e p :: es) (StX.tStar K te t) := h ▸ StX.pa_star he hr hs
theorem bmK {T id : String} {name : Str} {r : V → List V → Hp → VK → Prop} {to : TE} {apos cpos : Pos} (pa : PlainAttrs T) (slot : Slot T name id) (hty : typeOf (.builtin id) = pure (.type "method_descriptor")) (hm : MtR X id r) (ho : PE X o to) (ha : PA X (e :: es) t)
    (hbase : attributeBase o name X.env (eval o X.env) = eval o X.env := by rfl)
    (hfew : ((backTo cpos (starEach (e :: es) X.env)).all (fun x => !x.1) && (backToKw cpos (keywordEach [] X.env)).all (fun x => x.1.isSome)
      && decide ((e :: es).length + ([] : List Keyword).length + (if ([] : List Keyword).isEmpty then 0 else 1) < 30)) = true := by rfl)
    (hline : (apos.endLine == cpos.line) = true := by rfl) (hs : starEach (e :: es) X.env = (false, eval e X.env) :: starEach es X.env := by rfl) (hplain : (backTo cpos (starEach es X.env)).any (·.1) = false := by rfl) :
    PE X (.Call (.Attribute o name apos) (e :: es) [] cpos) (tBM K T r to t) := h ▸ pe_bm pa slot hty hm ho ha hbase hfew hline hs hplain
end
end MM
/-! a lambda with one name of its own, called by min(.., key=) -/
namespace MM
open PySem PySem.Spec PyProof.Rows L2 LamX
/-- one parameter x, no other name of its own -/
structure LamS1 (sc scope : Scope) (x : Str) : Prop where
  kind : scope.kind = .function
  co : scope.isCoroutine = false
  gen : scope.isGenerator = false
  own : ∀ y ∈ scope.names, y.2 ≠ .cell ∧ (y.2 = .local → y.1 = x)
  par : scope.names.lookup x = some .local
  free : ∀ y ∈ scope.names, y.2 = .free → sc.names.lookup y.1 = some .cell ∨ sc.names.lookup y.1 = some .free
def lamS1B (sc scope : Scope) (x : Str) : Bool :=
  decide (scope.kind = .function) && !scope.isCoroutine && !scope.isGenerator && decide (scope.names.lookup x = some .local) && scope.names.all fun y => !decide (y.2 = .cell) && (!decide (y.2 = .local) || decide (y.1 = x)) && (!decide (y.2 = .free) || decide (sc.names.lookup y.1 = some .cell) || decide (sc.names.lookup y.1 = some .free))
theorem lamS1_by {sc scope : Scope} {x : Str} (h : lamS1B sc scope x = true) : LamS1 sc scope x := by
  unfold lamS1B at h
  simp only [Bool.and_eq_true, Bool.or_eq_true, Bool.not_eq_true', decide_eq_true_eq, decide_eq_false_iff_not, List.all_eq_true] at h
  obtain ⟨⟨⟨⟨h1, h2⟩, h3⟩, h5⟩, h4⟩ := h
  refine ⟨h1, h2, h3, fun y hy => ⟨(h4 y hy).1.1, fun e => (h4 y hy).1.2.elim (fun z => absurd e z) id⟩, h5, fun y hy e => ?_⟩
  rcases (h4 y hy).2 with (z | z) | z
  · exact absurd e z
  · exact .inl z
  · exact .inr z
theorem LamS1.has {X : Cx} {scope : Scope} {x : Str} (L : LamS1 X.env.scope scope x) (ok : X.Ok) : ∀ y ∈ scope.names, y.2 = .free → ∃ c, X.env.cells.lookup y.1 = some c := fun y hy e => by
  rcases L.free y hy e with k | k
  · exact ok.has _ (.inl k)
  · exact ok.has _ (.inr k)
section
variable {X : Cx} {pins : List (Addr × Obj)} {σ : L2.St} {H : Hp} {s : Shared} {x : Str}
theorem lam_start3 {A : Around} {E : XK} {scope : Scope} {f c' : Addr} {h₁ : Heap} {tk i : Nat} {v : V} {u : Value} (I : Inv X pins σ H s) (L : LamS1 X.env.scope scope x) (e0 : Env0 X.prog X.w X.K X.mg X.base A X.stack s H) (hd : A.handled = none)
    (hN : X.N.Nodup) (hi : X.N[i]? = some x) (rv : RelV v u) (hns : h₁.Ns s.heap.objs.size fun y => [(x, u)].reverse.lookup y) (kp : ∀ b o, s.heap.get? b = some o → h₁.get? b = some o) :
    Inv (lamCx X A X.stack s H E scope f c') [] (σ.set i (some v)) H { s with heap := h₁, toks := tk } := by
  have hfree := L.has I.ok
  have cm : ∀ {y c}, (cloFrom X.env.cells scope.names []).lookup y = some c → X.env.cells.lookup y = some c := fun {y c} e => by
    rcases cloFrom_mem (PySem.mem_of_lookup e) with hm | ⟨h1, h2⟩
    · cases hm
    · obtain ⟨c1, hc⟩ := hfree _ h1 rfl
      have hc : X.env.cells.lookup y = some c1 := hc
      have e2 : c = c1 := by
        rw [h2, hc] <;> rfl
      rw [e2]
      exact hc
  have look : ∀ {y}, scope.names.lookup y = some .free → ∃ c, (cloFrom X.env.cells scope.names []).lookup y = some c := fun {y} hl => by
    have hy : (y, NameKind.free) ∈ scope.names := PySem.mem_of_lookup hl
    exact mem_lookup (cloFrom_has (cells := X.env.cells) (acc := []) hy)
  have cellK : ∀ {c : Addr} {v : Option Value}, H c = none → s.heap.IsCell c v → h₁.IsCell c v := fun {c v} n ⟨o, ho, hd⟩ => ⟨_, kp _ _ ho, hd⟩
  have noA : ∀ b : Addr, b ∉ (lamCx X A X.stack s H E scope f c').ex := fun b z => absurd (show b ∈ ([] : List Addr) from z) (by simp)
  refine ⟨⟨e0.mod, L.kind, rfl, rfl, Nat.le_refl _, fun y z c e1 e2 => I.ok.inj y z c (cm e1) (cm e2), fun y hy => ?_, fun y c z _ => ?_, fun _ => hd, Around.frames_deeper e0.frames, .inr ⟨rfl, rfl⟩, fun b z => absurd z (noA b), e0.bs, e0.bsz, fun b _ _ => noA b,
      fun b z => absurd z (noA b), e0.funs, e0.frf⟩,
    rfl, e0.bare, Un.kept kp, ⟨_, hns, fun j y w e1 e2 e3 => ?_⟩, fun y c e => ?_, e0.hok.fresh (Nat.le_refl _), fun y c e => ?_, fun q hq => absurd (show q ∈ ([] : List (Addr × Obj)) ++ [] from hq) (by simp), e0.hok.kept kp, ?_⟩
  · have hy : scope.names.lookup y = some .cell ∨ scope.names.lookup y = some .free := hy
    rcases hy with hy | hy
    · exact absurd rfl (L.own _ (PySem.mem_of_lookup hy)).1
    · exact look hy
  · have z : false = true := z
    cases z
  · have e3 : Vis scope y := e3
    have e1 : X.N[j]? = some y := e1
    rcases e3 with k | k | k
    · have ey : y = x := (L.own _ (PySem.mem_of_lookup k)).2 rfl
      subst ey
      have ej : j = i := nodup_ix hN e1 hi
      subst ej
      have hlt : j < σ.length := by rw [I.len]; exact (List.getElem?_eq_some_iff.mp e1).1
      rw [List.getElem?_set_self hlt] at e2
      cases e2
      exact ⟨u, rv, .inl ⟨k, by show [(y, u)].lookup y = some u; simp⟩⟩
    · exact absurd rfl (L.own _ (PySem.mem_of_lookup k)).1
    · have nj : i ≠ j := fun e => by
        subst e
        rw [hi] at e1
        cases e1
        rw [L.par] at k
        cases k
      rw [List.getElem?_set_ne nj] at e2
      obtain ⟨m, hn, hl⟩ := I.loc
      have hvis : Vis X.env.scope y := (L.free _ (PySem.mem_of_lookup k) rfl).elim (fun k => .inr (.inl k)) (fun k => .inr (.inr k))
      obtain ⟨w', r, q⟩ := hl j y w e1 e2 hvis
      obtain ⟨c2, h2⟩ := look k
      refine ⟨w', r, .inr ⟨.inr k, c2, h2, ?_⟩⟩
      have c1 := cm h2
      rcases q with ⟨k', _⟩ | ⟨_, c3, e', z⟩
      · have k' : X.env.scope.names.lookup y = some .local := k'
        rcases L.free _ (PySem.mem_of_lookup k) rfl with k2 | k2 <;> rw [show X.env.scope.names.lookup y = _ from k2] at k' <;> cases k'
      · rw [c1] at e'
        cases e'
        exact cellK (I.freeC y _ c1) z
  · obtain ⟨w', z⟩ := I.cell y c (cm e)
    exact ⟨w', cellK (I.freeC y c (cm e)) z⟩
  · exact I.freeC y c (cm e)
  · rw [List.length_set]
    exact I.len
/-- the lambda, called -/
theorem lam_act1 {scope : Scope} {params : Arguments} {body : Expr} {f c' : Addr} {pm ctv : Value} {A : Around} {k i : Nat} {v : V} {u : Value} {Q : VK} {tb : TE} {E : Value → Shared → Prop} (I : Inv X pins σ H s) (L : LamS1 X.env.scope scope x)
    (hf : s.heap.get? f = some (PySem.W.kla_obj "<lambda>" (X.env.qual ++ "<lambda>") params body scope (cloFrom X.env.cells scope.names []) pm c' ctv)) (hc : H c' = some (CodeO c' (X.env.qual ++ "<lambda>")))
    (e0 : Env0 X.prog X.w X.K X.mg X.base A X.stack s H) (hr : Room (k + 1) A)
    (hbind : bindArgs (PySem.W.kla_fn "<lambda>" (X.env.qual ++ "<lambda>") params body scope (cloFrom X.env.cells scope.names []) pm (.ref c') ctv) ⟨[u], []⟩ = pure [(x, u)])
    (hN : X.N.Nodup) (hi : X.N[i]? = some x) (rv : RelV v u)
    (hbody : Room k (A.deeper (lamEnv X scope s.heap.objs.size f c')) → PE (lamCx X A X.stack s H C8.E0 scope f c') body tb) (ht : tb (σ.set i (some v)) H Q) :
    wpAny (model X.prog X.w) A (call (.ref f) [u]) (EP X pins σ Q) E s := by
  obtain ⟨⟨oc, vs, t, hoc, hdc, hvc⟩, _, _⟩ := I.hok c' _ hc
  have rc : codeAny (model X.prog X.w) A (.call (.ref f) ⟨[u], []⟩) (CR (L2.CX X.prog X.w) X.stack X.prog X.w H s Q C8.E0) s := by
    refine PySem.W.kla_callFunE hr.depth hf rfl L.co L.gen rfl ⟨c', oc, vs, t, rfl, hoc, hdc, hvc⟩ ?_
    rw [hbind]
    refine wpAny_pure (wpAny_newFunctionEnv (fun y hy => (L.own y hy).1) (fun y hy => by rw [List.mem_singleton.mp hy]; exact L.par) (fun h₁ hns hsb => ⟨I.nolimit.fresh _ hsb, ?_⟩) L.kind)
    show codeAny _ _ (.expr body (lamEnv X scope s.heap.objs.size f c')) _ _
    have kp : ∀ b o, s.heap.get? b = some o → h₁.get? b = some o := fun b o e => hsb.extBut b o (Nat.ne_of_lt (Heap.lt_size e)) (Heap.get?_push_of_some _ e)
    have J : Inv (lamCx X A X.stack s H C8.E0 scope f c') [] (σ.set i (some v)) H { s with heap := h₁, toks := s.toks + [(x, u)].length } := lam_start3 I L e0 hr.hd hN hi rv hns kp
    refine PySem.W.kla_codeExpr (wpAny_mono ((hbody (hr.deeper _)).run [] _ _ H Q J ht) (fun v s' hq => ?_) fun e s' hq => hq)
    obtain ⟨w', H', J', rv, q⟩ := hq
    exact ⟨w', H', J'.os, J'.bare, J'.base, J'.hok, rv, q⟩
  refine wpAny_call (codeAny_mono rc fun r s' hq => ?_)
  cases r with
  | error e =>
    obtain ⟨_, _, _, _, _, _, _, _, _, _, _, _, _, _, _, _, z⟩ := (show L2.CX X.prog X.w X.stack H s C8.E0 e s' from hq)
  | ok fl =>
    cases fl with
    | ret u => exact I.after hq
    | next => exact False.elim hq
    | brk => exact False.elim hq
    | cont => exact False.elim hq
/-! ### min(l, key=f) -/
/-- a record of ours -/
structure Ours (X : Cx) (H : Hp) (b : Addr) : Prop where
  no : H b = none
  nl : b ≠ X.env.locals
  ge : X.s_0.heap.objs.size ≤ b
  nc : ∀ x c, X.env.cells.lookup x = some c → c ≠ b
  nf : b ∉ X.fs
theorem Inv.ours (I : Inv X pins σ H s) {b : Addr} (h : s.heap.objs.size ≤ b) : Ours X H b :=
  ⟨I.hok.fresh h, fun e => absurd (e ▸ I.lt) (Nat.not_lt.mpr h), Nat.le_trans I.sz h, fun x c e z => by
    obtain ⟨v, o, ho, _⟩ := I.cell x c e
    exact absurd (z ▸ Heap.lt_size ho) (Nat.not_lt.mpr h), I.nofs h⟩
/-- more pins -/
theorem Inv.more {b : Addr} {o : Obj} (I : Inv X pins σ H s) (h : s.heap.get? b = some o) (O : Ours X H b) (nv : ∀ v, o.data ≠ .cell v) : Inv X ((b, o) :: pins) σ H s :=
  I.pins_of fun p hp => by
    rcases List.mem_cons.mp hp with z | z
    · rw [z]; exact ⟨h, O.no, O.nl, O.nf, nv⟩
    · exact I.pin p (List.mem_append_right _ z)
theorem Inv.less {pins' : List (Addr × Obj)} (I : Inv X pins σ H s) (h : ∀ p ∈ pins', p ∈ pins) : Inv X pins' σ H s :=
  I.pins_of fun p hp => I.pin p (List.mem_append_right _ (h p hp))
theorem min_loop {xs : List V} {l f It S : Addr} {fo : Obj} {R : Result → Shared → Prop} (kf : Nat → Int) (hh : X.A.handled = none) (oS : Ours X H S) (oI : Ours X H It) (hSI : S ≠ It) (hp : ∀ p ∈ X.pn ++ ((f, fo) :: pins), p.1 ≠ S ∧ p.1 ≠ It) (hl : SqL X.K H l xs)
    (turn : ∀ (i : Nat) (v : V) (u : Value), xs[i]? = some v → RelV v u → ∀ (ps : List (Addr × Obj)) (s : Shared), Inv X ((f, fo) :: ps) σ H s → wpAny (model X.prog X.w) X.A.in1 (call (.ref f) [u]) (fun x s' => Inv X ((f, fo) :: ps) σ H s' ∧ ∃ t, x = .int (kf i) t) (fun _ _ => False) s)
    (hR : ∀ (i : Nat) (v : V) (u : Value) (s' : Shared), xs[i]? = some v → RelV v u → (∀ j, j < xs.length → kf i ≤ kf j ∧ (j < i → kf i < kf j)) → Inv X pins σ H s' → R (.ok (.ret u)) s') :
    ∀ (r j i : Nat) (s : Shared) (b : V) (vb : Value) (tb : Tok) (c : Nat) (oIt : Obj), xs.length - (j + 1) = r → j + 1 ≤ xs.length → Inv X ((f, fo) :: (S, seqObj "list" #[vb, .int (kf i) tb] c) :: (It, oIt) :: pins) σ H s → s.heap.IsListIter It l (j + 1) → xs[i]? = some b → RelV b vb → i ≤ j → (∀ j', j' ≤ j → kf i ≤ kf j' ∧ (j' < i → kf i < kf j')) →
      codeAny (model X.prog X.w) X.A (.builtin "min.loop" ⟨[.ref It, .ref f, .ref S], []⟩) R s := by
  have hname : (toString "min" ++ toString ".loop" : String) = "min.loop" := by decide
  intro r
  induction r with
  | zero =>
    intro j i s b vb tb c oIt hr hj I hit hvb rb hij hbest
    have hin : j + 1 = xs.length := by omega
    have gS := (I.pin (S, seqObj "list" #[vb, .int (kf i) tb] c) (by simp)).1
    obtain ⟨its, rv, pl, _⟩ := I.list hl
    have hlI : l ≠ It := fun e => by
      obtain ⟨oi, hoi, hcl, _⟩ := id hit
      rw [e] at pl
      obtain ⟨ol, hol, hlc, _⟩ := pl.isList
      rw [hoi] at hol
      cases hol
      rw [hcl] at hlc
      exact absurd hlc (by decide +kernel)
    have W := Walks.list (prog := X.prog) (w := X.w) (A := X.A.in1) hh It l hlI its.toArray
    have hsz : its.toArray.size = xs.length := by rw [List.size_toArray, rv.length]
    refine codeAny_builtin PySem.F.entry_min_loop ?_
    rw [Around.under_plainId PySem.F.plain_min_loop _]
    show wpAny _ X.A.in1 (seqItems? (.ref S) >>= _) _ _ _
    refine wpAny_bind (wpAny_seqItems gS rfl ?_)
    show wpAny _ X.A.in1 (tryCatch (pyNext (.ref It)) _ >>= _) _ _ _
    refine wpAny_bind (wpAny_tryCatch (W.done _ _ _ ⟨by rw [hsz, ← hin]; exact hit, pl.isList⟩ fun h' tk' hk' => ?_))
    have I0 : Inv X pins σ H s := Inv.less I fun p hp => by simp [hp]
    have I1 : Inv X pins σ H { s with heap := h', toks := tk' } := I0.turned (it := It) (fun b o hb e => hk' b o (by simpa using hb) e) oI.no oI.nl (.inr oI.ge) oI.nc fun p hpp => (hp p (by
      rcases List.mem_append.mp hpp with z | z
      · exact List.mem_append_left _ z
      · exact List.mem_append_right _ (.tail _ z))).2
    have hS' := hk' S _ (by simpa using hSI) gS
    have s1 := Heap.SameBut.update h' S (Obj.mapSeq fun _ => (#[] : Array Value))
    show wpAny _ X.A.in1 (updateSeq S (fun _ => #[]) >>= _) _ _ _
    refine wpAny_bind ?_
    refine wpAny_updateSeq hS' rfl (wpAny_bind (wpAny_letGo (wpAny_pure ?_)))
    refine hR i b vb _ hvb rb (fun j' hj' => hbest j' (by omega)) ?_
    exact I1.turned (it := S) (t' := tk') (fun b o hb e => (s1.2 b hb).trans e) oS.no oS.nl (.inr oS.ge) oS.nc fun p hpp => (hp p (by
      rcases List.mem_append.mp hpp with z | z
      · exact List.mem_append_left _ z
      · exact List.mem_append_right _ (.tail _ z))).1
  | succ r ih =>
    intro j i s b vb tb c oIt hr hj I hit hvb rb hij hbest
    have hlt : j + 1 < xs.length := by omega
    have gS := (I.pin (S, seqObj "list" #[vb, .int (kf i) tb] c) (by simp)).1
    have pf := I.pin (f, fo) (by simp)
    obtain ⟨its, rv, pl, _⟩ := I.list hl
    have hlI : l ≠ It := fun e => by
      obtain ⟨oi, hoi, hcl, _⟩ := id hit
      rw [e] at pl
      obtain ⟨ol, hol, hlc, _⟩ := pl.isList
      rw [hoi] at hol
      cases hol
      rw [hcl] at hlc
      exact absurd hlc (by decide +kernel)
    have W := Walks.list (prog := X.prog) (w := X.w) (A := X.A.in1) hh It l hlI its.toArray
    have hsz : its.toArray.size = xs.length := by rw [List.size_toArray, rv.length]
    have h3 : ∀ (ps : List (Addr × Obj)), (∀ p ∈ ps, p = (f, fo) ∨ p ∈ pins) → ∀ p ∈ X.pn ++ ps, p.1 ≠ S ∧ p.1 ≠ It := fun ps hps p hpp => hp p (by
      rcases List.mem_append.mp hpp with z | z
      · exact List.mem_append_left _ z
      · rcases hps p z with y | y
        · rw [y]; simp
        · exact List.mem_append_right _ (.tail _ y))
    refine codeAny_builtin PySem.F.entry_min_loop ?_
    rw [Around.under_plainId PySem.F.plain_min_loop _]
    show wpAny _ X.A.in1 (seqItems? (.ref S) >>= _) _ _ _
    refine wpAny_bind (wpAny_seqItems gS rfl ?_)
    show wpAny _ X.A.in1 (tryCatch (pyNext (.ref It)) _ >>= _) _ _ _
    refine wpAny_bind (wpAny_tryCatch (W.item (j + 1) _ _ _ (by rw [hsz]; exact hlt) ⟨hit, pl.isList⟩ fun v h' tk' hP hst' hk' => ?_))
    obtain ⟨x, hx⟩ : ∃ x, xs[j + 1]? = some x := ⟨_, List.getElem?_eq_getElem hlt⟩
    obtain ⟨v', hv', rx⟩ := rv.get hx
    have ev : v = v' := by
      have : its[j + 1]? = some v := by simpa using hP
      rw [hv'] at this; exact (Option.some.inj this).symm
    subst ev
    obtain ⟨oI', hoI', hoc, hod⟩ := id hst'.1
    have nvI : ∀ v, oI'.data ≠ .cell v := fun v q => by rw [hod] at q; cases q
    have I0 : Inv X ((f, fo) :: pins) σ H s := Inv.less I fun p hp => by
      rcases List.mem_cons.mp hp with z | z
      · simp [z]
      · simp [z]
    have I1 : Inv X ((f, fo) :: pins) σ H { s with heap := h', toks := tk' } := I0.turned (it := It) (fun b o hb e => hk' b o (by simpa using hb) e) oI.no oI.nl (.inr oI.ge) oI.nc fun p hpp => (h3 _ (fun p hp => List.mem_cons.mp hp) p hpp).2
    have hS1 := hk' S _ (by simpa using hSI) gS
    have I2 : Inv X ((f, fo) :: (S, seqObj "list" #[vb, .int (kf i) tb] c) :: (It, oI') :: pins) σ H { s with heap := h', toks := tk' } := by
      have a := Inv.more I1 hoI' oI nvI
      have b := Inv.more a hS1 oS (fun v q => nomatch q)
      exact Inv.less (pins := (S, seqObj "list" #[vb, .int (kf i) tb] c) :: (It, oI') :: (f, fo) :: pins) b fun p hp => by
        simp only [List.mem_cons] at hp ⊢
        rcases hp with z | z | z | z <;> simp [z]
    show wpAny _ X.A.in1 (tryCatch (holding [v] (call (.ref f) [v])) _ >>= _) _ _ _
    refine wpAny_bind (wpAny_tryCatch (wpAny_holding (wpAny_mono (turn (j + 1) x v hx rx _ _ I2) (fun y s2 he => ?_) fun _ _ hF => hF.elim)))
    obtain ⟨I3, t2, rfl⟩ := he
    have gS2 := (I3.pin (S, seqObj "list" #[vb, .int (kf i) tb] c) (by simp)).1
    have gI2 := (I3.pin (It, oI') (by simp)).1
    have hit2 : s2.heap.IsListIter It l (j + 1 + 1) := ⟨oI', gI2, hoc, hod⟩
    show wpAny _ X.A.in1 (tryCatch (holding [v, .int (kf (j + 1)) t2] (richCompare .Lt (.int (kf (j + 1)) t2) (.int (kf i) tb) >>= _)) _ >>= _) _ _ _
    refine wpAny_bind (wpAny_tryCatch (wpAny_holding (wpAny_bind (CmpOf.ints_lt (prog := X.prog) (w := X.w) (A := X.A.in1) (P := fun i v => ∃ t, v = .int (kf i) t) kf (fun i v h => h) (j + 1) i _ _ _ _ _ ⟨t2, rfl⟩ ⟨tb, rfl⟩ ?_))))
    refine wpAny_bind (wpAny_holding (wpAny_truthy_bool ?_))
    refine wpAny_bind (wpAny_letGo (wpAny_pure ?_))
    by_cases hb' : kf (j + 1) < kf i
    · have s1 := Heap.SameBut.update s2.heap S (Obj.mapSeq fun _ => #[v, .int (kf (j + 1)) t2])
      obtain ⟨c2, hc2⟩ : ∃ c2, (s2.heap.update S (Obj.mapSeq fun _ => #[v, .int (kf (j + 1)) t2])).get? S = some (seqObj "list" #[v, .int (kf (j + 1)) t2] c2) := ⟨_, get?_update_seq gS2 fun _ => #[v, .int (kf (j + 1)) t2]⟩
      simp only [hb', decide_true, if_true]
      refine wpAny_bind ?_
      refine wpAny_updateSeq gS2 rfl (wpAny_bind (wpAny_letGo ?_))
      rw [hname]
      refine wpAny_pure ⟨plainId_quiet PySem.F.plain_min_loop _, ih (j + 1) (j + 1) _ x v t2 c2 oI' (by omega) hlt ?_ ⟨oI', (s1.2 It hSI.symm).trans gI2, hoc, hod⟩ hx rx (Nat.le_refl _) fun j' hj' => ?_⟩
      · have J0 : Inv X ((f, fo) :: pins) σ H s2 := Inv.less I3 fun p hp => by
          rcases List.mem_cons.mp hp with z | z
          · simp [z]
          · simp [z]
        have J1 : Inv X ((f, fo) :: pins) σ H { s2 with heap := s2.heap.update S (Obj.mapSeq fun _ => #[v, .int (kf (j + 1)) t2]) } := J0.turned (it := S) (t' := s2.toks) (fun b o hb e => (s1.2 b hb).trans e) oS.no oS.nl (.inr oS.ge) oS.nc fun p hpp => (h3 _ (fun p hp => List.mem_cons.mp hp) p hpp).1
        have a := Inv.more J1 ((s1.2 It hSI.symm).trans gI2) oI nvI
        have b := Inv.more a hc2 oS (fun v q => nomatch q)
        exact Inv.less (pins := (S, seqObj "list" #[v, .int (kf (j + 1)) t2] c2) :: (It, oI') :: (f, fo) :: pins) b fun p hp => by
          simp only [List.mem_cons] at hp ⊢
          rcases hp with z | z | z | z <;> simp [z]
      · by_cases e : j' = j + 1
        · subst e
          exact ⟨by omega, fun _ => by omega⟩
        · have hb1 := hbest j' (by omega)
          have hb2 := hb1.1
          exact ⟨by omega, fun _ => by omega⟩
    · simp only [hb', decide_false, Bool.false_eq_true, if_false]
      refine wpAny_bind (wpAny_letGo ?_)
      rw [hname]
      refine wpAny_pure ⟨plainId_quiet PySem.F.plain_min_loop _, ih (j + 1) i _ b vb tb c oI' (by omega) hlt I3 hit2 hvb rb (by omega) fun j' hj' => ?_⟩
      by_cases e : j' = j + 1
      · subst e
        exact ⟨by omega, fun _ => by omega⟩
      · exact hbest j' (by omega)
theorem min_start {xs : List V} {l f : Addr} {fo : Obj} {Q : Value → Shared → Prop} {E : Value → Shared → Prop} (kf : Nat → Int) (hh : X.A.handled = none) (I : Inv X ((f, fo) :: pins) σ H s) (hl : SqL X.K H l xs) (hne : 0 < xs.length)
    (turn : ∀ (i : Nat) (v : V) (u : Value), xs[i]? = some v → RelV v u → ∀ (ps : List (Addr × Obj)) (s : Shared), Inv X ((f, fo) :: ps) σ H s → wpAny (model X.prog X.w) X.A.in1 (call (.ref f) [u]) (fun x s' => Inv X ((f, fo) :: ps) σ H s' ∧ ∃ t, x = .int (kf i) t) (fun _ _ => False) s)
    (hQ : ∀ (i : Nat) (v : V) (u : Value) (s' : Shared), xs[i]? = some v → RelV v u → (∀ j, j < xs.length → kf i ≤ kf j ∧ (j < i → kf i < kf j)) → Inv X pins σ H s' → Q u s') :
    wpAny (model X.prog X.w) X.A (call (.builtin "min") [.ref l] [(Str.ofString "key", .ref f)]) Q E s := by
  have hname : (toString "min" ++ toString ".loop" : String) = "min.loop" := by decide
  obtain ⟨its0, rv0, pl0, _⟩ := I.list hl
  have hls := pl0.isList
  refine kmk_tree PySem.F.kind_min PySem.F.plain_min PySem.F.entry_min (kmk_min_key _ _) ?_
  show wpAny _ X.A.in1 (Builtin.Builtins.bindParams "min" ["key", "default"] 0 ⟨[], [(Str.ofString "key", .ref f)]⟩ >>= _) _ _ s
  refine wpAny_bind (wpAny_of_eq (show Builtin.Builtins.bindParams "min" ["key", "default"] 0 ⟨[], [(Str.ofString "key", .ref f)]⟩ = pure [some (.ref f), none] from rfl) ?_)
  refine wpAny_bind (wpAny_pure ?_)
  refine wpAny_bind (wpAny_pyIter_list hls ?_)
  refine wpAny_bind (wpAny_newList ?_ (Nat.zero_le _))
  rw [hname]
  have hS : (s.heap.push { cls := .type "list_iterator", data := .fields #[.ref l, .int 0 0] }).objs.size = s.heap.objs.size + 1 := size_push' ..
  have hSI : (s.heap.push { cls := .type "list_iterator", data := .fields #[.ref l, .int 0 0] }).objs.size ≠ s.heap.objs.size := by rw [hS]; exact Nat.ne_of_gt (Nat.lt_succ_self _)
  refine wpAny_pure ⟨plainId_quiet PySem.F.plain_min_loop _, ?_⟩
  have oI : Ours X H s.heap.objs.size := Inv.ours I (Nat.le_refl _)
  have oS : Ours X H (s.heap.push { cls := .type "list_iterator", data := .fields #[.ref l, .int 0 0] }).objs.size := Inv.ours I (by rw [hS]; exact Nat.le_succ _)
  have gI : ((s.heap.push { cls := .type "list_iterator", data := .fields #[.ref l, .int 0 0] }).push (seqObj "list" #[] 0)).get? s.heap.objs.size = some { cls := .type "list_iterator", data := .fields #[.ref l, .int 0 0] } :=
    Heap.get?_push_of_some _ (Heap.get?_push_size _ rfl)
  have gS : ((s.heap.push { cls := .type "list_iterator", data := .fields #[.ref l, .int 0 0] }).push (seqObj "list" #[] 0)).get? (s.heap.push { cls := .type "list_iterator", data := .fields #[.ref l, .int 0 0] }).objs.size = some (seqObj "list" #[] 0) := Heap.get?_push_size _ rfl
  have hp : ∀ p ∈ X.pn ++ ((f, fo) :: pins), p.1 ≠ (s.heap.push { cls := .type "list_iterator", data := .fields #[.ref l, .int 0 0] }).objs.size ∧ p.1 ≠ s.heap.objs.size := fun p hpp => by
    have hlt := Heap.lt_size (I.pin p hpp).1
    rw [hS]
    exact ⟨Nat.ne_of_lt (Nat.lt_succ_of_lt hlt), Nat.ne_of_lt hlt⟩
  have IA : Inv X ((f, fo) :: pins) σ H { s with heap := (s.heap.push { cls := .type "list_iterator", data := .fields #[.ref l, .int 0 0] }).push (seqObj "list" #[] 0), toks := s.toks } := I.kept fun b o e => Heap.get?_push_of_some _ (Heap.get?_push_of_some _ e)
  generalize hSS : (s.heap.push { cls := .type "list_iterator", data := .fields #[.ref l, .int 0 0] }).objs.size = S at *
  generalize hII : s.heap.objs.size = It at *
  generalize hss : ({ s with heap := (s.heap.push { cls := .type "list_iterator", data := .fields #[.ref l, .int 0 0] }).push (seqObj "list" #[] 0), toks := s.toks } : Shared) = sA at *
  have gI : sA.heap.get? It = some { cls := .type "list_iterator", data := .fields #[.ref l, .int 0 0] } := by rw [← hss]; exact gI
  have gS : sA.heap.get? S = some (seqObj "list" #[] 0) := by rw [← hss]; exact gS
  show codeAny (model X.prog X.w) X.A (.builtin "min.loop" ⟨[.ref It, .ref f, .ref S], []⟩) _ _
  obtain ⟨its, rv, pl, _⟩ := IA.list hl
  have hlI : l ≠ It := fun e => by
    rw [e] at pl
    obtain ⟨ol, hol, hlc, _⟩ := pl.isList
    rw [gI] at hol
    cases hol
    exact absurd hlc (by show ¬ (Value.type "list_iterator" = Value.type "list"); decide +kernel)
  have W := Walks.list (prog := X.prog) (w := X.w) (A := X.A.in1) hh It l hlI its.toArray
  have hsz : its.toArray.size = xs.length := by rw [List.size_toArray, rv.length]
  refine codeAny_builtin PySem.F.entry_min_loop ?_
  rw [Around.under_plainId PySem.F.plain_min_loop _]
  show wpAny _ X.A.in1 (seqItems? (.ref S) >>= _) _ _ _
  refine wpAny_bind (wpAny_seqItems gS rfl ?_)
  show wpAny _ X.A.in1 (tryCatch (pyNext (.ref It)) _ >>= _) _ _ _
  refine wpAny_bind (wpAny_tryCatch (W.item 0 _ _ _ (by rw [hsz]; exact hne) ⟨⟨_, gI, rfl, rfl⟩, pl.isList⟩ fun v h' tk' hP hst' hk' => ?_))
  obtain ⟨x, hx⟩ : ∃ x, xs[0]? = some x := ⟨_, List.getElem?_eq_getElem hne⟩
  obtain ⟨v', hv', rx⟩ := rv.get hx
  have ev : v = v' := by
    have : its[0]? = some v := by simpa using hP
    rw [hv'] at this; exact (Option.some.inj this).symm
  subst ev
  obtain ⟨oI', hoI', hoc, hod⟩ := id hst'.1
  have nvI : ∀ v, oI'.data ≠ .cell v := fun v q => by rw [hod] at q; cases q
  have I1 : Inv X ((f, fo) :: pins) σ H { sA with heap := h', toks := tk' } := IA.turned (it := It) (fun b o hb e => hk' b o (by simpa using hb) e) oI.no oI.nl (.inr oI.ge) oI.nc fun p hpp => (hp p hpp).2
  have hS1 := hk' S _ (by simpa using hSI) gS
  have I2 : Inv X ((f, fo) :: (S, seqObj "list" #[] 0) :: (It, oI') :: pins) σ H { sA with heap := h', toks := tk' } := by
    have a := Inv.more I1 hoI' oI nvI
    have b := Inv.more a hS1 oS (fun v q => nomatch q)
    exact Inv.less (pins := (S, seqObj "list" #[] 0) :: (It, oI') :: (f, fo) :: pins) b fun p hp => by
      simp only [List.mem_cons] at hp ⊢
      rcases hp with z | z | z | z <;> simp [z]
  show wpAny _ X.A.in1 (tryCatch (holding [v] (call (.ref f) [v])) _ >>= _) _ _ _
  refine wpAny_bind (wpAny_tryCatch (wpAny_holding (wpAny_mono (turn 0 x v hx rx _ _ I2) (fun y s2 he => ?_) fun _ _ hF => hF.elim)))
  obtain ⟨I3, t2, rfl⟩ := he
  have gS2 := (I3.pin (S, seqObj "list" #[] 0) (by simp)).1
  have gI2 := (I3.pin (It, oI') (by simp)).1
  have s1 := Heap.SameBut.update s2.heap S (Obj.mapSeq fun _ => #[v, .int (kf 0) t2])
  obtain ⟨c2, hc2⟩ : ∃ c2, (s2.heap.update S (Obj.mapSeq fun _ => #[v, .int (kf 0) t2])).get? S = some (seqObj "list" #[v, .int (kf 0) t2] c2) := ⟨_, get?_update_seq gS2 fun _ => #[v, .int (kf 0) t2]⟩
  show wpAny _ X.A.in1 (updateSeq S (fun _ => #[v, .int (kf 0) t2]) >>= _) _ _ _
  refine wpAny_bind ?_
  refine wpAny_updateSeq gS2 rfl ?_
  rw [hname]
  refine wpAny_pure ⟨plainId_quiet PySem.F.plain_min_loop _, min_loop (fo := fo) kf hh oS oI hSI hp hl turn hQ _ 0 0 _ x v t2 c2 oI' rfl hne ?_ ⟨oI', (s1.2 It hSI.symm).trans gI2, hoc, hod⟩ hx rx (Nat.le_refl _) fun j' hj' => ?_⟩
  · have J0 : Inv X ((f, fo) :: pins) σ H s2 := Inv.less I3 fun p hp => by
      rcases List.mem_cons.mp hp with z | z
      · simp [z]
      · simp [z]
    have J1 : Inv X ((f, fo) :: pins) σ H { s2 with heap := s2.heap.update S (Obj.mapSeq fun _ => #[v, .int (kf 0) t2]) } := J0.turned (it := S) (t' := s2.toks) (fun b o hb e => (s1.2 b hb).trans e) oS.no oS.nl (.inr oS.ge) oS.nc fun p hpp => (hp p hpp).1
    have a := Inv.more J1 ((s1.2 It hSI.symm).trans gI2) oI nvI
    have b := Inv.more a hc2 oS (fun v q => nomatch q)
    exact Inv.less (pins := (S, seqObj "list" #[v, .int (kf 0) t2] c2) :: (It, oI') :: (f, fo) :: pins) b fun p hp => by
      simp only [List.mem_cons] at hp ⊢
      rcases hp with z | z | z | z <;> simp [z]
  · have e : j' = 0 := by omega
    subst e
    exact ⟨by omega, fun h => absurd h (Nat.lt_irrefl _)⟩
end
/-- min(l, key=lambda x: body): a list of ints; kf: the keys -/
def tMinLam (K : PySem.W.Frag) (T : List (Addr × Str)) (i : Nat) (ta : TA) (tb : TE) : TE := fun σ H Q => ta σ H fun ys H1 => ∃ (l : Addr) (ns : List Int) (kf : Nat → Int), ys = [.ref l] ∧ SqL K H1 l (ns.map V.int) ∧ 0 < ns.length ∧ Tabs T H1 ∧ ∀ H2, ExtN H1 H2 → Tabs T H2 →
  (∀ j n, ns[j]? = some n → tb (σ.set i (some (.int n))) H2 fun v H3 => H3 = H2 ∧ v = .int (kf j)) ∧ ∀ j n, ns[j]? = some n → (∀ j', j' < ns.length → kf j ≤ kf j' ∧ (j' < j → kf j < kf j')) → Q (.int n) H2
theorem sqL_ext {K : PySem.W.Frag} {H H' : Hp} {a : Addr} {xs : List V} (e : ExtN H H') (h : SqL K H a xs) : SqL K H' a xs := by
  rcases h with (h | ⟨o, h⟩) | h
  · exact .inl (.inl (e _ _ h fun ps z => by cases z))
  · exact .inl (.inr ⟨o, e _ _ h fun ps z => by cases z⟩)
  · exact .inr h
section
variable {X : Cx} {x : Str} {e : Expr} {ta : TA} {tb : TE} {T : List (Addr × Str)} {c P : Addr} {params : Arguments} {body : Expr} {scope : Scope} {p pos lpos kpos : Pos} {k i : Nat}
theorem pe_minLam (hg : Gl X "min") (hm : X.mg "min" = none) (hr : Room (k + 2) X.A) (ha : PA X [e] ta) (L : LamS1 X.env.scope scope x)
    (TB : TabB X.base X.mg c P) (hcode : X.env.code = .ref c) (hmT : (P, X.env.qual ++ "<lambda>") ∈ T) (hu : ∀ p ∈ T, p.1 = P → p.2 = X.env.qual ++ "<lambda>")
    (hdef : defaultsOf params X.env = ([], [])) (hbind : ∀ (q : Str) (cl : List (Str × Addr)) (pm cv ctv u : Value), bindArgs (PySem.W.kla_fn "<lambda>" q params body scope cl pm cv ctv) ⟨[u], []⟩ = pure [(x, u)])
    (hN : X.N.Nodup) (hi : X.N[i]? = some x)
    (hbody : ∀ (A : Around) (outer : List Env) (s : Shared) (H : Hp) (f c' : Addr), Room k (A.deeper (lamEnv X scope s.heap.objs.size f c')) → PE (lamCx X A outer s H C8.E0 scope f c') body tb)
    (he : backTo pos (starEach [e] X.env) = (false, eval e X.env) :: backTo pos (starEach [] X.env) := by rfl) (hpl : (backTo pos (starEach [e] X.env)).any (·.1) = false := by rfl) :
    PE X (.Call (.Name "min" p) [e] [⟨some "key", .Lambda params body scope lpos, kpos⟩] pos) (tMinLam X.K T i ta tb) := by
  refine ⟨fun pins s σ H Q I h => ?_⟩
  refine wpAny_Call_Name_kw (ld_blt I hg hm PyProof.Rows.boot_min ?_)
  refine PyProof.Rows.callWith_kw (thn (ha.run pos pins s σ H _ I h) fun us s1 q0 => ?_) he hpl (by rfl) (by rfl)
  obtain ⟨vs, H1, I1, r1, l, ns, kf, rfl, hsl, hne, hT, q⟩ := q0
  obtain rfl := Vals.ref1 r1
  show wpAny _ _ (evalAll ((do let v ← eval (.Lambda params body scope lpos) X.env; standAt pos; pure v) :: [])) _ _ s1
  refine wpAny_evalAll_cons (wpAny_bind (lam_make2 I1 TB hcode hmT hu hT hdef (L.has I1.ok) fun f c' pm' ctv H2 s2 I2 eN T2 hf hfn hfr hco => wpAny_bind (wpAny_standAt (wpAny_pure ?_))))
  refine wpAny_evalAll_nil ?_
  obtain ⟨q1, q2⟩ := q H2 eN T2
  have hsl2 := sqL_ext eN hsl
  show wpAny _ _ (call (.builtin "min") [.ref l] [(Str.ofString "key", .ref f)]) _ _ s2
  have I3 : Inv X ((f, PySem.W.kla_obj "<lambda>" (X.env.qual ++ "<lambda>") params body scope (cloFrom X.env.cells scope.names []) pm' c' ctv) :: pins) σ H2 s2 := I2.pins_of fun p hp => by
    rcases List.mem_cons.mp hp with z | z
    · rw [z]
      refine ⟨hf, hfn, ?_, ?_, fun v q => nomatch q⟩
      · intro e
        obtain ⟨m, ⟨o, es, ep, ho, hd, _⟩, _⟩ := I2.loc
        have e : f = X.env.locals := e
        rw [← e, hf] at ho
        cases ho
        cases hd
      · intro hb
        refine hfr ?_
        rcases I2.ok.stk with z | ⟨z, _⟩
        · rw [z]; exact hb
        · rw [z]
          unfold frs
          rw [List.filterMap_cons]
          split
          · exact hb
          · exact .tail _ hb
    · exact I2.pin p (List.mem_append_right _ z)
  refine min_start kf hr.hd I3 hsl2 (by rw [List.length_map]; exact hne) (fun j v u hv rv ps s3 I4 => ?_) fun j v u s3 hv rv hb I4 => ?_
  · obtain ⟨n, en, rfl⟩ : ∃ n, ns[j]? = some n ∧ v = .int n := by
      rw [List.getElem?_map] at hv
      cases e : ns[j]? with
      | none => rw [e] at hv; cases hv
      | some z => rw [e] at hv; exact ⟨z, rfl, (Option.some.inj hv).symm⟩
    have gf := (I4.pin (f, PySem.W.kla_obj "<lambda>" (X.env.qual ++ "<lambda>") params body scope (cloFrom X.env.cells scope.names []) pm' c' ctv) (by simp)).1
    refine thn (lam_act1 I4 L gf hco I4.env0.in1 hr.in1 (hbind _ _ _ _ _ _) hN hi rv (fun hr' => hbody _ _ _ _ _ _ hr') (q1 j n en)) fun x s4 ⟨w, H', I5, rw', e1, e2⟩ => ?_
    subst e1; subst e2
    exact ⟨I5, rw'⟩
  · rw [List.length_map] at hb
    obtain ⟨n, en, rfl⟩ : ∃ n, ns[j]? = some n ∧ v = .int n := by
      rw [List.getElem?_map] at hv
      cases e : ns[j]? with
      | none => rw [e] at hv; cases hv
      | some z => rw [e] at hv; exact ⟨z, rfl, (Option.some.inj hv).symm⟩
    exact ⟨.int n, H2, I4, rv, q2 j n en hb⟩
end
end MM
/-! super().__init__(x) in an own class -/
namespace MM
open PySem PySem.Spec PyProof.Rows L2 LamX NdefX ClX
theorem fnR_of {P : Program} {w : World} {K : PySem.W.Frag} {mg : Str → Option Value} {base : Heap} {CX : CXT} {k : Nat} {f : Addr} {fd : FuncData} {ps : List Str} {sp : Sp} (F : FnOk P w K mg base CX k f fd ps sp) (hb : L2.Binds K fd ps []) : FnR P w K mg base CX k f sp :=
  fun A outer s H us vs Q E hr e0 r h => by
    have hl : us.length = ps.length := by rw [← r.length]; exact F.len _ _ _ _ h
    have KX : K.In s.heap := e0.mod.kin.keeps fun b o e => (e0.bs b o e).1
    have := hb s us KX (by rw [List.append_nil]; exact hl)
    rw [List.append_nil] at this
    exact F.run A outer s H ⟨us, []⟩ us vs Q E hr e0 this r h
/-- a def with the cell __class__, its class at C; f2: what super() finds as mn -/
structure SupF (P : Program) (K : PySem.W.Frag) (F : NF) (f C cc f2 : Addr) (mn : Str) : Prop where
  fd : ∃ (oc : Value) (od : Option Addr) (osl : Array (Option Value)) (kV doc pm ct : Value) (an : Option Addr), K.lookup f = some ⟨oc, od, .func (PySem.W.ksFn F.name F.qual F.params F.body F.scope .none kV doc pm an (.ref F.c) ct cc), osl⟩
  cl : F.cl = [(Str.ofString "__class__", cc)]
  cd : PySem.W.codeIn K (.ref F.c) F.qual = true
  code : ∃ (ccl : Value) (cdd : Option Addr) (vs : Array Value) (ccs : Array (Option Value)) (file : Str) (tf : Tok), K.lookup F.c = some ⟨ccl, cdd, .fields vs, ccs⟩ ∧ vs[2]? = some (.str file tf) ∧ ((P.main.file : Str) == file) = true
  cell : ∃ (cl : Value) (cld : Option Addr) (csl : Array (Option Value)), K.lookup cc = some ⟨cl, cld, .cell (some (.ref C)), csl⟩
  hD : ∃ cd, PySem.W.clsIn K C = some cd
  sub : PySem.W.mroIn K C (.ref C) = some true
  st : PySem.W.nsIn K cStatics "thirdparty.any" = some none
  m : PySem.W.ks_superIn K C C mn = some (some (.ref f2))
  ty : PySem.W.typeIn K (.ref f2) = some (.type "function")
  fi : PySem.W.fnIn K f2 = true
section
variable {P : Program} {w : World} {K : PySem.W.Frag} {mg : Str → Option Value} {base : Heap} {N : List Str} {F : NF} {f C cc f2 : Addr} {mn : Str} {A : Around} {outer : List Env} {s0 s : Shared} {H0 H : Hp} {E : XK} {pins : List (Addr × Obj)} {σ : L2.St}
theorem super_stmt {k : Nat} {sp : Sp} {e : Expr} {t : TA} {p0 p1 p2 p3 p4 : Pos} {ar : Arg} {x dx : Addr} {fs : List (Str × V)} {D : L2.St → Hp → Prop} {pl : Sem Bool} (S : SupF P K F f C cc f2 mn) (G : FnR P w K mg base C8.CX0 k f2 sp) (hr : Room k (ncx C8.CX0 P w K mg base N F f A outer s0 H0 E).A)
    (hk : F.scope.kind = .function) (hks : F.scope.names.lookup ("super" : Str) = some .globalImplicit) (hkc : F.scope.names.lookup ("__class__" : Str) = some .free) (hka : F.scope.names.lookup ar.arg = some .local) (hp : (F.params.posonlyargs ++ F.params.args).head? = some ar)
    (hm : mg "super" = none) (htop : (P.main.scope.names.lookup ("super" : Str)).isSome = false) (hn : (mn == ("__class__" : Str)) = false) (h0 : N[0]? = some ar.arg)
    (ha : PA (ncx C8.CX0 P w K mg base N F f A outer s0 H0 E) [e] t) (I : Inv (ncx C8.CX0 P w K mg base N F f A outer s0 H0 E) pins σ H s) (hs : σ[0]? = some (some (.ref x))) (hx : H x = some (.ins C dx fs))
    (ht : t σ H fun vs H1 => sp (.ref x :: vs) H1 (fun _ H2 => D σ H2) C8.E0)
    (hE : eval (.Call (.Attribute (.Call (.Name "super" p0) [] [] p1) mn p2) [e] [] p3) (envF F f s0.heap.objs.size) = (do
      let ov ← attributeBase (.Call (.Name "super" p0) [] [] p1) mn (envF F f s0.heap.objs.size) (eval (.Call (.Name "super" p0) [] [] p1) (envF F f s0.heap.objs.size))
      standAt p2.atName
      let (g, first) ← holding [ov] (getMethod ov mn pl)
      callWith p3 g first (backTo p3 (starEach [e] (envF F f s0.heap.objs.size))) []))
    (hin : interactive (envF F f s0.heap.objs.size) = false) (hsw : swapsWith (.Call (.Attribute (.Call (.Name "super" p0) [] [] p1) mn p2) [e] [] p3) none p4.line (envF F f s0.heap.objs.size) = pure false)
    (hst : starEach [e] (envF F f s0.heap.objs.size) = (false, eval e (envF F f s0.heap.objs.size)) :: starEach [] (envF F f s0.heap.objs.size) := by rfl) (hpl : (backTo p3 (starEach [] (envF F f s0.heap.objs.size))).any (·.1) = false := by rfl) :
    PySem.wpAt (model P w) (ncx C8.CX0 P w K mg base N F f A outer s0 H0 E).A (.func F.body (envF F f s0.heap.objs.size)) (exec (.Expr (.Call (.Attribute (.Call (.Name "super" p0) [] [] p1) mn p2) [e] [] p3) p4) (envF F f s0.heap.objs.size))
      (fun fl s' => fl = .next ∧ ∃ H', Inv (ncx C8.CX0 P w K mg base N F f A outer s0 H0 E) pins σ H' s' ∧ D σ H') (ncx C8.CX0 P w K mg base N F f A outer s0 H0 E).xe s := by
  obtain ⟨oc, od, osl, kV, doc, pm, ct, an, lk⟩ := S.fd
  obtain ⟨ccl, cdd, cvs, ccs, file, tf, hcode, hvs, hfile⟩ := S.code
  obtain ⟨cl, cld, csl, hcell⟩ := S.cell
  obtain ⟨cd, hcd⟩ := S.hD
  have X := I.kIn
  have X : K.In s.heap := X
  obtain ⟨oD, hD1, hD2⟩ : ∃ oD, s.heap.get? C = some oD ∧ oD.data = .cls cd := by
    unfold PySem.W.clsIn at hcd
    split at hcd
    · rename_i c d cd' sl ho
      cases hcd
      exact ⟨_, X _ _ ho, rfl⟩
    · cases hcd
  obtain ⟨mA, O, _, _, _, _⟩ := ins_get I.hok hx
  obtain ⟨od2, J, _⟩ := O.look
  obtain ⟨m, hns, hl⟩ := I.loc
  obtain ⟨u, ru, hlook⟩ := hl 0 ar.arg (.ref x) h0 hs (.inl hka)
  obtain rfl : u = Value.ref x := ru
  have hv : m ar.arg = some (.ref x) := by
    rcases hlook with ⟨_, z⟩ | ⟨z, _⟩
    · exact z
    · have hka' : (envF F f s0.heap.objs.size).kindOf ar.arg = some .local := hka
      rcases z with z | z <;> (rw [show (ncx C8.CX0 P w K mg base N F f A outer s0 H0 E).env.kindOf ar.arg = _ from hka'] at z; cases z)
  refine PySem.ks_wpAt_Expr_any (PySem.ks_wpAt_MethodCall (pl := pl) ?_ hE) hin hsw
  have hcl : (envF F f s0.heap.objs.size).cells.lookup ("__class__" : Str) = some cc := by
    show F.cl.lookup _ = _
    rw [S.cl]; rfl
  refine PySem.ks_wpAt_super_base (env := envF F f s0.heap.objs.size) hks hkc hn rfl (X _ _ lk) rfl hp rfl (X _ _ hcode) rfl hvs hfile htop ?_
  obtain ⟨mb, hb1, hb2⟩ := I.mod.blt
  refine PySem.W.ks_loadName_global hk hks (Calls.loadGlobal_builtin (env := envF F f s0.heap.objs.size) (I.mod.glob.keeps I.bk) hm (hb1.keeps I.bk) ((hb2 "super" (by decide)).trans (show bootBuiltins "super" = some (.type "super") by decide +kernel)) ⟨rfl, ?_⟩)
  refine wpAny_loadName_free hk hkc hcl ⟨_, X _ _ hcell, rfl⟩ ?_
  refine wpAny_loadName_local hk hka hns hv ?_
  refine PySem.ks_wpAny_isType_cls hD1 hD2 ⟨rfl, ?_⟩
  refine PySem.ks_wpAny_call_super hD1 hD2 J.at_ J.cls (fun c z => nomatch z) (PySem.W.looks_mroIn X S.sub) (fun h1 e1 k1 => ?_)
  have I1 : Inv (ncx C8.CX0 P w K mg base N F f A outer s0 H0 E) pins σ H { s with heap := h1 } := I.kept (t' := s.toks) k1
  have hm2 := S.m
  unfold PySem.W.ks_superIn at hm2
  rw [hcd] at hm2
  have X1 : K.In h1 := I1.kIn
  obtain ⟨of, hof, hofc⟩ : ∃ of, h1.get? f2 = some of ∧ of.cls = .type "function" := by
    have ht' : (K.lookup f2).map (·.cls) = some (.type "function") := S.ty
    cases z : K.lookup f2 with
    | none => rw [z] at ht'; cases ht'
    | some of => rw [z] at ht'; exact ⟨of, X1 _ _ z, Option.some.inj ht'⟩
  refine PySem.ks_wpAny_getMethod_super e1 (PySem.W.looks_opaque X1 S.st) (l₀ := cd.mro) ?_ rfl X1 hm2 hof hofc (PySem.W.ks_ne X J hcd) hn ?_
  · exact fun A Q E s k q => wpAny_bind ((PySem.W.looks_clsIn X1 hcd) A _ E s k (wpAny_pure q))
  · have I2 := met_new (g := f2) (C := x) I1
    refine callwith_cm I2 (base_none I1 (Nat.le_refl _)) S.fi (thn (ha.run p3 _ _ σ H _ I2 ht) fun us s3 ⟨vs, H2, I3, rv, q2⟩ => ⟨⟨pin_at I3, I3.kIn⟩, ?_⟩) hst hpl
    refine thn (run_cm G hr C8.pass0 I3 rv q2) fun u s4 ⟨v, H4, I4, rv4, q4⟩ => ⟨rfl, H4, I4, q4⟩
theorem ok_super {k : Nat} {ps : List Str} {sp sp2 : Sp} {fd : FuncData} {e : Expr} {p0 p1 p2 p3 p4 : Pos} {ar : Arg} {rest : List Stmt} {pl : Env → Sem Bool} (S : SupF P K F f C cc f2 mn) (NS : NScope N ps ["__class__"] F.scope) (G : FnR P w K mg base C8.CX0 k f2 sp2)
    (hfd : ∃ (oc : Value) (od : Option Addr) (osl : Array (Option Value)), K.lookup f = some ⟨oc, od, .func fd, osl⟩)
    (hks : F.scope.names.lookup ("super" : Str) = some .globalImplicit) (hka : F.scope.names.lookup ar.arg = some .local) (hp : (F.params.posonlyargs ++ F.params.args).head? = some ar)
    (hm : mg "super" = none) (htop : (P.main.scope.names.lookup ("super" : Str)).isSome = false) (hn : (mn == ("__class__" : Str)) = false) (h0 : N[0]? = some ar.arg)
    (hbd : F.body = .Expr (.Call (.Attribute (.Call (.Name "super" p0) [] [] p1) mn p2) [e] [] p3) p4 :: rest)
    (len : ∀ vs H Q E, sp vs H Q E → vs.length = ps.length)
    (hbody : ∀ (A : Around) (outer : List Env) (s : Shared) (H : Hp) (vs : List V) (Q : VK) (E : XK), Room k (A.deeper (envF F f s.heap.objs.size)) → sp vs H Q E →
      ∃ (t : TA) (tr : TS) (x dx : Addr) (fs : List (Str × V)), PA (ncx C8.CX0 P w K mg base N F f A outer s H E) [e] t ∧ PSs (ncx C8.CX0 P w K mg base N F f A outer s H E) rest tr ∧ (startF N vs [some (.ref C)])[0]? = some (some (.ref x)) ∧ H x = some (.ins C dx fs) ∧
        t (startF N vs [some (.ref C)]) H fun vs1 H1 => sp2 (.ref x :: vs1) H1 (fun _ H2 => tr { nx := fun _ H' => Q .non H', rt := Q } (startF N vs [some (.ref C)]) H2) C8.E0)
    (hE : ∀ L : Addr, eval (.Call (.Attribute (.Call (.Name "super" p0) [] [] p1) mn p2) [e] [] p3) (envF F f L) = (do
      let ov ← attributeBase (.Call (.Name "super" p0) [] [] p1) mn (envF F f L) (eval (.Call (.Name "super" p0) [] [] p1) (envF F f L))
      standAt p2.atName
      let (g, first) ← holding [ov] (getMethod ov mn (pl (envF F f L)))
      callWith p3 g first (backTo p3 (starEach [e] (envF F f L))) []))
    (hin : ∀ L : Addr, interactive (envF F f L) = false) (hsw : ∀ L : Addr, swapsWith (.Call (.Attribute (.Call (.Name "super" p0) [] [] p1) mn p2) [e] [] p3) none p4.line (envF F f L) = pure false)
    (hst : ∀ L : Addr, starEach [e] (envF F f L) = (false, eval e (envF F f L)) :: starEach [] (envF F f L)) (hpl : ∀ L : Addr, (backTo p3 (starEach [] (envF F f L))).any (·.1) = false) :
    FnOk P w K mg base C8.CX0 (k + 1) f fd ps sp := by
  refine ⟨len, fun A outer s H args us vs Q E hr e0 hb r hsp => ?_⟩
  obtain ⟨oc, od, osl, lk0⟩ := hfd
  obtain ⟨oc', od', osl', kV, doc, pm, ct, an, lk⟩ := S.fd
  have efd : fd = PySem.W.ksFn F.name F.qual F.params F.body F.scope .none kV doc pm an (.ref F.c) ct cc := by
    rw [lk0] at lk
    cases lk
    rfl
  subst efd
  have KX : K.In s.heap := e0.mod.kin.keeps fun b o e => (e0.bs b o e).1
  have hl := len _ _ _ _ hsp
  have lim : s.heap.NoLimit := e0.mod.nolimit.keeps fun b o e => (e0.bs b o e).1
  obtain ⟨cl, cld, csl, hcell⟩ := S.cell
  refine codeAny_call_function hr.depth (KX _ _ lk) rfl NS.co NS.gen rfl (PySem.W.codeRec_of KX S.cd) (hb _ _ _ _ ?_)
  refine wpAny_newFunctionEnv NS.nocell (fun ⟨n, _⟩ hy => NS.par n (List.of_mem_zip hy).1) (fun h₁ hns hsb => ⟨lim.fresh _ hsb, ?_⟩) NS.kind
  have kp : ∀ b o, s.heap.get? b = some o → h₁.get? b = some o := fun b o e => hsb.extBut b o (Nat.ne_of_lt (Heap.lt_size e)) (Heap.get?_push_of_some _ e)
  have CA : CellsAt F.cl ["__class__"] [some (.ref C)] s.heap H := by
    have bc : H cc = none := by
      obtain ⟨o, ho⟩ : ∃ o, base.get? cc = some o := ⟨_, e0.mod.kin _ _ hcell⟩
      exact (e0.bs _ _ ho).2
    have one : ∀ y c, F.cl.lookup y = some c → y = "__class__" ∧ c = cc := fun y c e => by
      rw [S.cl] at e
      have e2 : (match y == (Str.ofString "__class__") with | true => some cc | false => none) = some c := e
      cases q : (y == (Str.ofString "__class__")) with
      | true => rw [q] at e2; exact ⟨beq_iff_eq.mp q, (Option.some.inj e2).symm⟩
      | false => rw [q] at e2; cases e2
    refine ⟨rfl, fun y c e => ?_, fun y z c e1 e2 => (one y c e1).1.trans (one z c e2).1.symm, fun i y hy => ?_⟩
    · obtain ⟨_, rfl⟩ := one y c e
      exact ⟨bc, _, _, KX _ _ hcell, rfl⟩
    · have hi : i = 0 := by
        have := (List.getElem?_eq_some_iff.mp hy).1
        simp at this
        exact this
      subst hi
      cases hy
      refine ⟨cc, by rw [S.cl]; rfl, fun v hv => ?_⟩
      cases hv
      exact ⟨_, rfl, _, KX _ _ hcell, rfl⟩
  have I : Inv (ncx C8.CX0 P w K mg base N F f A outer s H E) [] (startF N vs [some (.ref C)]) H { s with heap := h₁, toks := s.toks + (ps.zip us).length } := inv_startN NS hr.hd e0 hl r CA hns kp
  obtain ⟨t, tr, x, dx, fs, ha, hrest, hs, hx, ht⟩ := hbody A outer s H vs Q E (hr.deeper _) hsp
  show codeAny _ _ (.func F.body (PySem.W.envX F.qual F.scope s.heap.objs.size f (.ref F.c) [(Str.ofString "__class__", cc)])) _ _
  rw [← S.cl]
  refine PySem.ks_codeAny_funcAt ?_
  have st := super_stmt (pl := pl (envF F f s.heap.objs.size)) S G (hr.deeper _) NS.kind hks (NS.frk _ (by simp)) hka hp hm htop hn h0 ha I hs hx ht (hE _) (hin _) (hsw _) (hst _) (hpl _)
  rw [hbd] at st ⊢
  refine PySem.ks_wpAt_execs_cons (PySem.ks_wpAt_mono st (fun fl s' hq => ?_) fun e s' hq => hq)
  obtain ⟨rfl, H', I', q⟩ := hq
  show PySem.wpAt _ _ _ (execs rest _) _ _ _
  refine wpAt_of_wpAny (wpAny_mono (hrest.run [] s' _ H' _ I' q) (fun fl s' hs => ?_) fun e s' hs => hs)
  have fin : ∀ {σ' : L2.St} {H' : Hp} {v : V} {u : Value} {s' : Shared}, Inv (ncx C8.CX0 P w K mg base N F f A outer s H E) [] σ' H' s' → L2.RelV v u → Q v H' → CE outer P w H s Q u s' :=
    fun {σ' H' v u s'} J rv q => ⟨v, H', J.os, J.bare, J.base, J.hok, rv, q⟩
  cases fl with
  | ret u =>
    obtain ⟨v, σ', H', J, rv, q⟩ := hs
    exact fin J rv q
  | next =>
    obtain ⟨σ', H', J, q⟩ := hs
    exact fin (v := V.non) (u := Value.none) J rfl q
  | brk =>
    obtain ⟨_, _, _, q⟩ := hs
    exact False.elim q
  | cont =>
    obtain ⟨_, _, _, q⟩ := hs
    exact False.elim q
end
end MM
/-! tuple * int, any count -/
namespace MM
open PySem PySem.Spec PyProof.Rows L2
theorem tuple_mul1 (l : Addr) (items : Array Value) (n : Nat) (dd : Option Addr) (sl : Array (Option Value)) (u : Tok) :
    Meets (Builtin.«tuple.__mul__» ⟨[.ref l, .int 1 u], []⟩) (fun _ R s => s.heap.get? l = some { cls := .type "tuple", dict := dd, data := .seq items n, slots := sl } ∧ R (.ok (.ret (Value.ref l))) s) :=
  .of_wp fun prog w A R s h => by
    obtain ⟨hp, g, d, tk, os⟩ := s
    obtain ⟨hl, h⟩ := h
    have f1 := AutoSeq1.idx_int
    have c0 : (decide ((1 : Int) < -(2 ^ 63)) || decide ((1 : Int) ≥ 2 ^ 63)) = false := by decide
    have c1 : (items.isEmpty || (1 : Int) == 1) = true := by simp
    wp_walk using wpAny_loadPart' hl
    repeat (first
      | (refine wpAny_ite_false (decide_eq_false (by rw [c0]; exact Bool.false_ne_true)) ?_; wp_walk using wpAny_loadPart' hl)
      | (refine wpAny_ite_true (decide_eq_true c1) ?_; wp_walk using wpAny_loadPart' hl))
    all_goals first | exact ⟨_, rfl, h⟩ | trace_state
theorem tuple_mul0 (l : Addr) (items : Array Value) (n : Nat) (dd : Option Addr) (sl : Array (Option Value)) (u : Tok) (hi : items.isEmpty = false) :
    Meets (Builtin.«tuple.__mul__» ⟨[.ref l, .int 0 u], []⟩) (fun _ R s => s.heap.get? l = some { cls := .type "tuple", dict := dd, data := .seq items n, slots := sl } ∧
      R (.ok (.ret (Value.ref s.heap.objs.size))) { s with heap := s.heap.push { cls := Value.type "tuple", data := Data.seq #[] }, toks := s.toks }) :=
  .of_wp fun prog w A R s h => by
    obtain ⟨hp, g, d, tk, os⟩ := s
    obtain ⟨hl, h⟩ := h
    have f1 := AutoSeq1.idx_int
    have c0 : (decide ((0 : Int) < -(2 ^ 63)) || decide ((0 : Int) ≥ 2 ^ 63)) = false := by decide
    have c1 : (items.isEmpty || (0 : Int) == 1) = false := by rw [hi]; rfl
    have c2 : (decide ((0 : Int) ≤ 0) || items.isEmpty) = true := by rw [hi]; rfl
    wp_walk using wpAny_loadPart' hl
    repeat (first
      | (refine wpAny_ite_false (decide_eq_false (by rw [c0]; exact Bool.false_ne_true)) ?_; wp_walk using wpAny_loadPart' hl)
      | (refine wpAny_ite_false (decide_eq_false (by rw [c1]; exact Bool.false_ne_true)) ?_; wp_walk using wpAny_loadPart' hl)
      | (refine wpAny_ite_true (decide_eq_true c2) ?_; wp_walk using wpAny_loadPart' hl))
    all_goals first | exact ⟨_, rfl, h⟩ | trace_state
/-- t * k, t not empty, 0 ≤ k ≤ 1000 -/
def rRepA (K : PySem.W.Frag) : R2 := fun x y H Q => ∃ (l : Addr) (k : Nat) (xs : List V), x = .ref l ∧ y = .int (k : Int) ∧ SqT K H l xs ∧ xs ≠ [] ∧ k ≤ 1000 ∧ xs.length ≤ 1000 ∧ (k = 1 → Q (.ref l) H) ∧ (k ≠ 1 → ∀ p, H p = none → Q (.ref p) (upd H p (.tup (List.replicate k xs).flatten)))
theorem repA {X : Cx} {K : PySem.W.Frag} (h : X.K = K) : OpR X (binaryOp .Mult) (rRepA K) := by
  subst h
  intro pins s σ H x y v u Q I rx ry h
  obtain ⟨l, k, xs, rfl, rfl, hT, hne, h2, hz, q1, q2⟩ := h
  by_cases hk : 2 ≤ k
  · refine op_repT pins s σ H _ _ v u Q I rx ry ⟨l, (k : Int), xs, rfl, rfl, hT, hne, by omega, by omega, hz, ?_⟩
    rw [Int.toNat_natCast]
    exact q2 (by omega)
  · cases rx
    obtain ⟨t, rfl⟩ := ry
    obtain ⟨its, r, ⟨⟨cls, dd, data, sl⟩, ho, hc, n, hd⟩, hs⟩ := I.tuple hT
    simp only at hc hd
    subst hc hd
    have hn : its ≠ [] := fun e => hne (by
      have hle : its.length = xs.length := r.length.symm
      rw [e] at hle
      exact List.eq_nil_of_length_eq_zero hle.symm)
    have hi : its.toArray.isEmpty = false := by
      cases its with
      | nil => exact absurd rfl hn
      | cons a b => rfl
    refine wpAny_binaryOp_repeat_ref (T := "tuple") (U := "int") (by decide) ⟨_, ho, rfl⟩ (fun s' => typeIs_int s' _ t) noFill_tuple_mul PySem.F.fills_int_mul PySem.F.slot_int_rmul repeat_tuple PySem.F.slot_int_index.lookup
      (call_meets PySem.F.slot_int_rmul (typeIs_int s _ t) PySem.F.entry_int_rmul (PySem.F.args_int_rmul_2 _ _) (int_rmul_tuple _ t l its.toArray n dd sl) ⟨ho, rfl, ⟨_, ho, rfl⟩, ?_⟩)
    have hk : k = 0 ∨ k = 1 := by omega
    rcases hk with rfl | rfl
    · refine call_meets PySem.F.slot_tuple_mul ⟨_, ho, rfl⟩ PySem.F.entry_tuple_mul (PySem.F.args_tuple_mul_2 _ _) (tuple_mul0 l its.toArray n dd sl t hi) ⟨ho, ?_⟩
      refine ⟨.ref s.heap.objs.size, _, I.laid (t' := s.toks) (o := .tup []) (fun b ob q => Heap.get?_push_of_some _ q) (Nat.le_refl _) ?_, rfl, q2 (by decide) _ (I.hok.fresh (Nat.le_refl _))⟩
      exact ⟨Nat.zero_le _, [], .nil, IsTup.new _ _⟩
    · exact call_meets PySem.F.slot_tuple_mul ⟨_, ho, rfl⟩ PySem.F.entry_tuple_mul (PySem.F.args_tuple_mul_2 _ _) (tuple_mul1 l its.toArray n dd sl t) ⟨ho, .ref l, H, I, rfl, q1 rfl⟩
end MM
/-! != of an instance that has its own ==, bool of one that has its own truth, two ways to read an expression -/
namespace MM
open PySem PySem.Spec PyProof.Rows L2
/-- two readings of one expression -/
theorem pe_two {X : Cx} {e : Expr} {t u : TE} (h1 : PE X e t) (h2 : PE X e u) : PE X e (fun σ H Q => t σ H Q ∨ u σ H Q) :=
  ⟨fun pins s σ H Q I h => h.elim (h1.run pins s σ H Q I) (h2.run pins s σ H Q I)⟩
section
variable {prog : Program} {w : World} {A : Around} {E : Value → Shared → Prop} {s : Shared} {K : PySem.W.Frag} {x C f : Addr} {ox : Obj} {od : Option Obj}
theorem objNe_K {Q : Fin → Shared → Prop} (X : K.In s.heap) (I : PySem.W.InstAt s.heap x ox C od) (heq : PySem.W.findIn K (.ref C) "__eq__" = some (some (.ref f))) (hf : PySem.W.isFn K (.ref f) = true) (hu : A.units < cLine)
    (hcall : wpAny (model prog w) A (call (.ref f) [.ref x, .ref x]) (fun v s' => ∃ b, v = .bool b ∧ Q (.done (.ret (.bool (!b)))) s') E s) : wpAny (model prog w) A (Builtin.«object.__ne__» ⟨[.ref x, .ref x], []⟩) Q E s := by
  obtain ⟨hp, g, d, tk, os⟩ := s
  unfold Builtin.«object.__ne__»
  repeat (first
    | with_reducible refine wpAny_cRoomFor hu ?_
    | (refine wpAny_bind (m := callSpecialIfBound? (.ref x) (Str.ofString "__eq__") [.ref x])
        (PySem.W.ifBound_K X I heq hf (wpAny_mono hcall (fun r s' hr => by
          obtain ⟨b, rfl, hq⟩ := hr
          repeat (first | exact hq | exact wpAny_pure hq | exact wpAny_truthy_bool hq | (refine wpAny_bind (m := truthy (.bool _)) (wpAny_truthy_bool ?_)) | wp_step)) fun _ _ e => e)))
    | wp_step)
theorem ne_K {Q : Value → Shared → Prop} (X : K.In s.heap) (I : PySem.W.InstAt s.heap x ox C od) (hne : PySem.W.findIn K (.ref C) "__ne__" = some (some (.builtin "object.__ne__"))) (heq : PySem.W.findIn K (.ref C) "__eq__" = some (some (.ref f))) (hf : PySem.W.isFn K (.ref f) = true)
    (hm : PySem.W.mroIn K C (.type "object") = some true) (hu : A.units + 1 < cLine)
    (hcall : wpAny (model prog w) A.in1 (call (.ref f) [.ref x, .ref x]) (fun v s' => ∃ b, v = .bool b ∧ Q (.bool (!b)) s') E s) : wpAny (model prog w) A (richCompare .NotEq (.ref x) (.ref x)) Q E s := by
  have hin : PySem.W.Looks (model prog w) s.heap (isInstance (.ref x) (.type "object")) true := I.type.andThen (PySem.W.looks_mroIn X hm)
  have one : wpAny (model prog w) A (tryCompare (.ref x) "__ne__" (.ref x)) (fun r s' => ∃ v, r = some v ∧ Q v s') E s := by
    unfold tryCompare
    have fin : wpAny (model prog w) A (call (.builtin "object.__ne__") ([.ref x] ++ [.ref x]) >>= fun v => pure (some v)) (fun (r : Option Value) s' => ∃ b, r = some (.bool b) ∧ Q (.bool b) s') E s := by
      refine wpAny_bind (wpAny_call (codeAny_call_builtin (CmpFacts.ne PySem.F.cmp_object).plain PySem.F.cmpEntry_ne (PySem.W.check_slot PySem.F.cmpKind_ne PySem.F.cmpSplit_ne hin (PySem.F.cmpArgs_ne _ _)
        (objNe_K (A := A.in1) X I heq hf hu (wpAny_mono hcall (fun v s' hv => ?_) fun _ _ e => e)))))
      obtain ⟨b, rfl, hq⟩ := hv
      exact ⟨b, rfl, wpAny_pure ⟨_, rfl, hq⟩⟩
    have cs : wpAny (model prog w) A (callSpecialIfBound? (.ref x) "__ne__" [.ref x]) (fun (r : Option Value) s' => ∃ b, r = some (.bool b) ∧ Q (.bool b) s') E s := by
      simp only [callSpecialIfBound?, bindSpecialIfBound?]
      refine wpAny_holding (wpAny_bind (wpAny_bind (wpAny_bind (I.type.here ((PySem.W.looks_findIn X hne).here ?_)))))
      refine wpAny_bind (wpAny_askSetting (wpAny_ite ?_))
      split
      · exact wpAny_bind (wpAny_of_eq ((CmpFacts.ne PySem.F.cmp_object).bind _) (wpAny_pure (by exact fin)))
      · exact wpAny_tryCatch (wpAny_bind (wpAny_of_eq ((CmpFacts.ne PySem.F.cmp_object).bind _) (wpAny_pure (by exact fin))))
    refine wpAny_bind (wpAny_mono cs (fun r s' hr => ?_) fun _ _ e => e)
    obtain ⟨b, rfl, hq⟩ := hr
    exact wpAny_pure ⟨_, rfl, hq⟩
  unfold richCompare
  simp only [oneThing_ref]
  refine wpAny_holding (wpAny_bind (wpAny_cRoomFor (by omega) ?_))
  rw [cmpInfo_NotEq]
  dsimp only
  refine wpAny_bind (I.type.here (wpAny_bind (I.type.here ?_)))
  rw [show (Value.ref C != Value.ref C) = false from by simp]
  simp only [Bool.false_eq_true, if_false]
  refine wpAny_bind (wpAny_pure ?_)
  simp only [Bool.false_eq_true, if_false]
  refine wpAny_bind (wpAny_mono one (fun r s' z => ?_) fun _ _ e => e)
  obtain ⟨v, rfl, hq⟩ := z
  exact wpAny_pure hq
end
end MM
namespace MM
open PySem PySem.Spec PyProof.Rows L2
abbrev FnP (K : PySem.W.Frag) (x qual : Str) (st : Stmt) (f : Addr) (fd : FuncData) : Prop := FunD K x qual (defArgs st) (defBody st) (defScope st) [] [] f fd
abbrev zA (K : PySem.W.Frag) : Addr := He.ga K "ZERO"
abbrev oA (K : PySem.W.Frag) : Addr := He.ga K "ONE"
/-- what the top's names stand for -/
structure Txt (K : PySem.W.Frag) (mg : Str → Option Value) : Prop where
  f_len : mg "len" = none
  f_isinstance : mg "isinstance" = none
  f_abs : mg "abs" = none
  f_all : mg "all" = none
  f_any : mg "any" = none
  f_int : mg "int" = none
  f_bool : mg "bool" = none
  f_list : mg "list" = none
  f_tuple : mg "tuple" = none
  f_repr : mg "repr" = none
  f_range : mg "range" = none
  f_enumerate : mg "enumerate" = none
  f_zip : mg "zip" = none
  f_min : mg "min" = none
  f_super : mg "super" = none
  f_gcd : mg "gcd" = some (.builtin "math.gcd")
  gZ : ∃ u, mg "ZERO" = some u ∧ RelV (.ref (zA K)) u
  gO : ∃ u, mg "ONE" = some u ∧ RelV (.ref (oA K)) u
  gM : ∃ u, mg "MOST_UNKNOWNS" = some u ∧ RelV (.int 60) u
  tZ : ∀ H, SqT K H (zA K) [.int 0, .int 1]
  tO : ∀ H, SqT K H (oA K) [.int 1, .int 1]

/-! ### ratios in the heap -/
/-- v is the tuple of the ratio r -/
def RV (K : PySem.W.Frag) (H : Hp) (v : V) (r : Rat) : Prop := ∃ a, v = .ref a ∧ SqT K H a [.int r.num, .int (r.den : Int)]
theorem Same.tup {K : PySem.W.Frag} {H H' : Hp} {a : Addr} {xs : List V} (e : Same H H') (h : SqT K H a xs) : SqT K H' a xs := by
  rcases h with (h | ⟨o, h⟩) | h
  · exact .inl (.inl (e _ _ h))
  · exact .inl (.inr ⟨o, e _ _ h⟩)
  · exact .inr h
theorem Same.new {H : Hp} {p : Addr} {o : HO} (h : H p = none) : Same H (upd H p o) := fun b x e => by
  rw [upd_ne (ne_of_none e h)]
  exact e
theorem RV.mono {K : PySem.W.Frag} {H H' : Hp} {v : V} {r : Rat} (h : RV K H v r) (e : Same H H') : RV K H' v r := by
  obtain ⟨a, rfl, h⟩ := h
  exact ⟨a, rfl, Same.tup e h⟩
theorem RV.new {K : PySem.W.Frag} {H : Hp} {p : Addr} {r : Rat} {n d : Int} (hn : r.num = n) (hd : (r.den : Int) = d) : RV K (upd H p (.tup [.int n, .int d])) (.ref p) r := ⟨p, rfl, by rw [hn, hd]; exact .inl (.inl upd_same)⟩
section
variable {K : PySem.W.Frag} {mg : Str → Option Value} {H : Hp} {v : V} {r : Rat} {Q : VK}
theorem Txt.rZ (T : Txt K mg) (H : Hp) : RV K H (.ref (zA K)) 0 := ⟨_, rfl, T.tZ H⟩
theorem Txt.rO (T : Txt K mg) (H : Hp) : RV K H (.ref (oA K)) 1 := ⟨_, rfl, T.tO H⟩
theorem ix_num (h : RV K H v r) (q : Q (.int r.num) H) : rIx K v (.int 0) H Q := by
  obtain ⟨a, rfl, h⟩ := h
  exact .inr (.inl ⟨a, _, 0, _, rfl, rfl, h, rfl, q⟩)
theorem ix_den (h : RV K H v r) (q : Q (.int (r.den : Int)) H) : rIx K v (.int 1) H Q := by
  obtain ⟨a, rfl, h⟩ := h
  exact .inr (.inl ⟨a, _, 1, _, rfl, rfl, h, rfl, q⟩)
theorem ix_l {a : Addr} {xs : List V} {i : Int} {j : Nat} (e : i = (j : Int)) (h : SqL K H a xs) (hv : xs[j]? = some v) (q : Q v H) : rIx K (.ref a) (.int i) H Q := by
  subst e
  exact .inl ⟨a, _, _, _, rfl, rfl, h, atI_nat hv, q⟩
theorem ix_t {a : Addr} {xs : List V} {i : Int} {j : Nat} (e : i = (j : Int)) (h : SqT K H a xs) (hv : xs[j]? = some v) (q : Q v H) : rIx K (.ref a) (.int i) H Q := by
  subst e
  exact .inr (.inl ⟨a, _, _, _, rfl, rfl, h, atI_nat hv, q⟩)
end
/-- a pure def that hands back a ratio -/
def RetR (K : PySem.W.Frag) (H : Hp) (Q : VK) (r : Rat) : Prop := ∀ v H', Same H H' → RV K H' v r → Q v H'

/-! ### ratios -/
/-- lowest(t, b) -/
def spLow (K : PySem.W.Frag) : Sp := fun vs H Q _ => ∃ t b : Int, vs = [.int t, .int b] ∧ 0 < b ∧ b.natAbs < 2 ^ 9000 ∧ RetR K H Q ((t : Rat) / (b : Rat))
def spPlus (K : PySem.W.Frag) : Sp := fun vs H Q _ => ∃ (u v : V) (a b : Rat) (k l : Nat), vs = [u, v] ∧ RV K H u a ∧ RV K H v b ∧ Mm.Lt k a ∧ Mm.Lt l b ∧ k + l ≤ 9000 ∧ RetR K H Q (a + b)
def spMinus (K : PySem.W.Frag) : Sp := fun vs H Q _ => ∃ (u v : V) (a b : Rat) (k l : Nat), vs = [u, v] ∧ RV K H u a ∧ RV K H v b ∧ Mm.Lt k a ∧ Mm.Lt l b ∧ k + l ≤ 9000 ∧ RetR K H Q (a - b)
def spTimes (K : PySem.W.Frag) : Sp := fun vs H Q _ => ∃ (u v : V) (a b : Rat) (k l : Nat), vs = [u, v] ∧ RV K H u a ∧ RV K H v b ∧ Mm.Lt k a ∧ Mm.Lt l b ∧ k + l ≤ 9000 ∧ RetR K H Q (a * b)
def spInverse (K : PySem.W.Frag) : Sp := fun vs H Q _ => ∃ (u : V) (a : Rat), vs = [u] ∧ RV K H u a ∧ a ≠ 0 ∧ RetR K H Q (1 / a)
def spBelow (K : PySem.W.Frag) : Sp := fun vs H Q _ => ∃ (u v : V) (a b : Rat) (k l : Nat), vs = [u, v] ∧ RV K H u a ∧ RV K H v b ∧ Mm.Lt k a ∧ Mm.Lt l b ∧ k + l ≤ 100000 ∧ Q (.bl (decide (a < b))) H
abbrev s_lowest : Stmt := (topS 14)
theorem sc_lowest : FnScope ["top", "bottom", "by"] ["top", "bottom"] (defScope s_lowest) := C8.fnScope_by (by decide +kernel)
abbrev s_plus : Stmt := (topS 16)
theorem sc_plus : FnScope ["one", "other"] ["one", "other"] (defScope s_plus) := C8.fnScope_by (by decide +kernel)
abbrev s_minus : Stmt := (topS 17)
theorem sc_minus : FnScope ["one", "other"] ["one", "other"] (defScope s_minus) := C8.fnScope_by (by decide +kernel)
abbrev s_times : Stmt := (topS 18)
theorem sc_times : FnScope ["one", "other"] ["one", "other"] (defScope s_times) := C8.fnScope_by (by decide +kernel)
abbrev s_inverse : Stmt := (topS 19)
theorem sc_inverse : FnScope ["one"] ["one"] (defScope s_inverse) := C8.fnScope_by (by decide +kernel)
abbrev s_below : Stmt := (topS 20)
theorem sc_below : FnScope ["one", "other"] ["one", "other"] (defScope s_below) := C8.fnScope_by (by decide +kernel)
section
variable {P : Program} {w : World} {K : PySem.W.Frag} {mg : Str → Option Value} {base : Heap} {f : Addr} {fd : FuncData}
theorem ok_lowest (F : FnP K "lowest" "lowest" s_lowest f fd) (T : Txt K mg) : FnOk P w K mg base C8.CX0 1 f fd ["top", "bottom"] (spLow K) := by
  refine F.ok sc_lowest (fun vs H Q E h => ?_) (fun cdv A outer s H vs Q E hr h => ⟨_, PSs.nox (pss_cons (ps_set (i := 2) sc_lowest.nd rfl (.inl rfl) (pe_callBfun cr_gcd rfl T.f_gcd (pa_cons (pv 0) (pa_cons (pv 1) pa_nil))))
 (pss_one (ps_ret (pe_tup (pa_cons (pe_op op_fdivW (pv 0) (pv 2)) (pa_cons (pe_op op_fdivW (pv 1) (pv 2)) pa_nil)))))), ?_⟩)
  · obtain ⟨t, b, rfl, _⟩ := h
    rfl
  · obtain ⟨t, b, rfl, hb, hz, q⟩ := h
    have g0 : 0 < Nat.gcd t.natAbs b.natAbs := Nat.gcd_pos_of_pos_right _ (by omega)
    have g1 : Nat.gcd t.natAbs b.natAbs ≤ b.natAbs := Nat.le_of_dvd (by omega) (Nat.gcd_dvd_right _ _)
    have hd : CDivW t ((Nat.gcd t.natAbs b.natAbs : Nat) : Int) := wide_div (b := 9000) (by omega) (by rw [Int.natAbs_natCast]; omega) (by decide) (by decide)
    obtain ⟨e1, e2⟩ := Mm.low_ok (t := t) hb
    refine ⟨_, rfl, _, rfl, t, b, rfl, ?_⟩
    refine ⟨_, rfl, _, rfl, _, _, rfl, rfl, hd, _, rfl, _, rfl, _, _, rfl, rfl, hd, by show 2 ≤ sizeLine; decide, fun p np => ?_⟩
    exact q _ _ (Same.new np) (RV.new e1 e2)
theorem ok_plus {lv : Nat} (F : FnP K "plus" "plus" s_plus f fd) (T : Txt K mg) (c_lowest : C8.Cal P w K mg base 1 "lowest" (spLow K) []) : FnOk P w K mg base C8.CX0 2 f fd ["one", "other"] (spPlus K) := by
  refine F.ok sc_plus (fun vs H Q E h => ?_) (fun cdv A outer s H vs Q E hr h => ⟨_, PSs.nox (pss_cons (ps_if (pt_cmpR op_eq (pe_ix (ixK (K := K) rfl) (pv 0) pe_int (fun _ _ => rfl)) (pe_ix (ixK (K := K) rfl) (pv 1) pe_int (fun _ _ => rfl)) (nomark _)) (pss_one (ps_ret (pe_ifExp (pt_cmpR op_eq (pe_ix (ixK (K := K) rfl) (pv 0) pe_int (fun _ _ => rfl)) pe_int (nomark _)) (pe_tup (pa_cons (pe_op op_add (pe_ix (ixK (K := K) rfl) (pv 0) pe_int (fun _ _ => rfl)) (pe_ix (ixK (K := K) rfl) (pv 1) pe_int (fun _ _ => rfl))) (pa_cons pe_int pa_nil))) (C8.pe_c c_lowest hr (by first | decide | omega) rfl (pa_cons (pe_op op_add (pe_ix (ixK (K := K) rfl) (pv 0) pe_int (fun _ _ => rfl)) (pe_ix (ixK (K := K) rfl) (pv 1) pe_int (fun _ _ => rfl))) (pa_cons (pe_ix (ixK (K := K) rfl) (pv 0) pe_int (fun _ _ => rfl)) pa_nil)))))) pss_nil)
 (pss_one (ps_ret (C8.pe_c c_lowest hr (by first | decide | omega) rfl (pa_cons (pe_op op_add (pe_op op_mulW (pe_ix (ixK (K := K) rfl) (pv 0) pe_int (fun _ _ => rfl)) (pe_ix (ixK (K := K) rfl) (pv 1) pe_int (fun _ _ => rfl))) (pe_op op_mulW (pe_ix (ixK (K := K) rfl) (pv 1) pe_int (fun _ _ => rfl)) (pe_ix (ixK (K := K) rfl) (pv 0) pe_int (fun _ _ => rfl)))) (pa_cons (pe_op op_mulW (pe_ix (ixK (K := K) rfl) (pv 0) pe_int (fun _ _ => rfl)) (pe_ix (ixK (K := K) rfl) (pv 1) pe_int (fun _ _ => rfl))) pa_nil)))))), ?_⟩)
  · obtain ⟨_, _, _, _, _, _, rfl, _⟩ := h
    rfl
  · obtain ⟨u, v, a, b, k, l, rfl, ha, hb, sa, sb, hk, q⟩ := h
    have da := Mm.den_pos a
    have db := Mm.den_pos b
    have m1 : CMulW a.num b.den := wide_mul (a := k + 1) (b := l + 1) (Nat.lt_trans sa.1 (Nat.pow_lt_pow_right (by decide) (by omega))) (by rw [Int.natAbs_natCast]; exact Nat.lt_trans sb.2 (Nat.pow_lt_pow_right (by decide) (by omega))) (by omega) (by omega) (by omega)
    have m2 : CMulW b.num a.den := wide_mul (a := l + 1) (b := k + 1) (Nat.lt_trans sb.1 (Nat.pow_lt_pow_right (by decide) (by omega))) (by rw [Int.natAbs_natCast]; exact Nat.lt_trans sa.2 (Nat.pow_lt_pow_right (by decide) (by omega))) (by omega) (by omega) (by omega)
    have m3 : CMulW a.den b.den := wide_mul (a := k + 1) (b := l + 1) (by rw [Int.natAbs_natCast]; exact Nat.lt_trans sa.2 (Nat.pow_lt_pow_right (by decide) (by omega))) (by rw [Int.natAbs_natCast]; exact Nat.lt_trans sb.2 (Nat.pow_lt_pow_right (by decide) (by omega))) (by omega) (by omega) (by omega)
    have z3 : ((a.den : Int) * b.den).natAbs < 2 ^ 9000 := Nat.lt_of_lt_of_le (Mm.mul_natAbs (a := (a.den : Int)) (b := (b.den : Int)) (by rw [Int.natAbs_natCast]; exact sa.2) (by rw [Int.natAbs_natCast]; exact sb.2)) (Nat.pow_le_pow_right (by decide) hk)
    have z1 : (a.den : Int).natAbs < 2 ^ 9000 := by rw [Int.natAbs_natCast]; exact Nat.lt_of_lt_of_le sa.2 (Nat.pow_le_pow_right (by decide) (by omega))
    refine ⟨_, rfl, ix_den ha ⟨_, rfl, ix_den hb ⟨rfl, _, rfl, ?_⟩⟩⟩
    refine ite2 (fun c => ?_) (fun c => ?_)
    · have e : (a.den : Int) = b.den := V.int.inj (of_decide_eq_true c)
      refine ⟨_, rfl, ix_den ha ⟨rfl, _, rfl, ?_⟩⟩
      refine ite2 (fun c1 => ?_) (fun c1 => ?_)
      · have e1 : (a.den : Int) = 1 := V.int.inj (of_decide_eq_true c1)
        refine ⟨_, rfl, ix_num ha ⟨_, rfl, ix_num hb ⟨_, _, rfl, rfl, by show 2 ≤ sizeLine; decide, fun p np => ?_⟩⟩⟩
        have er : a + b = ((a.num + b.num : Int) : Rat) := by
          rw [Rat.intCast_add, ← Mm.eq_int_of_den e1, ← Mm.eq_int_of_den (e ▸ e1)]
        exact q _ _ (Same.new np) (RV.new (by rw [er, Mm.int_num]) (by rw [er, Mm.int_den]))
      · refine ⟨_, rfl, ix_num ha ⟨_, rfl, ix_num hb ⟨_, _, rfl, rfl, _, rfl, ix_den ha ⟨_, _, rfl, da, z1, ?_⟩⟩⟩⟩
        rw [← Mm.add_low_same a b e]
        exact q
    · refine ⟨_, rfl, ix_num ha ⟨_, rfl, ix_den hb ⟨_, _, rfl, rfl, m1, _, rfl, ix_num hb ⟨_, rfl, ix_den ha ⟨_, _, rfl, rfl, m2, _, _, rfl, rfl, _, rfl, ix_den ha ⟨_, rfl, ix_den hb ⟨_, _, rfl, rfl, m3, _, _, rfl, Int.mul_pos da db, z3, ?_⟩⟩⟩⟩⟩⟩⟩
      rw [← Mm.add_low a b]
      exact q
theorem ok_minus (F : FnP K "minus" "minus" s_minus f fd) (T : Txt K mg) (c_plus : C8.Cal P w K mg base 2 "plus" (spPlus K) []) : FnOk P w K mg base C8.CX0 3 f fd ["one", "other"] (spMinus K) := by
  refine F.ok sc_minus (fun vs H Q E h => ?_) (fun cdv A outer s H vs Q E hr h => ⟨_, PSs.nox (pss_one (ps_ret (C8.pe_c c_plus hr (by first | decide | omega) rfl (pa_cons (pv 0) (pa_cons (pe_tup (pa_cons (pe_un un_neg (pe_ix (ixK (K := K) rfl) (pv 1) pe_int (fun _ _ => rfl))) (pa_cons (pe_ix (ixK (K := K) rfl) (pv 1) pe_int (fun _ _ => rfl)) pa_nil))) pa_nil))))), ?_⟩)
  · obtain ⟨_, _, _, _, _, _, rfl, _⟩ := h
    rfl
  · obtain ⟨u, v, a, b, k, l, rfl, ha, hb, sa, sb, hk, q⟩ := h
    obtain ⟨e1, e2⟩ := Mm.neg_pair b
    refine ⟨_, rfl, _, rfl, ix_num hb ⟨_, rfl, _, rfl, ix_den hb ⟨by show 2 ≤ sizeLine; decide, fun p np => ?_⟩⟩⟩
    refine ⟨u, .ref p, a, -b, k, l, rfl, ha.mono (Same.new np), RV.new e1 e2, sa, sb.neg, hk, ?_⟩
    rw [← Rat.sub_eq_add_neg]
    exact fun v' H' s' r' => q v' H' ((Same.new np).trans s') r'
theorem ok_times (F : FnP K "times" "times" s_times f fd) (T : Txt K mg) (c_lowest : C8.Cal P w K mg base 1 "lowest" (spLow K) []) : FnOk P w K mg base C8.CX0 2 f fd ["one", "other"] (spTimes K) := by
  refine F.ok sc_times (fun vs H Q E h => ?_) (fun cdv A outer s H vs Q E hr h => ⟨_, PSs.nox (pss_cons (ps_if (PW.pt (pw_and (pt_cmpR op_eq (pe_ix (ixK (K := K) rfl) (pv 0) pe_int (fun _ _ => rfl)) pe_int (nomark _)) (pw_and1 (pt_cmpR op_eq (pe_ix (ixK (K := K) rfl) (pv 1) pe_int (fun _ _ => rfl)) pe_int (nomark _))))) (pss_one (ps_ret (pe_tup (pa_cons (pe_op op_mulW (pe_ix (ixK (K := K) rfl) (pv 0) pe_int (fun _ _ => rfl)) (pe_ix (ixK (K := K) rfl) (pv 1) pe_int (fun _ _ => rfl))) (pa_cons pe_int pa_nil))))) pss_nil)
 (pss_one (ps_ret (C8.pe_c c_lowest hr (by first | decide | omega) rfl (pa_cons (pe_op op_mulW (pe_ix (ixK (K := K) rfl) (pv 0) pe_int (fun _ _ => rfl)) (pe_ix (ixK (K := K) rfl) (pv 1) pe_int (fun _ _ => rfl))) (pa_cons (pe_op op_mulW (pe_ix (ixK (K := K) rfl) (pv 0) pe_int (fun _ _ => rfl)) (pe_ix (ixK (K := K) rfl) (pv 1) pe_int (fun _ _ => rfl))) pa_nil)))))), ?_⟩)
  · obtain ⟨_, _, _, _, _, _, rfl, _⟩ := h
    rfl
  · obtain ⟨u, v, a, b, k, l, rfl, ha, hb, sa, sb, hk, q⟩ := h
    have da := Mm.den_pos a
    have db := Mm.den_pos b
    have m1 : CMulW a.num b.num := wide_mul (a := k + 1) (b := l + 1) (Nat.lt_trans sa.1 (Nat.pow_lt_pow_right (by decide) (by omega))) (Nat.lt_trans sb.1 (Nat.pow_lt_pow_right (by decide) (by omega))) (by omega) (by omega) (by omega)
    have m3 : CMulW a.den b.den := wide_mul (a := k + 1) (b := l + 1) (by rw [Int.natAbs_natCast]; exact Nat.lt_trans sa.2 (Nat.pow_lt_pow_right (by decide) (by omega))) (by rw [Int.natAbs_natCast]; exact Nat.lt_trans sb.2 (Nat.pow_lt_pow_right (by decide) (by omega))) (by omega) (by omega) (by omega)
    have z3 : ((a.den : Int) * b.den).natAbs < 2 ^ 9000 := Nat.lt_of_lt_of_le (Mm.mul_natAbs (a := (a.den : Int)) (b := (b.den : Int)) (by rw [Int.natAbs_natCast]; exact sa.2) (by rw [Int.natAbs_natCast]; exact sb.2)) (Nat.pow_le_pow_right (by decide) hk)
    have q3 : RetR K H Q (((a.num * b.num : Int) : Rat) / (((a.den : Int) * b.den : Int) : Rat)) := by
      rw [← Mm.mul_low a b]; exact q
    refine ⟨_, rfl, ix_den ha ⟨rfl, _, rfl, ?_⟩⟩
    refine ite2 (fun c => ?_) (fun c => ?_)
    · refine ⟨_, rfl, ix_den hb ⟨rfl, _, rfl, ?_⟩⟩
      refine ite2 (fun c1 => ?_) (fun c1 => ?_)
      · have e1 : (a.den : Int) = 1 := V.int.inj (of_decide_eq_true c)
        have e2 : (b.den : Int) = 1 := V.int.inj (of_decide_eq_true c1)
        refine ⟨_, rfl, ix_num ha ⟨_, rfl, ix_num hb ⟨_, _, rfl, rfl, m1, by show 2 ≤ sizeLine; decide, fun p np => ?_⟩⟩⟩
        have er : a * b = ((a.num * b.num : Int) : Rat) := by
          rw [Rat.intCast_mul, ← Mm.eq_int_of_den e1, ← Mm.eq_int_of_den e2]
        exact q _ _ (Same.new np) (RV.new (by rw [er, Mm.int_num]) (by rw [er, Mm.int_den]))
      · exact ⟨_, rfl, ix_num ha ⟨_, rfl, ix_num hb ⟨_, _, rfl, rfl, m1, _, rfl, ix_den ha ⟨_, rfl, ix_den hb ⟨_, _, rfl, rfl, m3, _, _, rfl, Int.mul_pos da db, z3, q3⟩⟩⟩⟩⟩
    · exact ⟨_, rfl, ix_num ha ⟨_, rfl, ix_num hb ⟨_, _, rfl, rfl, m1, _, rfl, ix_den ha ⟨_, rfl, ix_den hb ⟨_, _, rfl, rfl, m3, _, _, rfl, Int.mul_pos da db, z3, q3⟩⟩⟩⟩⟩
theorem ok_inverse (F : FnP K "inverse" "inverse" s_inverse f fd) (T : Txt K mg) : FnOk P w K mg base C8.CX0 1 f fd ["one"] (spInverse K) := by
  refine F.ok sc_inverse (fun vs H Q E h => ?_) (fun cdv A outer s H vs Q E hr h => ⟨_, PSs.nox (pss_one (ps_ret (pe_ifExp (pt_cmpR op_gt (pe_ix (ixK (K := K) rfl) (pv 0) pe_int (fun _ _ => rfl)) pe_int (nomark _)) (pe_tup (pa_cons (pe_ix (ixK (K := K) rfl) (pv 0) pe_int (fun _ _ => rfl)) (pa_cons (pe_ix (ixK (K := K) rfl) (pv 0) pe_int (fun _ _ => rfl)) pa_nil))) (pe_tup (pa_cons (pe_un un_neg (pe_ix (ixK (K := K) rfl) (pv 0) pe_int (fun _ _ => rfl))) (pa_cons (pe_un un_neg (pe_ix (ixK (K := K) rfl) (pv 0) pe_int (fun _ _ => rfl))) pa_nil)))))), ?_⟩)
  · obtain ⟨_, _, rfl, _⟩ := h
    rfl
  · obtain ⟨u, a, rfl, ha, h0, q⟩ := h
    have e := Mm.inv_num h0
    refine ⟨_, rfl, ix_num ha ⟨_, _, rfl, rfl, _, rfl, ?_⟩⟩
    refine ite2 (fun c => ?_) (fun c => ?_)
    · rw [if_pos (of_decide_eq_true c)] at e
      exact ⟨_, rfl, ix_den ha ⟨_, rfl, ix_num ha ⟨by show 2 ≤ sizeLine; decide, fun p np => q _ _ (Same.new np) (RV.new e.1 e.2)⟩⟩⟩
    · rw [if_neg (fun z => c (decide_eq_true z))] at e
      exact ⟨_, rfl, ix_den ha ⟨_, rfl, _, rfl, ix_num ha ⟨_, rfl, by show 2 ≤ sizeLine; decide, fun p np => q _ _ (Same.new np) (RV.new e.1 e.2)⟩⟩⟩
theorem ok_below (F : FnP K "below" "below" s_below f fd) (T : Txt K mg) : FnOk P w K mg base C8.CX0 1 f fd ["one", "other"] (spBelow K) := by
  refine F.ok sc_below (fun vs H Q E h => ?_) (fun cdv A outer s H vs Q E hr h => ⟨_, PSs.nox (pss_one (ps_ret (pe_cmpR op_lt (pe_op op_mulW (pe_ix (ixK (K := K) rfl) (pv 0) pe_int (fun _ _ => rfl)) (pe_ix (ixK (K := K) rfl) (pv 1) pe_int (fun _ _ => rfl))) (pe_op op_mulW (pe_ix (ixK (K := K) rfl) (pv 1) pe_int (fun _ _ => rfl)) (pe_ix (ixK (K := K) rfl) (pv 0) pe_int (fun _ _ => rfl))) (nomark _)))), ?_⟩)
  · obtain ⟨_, _, _, _, _, _, rfl, _⟩ := h
    rfl
  · obtain ⟨u, v, a, b, k, l, rfl, ha, hb, sa, sb, hk, q⟩ := h
    have m1 : CMulW a.num b.den := wide_mul (a := k + 1) (b := l + 1) (Nat.lt_trans sa.1 (Nat.pow_lt_pow_right (by decide) (by omega))) (by rw [Int.natAbs_natCast]; exact Nat.lt_trans sb.2 (Nat.pow_lt_pow_right (by decide) (by omega))) (by omega) (by omega) (by omega)
    have m2 : CMulW b.num a.den := wide_mul (a := l + 1) (b := k + 1) (Nat.lt_trans sb.1 (Nat.pow_lt_pow_right (by decide) (by omega))) (by rw [Int.natAbs_natCast]; exact Nat.lt_trans sa.2 (Nat.pow_lt_pow_right (by decide) (by omega))) (by omega) (by omega) (by omega)
    refine ⟨_, rfl, ix_num ha ⟨_, rfl, ix_den hb ⟨_, _, rfl, rfl, m1, _, rfl, ix_num hb ⟨_, rfl, ix_den ha ⟨_, _, rfl, rfl, m2, _, _, rfl, rfl, ?_⟩⟩⟩⟩⟩
    have e : decide (a.num * (b.den : Int) < b.num * (a.den : Int)) = decide (a < b) := by
      rw [Bool.eq_iff_iff, decide_eq_true_iff, decide_eq_true_iff, Mm.lt_pair]
    show Q (.bl (decide (a.num * (b.den : Int) < b.num * (a.den : Int)))) _
    rw [e]
    exact q
end
end MM
namespace MM
open PySem PySem.Spec PyProof.Rows L2
/-! ### lists of ratios -/
def RL (K : PySem.W.Frag) (H : Hp) (vs : List V) (rs : List Rat) : Prop := vs.length = rs.length ∧ ∀ (i : Nat) (r : Rat), rs[i]? = some r → ∃ v, vs[i]? = some v ∧ RV K H v r
def SR (k : Bool) (K : PySem.W.Frag) (H : Hp) (a : Addr) (rs : List Rat) : Prop := ∃ vs, SqK k K H a vs ∧ RL K H vs rs
section
variable {K : PySem.W.Frag} {H H' : Hp} {vs : List V} {rs : List Rat} {v : V} {r : Rat} {a : Addr} {k : Bool}
theorem SqK.mono {xs : List V} (h : SqK k K H a xs) (e : Same H H') : SqK k K H' a xs := by
  cases k with
  | true => exact e.seq h
  | false => exact Same.tup e h
theorem RL.mono (h : RL K H vs rs) (e : Same H H') : RL K H' vs rs := ⟨h.1, fun i r hr => by
  obtain ⟨v, h1, h2⟩ := h.2 i r hr
  exact ⟨v, h1, h2.mono e⟩⟩
theorem SR.mono (h : SR k K H a rs) (e : Same H H') : SR k K H' a rs := by
  obtain ⟨vs, h1, h2⟩ := h
  exact ⟨vs, h1.mono e, h2.mono e⟩
theorem RL.nil : RL K H [] [] := ⟨rfl, fun i r h => by simp at h⟩
theorem RL.at (h : RL K H vs rs) {i : Nat} (hi : i < rs.length) : ∃ v, vs[i]? = some v ∧ RV K H v rs[i] := h.2 i _ (List.getElem?_eq_getElem hi)
theorem RL.of_v (h : RL K H vs rs) {i : Nat} (e : vs[i]? = some v) : ∃ r, rs[i]? = some r ∧ RV K H v r := by
  have hi : i < rs.length := by rw [← h.1]; exact (List.getElem?_eq_some_iff.mp e).1
  obtain ⟨w, h1, h2⟩ := h.at hi
  rw [e] at h1
  cases h1
  exact ⟨_, List.getElem?_eq_getElem hi, h2⟩
theorem RL.snoc (h : RL K H vs rs) (hv : RV K H v r) : RL K H (vs ++ [v]) (rs ++ [r]) := by
  refine ⟨by rw [List.length_append, List.length_append, h.1]; rfl, fun i q e => ?_⟩
  by_cases c : i < rs.length
  · rw [List.getElem?_append_left c] at e
    rw [List.getElem?_append_left (by rw [h.1]; exact c)]
    exact h.2 i q e
  · rw [List.getElem?_append_right (by omega)] at e
    have : i - rs.length = 0 := by
      have := (List.getElem?_eq_some_iff.mp e).1
      simp at this
      omega
    rw [this] at e
    cases e
    rw [List.getElem?_append_right (by rw [h.1]; omega), h.1, this]
    exact ⟨v, rfl, hv⟩
theorem RL.set (h : RL K H vs rs) (hv : RV K H v r) (i : Nat) : RL K H (vs.set i v) (rs.set i r) := by
  refine ⟨by rw [List.length_set, List.length_set, h.1], fun j q e => ?_⟩
  by_cases c : i = j
  · subst c
    have hi : i < rs.length := by
      have := (List.getElem?_eq_some_iff.mp e).1
      rw [List.length_set] at this
      exact this
    rw [List.getElem?_set_self hi] at e
    cases e
    exact ⟨v, List.getElem?_set_self (by rw [h.1]; exact hi), hv⟩
  · rw [List.getElem?_set_ne c] at e
    rw [List.getElem?_set_ne c]
    exact h.2 j q e
theorem RL.take (h : RL K H vs rs) (n : Nat) : RL K H (vs.take n) (rs.take n) := by
  refine ⟨by rw [List.length_take, List.length_take, h.1], fun i q e => ?_⟩
  rw [List.getElem?_take] at e ⊢
  split at e
  · rename_i c
    rw [if_pos c]
    exact h.2 i q e
  · cases e
theorem RL.drop (h : RL K H vs rs) (n : Nat) : RL K H (vs.drop n) (rs.drop n) := by
  refine ⟨by rw [List.length_drop, List.length_drop, h.1], fun i q e => ?_⟩
  rw [List.getElem?_drop] at e ⊢
  exact h.2 _ q e
theorem RL.append {ws : List V} {qs : List Rat} (h : RL K H vs rs) (h' : RL K H ws qs) : RL K H (vs ++ ws) (rs ++ qs) := by
  refine ⟨by rw [List.length_append, List.length_append, h.1, h'.1], fun i q e => ?_⟩
  by_cases c : i < rs.length
  · rw [List.getElem?_append_left c] at e
    rw [List.getElem?_append_left (by rw [h.1]; exact c)]
    exact h.2 i q e
  · rw [List.getElem?_append_right (by omega)] at e
    rw [List.getElem?_append_right (by rw [h.1]; omega), h.1]
    exact h'.2 _ q e
theorem RL.cons (hv : RV K H v r) (h : RL K H vs rs) : RL K H (v :: vs) (r :: rs) := RL.append (vs := [v]) (rs := [r]) (RL.snoc RL.nil hv) h
theorem tyx_tup {t : Addr} {xs : List V} (h : SqT K H t xs) : TyX K H (.ref t) (.type "tuple") := by
  rcases h with (h | ⟨o, h⟩) | ⟨o, its, n, h1, h2, _⟩
  · exact .base (.tup h)
  · exact .fTuple h
  · exact .kTuple h1 h2
theorem tyx_lst {t : Addr} {xs : List V} (h : SqL K H t xs) : TyX K H (.ref t) (.type "list") := by
  rcases h with (h | ⟨o, h⟩) | ⟨o, its, n, h1, h2, _⟩
  · exact .base (.lst h)
  · exact .base (.frz h)
  · exact .kList h1 h2
theorem isi_ty {x : V} {a b : String} {c : Bool} {Q : VK} (t : TyX K H x (.type a)) (e : kitB a b = some c) (q : Q (.bl c) H) : rIsi K [x, .ty b] H Q := ⟨x, .ty b, _, _, c, rfl, .ty b, t, kit_ty e, q⟩
end
/-- a new list of ratios handed back -/
def RetL (K : PySem.W.Frag) (H : Hp) (Q : VK) (rs : List Rat) : Prop := ∀ p vs H', Same H H' → H p = none → H' p = some (.lst vs) → RL K H' vs rs → Q (.ref p) H'
/-- a truth, some new objects -/
def RetB (H : Hp) (Q : VK) (b : Bool) : Prop := ∀ H', Same H H' → Q (.bl b) H'

/-- a row: factors, bound, strict -/
structure PRow where
  f : List Rat
  b : Rat
  s : Bool
/-- v is such a row, its factors a list (true) or a tuple -/
def RowV (k : Bool) (K : PySem.W.Frag) (H : Hp) (v : V) (r : PRow) : Prop := ∃ t a vb, v = .ref t ∧ SqT K H t [.ref a, vb, .bl r.s] ∧ SR k K H a r.f ∧ RV K H vb r.b
theorem RowV.mono {k : Bool} {K : PySem.W.Frag} {H H' : Hp} {v : V} {r : PRow} (h : RowV k K H v r) (e : Same H H') : RowV k K H' v r := by
  obtain ⟨t, a, vb, rfl, h1, h2, h3⟩ := h
  exact ⟨t, a, vb, rfl, Same.tup e h1, h2.mono e, h3.mono e⟩

def spWhole (K : PySem.W.Frag) : Sp := fun vs H Q _ => ∃ v, vs = [v] ∧ ((∃ i, v = .int i ∧ Q (.bl true) H) ∨ (∃ t xs, v = .ref t ∧ SqT K H t xs ∧ Q (.bl false) H))
def spNumber : Sp := fun vs H Q _ => ∃ a b c : Int, vs = [.int a, .int b, .int c] ∧ b ≤ a ∧ a ≤ c ∧ Q (.bl true) H
def spRatio (K : PySem.W.Frag) : Sp := fun vs H Q _ => ∃ v r, vs = [v] ∧ RV K H v r ∧ Q (.bl true) H
def spRatioOf (K : PySem.W.Frag) : Sp := fun vs H Q _ => ∃ v r, vs = [v] ∧ RV K H v r ∧ Q v H
abbrev s_is_whole : Stmt := (topS 10)
theorem sc_is_whole : FnScope ["value"] ["value"] (defScope s_is_whole) := C8.fnScope_by (by decide +kernel)
abbrev s_is_number : Stmt := (topS 11)
theorem sc_is_number : FnScope ["value", "least", "most"] ["value", "least", "most"] (defScope s_is_number) := C8.fnScope_by (by decide +kernel)
abbrev s_is_ratio : Stmt := (topS 12)
theorem sc_is_ratio : FnScope ["value"] ["value"] (defScope s_is_ratio) := C8.fnScope_by (by decide +kernel)
abbrev s_is_valued : Stmt := (topS 13)
theorem sc_is_valued : FnScope ["value"] ["value"] (defScope s_is_valued) := C8.fnScope_by (by decide +kernel)
abbrev s_ratio_of : Stmt := (topS 15)
theorem sc_ratio_of : FnScope ["value"] ["value"] (defScope s_ratio_of) := C8.fnScope_by (by decide +kernel)
section
variable {P : Program} {w : World} {K : PySem.W.Frag} {mg : Str → Option Value} {base : Heap} {f : Addr} {fd : FuncData}
theorem ok_is_whole (F : FnP K "is_whole" "is_whole" s_is_whole f fd) (T : Txt K mg) : FnOk P w K mg base C8.CX0 1 f fd ["value"] (spWhole K) := by
  refine F.ok sc_is_whole (fun vs H Q E h => ?_) (fun cdv A outer s H vs Q E hr h => ⟨_, PSs.nox (pss_one (ps_ret (pe_and (pe_callB (isiK (K := K) rfl) rfl T.f_isinstance (by decide +kernel) (pa_cons (pv 0) (pa_cons (pe_bltn (v := .ty "int") rfl T.f_int (by decide +kernel) rfl) pa_nil))) (pe_one (pe_not (pe_callB (isiK (K := K) rfl) rfl T.f_isinstance (by decide +kernel) (pa_cons (pv 0) (pa_cons (pe_bltn (v := .ty "bool") rfl T.f_bool (by decide +kernel) rfl) pa_nil)))))))), ?_⟩)
  · obtain ⟨_, rfl, _⟩ := h
    rfl
  · obtain ⟨v, rfl, h⟩ := h
    rcases h with ⟨i, rfl, q⟩ | ⟨t, xs, rfl, ht, q⟩
    · exact ⟨_, rfl, _, _, _, _, true, rfl, .ty "int", (.base (.int i)), kit_ty (by decide +kernel), _, rfl, iteT ⟨_, rfl, _, _, _, _, false, rfl, .ty "bool", (.base (.int i)), kit_ty (by decide +kernel), _, rfl, q⟩⟩
    · exact ⟨_, rfl, _, _, _, _, false, rfl, .ty "int", (tyx_tup ht), kit_ty (by decide +kernel), _, rfl, iteF q⟩
theorem ok_is_number (F : FnP K "is_number" "is_number" s_is_number f fd) (T : Txt K mg) (c_is_whole : C8.Cal P w K mg base 1 "is_whole" (spWhole K) []) : FnOk P w K mg base C8.CX0 2 f fd ["value", "least", "most"] spNumber := by
  refine F.ok sc_is_number (fun vs H Q E h => ?_) (fun cdv A outer s H vs Q E hr h => ⟨_, PSs.nox (pss_one (ps_ret (pe_and (C8.pe_c c_is_whole hr (by first | decide | omega) rfl (pa_cons (pv 0) pa_nil)) (pe_one (pe_chain op_le op_le (pv 1) (pv 0) (pv 2)))))), ?_⟩)
  · obtain ⟨_, _, _, rfl, _⟩ := h
    rfl
  · obtain ⟨a, b, c, rfl, h1, h2, q⟩ := h
    refine ⟨_, rfl, _, rfl, .inl ⟨_, rfl, _, rfl, iteT ⟨_, rfl, _, rfl, _, _, rfl, rfl, _, rfl, ?_⟩⟩⟩
    rw [if_pos (decide_eq_true h1)]
    refine ⟨_, rfl, _, _, rfl, rfl, ?_⟩
    show Q (.bl (decide (a ≤ c))) H
    rw [decide_eq_true h2]
    exact q
theorem ok_is_ratio (F : FnP K "is_ratio" "is_ratio" s_is_ratio f fd) (T : Txt K mg) (c_is_whole : C8.Cal P w K mg base 1 "is_whole" (spWhole K) []) : FnOk P w K mg base C8.CX0 2 f fd ["value"] (spRatio K) := by
  refine F.ok sc_is_ratio (fun vs H Q E h => ?_) (fun cdv A outer s H vs Q E hr h => ⟨_, PSs.nox (pss_cons (ps_if (PW.pt (pw_or (pt_not (pt_val (pe_callB (isiK (K := K) rfl) rfl T.f_isinstance (by decide +kernel) (pa_cons (pv 0) (pa_cons (pe_bltn (v := .ty "tuple") rfl T.f_tuple (by decide +kernel) rfl) pa_nil))))) (pw_or (pt_cmpR op_ne (pe_callB (lenK (K := K) rfl) rfl T.f_len (by decide +kernel) (pa_cons (pv 0) pa_nil)) pe_int (nomark _)) (pw_or (pt_not (pt_val (C8.pe_c c_is_whole hr (by first | decide | omega) rfl (pa_cons (pe_ix (ixK (K := K) rfl) (pv 0) pe_int (fun _ _ => rfl)) pa_nil)))) (pw_or1 (pt_not (pt_val (C8.pe_c c_is_whole hr (by first | decide | omega) rfl (pa_cons (pe_ix (ixK (K := K) rfl) (pv 0) pe_int (fun _ _ => rfl)) pa_nil))))))))) (pss_one (ps_ret pe_bl)) pss_nil)
 (pss_one (ps_ret (pe_and (pe_cmpR op_ge (pe_ix (ixK (K := K) rfl) (pv 0) pe_int (fun _ _ => rfl)) pe_int (nomark _)) (pe_one (pe_cmpR op_eq (pe_callBfun cr_gcd rfl T.f_gcd (pa_cons (pe_ix (ixK (K := K) rfl) (pv 0) pe_int (fun _ _ => rfl)) (pa_cons (pe_ix (ixK (K := K) rfl) (pv 0) pe_int (fun _ _ => rfl)) pa_nil))) pe_int (nomark _))))))), ?_⟩)
  · obtain ⟨_, _, rfl, _⟩ := h
    rfl
  · obtain ⟨v, r, rfl, hv, q⟩ := h
    obtain ⟨t, rfl, ht⟩ := id hv
    have d1 : (1 : Int) ≤ (r.den : Int) := Mm.den_pos r
    have g1 : ((Nat.gcd r.num.natAbs (r.den : Int).natAbs : Nat) : Int) = 1 := by
      rw [Int.natAbs_natCast]
      have := r.reduced
      rw [Nat.Coprime] at this
      rw [this]; rfl
    refine ⟨_, rfl, _, _, _, _, true, rfl, .ty "tuple", (tyx_tup ht), kit_ty (by decide +kernel), _, rfl, iteF ⟨_, rfl, _, _, rfl, .inr ht, rfl, _, rfl, iteF ⟨_, rfl, ix_num hv ⟨_, rfl, .inl ⟨_, rfl, _, rfl, iteF ⟨_, rfl, ix_den hv ⟨_, rfl, .inl ⟨_, rfl, _, rfl, iteF ?_⟩⟩⟩⟩⟩⟩⟩⟩
    refine ⟨_, rfl, ix_den hv ⟨_, _, rfl, rfl, _, rfl, ?_⟩⟩
    rw [if_pos (decide_eq_true d1)]
    refine ⟨_, rfl, ix_num hv ⟨_, rfl, ix_den hv ⟨_, _, rfl, rfl, ?_⟩⟩⟩
    rw [g1]
    exact q
theorem ok_is_valued (F : FnP K "is_valued" "is_valued" s_is_valued f fd) (T : Txt K mg) (c_is_whole : C8.Cal P w K mg base 1 "is_whole" (spWhole K) []) (c_is_ratio : C8.Cal P w K mg base 2 "is_ratio" (spRatio K) []) : FnOk P w K mg base C8.CX0 3 f fd ["value"] (spRatio K) := by
  refine F.ok sc_is_valued (fun vs H Q E h => ?_) (fun cdv A outer s H vs Q E hr h => ⟨_, PSs.nox (pss_one (ps_ret (pe_or (C8.pe_c c_is_whole hr (by first | decide | omega) rfl (pa_cons (pv 0) pa_nil)) (pe_one (C8.pe_c c_is_ratio hr (by first | decide | omega) rfl (pa_cons (pv 0) pa_nil)))))), ?_⟩)
  · obtain ⟨_, _, rfl, _⟩ := h
    rfl
  · obtain ⟨v, r, rfl, hv, q⟩ := h
    obtain ⟨t, rfl, ht⟩ := id hv
    exact ⟨_, rfl, _, rfl, .inr ⟨t, _, rfl, ht, _, rfl, iteF ⟨_, rfl, _, r, rfl, hv, q⟩⟩⟩
theorem ok_ratio_of (F : FnP K "ratio_of" "ratio_of" s_ratio_of f fd) (T : Txt K mg) (c_is_whole : C8.Cal P w K mg base 1 "is_whole" (spWhole K) []) (c_is_ratio : C8.Cal P w K mg base 2 "is_ratio" (spRatio K) []) : FnOk P w K mg base C8.CX0 3 f fd ["value"] (spRatioOf K) := by
  refine F.ok sc_ratio_of (fun vs H Q E h => ?_) (fun cdv A outer s H vs Q E hr h => ⟨_, PSs.nox (pss_cons (ps_if (pt_val (C8.pe_c c_is_whole hr (by first | decide | omega) rfl (pa_cons (pv 0) pa_nil))) (pss_one (ps_ret (pe_tup (pa_cons (pv 0) (pa_cons pe_int pa_nil))))) pss_nil)
 (pss_cons (ps_if (pt_not (pt_val (C8.pe_c c_is_ratio hr (by first | decide | omega) rfl (pa_cons (pv 0) pa_nil)))) (pss_one ps_never) pss_nil)
 (pss_one (ps_ret (pv 0))))), ?_⟩)
  · obtain ⟨_, _, rfl, _⟩ := h
    rfl
  · obtain ⟨v, r, rfl, hv, q⟩ := h
    obtain ⟨t, rfl, ht⟩ := id hv
    exact ⟨_, rfl, _, rfl, .inr ⟨t, _, rfl, ht, _, rfl, iteF ⟨_, rfl, _, r, rfl, hv, _, rfl, iteF ⟨_, rfl, q⟩⟩⟩⟩
end
end MM
namespace MM
open PySem PySem.Spec PyProof.Rows L2
/-! ### what a change of lists leaves -/
/-- tuples and known things stay -/
def TS (H H' : Hp) : Prop := (∀ b xs, H b = some (.tup xs) → H' b = some (.tup xs)) ∧ ∀ b o u, H b = some (.frz o u) → H' b = some (.frz o u)
theorem TS.of {H H' : Hp} (e : Same H H') : TS H H' := ⟨fun b xs h => e _ _ h, fun b o u h => e _ _ h⟩
theorem TS.trans {H H1 H2 : Hp} (a : TS H H1) (b : TS H1 H2) : TS H H2 := ⟨fun c xs h => b.1 _ _ (a.1 _ _ h), fun c o u h => b.2 _ _ _ (a.2 _ _ _ h)⟩
theorem TS.lst {H : Hp} {D : Addr} {xs : List V} {o : HO} (h : H D = some (.lst xs)) : TS H (upd H D o) :=
  ⟨fun b ys e => by rw [upd_ne (ne_of e h (fun z => by cases z))]; exact e, fun b o' u e => by rw [upd_ne (ne_of e h (fun z => by cases z))]; exact e⟩
theorem TS.ins {H : Hp} {D C dx : Addr} {fs : List (Str × V)} {o : HO} (h : H D = some (.ins C dx fs)) : TS H (upd H D o) :=
  ⟨fun b ys e => by rw [upd_ne (ne_of e h (fun z => by cases z))]; exact e, fun b o' u e => by rw [upd_ne (ne_of e h (fun z => by cases z))]; exact e⟩
theorem TS.tup {K : PySem.W.Frag} {H H' : Hp} {a : Addr} {xs : List V} (e : TS H H') (h : SqT K H a xs) : SqT K H' a xs := by
  rcases h with (h | ⟨o, h⟩) | h
  · exact .inl (.inl (e.1 _ _ h))
  · exact .inl (.inr ⟨o, e.2 _ _ _ h⟩)
  · exact .inr h
theorem RV.ts {K : PySem.W.Frag} {H H' : Hp} {v : V} {r : Rat} (h : RV K H v r) (e : TS H H') : RV K H' v r := by
  obtain ⟨a, rfl, h⟩ := h
  exact ⟨a, rfl, e.tup h⟩
theorem RL.ts {K : PySem.W.Frag} {H H' : Hp} {vs : List V} {rs : List Rat} (h : RL K H vs rs) (e : TS H H') : RL K H' vs rs := ⟨h.1, fun i r hr => by
  obtain ⟨v, h1, h2⟩ := h.2 i r hr
  exact ⟨v, h1, h2.ts e⟩⟩
/-- an object that was not there may change -/
theorem Same.mut {H H' : Hp} {p : Addr} {o : HO} (e : Same H H') (h : H p = none) : Same H (upd H' p o) := fun b x hb => by
  rw [upd_ne (ne_of_none hb h)]
  exact e _ _ hb
/-- the list that grows in a comprehension -/
def Grow (K : PySem.W.Frag) (H : Hp) (D : Addr) (rs : List Rat) (i : Nat) (H' : Hp) : Prop := Same H H' ∧ ∃ acc, H' D = some (.lst acc) ∧ RL K H' acc (rs.take i)
theorem Grow.zero {K : PySem.W.Frag} {H : Hp} {D : Addr} {rs : List Rat} (h : H D = none) : Grow K H D rs 0 (upd H D (.lst [])) := ⟨Same.new h, [], upd_same, by rw [List.take_zero]; exact RL.nil⟩
theorem take_snoc {α : Type} {l : List α} {i : Nat} {x : α} (h : l[i]? = some x) : l.take (i + 1) = l.take i ++ [x] := by
  rw [List.take_add_one, h]
  rfl
theorem Grow.step {K : PySem.W.Frag} {H H' H4 : Hp} {D : Addr} {rs : List Rat} {i : Nat} {y : V} {r : Rat} (hD : H D = none) (g : Grow K H D rs i H') (e : Same H' H4) (hr : rs[i]? = some r) (hy : RV K H4 y r) (hz : rs.length ≤ 100000) :
    ∃ acc, H4 D = some (.lst acc) ∧ acc.length < sizeLine ∧ Grow K H D rs (i + 1) (upd H4 D (.lst (acc ++ [y]))) := by
  obtain ⟨s, acc, h1, h2⟩ := g
  have h3 := e _ _ h1
  refine ⟨acc, h3, ?_, Same.mut (s.trans e) hD, acc ++ [y], upd_same, ?_⟩
  · rw [h2.1, List.length_take]
    exact Nat.lt_of_le_of_lt (Nat.le_trans (Nat.min_le_right _ _) hz) (by decide)
  · rw [take_snoc hr]
    exact ((h2.mono e).snoc hy).ts (TS.lst h3)
theorem Grow.done {K : PySem.W.Frag} {H H' : Hp} {D : Addr} {rs : List Rat} {i : Nat} (g : Grow K H D rs i H') (hi : rs.length ≤ i) : Same H H' ∧ ∃ acc, H' D = some (.lst acc) ∧ RL K H' acc rs := by
  obtain ⟨s, acc, h1, h2⟩ := g
  rw [List.take_of_length_le hi] at h2
  exact ⟨s, acc, h1, h2⟩

theorem tyes {σ : L2.St} {H : Hp} {A B : Hp → Prop} (h : A H) : tYes σ H (fun b H3 => if b = true then A H3 else B H3) := by
  show if true = true then A H else B H
  rw [if_pos rfl]; exact h
/-! ### dot -/
def psum (xs ys : List Rat) (i : Nat) : Rat := Mm.sm (fun j => xs.getD j 0 * ys.getD j 0) i
def spDot (K : PySem.W.Frag) : Sp := fun vs H Q _ => ∃ (k1 k2 : Bool) (a b : Addr) (xs ys : List Rat) (kx ky ks : Nat), vs = [.ref a, .ref b] ∧ SR k1 K H a xs ∧ SR k2 K H b ys ∧ xs.length = ys.length ∧
  (∀ x ∈ xs, Mm.Lt kx x) ∧ (∀ y ∈ ys, Mm.Lt ky y) ∧ (∀ i, i ≤ xs.length → Mm.Lt ks (psum xs ys i)) ∧ ks + (kx + ky) ≤ 9000 ∧ RetR K H Q (psum xs ys xs.length)
abbrev s_dot : Stmt := (topS 21)
theorem sc_dot : FnScope ["one", "other", "found", "left", "right"] ["one", "other"] (defScope s_dot) := C8.fnScope_by (by decide +kernel)
abbrev s_exchanged : Stmt := (topS 24)
theorem sc_exchanged : FnScope ["cells", "fresh", "col", "factor", "found", "one", "other"] ["cells", "fresh", "col"] (defScope s_exchanged) := C8.fnScope_by (by decide +kernel)
abbrev s_least_weights : Stmt := (topS 25)
theorem sc_least_weights : FnScope ["size", "rows", "weights", "factors", "row", "at"] ["size", "rows", "weights"] (defScope s_least_weights) := C8.fnScope_by (by decide +kernel)
abbrev s_is_row : Stmt := (topS 28)
theorem sc_is_row : FnScope ["value", "size", "factor"] ["value", "size"] (defScope s_is_row) := C8.fnScope_by (by decide +kernel)
abbrev s_are_ratios : Stmt := (topS 30)
theorem sc_are_ratios : FnScope ["value", "many", "one"] ["value", "many"] (defScope s_are_ratios) := C8.fnScope_by (by decide +kernel)
abbrev s_own_copy : Stmt := (topS 31)
theorem sc_own_copy : FnScope ["value", "one"] ["value"] (defScope s_own_copy) := C8.fnScope_by (by decide +kernel)
abbrev s_as_list : Stmt := (topS 32)
theorem sc_as_list : FnScope ["value", "one"] ["value"] (defScope s_as_list) := C8.fnScope_by (by decide +kernel)
section
variable {P : Program} {w : World} {K : PySem.W.Frag} {mg : Str → Option Value} {base : Heap} {f : Addr} {fd : FuncData}
theorem getD_of {xs : List Rat} {i : Nat} {x : Rat} (h : xs[i]? = some x) : xs.getD i 0 = x := by
  rw [List.getD_eq_getElem?_getD, h]; rfl
theorem ne_num {r : Rat} : (!decide (V.int r.num = V.int 0)) = !decide (r = 0) := by
  congr 1
  rw [Bool.eq_iff_iff, decide_eq_true_iff, decide_eq_true_iff, Mm.zero_num]
  exact ⟨fun h => V.int.inj h, fun h => by rw [h]⟩
theorem ok_dot (F : FnP K "dot" "dot" s_dot f fd) (T : Txt K mg) (c_plus : C8.Cal P w K mg base 2 "plus" (spPlus K) []) (c_times : C8.Cal P w K mg base 2 "times" (spTimes K) []) : FnOk P w K mg base C8.CX0 3 f fd ["one", "other"] (spDot K) := by
  refine F.ok sc_dot (fun vs H Q E h => ?_) (fun cdv A outer s H vs Q E hr h => ⟨_, PSs.nox (pss_cons (ps_set (i := 2) sc_dot.nd rfl (.inl rfl) (C8.pe_gc rfl T.gZ))
 (pss_cons (ps_for PassesOwn.never rfl (piZipK (K := K) rfl rfl T.f_zip (pa_cons (pv 0) (pa_cons (pv 1) pa_nil))) (pgTupK (K := K) rfl rfl (pgs_cons (pg_name (i := 3) sc_dot.nd rfl (.inl rfl)) (pgs_cons (pg_name (i := 4) sc_dot.nd rfl (.inl rfl)) pgs_nil))) (pss_one (ps_if (PW.pt (pw_and (pt_cmpR op_ne (pe_ix (ixK (K := K) rfl) (pv 3) pe_int (fun _ _ => rfl)) pe_int (nomark _)) (pw_and1 (pt_cmpR op_ne (pe_ix (ixK (K := K) rfl) (pv 4) pe_int (fun _ _ => rfl)) pe_int (nomark _))))) (pss_one (ps_set (i := 2) sc_dot.nd rfl (.inl rfl) (C8.pe_c c_plus hr (by first | decide | omega) rfl (pa_cons (pv 2) (pa_cons (C8.pe_c c_times hr (by first | decide | omega) rfl (pa_cons (pv 3) (pa_cons (pv 4) pa_nil))) pa_nil))))) pss_nil)))
 (pss_one (ps_ret (pv 2))))), ?_⟩)
  · obtain ⟨_, _, _, _, _, _, _, _, _, rfl, _⟩ := h
    rfl
  · obtain ⟨k1, k2, a, b, xs, ys, kx, ky, ks, rfl, ⟨vx, hx, rx⟩, ⟨vy, hy, ry⟩, hl, bx, by', bs, hk, q⟩ := h
    refine ⟨_, rfl, _, rfl, k1, k2, a, b, vx, vy, rfl, hx, hy, for_zipG (K := K) (by rw [rx.1, ry.1, hl]) (fun i σ H' => ∃ vf l r, σ = [some (.ref a), some (.ref b), some vf, l, r] ∧ Same H H' ∧ RV K H' vf (psum xs ys i))
      ⟨_, none, none, rfl, Same.refl H, T.rZ H⟩ (fun i σ H' ⟨_, _, _, _, s, _⟩ => ⟨hx.mono s, hy.mono s⟩) ?_ ?_⟩
    · rintro i u v t σ H' hu hv ⟨vf, l, r, rfl, sm, rf⟩ nt
      obtain ⟨x, ex, hux⟩ := rx.of_v hu
      obtain ⟨y, ey, hvy⟩ := ry.of_v hv
      have s1 : Same H' (upd H' t (.tup [u, v])) := Same.new nt
      have s2 := sm.trans s1
      have hux' := hux.mono s2
      have hvy' := hvy.mono s2
      have est : psum xs ys (i + 1) = psum xs ys i + x * y := by
        unfold psum
        show Mm.sm _ i + xs.getD i 0 * ys.getD i 0 = _
        rw [getD_of ex, getD_of ey]
      have hi : i < xs.length := (List.getElem?_eq_some_iff.mp ex).1
      refine ⟨t, [u, v], rfl, .inl (.inl upd_same), rfl, u, [v], rfl, v, [], rfl, rfl, ?_⟩
      refine ⟨_, rfl, ix_num hux' ⟨rfl, _, rfl, ?_⟩⟩
      rw [ne_num]
      by_cases cx : x = 0
      · rw [decide_eq_true cx]
        refine iteF (iteF ⟨vf, some u, some v, rfl, s2, ?_⟩)
        rw [est, cx, Rat.zero_mul, Rat.add_zero]
        exact rf.mono s1
      · rw [decide_eq_false cx]
        refine iteT ⟨_, rfl, ix_num hvy' ⟨rfl, _, rfl, ?_⟩⟩
        rw [ne_num]
        by_cases cy : y = 0
        · rw [decide_eq_true cy]
          refine iteF ⟨vf, some u, some v, rfl, s2, ?_⟩
          rw [est, cy, Rat.mul_zero, Rat.add_zero]
          exact rf.mono s1
        · rw [decide_eq_false cy]
          have lx := bx x (List.mem_of_getElem? ex)
          have ly := by' y (List.mem_of_getElem? ey)
          refine iteT ⟨_, rfl, _, rfl, _, rfl, u, v, x, y, kx, ky, rfl, hux', hvy', lx, ly, by omega, fun vt H1 e1 r1 => ?_⟩
          refine ⟨vf, vt, _, _, ks, kx + ky, rfl, (rf.mono s1).mono e1, r1, bs i (by omega), lx.mul ly, hk, fun vp H2 e2 r2 => ?_⟩
          exact ⟨vp, some u, some v, rfl, (s2.trans e1).trans e2, by rw [est]; exact r2⟩
    · rintro σ H' ⟨vf, l, r, rfl, sm, rf⟩
      exact ⟨_, rfl, q vf H' sm (by rw [rx.1] at rf; exact rf)⟩
/-! ### exchanged -/
def exR (rs fs : List Rat) (col : Nat) : List Rat := if rs.getD col 0 = 0 then rs else (List.zipWith (fun x y => x + rs.getD col 0 * y) rs fs).set col (rs.getD col 0 * fs.getD col 0)
def spExch (K : PySem.W.Frag) : Sp := fun vs H Q _ => ∃ (a b : Addr) (rs fs : List Rat) (col kc kf : Nat), vs = [.ref a, .ref b, .int col] ∧ SR true K H a rs ∧ SR true K H b fs ∧ rs.length = fs.length ∧ col < rs.length ∧ rs.length ≤ 1000 ∧
  (∀ x ∈ rs, Mm.Lt kc x) ∧ (∀ y ∈ fs, Mm.Lt kf y) ∧ kc + (kc + kf) ≤ 9000 ∧ ∀ p H', Same H H' → ((p = a ∧ exR rs fs col = rs) ∨ (H p = none ∧ ∃ vs, H' p = some (.lst vs) ∧ RL K H' vs (exR rs fs col))) → Q (.ref p) H'
theorem eq_num {r : Rat} : decide (V.int r.num = V.int 0) = decide (r = 0) := by
  rw [Bool.eq_iff_iff, decide_eq_true_iff, decide_eq_true_iff, Mm.zero_num]
  exact ⟨fun h => V.int.inj h, fun h => by rw [h]⟩
theorem ok_exchanged (F : FnP K "exchanged" "exchanged" s_exchanged f fd) (T : Txt K mg) (c_plus : C8.Cal P w K mg base 2 "plus" (spPlus K) []) (c_times : C8.Cal P w K mg base 2 "times" (spTimes K) []) : FnOk P w K mg base C8.CX0 3 f fd ["cells", "fresh", "col"] (spExch K) := by
  refine F.ok sc_exchanged (fun vs H Q E h => ?_) (fun cdv A outer s H vs Q E hr h => ⟨_, PSs.nox (pss_cons (ps_set (i := 3) sc_exchanged.nd rfl (.inr rfl) (pe_ix (ixK (K := K) rfl) (pv 0) (pv 2) (fun _ _ => rfl)))
 (pss_cons (ps_if (pt_cmpR op_eq (pe_ix (ixK (K := K) rfl) (pv 3) pe_int (fun _ _ => rfl)) pe_int (nomark _)) (pss_one (ps_ret (pv 0))) pss_nil)
 (pss_cons (ps_setLc (i := 4) (own := [("one", 5), ("other", 6)]) (g := (gTup K 2 (gCons (gName 5) (gCons (gName 6) gNil)))) (tt := tYes) rfl sc_exchanged.nd rfl rfl (sw_true rfl rfl rfl (by decide +kernel)) (piZipK (K := K) rfl rfl T.f_zip (pa_cons (pv 0) (pa_cons (pv 1) pa_nil))) (blkOk_by (own := [("one", 5), ("other", 6)]) (by kernel_rfl)) (fun _ _ _ _ _ => (pgTupK (K := K) rfl rfl (pgs_cons (pg_name (i := 5) sc_exchanged.nd rfl (.inl rfl)) (pgs_cons (pg_name (i := 6) sc_exchanged.nd rfl (.inl rfl)) pgs_nil)))) (fun _ _ _ _ _ => pts_nil) (fun _ _ _ _ _ => (pe_ifExp (pt_cmpR op_ne (pe_ix (ixK (K := K) rfl) (pv 6) pe_int (fun _ _ => rfl)) pe_int (nomark _)) (C8.pe_c c_plus hr (by first | decide | omega) rfl (pa_cons (pv 5) (pa_cons (C8.pe_c c_times hr (by first | decide | omega) rfl (pa_cons (pv 3) (pa_cons (pv 6) pa_nil))) pa_nil))) (pv 5))))
 (pss_cons (ps_asg (C8.pe_c c_times hr (by first | decide | omega) rfl (pa_cons (pv 3) (pa_cons (pe_ix (ixK (K := K) rfl) (pv 1) (pv 2) (fun _ _ => rfl)) pa_nil))) (pg_sub (pv 4) (pv 2) set_list))
 (pss_one (ps_ret (pv 4))))))), ?_⟩)
  · obtain ⟨_, _, _, _, _, _, _, rfl, _⟩ := h
    rfl
  · obtain ⟨a, b, rs, fs, col, kc, kf, rfl, ⟨vx, hx, rx⟩, ⟨vy, hy, ry⟩, hl, hc, hz, bc, bf, hk, q⟩ := h
    obtain ⟨vc, evc, hvc⟩ := rx.at hc
    have gc : rs.getD col 0 = rs[col] := getD_of (List.getElem?_eq_getElem hc)
    refine ⟨_, rfl, _, rfl, ix_l rfl hx evc ?_⟩
    refine ⟨_, rfl, ix_num hvc ⟨rfl, _, rfl, ?_⟩⟩
    rw [eq_num]
    by_cases c0 : rs[col] = 0
    · rw [decide_eq_true c0]
      refine iteT ⟨_, rfl, q a H (Same.refl H) (.inl ⟨rfl, ?_⟩)⟩
      unfold exR
      rw [gc, if_pos c0]
    · rw [decide_eq_false c0]
      have lc := bc _ (List.getElem_mem hc)
      let zs : List Rat := List.zipWith (fun x y => x + rs[col] * y) rs fs
      have lz : zs.length = rs.length := by
        show (List.zipWith _ rs fs).length = _
        rw [List.length_zipWith, hl, Nat.min_self]
      refine iteF ⟨_, rfl, _, rfl, true, true, a, b, vx, vy, rfl, hx, hy, fun D nD => ?_⟩
      refine lc_zipG (K := K) (by rw [rx.1, ry.1, hl]) (Grow K H D zs) (Grow.zero nD) (fun i H' g => ⟨hx.mono g.1, hy.mono g.1⟩) ?_ ?_
      · rintro i u v t H' hu hv g nt
        obtain ⟨x, ex, hux⟩ := rx.of_v hu
        obtain ⟨y, ey, hvy⟩ := ry.of_v hv
        have s1 : Same H' (upd H' t (.tup [u, v])) := Same.new nt
        have s2 := g.1.trans s1
        have hux' := hux.mono s2
        have hvy' := hvy.mono s2
        have ez : zs[i]? = some (x + rs[col] * y) := by
          show (List.zipWith _ rs fs)[i]? = _
          rw [List.getElem?_zipWith, ex, ey]
        refine ⟨t, [u, v], rfl, .inl (.inl upd_same), rfl, u, [v], rfl, v, [], rfl, rfl, rfl, tyes ?_⟩
        refine ⟨_, rfl, ix_num hvy' ⟨rfl, _, rfl, ?_⟩⟩
        rw [ne_num]
        by_cases cy : y = 0
        · rw [decide_eq_true cy]
          refine iteF ⟨_, rfl, ?_⟩
          refine g.step nD s1 ez ?_ (by omega)
          rw [cy, Rat.mul_zero, Rat.add_zero]
          exact hux'
        · rw [decide_eq_false cy]
          have lx := bc x (List.mem_of_getElem? ex)
          have ly := bf y (List.mem_of_getElem? ey)
          refine iteT ⟨_, rfl, _, rfl, _, rfl, vc, v, _, y, kc, kf, rfl, hvc.mono s2, hvy', lc, ly, by omega, fun vt H1 e1 r1 => ?_⟩
          refine ⟨u, vt, _, _, kc, kc + kf, rfl, hux'.mono e1, r1, lx, lc.mul ly, hk, fun vp H2 e2 r2 => ?_⟩
          exact g.step nD ((s1.trans e1).trans e2) ez r2 (by omega)
      · intro H' g
        obtain ⟨sm, acc, hD, hacc⟩ := g.done (by rw [lz, rx.1]; exact Nat.le_refl _)
        obtain ⟨vf, evf, hvf⟩ := ry.at (show col < fs.length by omega)
        have lf := bf _ (List.getElem_mem (show col < fs.length by omega))
        -- found[col] = times(factor, fresh[col])
        refine ⟨_, rfl, _, rfl, _, rfl, ix_l rfl (hy.mono sm) evf ⟨vc, vf, _, _, kc, kf, rfl, hvc.mono sm, hvf.mono sm, lc, lf, by omega, fun vt H1 e1 r1 => ?_⟩⟩
        have hD1 := e1 _ _ hD
        refine ⟨_, rfl, _, rfl, D, acc, _, col, rfl, rfl, hD1, ?_, _, rfl, ?_⟩
        · unfold ixN
          rw [if_pos (by omega), if_pos (by rw [hacc.1, lz]; omega)]
          rfl
        · refine q D _ (Same.mut (sm.trans e1) nD) (.inr ⟨nD, _, upd_same, ?_⟩)
          unfold exR
          rw [gc, if_neg c0]
          have eg : fs.getD col 0 = fs[col] := getD_of (List.getElem?_eq_getElem (by omega))
          rw [eg]
          exact ((hacc.mono e1).set r1 col).ts (TS.lst hD1)
end
end MM
namespace MM
open PySem PySem.Spec PyProof.Rows L2
/-! ### rows -/
def RowsL (k : Bool) (K : PySem.W.Frag) (H : Hp) (vs : List V) (rs : List PRow) : Prop := vs.length = rs.length ∧ ∀ (i : Nat) (r : PRow), rs[i]? = some r → ∃ v, vs[i]? = some v ∧ RowV k K H v r
def RowsAt (k : Bool) (K : PySem.W.Frag) (H : Hp) (a : Addr) (rs : List PRow) : Prop := ∃ vs, SqL K H a vs ∧ RowsL k K H vs rs
section
variable {K : PySem.W.Frag} {H H' : Hp} {vs : List V} {rs : List PRow} {v : V} {r : PRow} {a : Addr} {k : Bool}
theorem RowsL.mono (h : RowsL k K H vs rs) (e : Same H H') : RowsL k K H' vs rs := ⟨h.1, fun i r hr => by
  obtain ⟨v, h1, h2⟩ := h.2 i r hr
  exact ⟨v, h1, h2.mono e⟩⟩
theorem RowsAt.mono (h : RowsAt k K H a rs) (e : Same H H') : RowsAt k K H' a rs := by
  obtain ⟨vs, h1, h2⟩ := h
  exact ⟨vs, e.seq h1, h2.mono e⟩
theorem RowsL.of_v (h : RowsL k K H vs rs) {i : Nat} (e : vs[i]? = some v) : ∃ r, rs[i]? = some r ∧ RowV k K H v r := by
  have hi : i < rs.length := by rw [← h.1]; exact (List.getElem?_eq_some_iff.mp e).1
  obtain ⟨w, h1, h2⟩ := h.2 i _ (List.getElem?_eq_getElem hi)
  rw [e] at h1
  cases h1
  exact ⟨_, List.getElem?_eq_getElem hi, h2⟩
end
/-- a column of the factors -/
def colR (rs : List PRow) (j : Nat) : List Rat := rs.map fun r => r.f.getD j 0
def bndR (rs : List PRow) : List Rat := rs.map fun r => r.b
def spLeast (K : PySem.W.Frag) : Sp := fun vs H Q _ => ∃ (n : Nat) (a b : Addr) (rs : List PRow) (ws : List Rat) (kw ka ks : Nat), vs = [.int n, .ref a, .ref b] ∧ RowsAt false K H a rs ∧ SR true K H b ws ∧ ws.length = rs.length ∧ n ≤ 1000 ∧ rs.length ≤ 1000 ∧
  (∀ r ∈ rs, r.f.length = n) ∧ (∀ x ∈ ws, Mm.Lt kw x) ∧ (∀ r ∈ rs, Mm.Lt ka r.b ∧ ∀ x ∈ r.f, Mm.Lt ka x) ∧ 0 < ka ∧ (∀ j i, i ≤ rs.length → Mm.Lt ks (psum ws (colR rs j) i)) ∧ (∀ i, i ≤ rs.length → Mm.Lt ks (psum ws (bndR rs) i)) ∧ ks + (kw + ka) ≤ 9000 ∧
  ∀ p q vb H', Same H H' → SqT K H' p [.ref q, vb] → SR true K H' q ((List.range n).map fun j => psum ws (colR rs j) rs.length) → RV K H' vb (psum ws (bndR rs) rs.length) → Q (.ref p) H'
theorem zero_lt {k : Nat} (h : 0 < k) : Mm.Lt k 0 := ⟨Nat.pow_pos (by decide), by show 1 < 2 ^ k; exact Nat.one_lt_two_pow (by omega)⟩
section
variable {P : Program} {w : World} {K : PySem.W.Frag} {mg : Str → Option Value} {base : Heap} {f : Addr} {fd : FuncData}
theorem ok_least_weights (F : FnP K "least_weights" "least_weights" s_least_weights f fd) (T : Txt K mg) (c_dot : C8.Cal P w K mg base 3 "dot" (spDot K) []) : FnOk P w K mg base C8.CX0 4 f fd ["size", "rows", "weights"] (spLeast K) := by
  refine F.ok sc_least_weights (fun vs H Q E h => ?_) (fun cdv A outer s H vs Q E hr h => ⟨_, PSs.nox (pss_cons (ps_setLc (i := 3) (own := [("at", 5)]) (g := (gName 5)) (tt := tYes) rfl sc_least_weights.nd rfl rfl (sw_true rfl rfl rfl (by decide +kernel)) (pi_range1 rfl T.f_range (pa_cons (pv 0) pa_nil)) (blkOk_by (own := [("at", 5)]) (by kernel_rfl)) (fun _ _ _ _ _ => (pg_name (i := 5) sc_least_weights.nd rfl (.inr rfl))) (fun _ _ _ _ _ => pts_nil) (fun _ _ _ _ _ => (C8.pe_c c_dot hr (by first | decide | omega) rfl (pa_cons (pv 2) (pa_cons (pe_lc (own := [("row", 4)]) (g := (gName 4)) (tt := tYes) rfl sc_least_weights.nd (piListK (K := K) rfl (pv 1)) (blkOk_by (own := [("row", 4)]) (by kernel_rfl)) (fun _ _ _ _ _ => (pg_name (i := 4) sc_least_weights.nd rfl (.inl rfl))) (fun _ _ _ _ _ => pts_nil) (fun _ _ _ _ _ => (pe_ix (ixK (K := K) rfl) (pe_ix (ixK (K := K) rfl) (pv 4) pe_int (fun _ _ => rfl)) (pv 5) (fun _ _ => rfl)))) pa_nil)))))
 (pss_one (ps_ret (pe_tup (pa_cons (pv 3) (pa_cons (C8.pe_c c_dot hr (by first | decide | omega) rfl (pa_cons (pv 2) (pa_cons (pe_lc (own := [("row", 4)]) (g := (gName 4)) (tt := tYes) rfl sc_least_weights.nd (piListK (K := K) rfl (pv 1)) (blkOk_by (own := [("row", 4)]) (by kernel_rfl)) (fun _ _ _ _ _ => (pg_name (i := 4) sc_least_weights.nd rfl (.inl rfl))) (fun _ _ _ _ _ => pts_nil) (fun _ _ _ _ _ => (pe_ix (ixK (K := K) rfl) (pv 4) pe_int (fun _ _ => rfl)))) pa_nil))) pa_nil)))))), ?_⟩)
  · obtain ⟨_, _, _, _, _, _, _, _, rfl, _⟩ := h
    rfl
  · obtain ⟨n, a, b, rs, ws, kw, ka, ks, rfl, ⟨vr, hr', rr⟩, hw, hlw, hn, hz, hfl, bw, ba, ka0, bc, bb, hk, q⟩ := h
    have bcol : ∀ j, ∀ x ∈ colR rs j, Mm.Lt ka x := fun j x hx => by
      obtain ⟨r, hr, rfl⟩ := List.mem_map.mp hx
      rw [List.getD_eq_getElem?_getD]
      cases e : r.f[j]? with
      | none => exact zero_lt ka0
      | some y => exact (ba r hr).2 y (List.mem_of_getElem? e)
    have bbnd : ∀ x ∈ bndR rs, Mm.Lt ka x := fun x hx => by
      obtain ⟨r, hr, rfl⟩ := List.mem_map.mp hx
      exact (ba r hr).1
    have lcol : ∀ j, (colR rs j).length = rs.length := fun j => List.length_map ..
    have lbnd : (bndR rs).length = rs.length := List.length_map ..
    let zs : List Rat := (List.range n).map fun j => psum ws (colR rs j) rs.length
    have lz : zs.length = n := by
      show ((List.range n).map _).length = n
      rw [List.length_map, List.length_range]
    refine ⟨_, rfl, n, rfl, by omega, by omega, fun D nD => ?_⟩
    refine lc_range (lo := 0) (n := n) (Grow K H D zs) (Grow.zero nD) ?_ ?_
    · intro j H' hj g
      refine ⟨rfl, tyes ⟨_, rfl, _, rfl, a, rfl, ⟨_, g.1.seq hr'⟩, fun D2 nD2 => ?_⟩⟩
      refine lc_list (K := K) (a := a) (xs := vr) (Grow K H' D2 (colR rs j)) (Grow.zero nD2) (fun i H2 _ g2 => g2.1.seq (g.1.seq hr')) ?_ ?_
      · intro i v H2 hv g2
        obtain ⟨r, er, t, ta, vb, rfl, ht, ⟨vf, hf, rf⟩, hb⟩ := rr.of_v hv
        have s2 := g.1.trans g2.1
        have hmem := List.mem_of_getElem? er
        obtain ⟨vx, evx, hvx⟩ := rf.at (show j < r.f.length by rw [hfl r hmem]; exact hj)
        refine ⟨rfl, tyes ⟨_, rfl, ix_t (j := 0) rfl (Same.tup s2 ht) rfl ⟨_, rfl, ix_t (j := j) (by omega) (Same.tup s2 hf) evx ?_⟩⟩⟩
        refine g2.step nD2 (Same.refl _) ?_ (hvx.mono s2) (by rw [lcol]; omega)
        show (rs.map _)[i]? = _
        rw [List.getElem?_map, er]
        show some (r.f.getD j 0) = _
        rw [getD_of (List.getElem?_eq_getElem (by rw [hfl r hmem]; exact hj))]
      · intro H2 g2
        obtain ⟨s2, acc, hD2, hacc⟩ := g2.done (by rw [lcol, ← rr.1]; exact Nat.le_refl _)
        refine ⟨true, true, b, D2, ws, colR rs j, kw, ka, ks, rfl, hw.mono (g.1.trans s2), ⟨acc, SqL.of hD2, hacc⟩, by rw [lcol]; exact hlw, bw, bcol j, fun i hi => bc j i (by omega), hk, fun v H3 s3 r3 => ?_⟩
        refine g.step nD (s2.trans s3) ?_ r3 (by omega)
        show ((List.range n).map _)[j]? = _
        rw [List.getElem?_map, List.getElem?_range hj]
        show some _ = some _
        rw [hlw]
    · intro H' g
      obtain ⟨s1, acc, hD, hacc⟩ := g.done (by omega)
      refine ⟨_, rfl, _, rfl, _, rfl, a, rfl, ⟨_, s1.seq hr'⟩, fun D2 nD2 => ?_⟩
      refine lc_list (K := K) (a := a) (xs := vr) (Grow K H' D2 (bndR rs)) (Grow.zero nD2) (fun i H2 _ g2 => g2.1.seq (s1.seq hr')) ?_ ?_
      · intro i v H2 hv g2
        obtain ⟨r, er, t, ta, vb, rfl, ht, _, hb⟩ := rr.of_v hv
        have s2 := s1.trans g2.1
        refine ⟨rfl, tyes ⟨_, rfl, ix_t (j := 1) rfl (Same.tup s2 ht) rfl ?_⟩⟩
        refine g2.step nD2 (Same.refl _) ?_ (hb.mono s2) (by rw [lbnd]; omega)
        show (rs.map _)[i]? = _
        rw [List.getElem?_map, er]
        rfl
      · intro H2 g2
        obtain ⟨s2, acc2, hD2, hacc2⟩ := g2.done (by rw [lbnd, ← rr.1]; exact Nat.le_refl _)
        refine ⟨true, true, b, D2, ws, bndR rs, kw, ka, ks, rfl, hw.mono (s1.trans s2), ⟨acc2, SqL.of hD2, hacc2⟩, by rw [lbnd]; exact hlw, bw, bbnd, fun i hi => bb i (by omega), hk, fun v H3 s3 r3 => ?_⟩
        refine ⟨by show 2 ≤ sizeLine; decide, fun p np => ?_⟩
        have s4 := (s2.trans s3).trans (Same.new (o := .tup [.ref D, v]) np)
        refine q p D v _ (s1.trans s4) (SqT.of upd_same) ⟨acc, SqL.of (s4 _ _ hD), hacc.mono s4⟩ ?_
        rw [← hlw]
        exact r3.mono (Same.new np)
end
/-! ### what a row is, copies -/
def spIsRow (K : PySem.W.Frag) : Sp := fun vs H Q _ => ∃ v r, vs = [v, .int (r.f.length : Nat)] ∧ RowV true K H v r ∧ r.f.length ≤ 1000 ∧ RetB H Q true
def spAreR (K : PySem.W.Frag) : Sp := fun vs H Q _ => ∃ (a : Addr) (rs : List Rat), vs = [.ref a, .int (rs.length : Nat)] ∧ SR true K H a rs ∧ rs.length ≤ 1000 ∧ (∀ x ∈ rs, 0 ≤ x) ∧ RetB H Q true
def spCopy (K : PySem.W.Frag) (b : Bool) : Sp := fun vs H Q _ => ∃ v, vs = [v] ∧ ((∃ i, v = .int i ∧ Q v H) ∨ (b = true ∧ ∃ r, RV K H v r ∧ RetR K H Q r))
def spAsList (K : PySem.W.Frag) : Sp := fun vs H Q _ => ∃ (a : Addr) (rs : List Rat), vs = [.ref a] ∧ SR true K H a rs ∧ rs.length ≤ 1000 ∧ RetL K H Q rs
/-- the list of truths that grows -/
def GrowT (H : Hp) (D : Addr) (i : Nat) (H' : Hp) : Prop := Same H H' ∧ H' D = some (.lst ((List.replicate i true).map V.bl))
theorem GrowT.zero {H : Hp} {D : Addr} (h : H D = none) : GrowT H D 0 (upd H D (.lst [])) := ⟨Same.new h, upd_same⟩
theorem GrowT.step {H H' H4 : Hp} {D : Addr} {i : Nat} (hD : H D = none) (g : GrowT H D i H') (e : Same H' H4) (hz : i ≤ 100000) :
    ∃ acc, H4 D = some (.lst acc) ∧ acc.length < sizeLine ∧ GrowT H D (i + 1) (upd H4 D (.lst (acc ++ [.bl true]))) := by
  refine ⟨_, e _ _ g.2, ?_, Same.mut (g.1.trans e) hD, ?_⟩
  · rw [List.length_map, List.length_replicate]
    exact Nat.lt_of_le_of_lt hz (by decide)
  · rw [upd_same, List.replicate_succ', List.map_append]
    rfl
theorem all_true (n : Nat) : (List.replicate n true).all id = true := by
  rw [List.all_eq_true]
  intro x hx
  rw [(List.mem_replicate.mp hx).2]
  rfl
section
variable {P : Program} {w : World} {K : PySem.W.Frag} {mg : Str → Option Value} {base : Heap} {f : Addr} {fd : FuncData}
theorem kit_lt_l : PySem.W.kitAny K (.type "list") [.type "list", .type "tuple"] = some true := kitAny_cons (b := true) (kit_ty (by decide +kernel)) (fun z => by cases z) fun _ => rfl
theorem kit_lt_t : PySem.W.kitAny K (.type "tuple") [.type "list", .type "tuple"] = some true := kitAny_cons (b := false) (kit_ty (by decide +kernel)) (fun _ => kitAny_cons (b := true) (kit_ty (by decide +kernel)) (fun z => by cases z) fun _ => rfl) fun z => by cases z
theorem pair_lt : Paired ClsV [V.ty "list", V.ty "tuple"] [Value.type "list", Value.type "tuple"] := .cons (.ty _) (.cons (.ty _) .nil)
theorem TyX.mono {K : PySem.W.Frag} {H H' : Hp} {a : Addr} {xs : List V} (s : Same H H') (h : SqL K H a xs) : TyX K H' (.ref a) (.type "list") := tyx_lst (s.seq h)
theorem ok_is_row (F : FnP K "is_row" "is_row" s_is_row f fd) (T : Txt K mg) (c_is_valued : C8.Cal P w K mg base 3 "is_valued" (spRatio K) []) : FnOk P w K mg base C8.CX0 4 f fd ["value", "size"] (spIsRow K) := by
  refine F.ok sc_is_row (fun vs H Q E h => ?_) (fun cdv A outer s H vs Q E hr h => ⟨_, PSs.nox (pss_cons (ps_if (PW.pt (pw_or (pt_not (pt_val (pe_callB (isiK (K := K) rfl) rfl T.f_isinstance (by decide +kernel) (pa_cons (pv 0) (pa_cons (pe_bltn (v := .ty "tuple") rfl T.f_tuple (by decide +kernel) rfl) pa_nil))))) (pw_or (pt_cmpR op_ne (pe_callB (lenK (K := K) rfl) rfl T.f_len (by decide +kernel) (pa_cons (pv 0) pa_nil)) pe_int (nomark _)) (pw_or1 (pt_not (pt_val (pe_callB (isiTK (K := K) rfl) rfl T.f_isinstance (by decide +kernel) (pa_cons (pe_ix (ixK (K := K) rfl) (pv 0) pe_int (fun _ _ => rfl)) (pa_cons (pe_tup (pa_cons (pe_bltn (v := .ty "list") rfl T.f_list (by decide +kernel) rfl) (pa_cons (pe_bltn (v := .ty "tuple") rfl T.f_tuple (by decide +kernel) rfl) pa_nil))) pa_nil))))))))) (pss_one (ps_ret pe_bl)) pss_nil)
 (pss_cons (ps_if (PW.pt (pw_or (pt_cmpR op_ne (pe_callB (lenK (K := K) rfl) rfl T.f_len (by decide +kernel) (pa_cons (pe_ix (ixK (K := K) rfl) (pv 0) pe_int (fun _ _ => rfl)) pa_nil)) (pv 1) (nomark _)) (pw_or1 (pt_not (pt_val (pe_callB (allK (K := K) rfl rfl) rfl T.f_all (by decide +kernel) (pa_cons (pe_lc (own := [("factor", 2)]) (g := (gName 2)) (tt := tYes) rfl sc_is_row.nd (piListK (K := K) rfl (pe_ix (ixK (K := K) rfl) (pv 0) pe_int (fun _ _ => rfl))) (blkOk_by (own := [("factor", 2)]) (by kernel_rfl)) (fun _ _ _ _ _ => (pg_name (i := 2) sc_is_row.nd rfl (.inl rfl))) (fun _ _ _ _ _ => pts_nil) (fun _ _ _ _ _ => (C8.pe_c c_is_valued hr (by first | decide | omega) rfl (pa_cons (pv 2) pa_nil)))) pa_nil))))))) (pss_one (ps_ret pe_bl)) pss_nil)
 (pss_one (ps_ret (pe_and (C8.pe_c c_is_valued hr (by first | decide | omega) rfl (pa_cons (pe_ix (ixK (K := K) rfl) (pv 0) pe_int (fun _ _ => rfl)) pa_nil)) (pe_one (pe_callB (isiK (K := K) rfl) rfl T.f_isinstance (by decide +kernel) (pa_cons (pe_ix (ixK (K := K) rfl) (pv 0) pe_int (fun _ _ => rfl)) (pa_cons (pe_bltn (v := .ty "bool") rfl T.f_bool (by decide +kernel) rfl) pa_nil))))))))), ?_⟩)
  · obtain ⟨_, _, rfl, _⟩ := h
    rfl
  · obtain ⟨v, r, rfl, ⟨t, a, vb, rfl, ht, ⟨vf, hf, rf⟩, hb⟩, hz, q⟩ := h
    have hf : SqL K H a vf := hf
    refine ⟨_, rfl, _, _, _, _, true, rfl, .ty "tuple", tyx_tup ht, kit_ty (by decide +kernel), _, rfl, iteF ⟨_, rfl, _, _, rfl, .inr ht, rfl, _, rfl, iteF ⟨_, rfl, ix_t (j := 0) rfl ht rfl ?_⟩⟩⟩
    refine ⟨by show 2 ≤ sizeLine; decide, fun p np => ?_⟩
    have s1 : Same H (upd H p (.tup [.ty "list", .ty "tuple"])) := Same.new np
    refine ⟨_, p, _, _, _, true, rfl, upd_same, pair_lt, TyX.mono s1 hf, kit_lt_l, _, rfl, iteF ?_⟩
    have ht1 := Same.tup s1 ht
    have hf1 := s1.seq hf
    refine ⟨_, rfl, ix_t (j := 0) rfl ht1 rfl ⟨_, _, rfl, .inl hf1, _, rfl, ?_⟩⟩
    refine ⟨by rw [rf.1]; rfl, _, rfl, ?_⟩
    rw [rf.1, decide_eq_true rfl]
    refine iteF ⟨_, rfl, ix_t (j := 0) rfl ht1 rfl ⟨a, rfl, ⟨_, hf1⟩, fun D nD => ?_⟩⟩
    refine lc_list (K := K) (a := a) (xs := vf) (GrowT (upd H p (.tup [.ty "list", .ty "tuple"])) D) (GrowT.zero nD) (fun i H2 _ g => g.1.seq hf1) ?_ ?_
    · intro i u H2 hu g
      obtain ⟨x, ex, hux⟩ := rf.of_v hu
      have hi := (List.getElem?_eq_some_iff.mp ex).1
      exact ⟨rfl, tyes ⟨_, rfl, _, x, rfl, hux.mono (s1.trans g.1), g.step nD (Same.refl _) (by omega)⟩⟩
    · intro H2 g
      have s2 := s1.trans g.1
      refine ⟨D, _, rfl, SqL.of g.2, _, rfl, ?_⟩
      rw [all_true]
      refine iteF ⟨_, rfl, ix_t (j := 1) rfl (Same.tup s2 ht) rfl ⟨_, r.b, rfl, hb.mono s2, _, rfl, iteT ?_⟩⟩
      refine ⟨_, rfl, ix_t (j := 2) rfl (Same.tup s2 ht) rfl ⟨_, _, _, _, true, rfl, .ty "bool", .base (.bl _), kit_ty (by decide +kernel), q _ s2⟩⟩
theorem ok_are_ratios (F : FnP K "are_ratios" "are_ratios" s_are_ratios f fd) (T : Txt K mg) (c_is_ratio : C8.Cal P w K mg base 2 "is_ratio" (spRatio K) []) : FnOk P w K mg base C8.CX0 3 f fd ["value", "many"] (spAreR K) := by
  refine F.ok sc_are_ratios (fun vs H Q E h => ?_) (fun cdv A outer s H vs Q E hr h => ⟨_, PSs.nox (pss_cons (ps_if (PW.pt (pw_or (pt_not (pt_val (pe_callB (isiTK (K := K) rfl) rfl T.f_isinstance (by decide +kernel) (pa_cons (pv 0) (pa_cons (pe_tup (pa_cons (pe_bltn (v := .ty "list") rfl T.f_list (by decide +kernel) rfl) (pa_cons (pe_bltn (v := .ty "tuple") rfl T.f_tuple (by decide +kernel) rfl) pa_nil))) pa_nil))))) (pw_or1 (pt_cmpR op_ne (pe_callB (lenK (K := K) rfl) rfl T.f_len (by decide +kernel) (pa_cons (pv 0) pa_nil)) (pv 1) (nomark _))))) (pss_one (ps_ret pe_bl)) pss_nil)
 (pss_one (ps_ret (pe_callB (allK (K := K) rfl rfl) rfl T.f_all (by decide +kernel) (pa_cons (pe_lc (own := [("one", 2)]) (g := (gName 2)) (tt := tYes) rfl sc_are_ratios.nd (piListK (K := K) rfl (pv 0)) (blkOk_by (own := [("one", 2)]) (by kernel_rfl)) (fun _ _ _ _ _ => (pg_name (i := 2) sc_are_ratios.nd rfl (.inl rfl))) (fun _ _ _ _ _ => pts_nil) (fun _ _ _ _ _ => (pe_and (C8.pe_c c_is_ratio hr (by first | decide | omega) rfl (pa_cons (pv 2) pa_nil)) (pe_one (pe_cmpR op_ge (pe_ix (ixK (K := K) rfl) (pv 2) pe_int (fun _ _ => rfl)) pe_int (nomark _)))))) pa_nil))))), ?_⟩)
  · obtain ⟨_, _, rfl, _⟩ := h
    rfl
  · obtain ⟨a, rs, rfl, ⟨vf, hf, rf⟩, hz, hp, q⟩ := h
    have hf : SqL K H a vf := hf
    refine ⟨_, rfl, by show 2 ≤ sizeLine; decide, fun p np => ?_⟩
    have s1 : Same H (upd H p (.tup [.ty "list", .ty "tuple"])) := Same.new np
    have hf1 := s1.seq hf
    refine ⟨_, p, _, _, _, true, rfl, upd_same, pair_lt, TyX.mono s1 hf, kit_lt_l, _, rfl, iteF ?_⟩
    refine ⟨_, rfl, _, _, rfl, .inl hf1, _, rfl, by rw [rf.1]; rfl, _, rfl, ?_⟩
    rw [rf.1, decide_eq_true rfl]
    refine iteF ⟨_, rfl, a, rfl, ⟨_, hf1⟩, fun D nD => ?_⟩
    refine lc_list (K := K) (a := a) (xs := vf) (GrowT (upd H p (.tup [.ty "list", .ty "tuple"])) D) (GrowT.zero nD) (fun i H2 _ g => g.1.seq hf1) ?_ ?_
    · intro i u H2 hu g
      obtain ⟨x, ex, hux⟩ := rf.of_v hu
      have hi := (List.getElem?_eq_some_iff.mp ex).1
      have hux2 := hux.mono (s1.trans g.1)
      have x0 : (0 : Int) ≤ x.num := Mm.nonneg_num.mp (hp x (List.mem_of_getElem? ex))
      refine ⟨rfl, tyes ⟨_, rfl, _, x, rfl, hux2, _, rfl, iteT ⟨_, rfl, ix_num hux2 ⟨_, _, rfl, rfl, ?_⟩⟩⟩⟩
      obtain ⟨acc, h1, h2, h3⟩ := g.step nD (Same.refl _) (by omega)
      refine ⟨acc, h1, h2, ?_⟩
      show GrowT _ D (i + 1) (upd H2 D (.lst (acc ++ [.bl (decide ((0 : Int) ≤ x.num))])))
      rw [decide_eq_true x0]
      exact h3
    · intro H2 g
      refine ⟨D, _, rfl, SqL.of g.2, ?_⟩
      rw [all_true]
      exact q _ (s1.trans g.1)
theorem ok_own_copy {k : Nat} {sp0 : Sp} {b : Bool} (F : FnP K "own_copy" "own_copy" s_own_copy f fd) (T : Txt K mg) (c_own_copy : C8.Cal P w K mg base k "own_copy" sp0 []) (hb : b = true → ∀ i H Q E, Q (.int i) H → sp0 [.int i] H Q E) : FnOk P w K mg base C8.CX0 (k + 1) f fd ["value"] (spCopy K b) := by
  refine F.ok sc_own_copy (fun vs H Q E h => ?_) (fun cdv A outer s H vs Q E hr h => ⟨_, PSs.nox (pss_cons (ps_if (pt_val (pe_callB (isiK (K := K) rfl) rfl T.f_isinstance (by decide +kernel) (pa_cons (pv 0) (pa_cons (pe_bltn (v := .ty "list") rfl T.f_list (by decide +kernel) rfl) pa_nil)))) (pss_one (ps_ret (pe_lc (own := [("one", 1)]) (g := (gName 1)) (tt := tYes) rfl sc_own_copy.nd (piListK (K := K) rfl (pv 0)) (blkOk_by (own := [("one", 1)]) (by kernel_rfl)) (fun _ _ _ _ _ => (pg_name (i := 1) sc_own_copy.nd rfl (.inl rfl))) (fun _ _ _ _ _ => pts_nil) (fun _ _ _ _ _ => (C8.pe_c c_own_copy hr (by first | decide | omega) rfl (pa_cons (pv 1) pa_nil)))))) pss_nil)
 (pss_one (ps_ret (pe_ifExp (pt_val (pe_callB (isiK (K := K) rfl) rfl T.f_isinstance (by decide +kernel) (pa_cons (pv 0) (pa_cons (pe_bltn (v := .ty "tuple") rfl T.f_tuple (by decide +kernel) rfl) pa_nil)))) (pe_callTy (tupK (K := K) rfl) rfl T.f_tuple (by decide +kernel) (pa_cons (pe_lc (own := [("one", 1)]) (g := (gName 1)) (tt := tYes) rfl sc_own_copy.nd (piTupK (K := K) rfl (pv 0)) (blkOk_by (own := [("one", 1)]) (by kernel_rfl)) (fun _ _ _ _ _ => (pg_name (i := 1) sc_own_copy.nd rfl (.inl rfl))) (fun _ _ _ _ _ => pts_nil) (fun _ _ _ _ _ => (C8.pe_c c_own_copy hr (by first | decide | omega) rfl (pa_cons (pv 1) pa_nil)))) pa_nil)) (pv 0))))), ?_⟩)
  · obtain ⟨_, rfl, _⟩ := h
    rfl
  · obtain ⟨v, rfl, h⟩ := h
    rcases h with ⟨i, rfl, q⟩ | ⟨eb, r, hv, q⟩
    · exact ⟨_, rfl, _, _, _, _, false, rfl, .ty "list", .base (.int i), kit_ty (by decide +kernel), _, rfl, iteF ⟨_, rfl, _, _, _, _, false, rfl, .ty "tuple", .base (.int i), kit_ty (by decide +kernel), _, rfl, iteF ⟨_, rfl, q⟩⟩⟩
    · have h0 := hb eb
      obtain ⟨t, rfl, ht⟩ := hv
      refine ⟨_, rfl, _, _, _, _, false, rfl, .ty "list", tyx_tup ht, kit_ty (by decide +kernel), _, rfl, iteF ⟨_, rfl, _, _, _, _, true, rfl, .ty "tuple", tyx_tup ht, kit_ty (by decide +kernel), _, rfl, iteT ⟨_, rfl, t, rfl, ⟨_, ht⟩, fun D nD => ?_⟩⟩⟩
      refine lc_tup (K := K) (a := t) (xs := [.int r.num, .int r.den]) (fun i H' => Same H H' ∧ H' D = some (.lst ([V.int r.num, .int r.den].take i))) ⟨Same.new nD, upd_same⟩ (fun i H2 _ g => Same.tup g.1 ht) ?_ ?_
      · rintro i u H2 hu ⟨s2, hD⟩
        refine ⟨rfl, tyes ⟨_, rfl, ?_⟩⟩
        have hcase : ∃ z, u = .int z := by
          match i, hu with
          | 0, hu => exact ⟨_, (Option.some.inj hu).symm⟩
          | 1, hu => exact ⟨_, (Option.some.inj hu).symm⟩
          | i + 2, hu => simp at hu
        obtain ⟨z, rfl⟩ := hcase
        refine h0 z _ _ _ ⟨_, hD, ?_, Same.mut s2 nD, ?_⟩
        · rw [List.length_take]
          exact Nat.lt_of_le_of_lt (Nat.min_le_right _ _) (by show 2 < sizeLine; decide)
        · rw [upd_same, take_snoc hu]
      · rintro H2 ⟨s2, hD⟩
        refine ⟨D, _, rfl, .inl ⟨SqL.of hD, fun p np => ?_⟩⟩
        exact q _ _ (s2.trans (Same.new np)) ⟨p, rfl, SqT.of upd_same⟩
theorem ok_as_list {k : Nat} (F : FnP K "as_list" "as_list" s_as_list f fd) (T : Txt K mg) (c_own_copy : C8.Cal P w K mg base 2 "own_copy" (spCopy K true) []) : FnOk P w K mg base C8.CX0 3 f fd ["value"] (spAsList K) := by
  refine F.ok sc_as_list (fun vs H Q E h => ?_) (fun cdv A outer s H vs Q E hr h => ⟨_, PSs.nox (pss_one (ps_ret (pe_ifExp (pt_val (pe_callB (isiTK (K := K) rfl) rfl T.f_isinstance (by decide +kernel) (pa_cons (pv 0) (pa_cons (pe_tup (pa_cons (pe_bltn (v := .ty "list") rfl T.f_list (by decide +kernel) rfl) (pa_cons (pe_bltn (v := .ty "tuple") rfl T.f_tuple (by decide +kernel) rfl) pa_nil))) pa_nil)))) (pe_lc (own := [("one", 1)]) (g := (gName 1)) (tt := tYes) rfl sc_as_list.nd (piListK (K := K) rfl (pv 0)) (blkOk_by (own := [("one", 1)]) (by kernel_rfl)) (fun _ _ _ _ _ => (pg_name (i := 1) sc_as_list.nd rfl (.inl rfl))) (fun _ _ _ _ _ => pts_nil) (fun _ _ _ _ _ => (C8.pe_c c_own_copy hr (by first | decide | omega) rfl (pa_cons (pv 1) pa_nil)))) (pv 0)))), ?_⟩)
  · obtain ⟨_, _, rfl, _⟩ := h
    rfl
  · obtain ⟨a, rs, rfl, ⟨vf, hf, rf⟩, hz, q⟩ := h
    have hf : SqL K H a vf := hf
    refine ⟨_, rfl, by show 2 ≤ sizeLine; decide, fun p np => ?_⟩
    have s1 : Same H (upd H p (.tup [.ty "list", .ty "tuple"])) := Same.new np
    have hf1 := s1.seq hf
    refine ⟨_, p, _, _, _, true, rfl, upd_same, pair_lt, TyX.mono s1 hf, kit_lt_l, _, rfl, iteT ⟨_, rfl, a, rfl, ⟨_, hf1⟩, fun D nD => ?_⟩⟩
    refine lc_list (K := K) (a := a) (xs := vf) (Grow K (upd H p (.tup [.ty "list", .ty "tuple"])) D rs) (Grow.zero nD) (fun i H2 _ g => g.1.seq hf1) ?_ ?_
    · intro i u H2 hu g
      obtain ⟨x, ex, hux⟩ := rf.of_v hu
      exact ⟨rfl, tyes ⟨_, rfl, _, rfl, .inr ⟨rfl, x, hux.mono (s1.trans g.1), fun v H3 s3 r3 => g.step nD s3 ex r3 (by omega)⟩⟩⟩
    · intro H2 g
      obtain ⟨s2, acc, hD, hacc⟩ := g.done (by rw [rf.1]; exact Nat.le_refl _)
      exact q D acc H2 (s1.trans s2) (s1.free nD) hD hacc
end
end MM
namespace MM
open PySem PySem.Spec PyProof.Rows L2
/-! ### the law's own ratios -/
def totR (rs : List Rat) (i : Nat) : Rat := Mm.sm (fun j => rs.getD j 0) i
def spTotal (K : PySem.W.Frag) : Sp := fun vs H Q _ => ∃ (a : Addr) (rs : List Rat) (kx ks : Nat), vs = [.ref a] ∧ SR true K H a rs ∧ (∀ x ∈ rs, Mm.Lt kx x) ∧ (∀ i, i ≤ rs.length → Mm.Lt ks (totR rs i)) ∧ ks + kx ≤ 9000 ∧ RetR K H Q (totR rs rs.length)
def spLDot (K : PySem.W.Frag) : Sp := fun vs H Q _ => ∃ (a b : Addr) (xs ys : List Rat) (kx ky ks : Nat), vs = [.ref a, .ref b] ∧ SR true K H a xs ∧ SR true K H b ys ∧ xs.length = ys.length ∧ xs.length ≤ 1000 ∧
  (∀ x ∈ xs, Mm.Lt kx x) ∧ (∀ y ∈ ys, Mm.Lt ky y) ∧ (∀ i, i ≤ xs.length → Mm.Lt ks (psum xs ys i)) ∧ ks + (kx + ky) ≤ 9000 ∧ RetR K H Q (psum xs ys xs.length)
def spLNeg (K : PySem.W.Frag) : Sp := fun vs H Q _ => ∃ (u : V) (a : Rat), vs = [u] ∧ RV K H u a ∧ RetR K H Q (-a)
/-- the products -/
def mulR (xs ys : List Rat) : List Rat := List.zipWith (· * ·) xs ys
theorem mulR_len {xs ys : List Rat} (h : xs.length = ys.length) : (mulR xs ys).length = xs.length := by
  show (List.zipWith _ xs ys).length = _
  rw [List.length_zipWith, h, Nat.min_self]
theorem mulR_at {xs ys : List Rat} {i : Nat} {x y : Rat} (hx : xs[i]? = some x) (hy : ys[i]? = some y) : (mulR xs ys)[i]? = some (x * y) := by
  show (List.zipWith _ xs ys)[i]? = _
  rw [List.getElem?_zipWith, hx, hy]
theorem totR_mul {xs ys : List Rat} (h : xs.length = ys.length) : ∀ i, totR (mulR xs ys) i = psum xs ys i := fun i => by
  unfold totR psum
  refine Mm.sm_congr fun j _ => ?_
  by_cases c : j < xs.length
  · rw [getD_of (mulR_at (List.getElem?_eq_getElem c) (List.getElem?_eq_getElem (h ▸ c))), getD_of (List.getElem?_eq_getElem c), getD_of (List.getElem?_eq_getElem (h ▸ c))]
  · rw [List.getD_eq_getElem?_getD, List.getD_eq_getElem?_getD, List.getElem?_eq_none (by rw [mulR_len h]; omega), List.getElem?_eq_none (show xs.length ≤ j by omega)]
    show (0 : Rat) = 0 * _
    rw [Rat.zero_mul]
abbrev s__law_low : Stmt := (topS 40)
theorem sc__law_low : FnScope ["_law_top", "_law_bottom", "_law_one", "_law_other"] ["_law_top", "_law_bottom"] (defScope s__law_low) := C8.fnScope_by (by decide +kernel)
abbrev s__law_plus : Stmt := (topS 41)
theorem sc__law_plus : FnScope ["_law_one", "_law_other"] ["_law_one", "_law_other"] (defScope s__law_plus) := C8.fnScope_by (by decide +kernel)
abbrev s__law_times : Stmt := (topS 42)
theorem sc__law_times : FnScope ["_law_one", "_law_other"] ["_law_one", "_law_other"] (defScope s__law_times) := C8.fnScope_by (by decide +kernel)
abbrev s__law_minus : Stmt := (topS 43)
theorem sc__law_minus : FnScope ["_law_one"] ["_law_one"] (defScope s__law_minus) := C8.fnScope_by (by decide +kernel)
abbrev s__law_less : Stmt := (topS 44)
theorem sc__law_less : FnScope ["_law_one", "_law_other"] ["_law_one", "_law_other"] (defScope s__law_less) := C8.fnScope_by (by decide +kernel)
abbrev s__law_total : Stmt := (topS 45)
theorem sc__law_total : FnScope ["_law_pairs", "_law_found", "_law_pair"] ["_law_pairs"] (defScope s__law_total) := C8.fnScope_by (by decide +kernel)
abbrev s__law_dot : Stmt := (topS 46)
theorem sc__law_dot : FnScope ["_law_one", "_law_other", "_law_k"] ["_law_one", "_law_other"] (defScope s__law_dot) := C8.fnScope_by (by decide +kernel)
section
variable {P : Program} {w : World} {K : PySem.W.Frag} {mg : Str → Option Value} {base : Heap} {f : Addr} {fd : FuncData}
theorem ok_law_low (F : FnP K "_law_low" "_law_low" s__law_low f fd) (T : Txt K mg) : FnOk P w K mg base C8.CX0 1 f fd ["_law_top", "_law_bottom"] (spLow K) := by
  refine F.ok sc__law_low (fun vs H Q E h => ?_) (fun cdv A outer s H vs Q E hr h => ⟨_, PSs.nox (pss_cons (ps_par (i := 2) (j := 3) rfl sc__law_low.nd rfl rfl (by decide) rfl rfl (pa_cons (pe_callB call_abs rfl T.f_abs (by decide +kernel) (pa_cons (pv 0) pa_nil)) (pa_cons (pv 1) pa_nil)) (by rfl))
 (pss_cons (ps_while PassesOwn.never (pt_cmpR op_gt (pv 3) pe_int (nomark _)) (pss_one (ps_par (i := 2) (j := 3) rfl sc__law_low.nd rfl rfl (by decide) rfl rfl (pa_cons (pv 3) (pa_cons (pe_op op_mod (pe_callTy call_int1 rfl T.f_int (by decide +kernel) (pa_cons (pv 2) pa_nil)) (pv 3)) pa_nil)) (by rfl))))
 (pss_one (ps_ret (pe_tup (pa_cons (pe_op op_fdivW (pv 0) (pv 2)) (pa_cons (pe_op op_fdivW (pv 1) (pv 2)) pa_nil))))))), ?_⟩)
  · obtain ⟨t, b, rfl, _⟩ := h
    rfl
  · obtain ⟨t, b, rfl, hb, hz, q⟩ := h
    have g0 : 0 < Nat.gcd t.natAbs b.natAbs := Nat.gcd_pos_of_pos_right _ (by omega)
    have g1 : Nat.gcd t.natAbs b.natAbs ≤ b.natAbs := Nat.le_of_dvd (by omega) (Nat.gcd_dvd_right _ _)
    have hd : CDivW t ((Nat.gcd t.natAbs b.natAbs : Nat) : Int) := wide_div (b := 9000) (by omega) (by rw [Int.natAbs_natCast]; omega) (by decide) (by decide)
    obtain ⟨e1, e2⟩ := Mm.low_ok (t := t) hb
    have hab : (if t < 0 then -t else t) = ((t.natAbs : Nat) : Int) := by split <;> omega
    refine ⟨_, rfl, _, rfl, ?_⟩
    refine ⟨_, rfl, _, _, rfl, ?_⟩
    show tWhile _ _ _ _ _
    refine ⟨fun m σ H' => ∃ x y : Nat, σ = [some (.int t), some (.int b), some (.int (x : Nat)), some (.int (y : Nat))] ∧ H' = H ∧ y = m ∧ Nat.gcd x y = Nat.gcd t.natAbs b.natAbs, ⟨b.natAbs, t.natAbs, b.natAbs, ?_, rfl, rfl, rfl⟩, ?_⟩
    · have eb : b = ((b.natAbs : Nat) : Int) := by omega
      show [some (V.int t), some (V.int b), some (V.int (if t < 0 then -t else t)), some (V.int b)] = _
      rw [hab, ← eb]
    · rintro m σ H' ⟨x, y, rfl, rfl, rfl, hg⟩
      refine ⟨_, rfl, _, _, rfl, rfl, _, rfl, ?_⟩
      by_cases c : (0 : Int) < ((y : Nat) : Int)
      · rw [decide_eq_true c]
        refine iteT ⟨fun σ' H'' => ∃ x' y' : Nat, σ' = [some (.int t), some (.int b), some (.int (x' : Nat)), some (.int (y' : Nat))] ∧ H'' = H' ∧ y' < y ∧ Nat.gcd x' y' = Nat.gcd t.natAbs b.natAbs, ?_, ?_⟩
        · rintro σ' H'' ⟨x', y', rfl, rfl, hl, hg'⟩
          exact ⟨y', hl, x', y', rfl, rfl, rfl, hg'⟩
        · refine ⟨_, rfl, _, rfl, .inl ⟨_, rfl, _, rfl, _, _, rfl, rfl, c, _, _, rfl, ?_⟩⟩
          refine ⟨y, x % y, ?_, rfl, Nat.mod_lt _ (by omega), ?_⟩
          · show [some (V.int t), some (V.int b), some (V.int (y : Nat)), some (V.int ((x : Int) % (y : Int)))] = _
            rw [Int.natCast_emod]
          · rw [Nat.gcd_comm, ← Nat.gcd_rec, Nat.gcd_comm]
            exact hg
      · rw [decide_eq_false c]
        have y0 : y = 0 := by omega
        subst y0
        rw [Nat.gcd_zero_right] at hg
        subst hg
        refine iteF ⟨_, rfl, _, rfl, _, _, rfl, rfl, hd, _, rfl, _, rfl, _, _, rfl, rfl, hd, by show 2 ≤ sizeLine; decide, fun p np => ?_⟩
        exact q _ _ (Same.new np) (RV.new e1 e2)
theorem ok_law_plus (F : FnP K "_law_plus" "_law_plus" s__law_plus f fd) (T : Txt K mg) (c__law_low : C8.Cal P w K mg base 1 "_law_low" (spLow K) []) : FnOk P w K mg base C8.CX0 2 f fd ["_law_one", "_law_other"] (spPlus K) := by
  refine F.ok sc__law_plus (fun vs H Q E h => ?_) (fun cdv A outer s H vs Q E hr h => ⟨_, PSs.nox (pss_one (ps_ret (C8.pe_c c__law_low hr (by first | decide | omega) rfl (pa_cons (pe_op op_add (pe_op op_mulW (pe_ix (ixK (K := K) rfl) (pv 0) pe_int (fun _ _ => rfl)) (pe_ix (ixK (K := K) rfl) (pv 1) pe_int (fun _ _ => rfl))) (pe_op op_mulW (pe_ix (ixK (K := K) rfl) (pv 1) pe_int (fun _ _ => rfl)) (pe_ix (ixK (K := K) rfl) (pv 0) pe_int (fun _ _ => rfl)))) (pa_cons (pe_op op_mulW (pe_ix (ixK (K := K) rfl) (pv 0) pe_int (fun _ _ => rfl)) (pe_ix (ixK (K := K) rfl) (pv 1) pe_int (fun _ _ => rfl))) pa_nil))))), ?_⟩)
  · obtain ⟨_, _, _, _, _, _, rfl, _⟩ := h
    rfl
  · obtain ⟨u, v, a, b, k, l, rfl, ha, hb, sa, sb, hk, q⟩ := h
    have da := Mm.den_pos a
    have db := Mm.den_pos b
    have m1 : CMulW a.num b.den := wide_mul (a := k + 1) (b := l + 1) (Nat.lt_trans sa.1 (Nat.pow_lt_pow_right (by decide) (by omega))) (by rw [Int.natAbs_natCast]; exact Nat.lt_trans sb.2 (Nat.pow_lt_pow_right (by decide) (by omega))) (by omega) (by omega) (by omega)
    have m2 : CMulW b.num a.den := wide_mul (a := l + 1) (b := k + 1) (Nat.lt_trans sb.1 (Nat.pow_lt_pow_right (by decide) (by omega))) (by rw [Int.natAbs_natCast]; exact Nat.lt_trans sa.2 (Nat.pow_lt_pow_right (by decide) (by omega))) (by omega) (by omega) (by omega)
    have m3 : CMulW a.den b.den := wide_mul (a := k + 1) (b := l + 1) (by rw [Int.natAbs_natCast]; exact Nat.lt_trans sa.2 (Nat.pow_lt_pow_right (by decide) (by omega))) (by rw [Int.natAbs_natCast]; exact Nat.lt_trans sb.2 (Nat.pow_lt_pow_right (by decide) (by omega))) (by omega) (by omega) (by omega)
    have z3 : ((a.den : Int) * b.den).natAbs < 2 ^ 9000 := Nat.lt_of_lt_of_le (Mm.mul_natAbs (a := (a.den : Int)) (b := (b.den : Int)) (by rw [Int.natAbs_natCast]; exact sa.2) (by rw [Int.natAbs_natCast]; exact sb.2)) (Nat.pow_le_pow_right (by decide) hk)
    refine ⟨_, rfl, ix_num ha ⟨_, rfl, ix_den hb ⟨_, _, rfl, rfl, m1, _, rfl, ix_num hb ⟨_, rfl, ix_den ha ⟨_, _, rfl, rfl, m2, _, _, rfl, rfl, _, rfl, ix_den ha ⟨_, rfl, ix_den hb ⟨_, _, rfl, rfl, m3, _, _, rfl, Int.mul_pos da db, z3, ?_⟩⟩⟩⟩⟩⟩⟩
    rw [← Mm.add_low a b]
    exact q
theorem ok_law_times (F : FnP K "_law_times" "_law_times" s__law_times f fd) (T : Txt K mg) (c__law_low : C8.Cal P w K mg base 1 "_law_low" (spLow K) []) : FnOk P w K mg base C8.CX0 2 f fd ["_law_one", "_law_other"] (spTimes K) := by
  refine F.ok sc__law_times (fun vs H Q E h => ?_) (fun cdv A outer s H vs Q E hr h => ⟨_, PSs.nox (pss_one (ps_ret (C8.pe_c c__law_low hr (by first | decide | omega) rfl (pa_cons (pe_op op_mulW (pe_ix (ixK (K := K) rfl) (pv 0) pe_int (fun _ _ => rfl)) (pe_ix (ixK (K := K) rfl) (pv 1) pe_int (fun _ _ => rfl))) (pa_cons (pe_op op_mulW (pe_ix (ixK (K := K) rfl) (pv 0) pe_int (fun _ _ => rfl)) (pe_ix (ixK (K := K) rfl) (pv 1) pe_int (fun _ _ => rfl))) pa_nil))))), ?_⟩)
  · obtain ⟨_, _, _, _, _, _, rfl, _⟩ := h
    rfl
  · obtain ⟨u, v, a, b, k, l, rfl, ha, hb, sa, sb, hk, q⟩ := h
    have da := Mm.den_pos a
    have db := Mm.den_pos b
    have m1 : CMulW a.num b.num := wide_mul (a := k + 1) (b := l + 1) (Nat.lt_trans sa.1 (Nat.pow_lt_pow_right (by decide) (by omega))) (Nat.lt_trans sb.1 (Nat.pow_lt_pow_right (by decide) (by omega))) (by omega) (by omega) (by omega)
    have m3 : CMulW a.den b.den := wide_mul (a := k + 1) (b := l + 1) (by rw [Int.natAbs_natCast]; exact Nat.lt_trans sa.2 (Nat.pow_lt_pow_right (by decide) (by omega))) (by rw [Int.natAbs_natCast]; exact Nat.lt_trans sb.2 (Nat.pow_lt_pow_right (by decide) (by omega))) (by omega) (by omega) (by omega)
    have z3 : ((a.den : Int) * b.den).natAbs < 2 ^ 9000 := Nat.lt_of_lt_of_le (Mm.mul_natAbs (a := (a.den : Int)) (b := (b.den : Int)) (by rw [Int.natAbs_natCast]; exact sa.2) (by rw [Int.natAbs_natCast]; exact sb.2)) (Nat.pow_le_pow_right (by decide) hk)
    have q3 : RetR K H Q (((a.num * b.num : Int) : Rat) / (((a.den : Int) * b.den : Int) : Rat)) := by
      rw [← Mm.mul_low a b]; exact q
    exact ⟨_, rfl, ix_num ha ⟨_, rfl, ix_num hb ⟨_, _, rfl, rfl, m1, _, rfl, ix_den ha ⟨_, rfl, ix_den hb ⟨_, _, rfl, rfl, m3, _, _, rfl, Int.mul_pos da db, z3, q3⟩⟩⟩⟩⟩
theorem ok_law_minus (F : FnP K "_law_minus" "_law_minus" s__law_minus f fd) (T : Txt K mg) : FnOk P w K mg base C8.CX0 1 f fd ["_law_one"] (spLNeg K) := by
  refine F.ok sc__law_minus (fun vs H Q E h => ?_) (fun cdv A outer s H vs Q E hr h => ⟨_, PSs.nox (pss_one (ps_ret (pe_tup (pa_cons (pe_op op_sub pe_int (pe_ix (ixK (K := K) rfl) (pv 0) pe_int (fun _ _ => rfl))) (pa_cons (pe_ix (ixK (K := K) rfl) (pv 0) pe_int (fun _ _ => rfl)) pa_nil))))), ?_⟩)
  · obtain ⟨_, _, rfl, _⟩ := h
    rfl
  · obtain ⟨u, a, rfl, ha, q⟩ := h
    obtain ⟨e1, e2⟩ := Mm.neg_pair a
    refine ⟨_, rfl, ix_num ha ⟨_, _, rfl, rfl, _, rfl, ix_den ha ⟨by show 2 ≤ sizeLine; decide, fun p np => q _ _ (Same.new np) (RV.new (by rw [e1]; omega) e2)⟩⟩⟩
theorem ok_law_less (F : FnP K "_law_less" "_law_less" s__law_less f fd) (T : Txt K mg) : FnOk P w K mg base C8.CX0 1 f fd ["_law_one", "_law_other"] (spBelow K) := by
  refine F.ok sc__law_less (fun vs H Q E h => ?_) (fun cdv A outer s H vs Q E hr h => ⟨_, PSs.nox (pss_one (ps_ret (pe_cmpR op_lt (pe_op op_mulW (pe_ix (ixK (K := K) rfl) (pv 0) pe_int (fun _ _ => rfl)) (pe_ix (ixK (K := K) rfl) (pv 1) pe_int (fun _ _ => rfl))) (pe_op op_mulW (pe_ix (ixK (K := K) rfl) (pv 1) pe_int (fun _ _ => rfl)) (pe_ix (ixK (K := K) rfl) (pv 0) pe_int (fun _ _ => rfl))) (nomark _)))), ?_⟩)
  · obtain ⟨_, _, _, _, _, _, rfl, _⟩ := h
    rfl
  · obtain ⟨u, v, a, b, k, l, rfl, ha, hb, sa, sb, hk, q⟩ := h
    have m1 : CMulW a.num b.den := wide_mul (a := k + 1) (b := l + 1) (Nat.lt_trans sa.1 (Nat.pow_lt_pow_right (by decide) (by omega))) (by rw [Int.natAbs_natCast]; exact Nat.lt_trans sb.2 (Nat.pow_lt_pow_right (by decide) (by omega))) (by omega) (by omega) (by omega)
    have m2 : CMulW b.num a.den := wide_mul (a := l + 1) (b := k + 1) (Nat.lt_trans sb.1 (Nat.pow_lt_pow_right (by decide) (by omega))) (by rw [Int.natAbs_natCast]; exact Nat.lt_trans sa.2 (Nat.pow_lt_pow_right (by decide) (by omega))) (by omega) (by omega) (by omega)
    refine ⟨_, rfl, ix_num ha ⟨_, rfl, ix_den hb ⟨_, _, rfl, rfl, m1, _, rfl, ix_num hb ⟨_, rfl, ix_den ha ⟨_, _, rfl, rfl, m2, _, _, rfl, rfl, ?_⟩⟩⟩⟩⟩
    have e : decide (a.num * (b.den : Int) < b.num * (a.den : Int)) = decide (a < b) := by
      rw [Bool.eq_iff_iff, decide_eq_true_iff, decide_eq_true_iff, Mm.lt_pair]
    show Q (.bl (decide (a.num * (b.den : Int) < b.num * (a.den : Int)))) _
    rw [e]
    exact q
theorem ok_law_total (F : FnP K "_law_total" "_law_total" s__law_total f fd) (T : Txt K mg) (c__law_plus : C8.Cal P w K mg base 2 "_law_plus" (spPlus K) []) : FnOk P w K mg base C8.CX0 3 f fd ["_law_pairs"] (spTotal K) := by
  refine F.ok sc__law_total (fun vs H Q E h => ?_) (fun cdv A outer s H vs Q E hr h => ⟨_, PSs.nox (pss_cons (ps_set (i := 1) sc__law_total.nd rfl (.inl rfl) (pe_tup (pa_cons pe_int (pa_cons pe_int pa_nil))))
 (pss_cons (ps_for PassesOwn.never rfl (piListK (K := K) rfl (pv 0)) (pg_name (i := 2) sc__law_total.nd rfl (.inl rfl)) (pss_one (ps_set (i := 1) sc__law_total.nd rfl (.inl rfl) (C8.pe_c c__law_plus hr (by first | decide | omega) rfl (pa_cons (pv 1) (pa_cons (pv 2) pa_nil))))))
 (pss_one (ps_ret (pv 1))))), ?_⟩)
  · obtain ⟨_, _, _, _, rfl, _⟩ := h
    rfl
  · obtain ⟨a, rs, kx, ks, rfl, ⟨vr, hr', rr⟩, bx, bs, hk, q⟩ := h
    have hr' : SqL K H a vr := hr'
    refine ⟨by show 2 ≤ sizeLine; decide, fun p np => ?_⟩
    have s1 : Same H (upd H p (.tup [.int 0, .int 1])) := Same.new np
    refine ⟨_, rfl, a, rfl, ⟨_, s1.seq hr'⟩, for_list (K := K) (a := a) (xs := vr) (fun i σ H' => ∃ vf l, σ = [some (.ref a), some vf, l] ∧ Same H H' ∧ RV K H' vf (totR rs i))
      ⟨_, none, rfl, s1, RV.new rfl rfl⟩ (fun i σ H' _ ⟨_, _, _, s, _⟩ => s.seq hr') ?_ ?_⟩
    · rintro i u σ H' hu ⟨vf, l, rfl, sm, rf⟩
      obtain ⟨x, ex, hux⟩ := rr.of_v hu
      have hi := (List.getElem?_eq_some_iff.mp ex).1
      refine ⟨_, rfl, _, rfl, vf, u, _, x, ks, kx, rfl, rf, hux.mono sm, bs i (by omega), bx x (List.mem_of_getElem? ex), hk, fun v H1 e1 r1 => ?_⟩
      refine ⟨v, some u, rfl, sm.trans e1, ?_⟩
      have est : totR rs (i + 1) = totR rs i + x := by
        unfold totR
        show Mm.sm _ i + rs.getD i 0 = _
        rw [getD_of ex]
      rw [est]
      exact r1
    · rintro σ H' ⟨vf, l, rfl, sm, rf⟩
      exact ⟨_, rfl, q vf H' sm (by rw [rr.1] at rf; exact rf)⟩
theorem ok_law_dot (F : FnP K "_law_dot" "_law_dot" s__law_dot f fd) (T : Txt K mg) (c__law_times : C8.Cal P w K mg base 2 "_law_times" (spTimes K) []) (c__law_total : C8.Cal P w K mg base 3 "_law_total" (spTotal K) []) : FnOk P w K mg base C8.CX0 4 f fd ["_law_one", "_law_other"] (spLDot K) := by
  refine F.ok sc__law_dot (fun vs H Q E h => ?_) (fun cdv A outer s H vs Q E hr h => ⟨_, PSs.nox (pss_one (ps_ret (C8.pe_c c__law_total hr (by first | decide | omega) rfl (pa_cons (pe_lc (own := [("_law_k", 2)]) (g := (gName 2)) (tt := tYes) rfl sc__law_dot.nd (pi_range1 rfl T.f_range (pa_cons (pe_callB (lenK (K := K) rfl) rfl T.f_len (by decide +kernel) (pa_cons (pv 0) pa_nil)) pa_nil)) (blkOk_by (own := [("_law_k", 2)]) (by kernel_rfl)) (fun _ _ _ _ _ => (pg_name (i := 2) sc__law_dot.nd rfl (.inl rfl))) (fun _ _ _ _ _ => pts_nil) (fun _ _ _ _ _ => (C8.pe_c c__law_times hr (by first | decide | omega) rfl (pa_cons (pe_ix (ixK (K := K) rfl) (pv 0) (pv 2) (fun _ _ => rfl)) (pa_cons (pe_ix (ixK (K := K) rfl) (pv 1) (pv 2) (fun _ _ => rfl)) pa_nil))))) pa_nil)))), ?_⟩)
  · obtain ⟨_, _, _, _, _, _, _, rfl, _⟩ := h
    rfl
  · obtain ⟨a, b, xs, ys, kx, ky, ks, rfl, ⟨vx, hx, rx⟩, ⟨vy, hy, ry⟩, hl, hz, bx, by', bs, hk, q⟩ := h
    have hx : SqL K H a vx := hx
    have hy : SqL K H b vy := hy
    refine ⟨_, rfl, _, _, rfl, .inl hx, _, rfl, by rw [rx.1]; omega, by rw [rx.1]; omega, fun D nD => ?_⟩
    have lm := mulR_len hl
    have e0 : ((vx.length : Nat) : Int).toNat = xs.length := by rw [rx.1]; omega
    rw [e0]
    refine lc_range (lo := 0) (n := xs.length) (Grow K H D (mulR xs ys)) (Grow.zero nD) ?_ ?_
    · intro i H' hi g
      obtain ⟨u, eu, hu⟩ := rx.at hi
      obtain ⟨v, ev, hv⟩ := ry.at (show i < ys.length by omega)
      have hu1 := hu.mono g.1
      have hv1 := hv.mono g.1
      refine ⟨rfl, tyes ⟨_, rfl, _, rfl, ix_l (j := i) (by omega) (g.1.seq hx) eu ⟨_, rfl, _, rfl, ix_l (j := i) (by omega) (g.1.seq hy) ev ⟨u, v, _, _, kx, ky, rfl, hu1, hv1, bx _ (List.getElem_mem hi), by' _ (List.getElem_mem (by omega)), by omega, fun w H1 e1 r1 => ?_⟩⟩⟩⟩
      exact g.step nD e1 (mulR_at (List.getElem?_eq_getElem hi) (List.getElem?_eq_getElem (by omega))) r1 (by omega)
    · intro H' g
      obtain ⟨sm, acc, hD, hacc⟩ := g.done (by omega)
      refine ⟨D, mulR xs ys, kx + ky, ks, rfl, ⟨acc, SqL.of hD, hacc⟩, fun x hx => ?_, fun i hi => ?_, hk, fun v H1 e1 r1 => ?_⟩
      · obtain ⟨i, hi, rfl⟩ := List.mem_iff_getElem.mp hx
        have h1 : i < xs.length := by omega
        have h2 : i < ys.length := by omega
        have e := mulR_at (List.getElem?_eq_getElem h1) (List.getElem?_eq_getElem h2)
        rw [List.getElem?_eq_getElem hi] at e
        rw [Option.some.inj e]
        exact (bx _ (List.getElem_mem h1)).mul (by' _ (List.getElem_mem h2))
      · rw [totR_mul hl]
        exact bs i (by omega)
      · rw [totR_mul hl, lm] at r1
        exact q v H1 (sm.trans e1) r1
end
end MM
namespace MM
open PySem PySem.Spec PyProof.Rows L2
/-! ### draws -/
/-- all but a is as it was -/
def SX (a : Addr) (H H' : Hp) : Prop := ∀ b o, b ≠ a → H b = some o → H' b = some o
theorem SX.refl {a : Addr} (H : Hp) : SX a H H := fun _ _ _ h => h
theorem SX.trans {a : Addr} {H H1 H2 : Hp} (x : SX a H H1) (y : SX a H1 H2) : SX a H H2 := fun b o h e => y b o h (x b o h e)
theorem SX.of {a : Addr} {H H1 : Hp} (x : Same H H1) : SX a H H1 := fun b o _ e => x b o e
theorem SX.upd {a : Addr} {H : Hp} {o : HO} : SX a H (upd H a o) := fun b u h e => by rw [upd_ne h]; exact e
/-- against a heap that has not a -/
theorem SX.same {a : Addr} {H H0 H1 : Hp} (s : Same H0 H) (n : H0 a = none) (x : SX a H H1) : Same H0 H1 := fun b o e => x b o (ne_of_none e n) (s b o e)
/-- the source of draws at a over the cells at c -/
def SrcAt (H : Hp) (a c : Addr) (ns : List Int) : Prop := ∃ (p x sd n : Int), H a = some (.lst [.ref c, .int p, .int x, .int sd, .int n]) ∧ H c = some (.lst (ns.map V.int)) ∧ 0 ≤ p ∧ p ≤ ns.length ∧ 0 ≤ sd ∧ sd < 2147483648
theorem SrcAt.ne {H : Hp} {a c : Addr} {ns : List Int} (h : SrcAt H a c ns) : c ≠ a := fun e => by
  obtain ⟨p, x, sd, n, h1, h2, _⟩ := h
  rw [e, h1] at h2
  have h3 := HO.lst.inj (Option.some.inj h2)
  cases ns with
  | nil => cases h3
  | cons z r => rw [List.map_cons] at h3; cases (List.cons.inj h3).1
def spDraw : Sp := fun vs H Q _ => ∃ (a c : Addr) (ns : List Int) (m : Int), vs = [.ref a, .int m] ∧ SrcAt H a c ns ∧ 1 ≤ m ∧ m < 1073741824 ∧ ∀ d H', 0 ≤ d → d < m → SX a H H' → SrcAt H' a c ns → Q (.int d) H'
def spSource (K : PySem.W.Frag) : Sp := fun vs H Q _ => ∃ (l : Addr) (ns : List Int), vs = [.ref l] ∧ SqL K H l (ns.map V.int) ∧ ns.length ≤ 63 ∧ ∀ a c H', Same H H' → H a = none → H c = none → SrcAt H' a c ns → Q (.ref a) H'
theorem SrcAt.keep {H H' : Hp} {a c : Addr} {ns : List Int} (h : SrcAt H a c ns) (e : Same H H') : SrcAt H' a c ns := by
  obtain ⟨p, x, sd, n, h1, h2, r⟩ := h
  exact ⟨p, x, sd, n, e _ _ h1, e _ _ h2, r⟩
abbrev s__law_draw : Stmt := (topS 38)
theorem sc__law_draw : FnScope ["_law_src", "_law_many", "_law_cell", "_law_digit", "_law_root", "_law_grown"] ["_law_src", "_law_many"] (defScope s__law_draw) := C8.fnScope_by (by decide +kernel)
abbrev s__law_source : Stmt := (topS 37)
theorem sc__law_source : FnScope ["_law_script", "_law_seed", "_law_cell"] ["_law_script"] (defScope s__law_source) := C8.fnScope_by (by decide +kernel)
section
variable {P : Program} {w : World} {K : PySem.W.Frag} {mg : Str → Option Value} {base : Heap} {f : Addr} {fd : FuncData}
theorem set5 {H : Hp} {a : Addr} {xs : List V} {i : Nat} (hi : i < xs.length) (h : H a = some (.lst xs)) {v : V} {Q : Hp → Prop} {z : Int} (ez : z = (i : Int)) (q : Q (upd H a (.lst (xs.set i v)))) : rSetL (.ref a) (.int z) v H Q := by
  subst ez
  refine ⟨a, xs, _, i, rfl, rfl, h, ?_, q⟩
  unfold ixN
  rw [if_pos (by omega), if_pos (by omega)]
  rfl
theorem ok_law_draw (F : FnP K "_law_draw" "_law_draw" s__law_draw f fd) (T : Txt K mg) : FnOk P w K mg base C8.CX0 1 f fd ["_law_src", "_law_many"] spDraw := by
  refine F.ok sc__law_draw (fun vs H Q E h => ?_) (fun cdv A outer s H vs Q E hr h => ⟨_, PSs.nox (C8.pss_cut (ps_if (PW.pt (pw_and (pt_cmpR op_lt (pe_ix (ixK (K := K) rfl) (pv 0) pe_int (fun _ _ => rfl)) (pv 1) (nomark _)) (pw_and1 (pt_cmpR op_lt (pe_ix (ixK (K := K) rfl) (pv 0) pe_int (fun _ _ => rfl)) (pe_callB (lenK (K := K) rfl) rfl T.f_len (by decide +kernel) (pa_cons (pe_ix (ixK (K := K) rfl) (pv 0) pe_int (fun _ _ => rfl)) pa_nil)) (nomark _))))) (pss_cons (ps_set (i := 2) sc__law_draw.nd rfl (.inl rfl) (pe_ix (ixK (K := K) rfl) (pe_ix (ixK (K := K) rfl) (pv 0) pe_int (fun _ _ => rfl)) (pe_ix (ixK (K := K) rfl) (pv 0) pe_int (fun _ _ => rfl)) (fun _ _ => rfl)))
 (pss_cons (ps_asg (pe_op op_add (pe_ix (ixK (K := K) rfl) (pv 0) pe_int (fun _ _ => rfl)) pe_int) (pg_sub (pv 0) pe_int set_list))
 (pss_cons (ps_asg (pe_op op_mod (pe_callTy call_int1 rfl T.f_int (by decide +kernel) (pa_cons (pe_op op_add (pe_op op_add (pe_op op_mul (pe_ix (ixK (K := K) rfl) (pv 0) pe_int (fun _ _ => rfl)) pe_int) (pe_op op_mod (pe_callTy call_int1 rfl T.f_int (by decide +kernel) (pa_cons (pv 2) pa_nil)) pe_int)) pe_int) pa_nil)) pe_int) (pg_sub (pv 0) pe_int set_list))
 (pss_one (ps_asg (pe_ifExp (pt_cmpR op_ge (pv 2) (pe_op op_pow pe_int pe_int) (nomark _)) (pv 2) pe_int) (pg_sub (pv 0) pe_int set_list)))))) pss_nil)
 (pss_cons (ps_if (pt_cmpR op_ge (pe_ix (ixK (K := K) rfl) (pv 0) pe_int (fun _ _ => rfl)) (pv 1) (nomark _)) (pss_cons (ps_set (i := 3) sc__law_draw.nd rfl (.inl rfl) (pe_op op_mod (pe_callTy call_int1 rfl T.f_int (by decide +kernel) (pa_cons (pe_ix (ixK (K := K) rfl) (pv 0) pe_int (fun _ _ => rfl)) pa_nil)) (pv 1)))
 (pss_cons (ps_asg (pe_op op_fdivN (pe_ix (ixK (K := K) rfl) (pv 0) pe_int (fun _ _ => rfl)) (pv 1)) (pg_sub (pv 0) pe_int set_list))
 (pss_one (ps_ret (pv 3))))) pss_nil)
 (pss_cons (ps_asg (pe_op op_add (pe_ix (ixK (K := K) rfl) (pv 0) pe_int (fun _ _ => rfl)) pe_int) (pg_sub (pv 0) pe_int set_list))
 (pss_cons (ps_set (i := 4) sc__law_draw.nd rfl (.inl rfl) (pe_op op_mod (pe_callTy call_int1 rfl T.f_int (by decide +kernel) (pa_cons (pe_op op_add (pe_ix (ixK (K := K) rfl) (pv 0) pe_int (fun _ _ => rfl)) (pe_op op_mul (pe_ix (ixK (K := K) rfl) (pv 0) pe_int (fun _ _ => rfl)) pe_int)) pa_nil)) pe_int))
 (pss_cons (ps_set (i := 5) sc__law_draw.nd rfl (.inl rfl) (pe_op op_mul (pe_op op_mod (pe_callTy call_int1 rfl T.f_int (by decide +kernel) (pa_cons (pe_op op_mul (pv 4) (pv 4)) pa_nil)) pe_int) (pe_op op_add (pe_op op_mod (pe_callTy call_int1 rfl T.f_int (by decide +kernel) (pa_cons (pv 4) pa_nil)) pe_int) pe_int)))
 (pss_cons (ps_asg (pe_op op_mod (pe_callTy call_int1 rfl T.f_int (by decide +kernel) (pa_cons (pe_op op_add (pe_op op_add (pv 5) (pe_op op_mul pe_int (pv 4))) pe_int) pa_nil)) pe_int) (pg_sub (pv 0) pe_int set_list))
 (pss_one (ps_ret (pe_op op_mod (pe_callTy call_int1 rfl T.f_int (by decide +kernel) (pa_cons (pe_op op_add (pe_op op_fdivN (pe_ix (ixK (K := K) rfl) (pv 0) pe_int (fun _ _ => rfl)) pe_int) (pe_op op_mul (pe_op op_mod (pe_callTy call_int1 rfl T.f_int (by decide +kernel) (pa_cons (pe_ix (ixK (K := K) rfl) (pv 0) pe_int (fun _ _ => rfl)) pa_nil)) pe_int) pe_int)) pa_nil)) (pv 1)))))))))), ?_⟩)
  · obtain ⟨_, _, _, _, rfl, _⟩ := h
    rfl
  · obtain ⟨a, c, ns, m, rfl, S, hm1, hm2, q⟩ := h
    have nca := S.ne
    obtain ⟨p, x, sd, n, ha, hc, hp0, hp1, hs0, hs1⟩ := id S
    refine ⟨fun σ' H' => ∃ cl, σ' = [some (.ref a), some (.int m), cl, none, none, none] ∧ SX a H H' ∧ SrcAt H' a c ns, ?_, ?_⟩
    · refine ⟨_, rfl, ix_l (j := 2) rfl (SqL.of ha) rfl ⟨_, rfl, _, _, rfl, rfl, _, rfl, ?_⟩⟩
      refine ite2 (fun c1 => ?_) (fun c1 => iteF ⟨none, rfl, SX.refl H, S⟩)
      refine ⟨_, rfl, ix_l (j := 1) rfl (SqL.of ha) rfl ⟨_, rfl, ix_l (j := 0) rfl (SqL.of ha) rfl ⟨_, _, rfl, .inl (SqL.of hc), _, _, rfl, rfl, _, rfl, ?_⟩⟩⟩
      refine ite2 (fun c2 => ?_) (fun c2 => ⟨none, rfl, SX.refl H, S⟩)
      have hlt : p < (ns.length : Int) := by
        have := of_decide_eq_true c2
        rw [List.length_map] at this
        exact this
      have hz : p.toNat < ns.length := by omega
      -- the cell
      refine ⟨_, rfl, ix_l (j := 0) rfl (SqL.of ha) rfl ⟨_, rfl, ix_l (j := 1) rfl (SqL.of ha) rfl (ix_l (j := p.toNat) (by omega) (SqL.of hc) (by rw [List.getElem?_map, List.getElem?_eq_getElem hz]; rfl) ?_)⟩⟩
      -- src[1] = src[1] + 1
      refine ⟨_, rfl, ix_l (j := 1) rfl (SqL.of ha) rfl ⟨_, _, rfl, rfl, _, rfl, set5 (i := 1) (by show 1 < 5; decide) ha rfl ?_⟩⟩
      have h1 : (upd H a (.lst [.ref c, .int (p + 1), .int x, .int sd, .int n])) a = some (.lst [.ref c, .int (p + 1), .int x, .int sd, .int n]) := upd_same
      -- src[3] = ..
      refine ⟨_, rfl, ix_l (j := 3) rfl (SqL.of h1) rfl ⟨_, _, rfl, rfl, .inr ⟨by decide, by decide⟩, _, rfl, .inl ⟨_, rfl, _, _, rfl, rfl, (show (0 : Int) < 2147483323 by decide), _, _, rfl, rfl, _, _, rfl, rfl, .inl ⟨_, rfl, _, _, rfl, rfl, (show (0 : Int) < 2147483549 by decide), _, rfl, set5 (i := 3) (by show 3 < 5; decide) h1 rfl ?_⟩⟩⟩⟩
      rw [upd_upd]
      -- src[2] = ..
      refine ⟨_, rfl, _, _, rfl, rfl, ⟨by decide, by decide, by decide⟩, _, _, rfl, rfl, _, rfl, ?_⟩
      have last : ∀ (z sd' : Int), 0 ≤ sd' → sd' < 2147483648 → SX a H (upd (upd H a (.lst [.ref c, .int (p + 1), .int x, .int sd', .int n])) a (.lst [.ref c, .int (p + 1), .int z, .int sd', .int n])) ∧ SrcAt (upd (upd H a (.lst [.ref c, .int (p + 1), .int x, .int sd', .int n])) a (.lst [.ref c, .int (p + 1), .int z, .int sd', .int n])) a c ns := fun z sd' g0 g1 => by
        rw [upd_upd]
        exact ⟨SX.upd, p + 1, z, sd', n, upd_same, by rw [upd_ne nca]; exact hc, by omega, by omega, g0, g1⟩
      have sd0 : ∀ z : Int, 0 ≤ z % 2147483549 ∧ z % 2147483549 < 2147483648 := fun z => by omega
      refine ite2 (fun c3 => ?_) (fun c3 => ?_)
      · refine ⟨_, rfl, _, rfl, set5 (i := 2) (by show 2 < 5; decide) upd_same rfl ⟨_, rfl, last _ _ (sd0 _).1 (sd0 _).2⟩⟩
      · refine ⟨_, rfl, set5 (i := 2) (by show 2 < 5; decide) upd_same rfl ⟨_, rfl, last _ _ (sd0 _).1 (sd0 _).2⟩⟩
    · rintro σ' H' ⟨cl, rfl, sx, p2, x2, sd2, n2, ha2, hc2, hp20, hp21, hs20, hs21⟩
      refine ⟨_, rfl, ix_l (j := 2) rfl (SqL.of ha2) rfl ⟨_, rfl, _, _, rfl, rfl, _, rfl, ?_⟩⟩
      refine ite2 (fun c1 => ?_) (fun c1 => ?_)
      · refine ⟨_, rfl, ix_l (j := 2) rfl (SqL.of ha2) rfl (.inl ⟨_, rfl, _, rfl, _, _, rfl, rfl, by omega, ?_⟩)⟩
        refine ⟨_, rfl, ix_l (j := 2) rfl (SqL.of ha2) rfl ⟨_, rfl, _, _, rfl, rfl, ⟨by omega, by omega⟩, _, rfl, set5 (i := 2) (by show 2 < 5; decide) ha2 rfl ⟨_, rfl, ?_⟩⟩⟩
        exact q _ _ (Int.emod_nonneg _ (by omega)) (Int.emod_lt_of_pos _ (by omega)) (sx.trans SX.upd) ⟨p2, _, sd2, n2, upd_same, by rw [upd_ne nca]; exact hc2, hp20, hp21, hs20, hs21⟩
      · -- src[4] = src[4] + 1
        refine ⟨_, rfl, ix_l (j := 4) rfl (SqL.of ha2) rfl ⟨_, _, rfl, rfl, _, rfl, set5 (i := 4) (by show 4 < 5; decide) ha2 rfl ?_⟩⟩
        have h3 : (upd H' a (.lst [.ref c, .int p2, .int x2, .int sd2, .int (n2 + 1)])) a = some (.lst [.ref c, .int p2, .int x2, .int sd2, .int (n2 + 1)]) := upd_same
        -- root
        refine ⟨_, rfl, ix_l (j := 3) rfl (SqL.of h3) rfl ⟨_, rfl, ix_l (j := 4) rfl (SqL.of h3) rfl ⟨_, _, rfl, rfl, .inr ⟨by decide, by decide⟩, _, _, rfl, rfl, .inl ⟨_, rfl, _, _, rfl, rfl, (show (0 : Int) < 2147483629 by decide), ?_⟩⟩⟩⟩
        generalize hroot : (sd2 + (n2 + 1) * 9431) % 2147483629 = root
        have r0 : 0 ≤ root ∧ root < 2147483629 := by omega
        -- grown
        refine ⟨_, rfl, _, rfl, _, _, rfl, rfl, .inl ⟨by omega, by omega⟩, .inl ⟨_, rfl, _, _, rfl, rfl, (show (0 : Int) < 2147483399 by decide), _, rfl, .inl ⟨_, rfl, _, _, rfl, rfl, (show (0 : Int) < 39989 by decide), _, _, rfl, rfl, _, _, rfl, rfl, .inl ⟨?_, ?_⟩, ?_⟩⟩⟩
        · have := Int.emod_nonneg (root * root) (show (2147483399 : Int) ≠ 0 by decide)
          omega
        · have := Int.emod_lt_of_pos (root * root) (show (0 : Int) < 2147483399 by decide)
          omega
        -- src[3]
        refine ⟨_, rfl, _, rfl, _, _, rfl, rfl, .inl ⟨by decide, by decide⟩, _, _, rfl, rfl, _, _, rfl, rfl, .inl ⟨_, rfl, _, _, rfl, rfl, (show (0 : Int) < 2147483549 by decide), _, rfl, set5 (i := 3) (by show 3 < 5; decide) h3 rfl ?_⟩⟩
        rw [upd_upd]
        refine ⟨_, rfl, ix_l (j := 3) rfl (SqL.of upd_same) rfl ⟨_, _, rfl, rfl, ⟨by decide, by decide⟩, _, rfl, ix_l (j := 3) rfl (SqL.of upd_same) rfl (.inl ⟨_, rfl, _, _, rfl, rfl, (show (0 : Int) < 8521 by decide), _, _, rfl, rfl, .inr ⟨by decide, by decide⟩, _, _, rfl, rfl, .inl ⟨_, rfl, _, rfl, _, _, rfl, rfl, by omega, ?_⟩⟩)⟩⟩
        refine q _ _ (Int.emod_nonneg _ (by omega)) (Int.emod_lt_of_pos _ (by omega)) (sx.trans SX.upd) ⟨p2, x2, _, n2 + 1, upd_same, by rw [upd_ne nca]; exact hc2, hp20, hp21, ?_, ?_⟩
        · exact Int.emod_nonneg _ (by decide)
        · exact Int.lt_trans (Int.emod_lt_of_pos _ (by decide)) (by decide)
end
end MM
namespace MM
open PySem PySem.Spec PyProof.Rows L2
theorem cut63 {xs : List V} (h : xs.length ≤ 63) : cutV xs none (some 63) = xs := by
  unfold cutV
  rw [HT.sIx_none, show HT.sIx xs.length xs.length (some 63) = min 63 xs.length from HT.sIx_nat xs.length xs.length 63, List.drop_zero]
  exact List.take_of_length_le (by omega)
/-- a drawn ratio: sixty times it is whole and not too great -/
def Gain (r : Rat) : Prop := Mm.IsN 60 60000000000 r
theorem Gain.lt {r : Rat} (h : Gain r) : Mm.Lt 36 r := Mm.isN_lt (by decide) (by decide) (by decide) h
theorem gain_int {z : Int} (h : z.natAbs ≤ 1000000000) : Gain (z : Rat) := ⟨z * 60, by rw [Rat.intCast_mul]; rfl, by rw [Int.natAbs_mul]; exact Nat.le_trans (Nat.mul_le_mul_right 60 h) (by decide)⟩
theorem gain_frac {t b : Int} (ht : t.natAbs ≤ 1000000000) (h1 : 1 ≤ b) (h2 : b ≤ 6) : Gain ((t : Rat) / (b : Rat)) := by
  have hb : b = 1 ∨ b = 2 ∨ b = 3 ∨ b = 4 ∨ b = 5 ∨ b = 6 := by omega
  have c : ∀ k : Int, k * b = 60 → k.natAbs ≤ 60 → Gain ((t : Rat) / (b : Rat)) := fun k hk hk2 => by
    refine ⟨t * k, ?_, by rw [Int.natAbs_mul]; exact Nat.le_trans (Nat.mul_le_mul ht hk2) (by decide)⟩
    have hb0 : (b : Rat) ≠ 0 := fun e => by
      have := Rat.intCast_eq_zero_iff.mp e
      omega
    have h60 : ((60 : Nat) : Rat) = (k : Rat) * (b : Rat) := by
      rw [← Rat.intCast_mul, hk]; rfl
    rw [h60, Rat.intCast_mul]
    grind
  rcases hb with h | h | h | h | h | h
  · exact c 60 (by omega) (by decide)
  · exact c 30 (by omega) (by decide)
  · exact c 20 (by omega) (by decide)
  · exact c 15 (by omega) (by decide)
  · exact c 12 (by omega) (by decide)
  · exact c 10 (by omega) (by decide)
theorem SX.ts {a : Addr} {H H' : Hp} {xs : List V} (h : H a = some (.lst xs)) (e : SX a H H') : TS H H' :=
  ⟨fun b ys hb => e b _ (ne_of hb h (fun z => by cases z)) hb, fun b o u hb => e b _ (ne_of hb h (fun z => by cases z)) hb⟩
def spGain (K : PySem.W.Frag) : Sp := fun vs H Q _ => ∃ (a c : Addr) (ns : List Int), vs = [.ref a] ∧ SrcAt H a c ns ∧ ∀ v r H', SX a H H' → SrcAt H' a c ns → RV K H' v r → Gain r → Q v H'
abbrev s__law_gain : Stmt := (topS 47)
theorem sc__law_gain : FnScope ["_law_src", "_law_way"] ["_law_src"] (defScope s__law_gain) := C8.fnScope_by (by decide +kernel)
abbrev s__law_rows : Stmt := (topS 48)
theorem sc__law_rows : FnScope ["_law_src", "_law_size", "_law_many", "_law_j", "_law_k"] ["_law_src", "_law_size", "_law_many"] (defScope s__law_rows) := C8.fnScope_by (by decide +kernel)
section
variable {P : Program} {w : World} {K : PySem.W.Frag} {mg : Str → Option Value} {base : Heap} {f : Addr} {fd : FuncData}
theorem ok_law_source (F : FnP K "_law_source" "_law_source" s__law_source f fd) (T : Txt K mg) : FnOk P w K mg base C8.CX0 1 f fd ["_law_script"] (spSource K) := by
  refine F.ok sc__law_source (fun vs H Q E h => ?_) (fun cdv A outer s H vs Q E hr h => ⟨_, PSs.nox (pss_cons (ps_set (i := 1) sc__law_source.nd rfl (.inl rfl) pe_int)
 (pss_cons (ps_for PassesOwn.never rfl (piListK (K := K) rfl (pe_slice (slK (K := K) rfl) (pv 0) po_none (po_some pe_int))) (pg_name (i := 2) sc__law_source.nd rfl (.inl rfl)) (pss_one (ps_set (i := 1) sc__law_source.nd rfl (.inl rfl) (pe_op op_mod (pe_callTy call_int1 rfl T.f_int (by decide +kernel) (pa_cons (pe_op op_add (pe_op op_add (pe_op op_mul (pv 1) pe_int) (pe_op op_mod (pe_callTy call_int1 rfl T.f_int (by decide +kernel) (pa_cons (pv 2) pa_nil)) pe_int)) pe_int) pa_nil)) pe_int))))
 (pss_one (ps_ret (pe_lst (pa_cons (pe_callTy (listK (K := K) rfl) rfl T.f_list (by decide +kernel) (pa_cons (pe_slice (slK (K := K) rfl) (pv 0) po_none (po_some pe_int)) pa_nil)) (pa_cons pe_int (pa_cons pe_int (pa_cons (pv 1) (pa_cons pe_int pa_nil)))))))))), ?_⟩)
  · obtain ⟨_, _, rfl, _⟩ := h
    rfl
  · obtain ⟨l, ns, rfl, hl, hz, q⟩ := h
    have hc : cutV (ns.map V.int) none (some 63) = ns.map V.int := cut63 (by rw [List.length_map]; exact hz)
    refine ⟨_, rfl, 63, rfl, l, _, rfl, hl, fun p np => ?_⟩
    rw [hc]
    have s1 : Same H (upd H p (.lst (ns.map V.int))) := Same.new np
    refine ⟨p, rfl, ⟨_, SqL.of upd_same⟩, for_list (K := K) (a := p) (xs := ns.map V.int) (fun i σ H' => ∃ (sd : Int) (cl : Option V), σ = [some (.ref l), some (.int sd), cl] ∧ 0 ≤ sd ∧ sd < 2147483648 ∧ Same H H' ∧ H' p = some (.lst (ns.map V.int)))
      ⟨10040, none, rfl, by decide, by decide, s1, upd_same⟩ (fun i σ H' _ ⟨_, _, _, _, _, _, h⟩ => SqL.of h) ?_ ?_⟩
    · rintro i u σ H' hu ⟨sd, cl, rfl, h0, h1, sm, hp⟩
      obtain ⟨z, ez, rfl⟩ : ∃ z, ns[i]? = some z ∧ u = V.int z := by
        rw [List.getElem?_map] at hu
        cases e : ns[i]? with
        | none => rw [e] at hu; cases hu
        | some z => rw [e] at hu; exact ⟨z, rfl, (Option.some.inj hu).symm⟩
      refine ⟨_, rfl, _, _, rfl, rfl, .inr ⟨by decide, by decide⟩, _, rfl, .inl ⟨_, rfl, _, _, rfl, rfl, (show (0 : Int) < 2147483353 by decide), _, _, rfl, rfl, _, _, rfl, rfl, .inl ⟨_, rfl, _, _, rfl, rfl, (show (0 : Int) < 2147483587 by decide), ?_⟩⟩⟩
      exact ⟨_, _, rfl, Int.emod_nonneg _ (by decide), Int.lt_trans (Int.emod_lt_of_pos _ (by decide)) (by decide), sm, hp⟩
    · rintro σ H' ⟨sd, cl, rfl, h0, h1, sm, hp⟩
      refine ⟨_, rfl, 63, rfl, l, _, rfl, sm.seq hl, fun p2 np2 => ?_⟩
      rw [hc]
      refine ⟨p2, _, rfl, .inl (SqL.of upd_same), fun c nc => ?_⟩
      refine ⟨_, rfl, by show 5 ≤ sizeLine; decide, fun a na => ?_⟩
      have s2 : Same H' (upd H' p2 (.lst (ns.map V.int))) := Same.new np2
      have s3 := s2.trans (Same.new (o := .lst (ns.map V.int)) nc)
      have nca : c ≠ a := fun e => by rw [e, upd_same] at na; cases na
      refine q a c _ ((sm.trans s3).trans (Same.new na)) ((sm.trans s3).free na) ((sm.trans s2).free nc) ⟨0, 0, sd, 0, upd_same, ?_, by decide, by omega, h0, h1⟩
      rw [upd_ne nca, upd_same]
theorem ok_law_gain (F : FnP K "_law_gain" "_law_gain" s__law_gain f fd) (T : Txt K mg) (c__law_draw : C8.Cal P w K mg base 1 "_law_draw" spDraw []) (c__law_low : C8.Cal P w K mg base 1 "_law_low" (spLow K) []) : FnOk P w K mg base C8.CX0 2 f fd ["_law_src"] (spGain K) := by
  refine F.ok sc__law_gain (fun vs H Q E h => ?_) (fun cdv A outer s H vs Q E hr h => ⟨_, PSs.nox (pss_cons (ps_set (i := 1) sc__law_gain.nd rfl (.inl rfl) (C8.pe_c c__law_draw hr (by first | decide | omega) rfl (pa_cons (pv 0) (pa_cons pe_int pa_nil))))
 (pss_cons (ps_if (pt_cmpR op_lt (pv 1) pe_int (nomark _)) (pss_one (ps_ret (pe_tup (pa_cons pe_int (pa_cons pe_int pa_nil))))) pss_nil)
 (pss_cons (ps_if (pt_cmpR op_lt (pv 1) pe_int (nomark _)) (pss_one (ps_ret (pe_tup (pa_cons (pe_op op_sub (C8.pe_c c__law_draw hr (by first | decide | omega) rfl (pa_cons (pv 0) (pa_cons pe_int pa_nil))) pe_int) (pa_cons pe_int pa_nil))))) pss_nil)
 (pss_cons (ps_if (pt_cmpR op_lt (pv 1) pe_int (nomark _)) (pss_one (ps_ret (C8.pe_c c__law_low hr (by first | decide | omega) rfl (pa_cons (pe_op op_sub (C8.pe_c c__law_draw hr (by first | decide | omega) rfl (pa_cons (pv 0) (pa_cons pe_int pa_nil))) pe_int) (pa_cons (pe_op op_add pe_int (C8.pe_c c__law_draw hr (by first | decide | omega) rfl (pa_cons (pv 0) (pa_cons pe_int pa_nil)))) pa_nil))))) pss_nil)
 (pss_one (ps_ret (pe_tup (pa_cons (pe_op op_sub (C8.pe_c c__law_draw hr (by first | decide | omega) rfl (pa_cons (pv 0) (pa_cons (pe_op op_pow pe_int pe_int) pa_nil))) (pe_op op_pow pe_int pe_int)) (pa_cons pe_int pa_nil))))))))), ?_⟩)
  · obtain ⟨_, _, _, rfl, _⟩ := h
    rfl
  · obtain ⟨a, c, ns, rfl, S, q⟩ := h
    refine ⟨_, rfl, a, c, ns, 12, rfl, S, by decide, by decide, fun d H1 d0 d1 x1 S1 => ?_⟩
    refine ⟨_, rfl, _, _, rfl, rfl, _, rfl, ite2 (fun c1 => ?_) (fun c1 => ?_)⟩
    · refine ⟨by show 2 ≤ sizeLine; decide, fun p np => ?_⟩
      exact q _ 0 _ (x1.trans (SX.of (Same.new np))) (S1.keep (Same.new np)) (RV.new rfl rfl) (gain_int (z := 0) (by decide))
    refine ⟨_, rfl, _, _, rfl, rfl, _, rfl, ite2 (fun c2 => ?_) (fun c2 => ?_)⟩
    · refine ⟨_, rfl, a, c, ns, 7, rfl, S1, by decide, by decide, fun e H2 e0 e1 x2 S2 => ?_⟩
      refine ⟨_, _, rfl, rfl, by show 2 ≤ sizeLine; decide, fun p np => ?_⟩
      exact q _ ((e - 3 : Int) : Rat) _ ((x1.trans x2).trans (SX.of (Same.new np))) (S2.keep (Same.new np)) (RV.new rfl rfl) (gain_int (by omega))
    refine ⟨_, rfl, _, _, rfl, rfl, _, rfl, ite2 (fun c3 => ?_) (fun c3 => ?_)⟩
    · refine ⟨_, rfl, a, c, ns, 13, rfl, S1, by decide, by decide, fun e H2 e0 e1 x2 S2 => ?_⟩
      refine ⟨_, _, rfl, rfl, _, rfl, a, c, ns, 6, rfl, S2, by decide, by decide, fun g H3 g0 g1 x3 S3 => ?_⟩
      refine ⟨_, _, rfl, rfl, e - 6, 1 + g, rfl, by omega, ?_, fun v H4 s4 r4 => ?_⟩
      · exact Nat.lt_of_le_of_lt (show (1 + g).natAbs ≤ 2 ^ 3 by omega) (Nat.pow_lt_pow_right (by decide) (by decide))
      · exact q v _ H4 (((x1.trans x2).trans x3).trans (SX.of s4)) (S3.keep s4) r4 (gain_frac (by omega) (by omega) (by omega))
    · refine ⟨_, rfl, _, _, rfl, rfl, ⟨by decide, by decide, by decide⟩, a, c, ns, 1000000000, rfl, S1, by decide, by decide, fun e H2 e0 e1 x2 S2 => ?_⟩
      refine ⟨_, _, rfl, rfl, ⟨by decide, by decide, by decide⟩, _, _, rfl, rfl, by show 2 ≤ sizeLine; decide, fun p np => ?_⟩
      exact q _ ((e - 10 ^ 8 : Int) : Rat) _ ((x1.trans x2).trans (SX.of (Same.new np))) (S2.keep (Same.new np)) (RV.new rfl rfl) (gain_int (by omega))
end
end MM
namespace MM
open PySem PySem.Spec PyProof.Rows L2
/-! ### as data -/
def rD (r : Rat) : PyData := .tuple [.int r.num, .int (r.den : Int)]
def rowD (k : Bool) (r : PRow) : PyData := .tuple [match k with | true => .list (r.f.map rD) | false => .tuple (r.f.map rD), rD r.b, .bool r.s]
section
variable {K : PySem.W.Frag} {H : Hp} {vs : List V} {rs : List Rat} {v : V} {r : Rat} {a : Addr} {k : Bool}
theorem RV.dp (h : RV K H v r) : Dp K H v (rD r) := by
  obtain ⟨a, rfl, h⟩ := h
  exact .tup h (.cons (.int _) (.cons (.int _) .nil))
theorem RL.tail {v : V} (h : RL K H (v :: vs) (r :: rs)) : RV K H v r ∧ RL K H vs rs := by
  refine ⟨?_, ?_, fun i q e => ?_⟩
  · obtain ⟨w, h1, h2⟩ := h.2 0 r rfl
    cases h1
    exact h2
  · have := h.1
    simpa using this
  · exact h.2 (i + 1) q e
theorem RL.dp : ∀ {rs : List Rat} {vs : List V}, RL K H vs rs → DpAll K H vs (rs.map rD)
  | [], [], _ => .nil
  | [], _ :: _, h => by have := h.1; simp at this
  | _ :: _, [], h => by have := h.1; simp at this
  | r :: rs, v :: vs, h => .cons h.tail.1.dp h.tail.2.dp
theorem RowV.dp {r : PRow} (h : RowV k K H v r) : Dp K H v (rowD k r) := by
  obtain ⟨t, a, vb, rfl, h1, ⟨vs, h2, h3⟩, h4⟩ := h
  cases k with
  | true => exact .tup h1 (.cons (.lst h2 h3.dp) (.cons h4.dp (.cons (.bl _) .nil)))
  | false => exact .tup h1 (.cons (.tup h2 h3.dp) (.cons h4.dp (.cons (.bl _) .nil)))
theorem RowsL.tail {v : V} {vs : List V} {r : PRow} {rs : List PRow} (h : RowsL k K H (v :: vs) (r :: rs)) : RowV k K H v r ∧ RowsL k K H vs rs := by
  refine ⟨?_, ?_, fun i q e => ?_⟩
  · obtain ⟨w, h1, h2⟩ := h.2 0 r rfl
    cases h1
    exact h2
  · have := h.1
    simpa using this
  · exact h.2 (i + 1) q e
theorem RowsL.dp : ∀ {rs : List PRow} {vs : List V}, RowsL k K H vs rs → DpAll K H vs (rs.map (rowD k))
  | [], [], _ => .nil
  | [], _ :: _, h => by have := h.1; simp at this
  | _ :: _, [], h => by have := h.1; simp at this
  | r :: rs, v :: vs, h => .cons h.tail.1.dp h.tail.2.dp
end
theorem lay_rs : ∀ rs : List Rat, PyData.canLayAll0 (rs.map rD) = true
  | [] => rfl
  | r :: rs => by
    show (PyData.canLay0 (rD r) && PyData.canLayAll0 (rs.map rD)) = true
    rw [lay_rs rs]; rfl
theorem dep_rs : ∀ rs : List Rat, PyData.depthAll (rs.map rD) ≤ 1
  | [] => Nat.zero_le _
  | r :: rs => by
    show max (PyData.depth (rD r)) (PyData.depthAll (rs.map rD)) ≤ 1
    have := dep_rs rs
    have h1 : PyData.depth (rD r) = 1 := rfl
    omega
theorem lay_row (k : Bool) (r : PRow) : PyData.canLay0 (rowD k r) = true := by
  cases k with
  | true =>
    show (PyData.canLayAll0 (r.f.map rD) && _) = true
    rw [lay_rs]; rfl
  | false =>
    show (PyData.canLayAll0 (r.f.map rD) && _) = true
    rw [lay_rs]; rfl
theorem dep_row (k : Bool) (r : PRow) : PyData.depth (rowD k r) ≤ 3 := by
  have h := dep_rs r.f
  have hb : PyData.depth (rD r.b) = 1 := rfl
  cases k with
  | true =>
    show max (PyData.depthAll (r.f.map rD) + 1) (max (PyData.depth (rD r.b)) (max 0 0)) + 1 ≤ 3
    omega
  | false =>
    show max (PyData.depthAll (r.f.map rD) + 1) (max (PyData.depth (rD r.b)) (max 0 0)) + 1 ≤ 3
    omega
theorem lay_rows (k : Bool) : ∀ rs : List PRow, PyData.canLayAll0 (rs.map (rowD k)) = true
  | [] => rfl
  | r :: rs => by
    show (PyData.canLay0 (rowD k r) && PyData.canLayAll0 (rs.map (rowD k))) = true
    rw [lay_rows k rs, lay_row]; rfl
theorem dep_rows (k : Bool) : ∀ rs : List PRow, PyData.depthAll (rs.map (rowD k)) ≤ 3
  | [] => Nat.zero_le _
  | r :: rs => by
    show max (PyData.depth (rowD k r)) (PyData.depthAll (rs.map (rowD k))) ≤ 3
    have := dep_rows k rs
    have := dep_row k r
    omega
theorem sh_r (r : Rat) : SeqAt.shaped (rD r) = true := rfl
theorem sh_rs (rs : List Rat) : SeqAt.shaped (.list (rs.map rD)) = true := by
  unfold SeqAt.shaped
  rw [Bool.and_eq_true, decide_eq_true_iff]
  refine ⟨lay_rs rs, ?_⟩
  show PyData.depthAll (rs.map rD) + 1 ≤ 64
  have := dep_rs rs
  omega
theorem sh_rows (k : Bool) (rs : List PRow) : SeqAt.shaped (.list (rs.map (rowD k))) = true := by
  unfold SeqAt.shaped
  rw [Bool.and_eq_true, decide_eq_true_iff]
  refine ⟨lay_rows k rs, ?_⟩
  show PyData.depthAll (rs.map (rowD k)) + 1 ≤ 64
  have := dep_rows k rs
  omega
theorem eqv_r (a b : Rat) : PyData.eqv (rD a) (rD b) = decide (a = b) := by
  show (a.num == b.num && ((a.den : Int) == (b.den : Int) && true)) = decide (a = b)
  rw [Bool.and_true, Bool.eq_iff_iff, Bool.and_eq_true, beq_iff_eq, beq_iff_eq, decide_eq_true_iff]
  exact ⟨fun h => Mm.rat_ext h.1 h.2, fun h => by rw [h]; exact ⟨rfl, rfl⟩⟩
/-- == of two ratios -/
def rEqR (K : PySem.W.Frag) : R2 := fun x y H Q => ∃ a b : Rat, RV K H x a ∧ RV K H y b ∧ Q (.bl (decide (a = b))) H
def rNeR (K : PySem.W.Frag) : R2 := fun x y H Q => ∃ a b : Rat, RV K H x a ∧ RV K H y b ∧ Q (.bl (!decide (a = b))) H
/-- == of a list of data and an empty list -/
def rEqNil (K : PySem.W.Frag) (e : Bool) : R2 := fun x y H Q => ∃ (p q : Addr) (xs : List V) (ds : List PyData), x = .ref p ∧ y = .ref q ∧ SqL K H p xs ∧ SqL K H q [] ∧ DpAll K H xs ds ∧ SeqAt.shaped (.list ds) = true ∧ Q (.bl (if ds.isEmpty then e else !e)) H
theorem eqv_nil (ds : List PyData) : PyData.eqv (.list ds) (.list []) = ds.isEmpty := by
  cases ds with
  | nil => rfl
  | cons d r => rfl
section
variable {X : Cx} {K : PySem.W.Frag}
theorem eqRK (h : X.K = K) (hu : X.A.units + 64 < cLine) : OpR X (compareOp .Eq) (rEqR K) := fun pins s σ H x y u v Q I rx ry hq => by
  obtain ⟨a, b, ha, hb, q⟩ := hq
  exact eqDK h hu pins s σ H x y u v Q I rx ry ⟨_, _, ha.dp, hb.dp, sh_r a, sh_r b, by rw [eqv_r]; exact q⟩
theorem neRK (h : X.K = K) (hu : X.A.units + 64 < cLine) : OpR X (compareOp .NotEq) (rNeR K) := fun pins s σ H x y u v Q I rx ry hq => by
  obtain ⟨a, b, ha, hb, q⟩ := hq
  exact neDK h hu pins s σ H x y u v Q I rx ry ⟨_, _, ha.dp, hb.dp, sh_r a, sh_r b, by rw [eqv_r]; exact q⟩
theorem eqNilK (h : X.K = K) (hu : X.A.units + 64 < cLine) : OpR X (compareOp .Eq) (rEqNil K true) := fun pins s σ H x y u v Q I rx ry hq => by
  obtain ⟨p, q', xs, ds, rfl, rfl, hp, hn, hd, hs, q⟩ := hq
  refine eqDK h hu pins s σ H _ _ u v Q I rx ry ⟨_, _, .lst hp hd, .lst hn .nil, hs, rfl, ?_⟩
  rw [eqv_nil]
  cases e : ds.isEmpty <;> rw [e] at q <;> exact q
theorem neNilK (h : X.K = K) (hu : X.A.units + 64 < cLine) : OpR X (compareOp .NotEq) (rEqNil K false) := fun pins s σ H x y u v Q I rx ry hq => by
  obtain ⟨p, q', xs, ds, rfl, rfl, hp, hn, hd, hs, q⟩ := hq
  refine neDK h hu pins s σ H _ _ u v Q I rx ry ⟨_, _, .lst hp hd, .lst hn .nil, hs, rfl, ?_⟩
  rw [eqv_nil]
  cases e : ds.isEmpty <;> rw [e] at q <;> exact q
end
/-! ### rows apart from some addresses -/
def RowE (ex : Addr → Prop) (K : PySem.W.Frag) (H : Hp) (v : V) (r : PRow) : Prop := ∃ t a vb vs, v = .ref t ∧ SqT K H t [.ref a, vb, .bl r.s] ∧ H a = some (.lst vs) ∧ ¬ ex a ∧ RL K H vs r.f ∧ RV K H vb r.b
def RowsE (ex : Addr → Prop) (K : PySem.W.Frag) (H : Hp) (vs : List V) (rs : List PRow) : Prop := vs.length = rs.length ∧ ∀ (i : Nat) (r : PRow), rs[i]? = some r → ∃ v, vs[i]? = some v ∧ RowE ex K H v r
/-- tuples and the lists apart stay -/
def KeepE (ex : Addr → Prop) (H H' : Hp) : Prop := TS H H' ∧ ∀ b xs, ¬ ex b → H b = some (.lst xs) → H' b = some (.lst xs)
section
variable {ex ex' : Addr → Prop} {K : PySem.W.Frag} {H H' H1 : Hp} {vs : List V} {rs : List PRow} {v : V} {r : PRow} {a D : Addr}
theorem KeepE.of (e : Same H H') : KeepE ex H H' := ⟨TS.of e, fun b xs _ h => e _ _ h⟩
theorem KeepE.trans (x : KeepE ex H H1) (y : KeepE ex H1 H') : KeepE ex H H' := ⟨x.1.trans y.1, fun b xs n h => y.2 b xs n (x.2 b xs n h)⟩
theorem KeepE.sx {xs : List V} (h : H a = some (.lst xs)) (x : SX a H H') (he : ex a) : KeepE ex H H' := ⟨SX.ts h x, fun b ys n hb => x b _ (fun e => n (by rw [e]; exact he)) hb⟩
theorem KeepE.put {xs : List V} {o : HO} (h : H D = some (.lst xs)) (he : ex D) : KeepE ex H (upd H D o) := ⟨TS.lst h, fun b ys n hb => by rw [upd_ne (fun e => n (by rw [e]; exact he))]; exact hb⟩
theorem RowE.keep (h : RowE ex K H v r) (k : KeepE ex H H') : RowE ex K H' v r := by
  obtain ⟨t, a, vb, vs, rfl, h1, h2, h3, h4, h5⟩ := h
  exact ⟨t, a, vb, vs, rfl, k.1.tup h1, k.2 _ _ h3 h2, h3, h4.ts k.1, h5.ts k.1⟩
theorem RowsE.keep (h : RowsE ex K H vs rs) (k : KeepE ex H H') : RowsE ex K H' vs rs := ⟨h.1, fun i r e => by
  obtain ⟨v, h1, h2⟩ := h.2 i r e
  exact ⟨v, h1, h2.keep k⟩⟩
theorem RowsE.weak (h : RowsE ex K H vs rs) (w : ∀ a, ex' a → ex a) : RowsE ex' K H vs rs := ⟨h.1, fun i r e => by
  obtain ⟨v, h1, t, a, vb, ws, e1, h2, h3, h4, h5, h6⟩ := h.2 i r e
  exact ⟨v, h1, t, a, vb, ws, e1, h2, h3, fun z => h4 (w a z), h5, h6⟩⟩
theorem RowE.row (h : RowE ex K H v r) : RowV true K H v r := by
  obtain ⟨t, a, vb, vs, rfl, h1, h2, h3, h4, h5⟩ := h
  exact ⟨t, a, vb, rfl, h1, ⟨vs, SqL.of h2, h4⟩, h5⟩
theorem RowsE.rows (h : RowsE ex K H vs rs) : RowsL true K H vs rs := ⟨h.1, fun i r e => by
  obtain ⟨v, h1, h2⟩ := h.2 i r e
  exact ⟨v, h1, h2.row⟩⟩
theorem RowsE.nil : RowsE ex K H [] [] := ⟨rfl, fun i r h => by simp at h⟩
theorem RowsE.snoc (h : RowsE ex K H vs rs) (hv : RowE ex K H v r) : RowsE ex K H (vs ++ [v]) (rs ++ [r]) := by
  refine ⟨by rw [List.length_append, List.length_append, h.1]; rfl, fun i q e => ?_⟩
  by_cases c : i < rs.length
  · rw [List.getElem?_append_left c] at e
    rw [List.getElem?_append_left (by rw [h.1]; exact c)]
    exact h.2 i q e
  · rw [List.getElem?_append_right (by omega)] at e
    have : i - rs.length = 0 := by
      have := (List.getElem?_eq_some_iff.mp e).1
      simp at this
      omega
    rw [this] at e
    cases e
    rw [List.getElem?_append_right (by rw [h.1]; omega), h.1, this]
    exact ⟨v, rfl, hv⟩
end
/-- a drawn row -/
def RowG (n : Nat) (r : PRow) : Prop := r.f.length = n ∧ Gain r.b ∧ ∀ x ∈ r.f, Gain x
def spRows (K : PySem.W.Frag) : Sp := fun vs H Q _ => ∃ (a c : Addr) (ns : List Int) (n m : Nat), vs = [.ref a, .int n, .int m] ∧ SrcAt H a c ns ∧ n ≤ 1000 ∧ m ≤ 1000 ∧
  ∀ p acc rows H', SX a H H' → SrcAt H' a c ns → H p = none → H' p = some (.lst acc) → RowsE (fun b => b = a ∨ b = p) K H' acc rows → rows.length = m → (∀ r ∈ rows, RowG n r) → Q (.ref p) H'
section
variable {P : Program} {w : World} {K : PySem.W.Frag} {mg : Str → Option Value} {base : Heap} {f : Addr} {fd : FuncData}
theorem ok_law_rows (F : FnP K "_law_rows" "_law_rows" s__law_rows f fd) (T : Txt K mg) (c__law_draw : C8.Cal P w K mg base 1 "_law_draw" spDraw []) (c__law_gain : C8.Cal P w K mg base 2 "_law_gain" (spGain K) []) : FnOk P w K mg base C8.CX0 3 f fd ["_law_src", "_law_size", "_law_many"] (spRows K) := by
  refine F.ok sc__law_rows (fun vs H Q E h => ?_) (fun cdv A outer s H vs Q E hr h => ⟨_, PSs.nox (pss_one (ps_ret (pe_lc (own := [("_law_k", 4)]) (g := (gName 4)) (tt := tYes) rfl sc__law_rows.nd (pi_range1 rfl T.f_range (pa_cons (pv 2) pa_nil)) (blkOk_by (own := [("_law_k", 4)]) (by kernel_rfl)) (fun _ _ _ _ _ => (pg_name (i := 4) sc__law_rows.nd rfl (.inl rfl))) (fun _ _ _ _ _ => pts_nil) (fun _ _ _ _ _ => (pe_tup (pa_cons (pe_lc (own := [("_law_j", 3)]) (g := (gName 3)) (tt := tYes) rfl sc__law_rows.nd (pi_range1 rfl T.f_range (pa_cons (pv 1) pa_nil)) (blkOk_by (own := [("_law_j", 3)]) (by kernel_rfl)) (fun _ _ _ _ _ => (pg_name (i := 3) sc__law_rows.nd rfl (.inl rfl))) (fun _ _ _ _ _ => pts_nil) (fun _ _ _ _ _ => (C8.pe_c c__law_gain hr (by first | decide | omega) rfl (pa_cons (pv 0) pa_nil)))) (pa_cons (C8.pe_c c__law_gain hr (by first | decide | omega) rfl (pa_cons (pv 0) pa_nil)) (pa_cons (pe_cmpR op_eq (C8.pe_c c__law_draw hr (by first | decide | omega) rfl (pa_cons (pv 0) (pa_cons pe_int pa_nil))) pe_int (nomark _)) pa_nil)))))))), ?_⟩)
  · obtain ⟨_, _, _, _, _, rfl, _⟩ := h
    rfl
  · obtain ⟨a, c, ns, n, m, rfl, S, hn, hm, q⟩ := h
    refine ⟨_, rfl, m, rfl, by omega, by omega, fun D nD => ?_⟩
    have aD : D ≠ a := fun e => by
      obtain ⟨_, _, _, _, h1, _⟩ := S
      rw [← e, nD] at h1
      cases h1
    refine lc_range (lo := 0) (n := m) (fun k H' => SX a H H' ∧ SrcAt H' a c ns ∧ ∃ acc rows, H' D = some (.lst acc) ∧ RowsE (fun b => b = a ∨ b = D) K H' acc rows ∧ rows.length = k ∧ ∀ r ∈ rows, RowG n r)
      ⟨SX.of (Same.new nD), S.keep (Same.new nD), [], [], upd_same, RowsE.nil, rfl, fun r h => by simp at h⟩ ?_ ?_
    · rintro k H' hk ⟨x1, S1, acc, rows, hD, hR, hl, hG⟩
      refine ⟨rfl, tyes ⟨_, rfl, n, rfl, by omega, by omega, fun D2 nD2 => ?_⟩⟩
      have aD2 : D2 ≠ a := fun e => by
        obtain ⟨_, _, _, _, h1, _⟩ := S1
        rw [← e, nD2] at h1
        cases h1
      have DD2 : D2 ≠ D := (ne_of_none hD nD2).symm
      refine lc_range (lo := 0) (n := n) (fun j H2 => SX a H' H2 ∧ SrcAt H2 a c ns ∧ ∃ acc2 rs, H2 D2 = some (.lst acc2) ∧ RL K H2 acc2 rs ∧ rs.length = j ∧ ∀ x ∈ rs, Gain x)
        ⟨SX.of (Same.new nD2), S1.keep (Same.new nD2), [], [], upd_same, RL.nil, rfl, fun r h => by simp at h⟩ ?_ ?_
      · rintro j H2 hj ⟨x2, S2, acc2, rs, hD2, hrs, hl2, hG2⟩
        refine ⟨rfl, tyes ⟨_, rfl, a, c, ns, rfl, S2, fun v r H3 x3 S3 rv gr => ?_⟩⟩
        obtain ⟨_, _, _, _, ha2, _⟩ := id S2
        have hD3 := x3 _ _ aD2 hD2
        refine ⟨acc2, hD3, ?_, ?_, ?_, acc2 ++ [v], rs ++ [r], upd_same, ((hrs.ts (SX.ts ha2 x3)).snoc rv).ts (TS.lst hD3), by rw [List.length_append, hl2]; rfl, fun x hx => ?_⟩
        · rw [hrs.1]
          exact Nat.lt_of_le_of_lt (show rs.length ≤ 1000 by omega) (by decide)
        · intro b o hb e
          rw [upd_ne (ne_of_none e nD2)]
          exact x3 b o hb (x2 b o hb e)
        · obtain ⟨p, x, sd, n', h1, h2, r⟩ := S3
          have cD2 : c ≠ D2 := fun e => by
            rw [e, hD3] at h2
            obtain ⟨_, _, _, _, _, h5, _⟩ := S1
            rw [e, nD2] at h5
            cases h5
          exact ⟨p, x, sd, n', by rw [upd_ne aD2.symm]; exact h1, by rw [upd_ne cD2]; exact h2, r⟩
        · rcases List.mem_append.mp hx with h | h
          · exact hG2 x h
          · rw [List.mem_singleton.mp h]; exact gr
      · rintro H2 ⟨x2, S2, acc2, rs, hD2, hrs, hl2, hG2⟩
        refine ⟨_, rfl, a, c, ns, rfl, S2, fun vb rb H3 x3 S3 rvb gb => ?_⟩
        refine ⟨_, rfl, a, c, ns, 3, rfl, S3, by decide, by decide, fun d H4 _ _ x4 S4 => ?_⟩
        refine ⟨rfl, by show 3 ≤ sizeLine; decide, fun t nt => ?_⟩
        have hD4 : H4 D = some (.lst acc) := x4 _ _ aD (x3 _ _ aD (x2 _ _ aD hD))
        have hD24 : H4 D2 = some (.lst acc2) := x4 _ _ aD2 (x3 _ _ aD2 hD2)
        obtain ⟨_, _, _, _, ha1, _⟩ := id S1
        obtain ⟨_, _, _, _, ha2, _⟩ := id S2
        obtain ⟨_, _, _, _, ha3, _⟩ := id S3
        have kp14 : KeepE (fun b => b = a ∨ b = D) H' H4 := ((KeepE.sx ha1 x2 (.inl rfl)).trans (KeepE.sx ha2 x3 (.inl rfl))).trans (KeepE.sx ha3 x4 (.inl rfl))
        have s5 : Same H4 (upd H4 t (.tup [.ref D2, vb, .bl (decide (V.int d = V.int 0))])) := Same.new nt
        have hD5 := s5 _ _ hD4
        have kp5 := kp14.trans (KeepE.of (ex := fun b => b = a ∨ b = D) s5)
        have hrow : RowE (fun b => b = a ∨ b = D) K (upd H4 t (.tup [.ref D2, vb, .bl (decide (V.int d = V.int 0))])) (.ref t) ⟨rs, rb, decide (V.int d = V.int 0)⟩ :=
          ⟨t, D2, vb, acc2, rfl, SqT.of upd_same, s5 _ _ hD24, fun z => z.elim aD2 DD2, ((hrs.ts (SX.ts ha2 x3)).ts (SX.ts ha3 x4)).mono s5, (rvb.ts (SX.ts ha3 x4)).mono s5⟩
        refine ⟨acc, hD5, ?_, ?_, ?_, acc ++ [.ref t], rows ++ [⟨rs, rb, decide (V.int d = V.int 0)⟩], upd_same, ((hR.keep kp5).snoc hrow).keep (KeepE.put hD5 (.inr rfl)), by rw [List.length_append, hl]; rfl, fun r hr => ?_⟩
        · rw [hR.1]
          exact Nat.lt_of_le_of_lt (show rows.length ≤ 1000 by omega) (by decide)
        · intro b o hb e
          rw [upd_ne (ne_of_none e nD)]
          exact s5 _ _ (x4 b o hb (x3 b o hb (x2 b o hb (x1 b o hb e))))
        · obtain ⟨p, x, sd, n', h1, h2, r⟩ := S4.keep s5
          have cD : c ≠ D := fun e => by
            obtain ⟨_, _, _, _, _, h5, _⟩ := S
            rw [e, nD] at h5
            cases h5
          exact ⟨p, x, sd, n', by rw [upd_ne aD.symm]; exact h1, by rw [upd_ne cD]; exact h2, r⟩
        · rcases List.mem_append.mp hr with h | h
          · exact hG r h
          · rw [List.mem_singleton.mp h]; exact ⟨hl2, gb, hG2⟩
    · rintro H' ⟨x1, S1, acc, rows, hD, hR, hl, hG⟩
      exact q D acc rows H' x1 S1 nD hD hR hl hG
end
end MM
namespace MM
open PySem PySem.Spec PyProof.Rows L2
def spLKeeps (K : PySem.W.Frag) : Sp := fun vs H Q _ => ∃ (a b : Addr) (rs : List PRow) (ws : List Rat) (ka kw ks : Nat), vs = [.ref a, .ref b, .bl false] ∧ RowsAt true K H a rs ∧ SR true K H b ws ∧ ws.length ≤ 1000 ∧ rs.length ≤ 1000 ∧
  (∀ r ∈ rs, r.f.length = ws.length ∧ Mm.Lt ka r.b ∧ (∀ x ∈ r.f, Mm.Lt ka x) ∧ (∀ i, i ≤ ws.length → Mm.Lt ks (psum r.f ws i)) ∧ psum r.f ws ws.length ≤ r.b ∧ (r.s = true → psum r.f ws ws.length ≠ r.b)) ∧
  (∀ x ∈ ws, Mm.Lt kw x ∧ 0 ≤ x) ∧ ks + (kw + ka) ≤ 9000 ∧ RetB H Q true
abbrev s__law_keeps : Stmt := (topS 49)
theorem sc__law_keeps : FnScope ["_law_rows_here", "_law_values", "_law_loose", "_law_factors", "_law_bound", "_law_strict", "_law_got", "_law_one"] ["_law_rows_here", "_law_values", "_law_loose"] (defScope s__law_keeps) := C8.fnScope_by (by decide +kernel)
abbrev s__law_barred : Stmt := (topS 50)
theorem sc__law_barred : FnScope ["_law_size", "_law_rows_here", "_law_weights", "_law_one", "_law_sums", "_law_k", "_law_j", "_law_bound"] ["_law_size", "_law_rows_here", "_law_weights"] (defScope s__law_barred) := C8.fnScope_by (by decide +kernel)
section
variable {P : Program} {w : World} {K : PySem.W.Frag} {mg : Str → Option Value} {base : Heap} {f : Addr} {fd : FuncData}
theorem ok_law_keeps (F : FnP K "_law_keeps" "_law_keeps" s__law_keeps f fd) (T : Txt K mg) (c__law_less : C8.Cal P w K mg base 1 "_law_less" (spBelow K) []) (c__law_dot : C8.Cal P w K mg base 4 "_law_dot" (spLDot K) []) : FnOk P w K mg base C8.CX0 5 f fd ["_law_rows_here", "_law_values", "_law_loose"] (spLKeeps K) := by
  refine F.ok sc__law_keeps (fun vs H Q E h => ?_) (fun cdv A outer s H vs Q E hr h => ⟨_, PSs.nox (pss_cons (ps_for PassesOwn.never rfl (piListK (K := K) rfl (pv 0)) (pgTupK (K := K) rfl rfl (pgs_cons (pg_name (i := 3) sc__law_keeps.nd rfl (.inl rfl)) (pgs_cons (pg_name (i := 4) sc__law_keeps.nd rfl (.inl rfl)) (pgs_cons (pg_name (i := 5) sc__law_keeps.nd rfl (.inl rfl)) pgs_nil)))) (pss_cons (ps_set (i := 6) sc__law_keeps.nd rfl (.inl rfl) (C8.pe_c c__law_dot hr (by first | decide | omega) rfl (pa_cons (pv 3) (pa_cons (pv 1) pa_nil))))
 (pss_one (ps_if (PW.pt (pw_or (pt_val (C8.pe_c c__law_less hr (by first | decide | omega) rfl (pa_cons (pv 4) (pa_cons (pv 6) pa_nil)))) (pw_or1 (PW.pt (pw_and (pt_val (pv 5)) (pw_and (pt_not (pt_val (pv 2))) (pw_and1 (pt_cmpR (eqRK (K := K) rfl hr.units) (pv 6) (pv 4) (nomark _))))))))) (pss_one (ps_ret pe_bl)) pss_nil))))
 (pss_one (ps_ret (pe_cmpR (eqNilK (K := K) rfl hr.units) (pe_lc (own := [("_law_one", 7)]) (g := (gName 7)) rfl sc__law_keeps.nd (piListK (K := K) rfl (pv 1)) (blkOk_by (own := [("_law_one", 7)]) (by kernel_rfl)) (fun _ _ _ _ _ => (pg_name (i := 7) sc__law_keeps.nd rfl (.inl rfl))) (fun _ _ _ _ _ => (pts_one (pt_cmpR op_lt (pe_ix (ixK (K := K) rfl) (pv 7) pe_int (fun _ _ => rfl)) pe_int (nomark _)))) (fun _ _ _ _ _ => (pv 7))) (pe_lst pa_nil) (nomark _))))), ?_⟩)
  · obtain ⟨_, _, _, _, _, _, _, rfl, _⟩ := h
    rfl
  · obtain ⟨a, b, rs, ws, ka, kw, ks, rfl, ⟨vr, hr', rr⟩, ⟨vw, hw, rw'⟩, lw, lr, br, bw, hk, q⟩ := h
    have hw : SqL K H b vw := hw
    refine ⟨_, rfl, a, rfl, ⟨_, hr'⟩, for_list (K := K) (a := a) (xs := vr) (fun i σ H' => ∃ l1 l2 l3 l4 l5, σ = [some (.ref a), some (.ref b), some (.bl false), l1, l2, l3, l4, l5] ∧ Same H H')
      ⟨none, none, none, none, none, rfl, Same.refl H⟩ (fun i σ H' _ ⟨_, _, _, _, _, _, s⟩ => s.seq hr') ?_ ?_⟩
    · rintro i u σ H' hu ⟨l1, l2, l3, l4, l5, rfl, sm⟩
      obtain ⟨r, er, t, ta, vb, rfl, ht, ⟨vf, hf, rf⟩, hb⟩ := rr.of_v hu
      have hmem := List.mem_of_getElem? er
      obtain ⟨b1, b2, b3, b4, b5, b6⟩ := br r hmem
      have hf : SqL K H ta vf := hf
      refine ⟨t, _, rfl, Same.tup sm ht, rfl, _, _, rfl, _, _, rfl, _, _, rfl, rfl, ?_⟩
      refine ⟨_, rfl, _, rfl, ta, b, r.f, ws, ka, kw, ks, rfl, ⟨vf, sm.seq hf, rf.mono sm⟩, ⟨vw, sm.seq hw, rw'.mono sm⟩, b1, by omega, b3, fun x hx => (bw x hx).1, fun i hi => b4 i (by omega), by omega, fun vg H1 e1 r1 => ?_⟩
      rw [b1] at r1
      have hb1 := (hb.mono sm).mono e1
      have hn : decide (r.b < psum r.f ws ws.length) = false := decide_eq_false (Rat.not_lt.mpr b5)
      refine ⟨_, rfl, _, rfl, vb, vg, r.b, _, ka, ks, rfl, hb1, r1, b2, b4 _ (Nat.le_refl _), by omega, _, rfl, ?_⟩
      rw [hn]
      refine iteF ⟨_, rfl, _, rfl, ?_⟩
      cases hs : r.s with
      | false => exact iteF (iteF ⟨_, _, _, _, _, rfl, sm.trans e1⟩)
      | true =>
        refine iteT ⟨_, rfl, _, rfl, iteT ⟨_, rfl, _, rfl, _, _, r1, hb1, _, rfl, ?_⟩⟩
        rw [decide_eq_false (b6 hs)]
        exact iteF ⟨_, _, _, _, _, rfl, sm.trans e1⟩
    · rintro σ H' ⟨l1, l2, l3, l4, l5, rfl, sm⟩
      refine ⟨_, rfl, b, rfl, ⟨_, sm.seq hw⟩, fun D nD => ?_⟩
      refine lc_list (K := K) (a := b) (xs := vw) (fun i H2 => Same H' H2 ∧ H2 D = some (.lst [])) ⟨Same.new nD, upd_same⟩ (fun i H2 _ g => g.1.seq (sm.seq hw)) ?_ ?_
      · rintro i u H2 hu ⟨s2, hD⟩
        obtain ⟨x, ex, hux⟩ := rw'.of_v hu
        have x0 : ¬ (x.num < (0 : Int)) := Int.not_lt.mpr (Mm.nonneg_num.mp (bw x (List.mem_of_getElem? ex)).2)
        refine ⟨rfl, _, rfl, ix_num (hux.mono (sm.trans s2)) ⟨_, _, rfl, rfl, _, rfl, ?_⟩⟩
        rw [decide_eq_false x0]
        exact iteF ⟨s2, hD⟩
      · rintro H2 ⟨s2, hD⟩
        refine ⟨by decide, fun p np => ?_⟩
        have s3 : Same H2 (upd H2 p (.lst [])) := Same.new np
        refine ⟨D, p, [], [], rfl, rfl, SqL.of (s3 _ _ hD), SqL.of upd_same, .nil, rfl, ?_⟩
        exact q _ ((sm.trans s2).trans s3)
theorem ints_dp {H : Hp} : ∀ ks : List Int, DpAll K H (ks.map V.int) (ks.map PyData.int)
  | [] => .nil
  | k :: ks => .cons (.int k) (ints_dp ks)
theorem lay_ints : ∀ ks : List Int, PyData.canLayAll0 (ks.map PyData.int) = true
  | [] => rfl
  | r :: rs => by
    show (PyData.canLay0 (.int r) && PyData.canLayAll0 (rs.map PyData.int)) = true
    rw [lay_ints rs]; rfl
theorem dep_ints : ∀ ks : List Int, PyData.depthAll (ks.map PyData.int) ≤ 0
  | [] => Nat.zero_le _
  | r :: rs => by
    show max (PyData.depth (.int r)) (PyData.depthAll (rs.map PyData.int)) ≤ 0
    have := dep_ints rs
    have h1 : PyData.depth (.int r) = 0 := rfl
    omega
theorem sh_ints (ks : List Int) : SeqAt.shaped (.list (ks.map PyData.int)) = true := by
  unfold SeqAt.shaped
  rw [Bool.and_eq_true, decide_eq_true_iff]
  refine ⟨lay_ints ks, ?_⟩
  show PyData.depthAll (ks.map PyData.int) + 1 ≤ 64
  have := dep_ints ks
  omega
def spLBar (K : PySem.W.Frag) : Sp := fun vs H Q _ => ∃ (n : Nat) (a b : Addr) (rs : List PRow) (ws : List Rat) (ka kw ks : Nat), vs = [.int n, .ref a, .ref b] ∧ RowsAt true K H a rs ∧ SR true K H b ws ∧ ws.length = rs.length ∧ n ≤ 1000 ∧ rs.length ≤ 1000 ∧ 0 < ka ∧
  (∀ r ∈ rs, r.f.length = n ∧ Mm.Lt ka r.b ∧ ∀ x ∈ r.f, Mm.Lt ka x) ∧ (∀ x ∈ ws, Mm.Lt kw x ∧ 0 ≤ x) ∧ (∀ j i, i ≤ rs.length → Mm.Lt ks (psum ws (colR rs j) i)) ∧ (∀ i, i ≤ rs.length → Mm.Lt ks (psum ws (bndR rs) i)) ∧ ks + (kw + ka) ≤ 9000 ∧
  (∀ j, j < n → 0 ≤ psum ws (colR rs j) rs.length) ∧ (psum ws (bndR rs) rs.length < 0 ∨ (psum ws (bndR rs) rs.length = 0 ∧ ∃ i r, rs[i]? = some r ∧ r.s = true ∧ 0 < ws.getD i 0)) ∧ RetB H Q true
theorem colR_at {rs : List PRow} {i j : Nat} {r : PRow} (h : rs[i]? = some r) : (colR rs j)[i]? = some (r.f.getD j 0) := by
  unfold colR
  rw [List.getElem?_map, h]; rfl
theorem bndR_at {rs : List PRow} {i : Nat} {r : PRow} (h : rs[i]? = some r) : (bndR rs)[i]? = some r.b := by
  unfold bndR
  rw [List.getElem?_map, h]; rfl
theorem mulR_at' {ws cs : List Rat} {i : Nat} (h1 : i < ws.length) (h2 : i < cs.length) : (mulR ws cs)[i]? = some (ws[i] * cs[i]) := mulR_at (List.getElem?_eq_getElem h1) (List.getElem?_eq_getElem h2)
theorem ok_law_barred (F : FnP K "_law_barred" "_law_barred" s__law_barred f fd) (T : Txt K mg) (c__law_times : C8.Cal P w K mg base 2 "_law_times" (spTimes K) []) (c__law_total : C8.Cal P w K mg base 3 "_law_total" (spTotal K) []) : FnOk P w K mg base C8.CX0 4 f fd ["_law_size", "_law_rows_here", "_law_weights"] (spLBar K) := by
  refine F.ok sc__law_barred (fun vs H Q E h => ?_) (fun cdv A outer s H vs Q E hr h => ⟨_, PSs.nox (pss_cons (ps_if (pt_cmpR (neNilK (K := K) rfl hr.units) (pe_lc (own := [("_law_one", 3)]) (g := (gName 3)) rfl sc__law_barred.nd (piListK (K := K) rfl (pv 2)) (blkOk_by (own := [("_law_one", 3)]) (by kernel_rfl)) (fun _ _ _ _ _ => (pg_name (i := 3) sc__law_barred.nd rfl (.inl rfl))) (fun _ _ _ _ _ => (pts_one (pt_cmpR op_lt (pe_ix (ixK (K := K) rfl) (pv 3) pe_int (fun _ _ => rfl)) pe_int (nomark _)))) (fun _ _ _ _ _ => (pv 3))) (pe_lst pa_nil) (nomark _)) (pss_one (ps_ret pe_bl)) pss_nil)
 (pss_cons (ps_setLc (i := 4) (own := [("_law_j", 6)]) (g := (gName 6)) (tt := tYes) rfl sc__law_barred.nd rfl rfl (sw_true rfl rfl rfl (by decide +kernel)) (pi_range1 rfl T.f_range (pa_cons (pv 0) pa_nil)) (blkOk_by (own := [("_law_j", 6)]) (by kernel_rfl)) (fun _ _ _ _ _ => (pg_name (i := 6) sc__law_barred.nd rfl (.inr rfl))) (fun _ _ _ _ _ => pts_nil) (fun _ _ _ _ _ => (C8.pe_c c__law_total hr (by first | decide | omega) rfl (pa_cons (pe_lc (own := [("_law_k", 5)]) (g := (gName 5)) (tt := tYes) rfl sc__law_barred.nd (pi_range1 rfl T.f_range (pa_cons (pe_callB (lenK (K := K) rfl) rfl T.f_len (by decide +kernel) (pa_cons (pv 1) pa_nil)) pa_nil)) (blkOk_by (own := [("_law_k", 5)]) (by kernel_rfl)) (fun _ _ _ _ _ => (pg_name (i := 5) sc__law_barred.nd rfl (.inl rfl))) (fun _ _ _ _ _ => pts_nil) (fun _ _ _ _ _ => (C8.pe_c c__law_times hr (by first | decide | omega) rfl (pa_cons (pe_ix (ixK (K := K) rfl) (pv 2) (pv 5) (fun _ _ => rfl)) (pa_cons (pe_ix (ixK (K := K) rfl) (pe_ix (ixK (K := K) rfl) (pe_ix (ixK (K := K) rfl) (pv 1) (pv 5) (fun _ _ => rfl)) pe_int (fun _ _ => rfl)) (pv 6) (fun _ _ => rfl)) pa_nil))))) pa_nil))))
 (pss_cons (ps_set (i := 7) sc__law_barred.nd rfl (.inl rfl) (C8.pe_c c__law_total hr (by first | decide | omega) rfl (pa_cons (pe_lc (own := [("_law_k", 5)]) (g := (gName 5)) (tt := tYes) rfl sc__law_barred.nd (pi_range1 rfl T.f_range (pa_cons (pe_callB (lenK (K := K) rfl) rfl T.f_len (by decide +kernel) (pa_cons (pv 1) pa_nil)) pa_nil)) (blkOk_by (own := [("_law_k", 5)]) (by kernel_rfl)) (fun _ _ _ _ _ => (pg_name (i := 5) sc__law_barred.nd rfl (.inl rfl))) (fun _ _ _ _ _ => pts_nil) (fun _ _ _ _ _ => (C8.pe_c c__law_times hr (by first | decide | omega) rfl (pa_cons (pe_ix (ixK (K := K) rfl) (pv 2) (pv 5) (fun _ _ => rfl)) (pa_cons (pe_ix (ixK (K := K) rfl) (pe_ix (ixK (K := K) rfl) (pv 1) (pv 5) (fun _ _ => rfl)) pe_int (fun _ _ => rfl)) pa_nil))))) pa_nil)))
 (pss_cons (ps_if (pt_cmpR (neNilK (K := K) rfl hr.units) (pe_lc (own := [("_law_one", 3)]) (g := (gName 3)) rfl sc__law_barred.nd (piListK (K := K) rfl (pv 4)) (blkOk_by (own := [("_law_one", 3)]) (by kernel_rfl)) (fun _ _ _ _ _ => (pg_name (i := 3) sc__law_barred.nd rfl (.inl rfl))) (fun _ _ _ _ _ => (pts_one (pt_cmpR op_lt (pe_ix (ixK (K := K) rfl) (pv 3) pe_int (fun _ _ => rfl)) pe_int (nomark _)))) (fun _ _ _ _ _ => (pv 3))) (pe_lst pa_nil) (nomark _)) (pss_one (ps_ret pe_bl)) pss_nil)
 (pss_one (ps_ret (pe_or (pe_cmpR op_lt (pe_ix (ixK (K := K) rfl) (pv 7) pe_int (fun _ _ => rfl)) pe_int (nomark _)) (pe_one (pe_and (pe_cmpR op_eq (pe_ix (ixK (K := K) rfl) (pv 7) pe_int (fun _ _ => rfl)) pe_int (nomark _)) (pe_one (pe_cmpR (neNilK (K := K) rfl hr.units) (pe_lc (own := [("_law_k", 5)]) (g := (gName 5)) rfl sc__law_barred.nd (pi_range1 rfl T.f_range (pa_cons (pe_callB (lenK (K := K) rfl) rfl T.f_len (by decide +kernel) (pa_cons (pv 1) pa_nil)) pa_nil)) (blkOk_by (own := [("_law_k", 5)]) (by kernel_rfl)) (fun _ _ _ _ _ => (pg_name (i := 5) sc__law_barred.nd rfl (.inl rfl))) (fun _ _ _ _ _ => (pts_one (PW.pt (pw_and (pt_val (pe_ix (ixK (K := K) rfl) (pe_ix (ixK (K := K) rfl) (pv 1) (pv 5) (fun _ _ => rfl)) pe_int (fun _ _ => rfl))) (pw_and1 (pt_cmpR op_gt (pe_ix (ixK (K := K) rfl) (pe_ix (ixK (K := K) rfl) (pv 2) (pv 5) (fun _ _ => rfl)) pe_int (fun _ _ => rfl)) pe_int (nomark _))))))) (fun _ _ _ _ _ => (pv 5))) (pe_lst pa_nil) (nomark _)))))))))))), ?_⟩)
  · obtain ⟨_, _, _, _, _, _, _, _, rfl, _⟩ := h
    rfl
  · obtain ⟨n, a, b, rs, ws, ka, kw, ks, rfl, ⟨vr, hr', rr⟩, ⟨vw, hw, rw'⟩, lw, hn, lr, ka0, br, bw, bc, bb, hk, pc, pb, q⟩ := h
    have hw : SqL K H b vw := hw
    refine ⟨_, rfl, b, rfl, ⟨_, hw⟩, fun D nD => ?_⟩
    refine lc_list (K := K) (a := b) (xs := vw) (fun i H2 => Same H H2 ∧ H2 D = some (.lst [])) ⟨Same.new nD, upd_same⟩ (fun i H2 _ g => g.1.seq hw) ?_ ?_
    · rintro i u H2 hu ⟨s2, hD⟩
      obtain ⟨x, ex, hux⟩ := rw'.of_v hu
      have x0 : ¬ (x.num < (0 : Int)) := Int.not_lt.mpr (Mm.nonneg_num.mp (bw x (List.mem_of_getElem? ex)).2)
      refine ⟨rfl, _, rfl, ix_num (hux.mono s2) ⟨_, _, rfl, rfl, _, rfl, ?_⟩⟩
      rw [decide_eq_false x0]
      exact iteF ⟨s2, hD⟩
    rintro H1 ⟨s1, hD1⟩
    refine ⟨by decide, fun p1 np1 => ?_⟩
    have s12 : Same H1 (upd H1 p1 (.lst [])) := Same.new np1
    refine ⟨D, p1, [], [], rfl, rfl, SqL.of (s12 _ _ hD1), SqL.of upd_same, .nil, rfl, _, rfl, iteF ?_⟩
    generalize hH2 : upd H1 p1 (.lst []) = H2
    rw [hH2] at s12
    have s2 := s1.trans s12
    -- the column sums
    have lcol : ∀ j, (colR rs j).length = rs.length := fun j => List.length_map ..
    have lbnd : (bndR rs).length = rs.length := List.length_map ..
    have bcol : ∀ j, ∀ x ∈ colR rs j, Mm.Lt ka x := fun j x hx => by
      obtain ⟨r, hr, rfl⟩ := List.mem_map.mp hx
      rw [List.getD_eq_getElem?_getD]
      cases e : r.f[j]? with
      | none => exact zero_lt ka0
      | some y => exact (br r hr).2.2 y (List.mem_of_getElem? e)
    have bbnd : ∀ x ∈ bndR rs, Mm.Lt ka x := fun x hx => by
      obtain ⟨r, hr, rfl⟩ := List.mem_map.mp hx
      exact (br r hr).2.1
    have bmul : ∀ cs : List Rat, cs.length = rs.length → (∀ x ∈ cs, Mm.Lt ka x) → ∀ x ∈ mulR ws cs, Mm.Lt (kw + ka) x := fun cs hl hb x hx => by
      obtain ⟨i, hi, rfl⟩ := List.mem_iff_getElem.mp hx
      rw [mulR_len (lw.trans hl.symm)] at hi
      have e := mulR_at' hi (show i < cs.length by omega)
      rw [List.getElem?_eq_getElem (by rw [mulR_len (lw.trans hl.symm)]; exact hi)] at e
      rw [Option.some.inj e]
      exact (bw _ (List.getElem_mem hi)).1.mul (hb _ (List.getElem_mem (by omega)))
    let zs : List Rat := (List.range n).map fun j => psum ws (colR rs j) rs.length
    have lz : zs.length = n := by
      show ((List.range n).map _).length = n
      rw [List.length_map, List.length_range]
    refine ⟨_, rfl, n, rfl, by omega, by omega, fun Dz nDz => ?_⟩
    refine lc_range (lo := 0) (n := n) (Grow K H2 Dz zs) (Grow.zero nDz) ?_ ?_
    · intro j H' hj g
      have s3 := s2.trans g.1
      refine ⟨rfl, tyes ⟨_, rfl, _, _, rfl, .inl (s3.seq hr'), _, rfl, by rw [rr.1]; omega, by rw [rr.1]; omega, fun D2 nD2 => ?_⟩⟩
      have e0 : ((vr.length : Nat) : Int).toNat = rs.length := by rw [rr.1]; omega
      rw [e0]
      have lm : (mulR ws (colR rs j)).length = rs.length := by rw [mulR_len (lw.trans (lcol j).symm), lw]
      refine lc_range (lo := 0) (n := rs.length) (Grow K H' D2 (mulR ws (colR rs j))) (Grow.zero nD2) ?_ ?_
      · intro i H3 hi g3
        have s4 := s3.trans g3.1
        obtain ⟨u, eu, hu⟩ := rw'.at (show i < ws.length by omega)
        obtain ⟨v, ev, t, ta, vb, rfl, ht, ⟨vf, hf, rf⟩, hb⟩ := rr.2 i _ (List.getElem?_eq_getElem hi)
        have hmem := List.getElem_mem hi
        obtain ⟨b1, b2, b3⟩ := br _ hmem
        obtain ⟨vx, evx, hvx⟩ := rf.at (show j < rs[i].f.length by rw [b1]; exact hj)
        refine ⟨rfl, tyes ⟨_, rfl, _, rfl, ix_l (j := i) (by omega) (s4.seq hw) eu ⟨_, rfl, _, rfl, ix_l (j := i) (by omega) (s4.seq hr') ev (ix_t (j := 0) rfl (Same.tup s4 ht) rfl ⟨_, rfl, ix_l (j := j) (by omega) (s4.seq hf) evx ?_⟩)⟩⟩⟩
        refine ⟨u, vx, _, _, kw, ka, rfl, hu.mono s4, hvx.mono s4, (bw _ (List.getElem_mem _)).1, b3 _ (List.getElem_mem _), by omega, fun y H4 e4 r4 => ?_⟩
        refine g3.step nD2 e4 ?_ r4 (by omega)
        refine mulR_at (List.getElem?_eq_getElem (show i < ws.length by omega)) ?_
        rw [colR_at (List.getElem?_eq_getElem hi), getD_of (List.getElem?_eq_getElem (show j < rs[i].f.length by rw [b1]; exact hj))]
      · intro H3 g3
        obtain ⟨s4, acc, hD2, hacc⟩ := g3.done (by omega)
        refine ⟨D2, mulR ws (colR rs j), kw + ka, ks, rfl, ⟨acc, SqL.of hD2, hacc⟩, bmul _ (lcol j) (bcol j), fun i hi => ?_, hk, fun v H4 s5 r5 => ?_⟩
        · rw [totR_mul (lw.trans (lcol j).symm)]
          exact bc j i (by omega)
        · refine g.step nDz (s4.trans s5) ?_ r5 (by omega)
          show ((List.range n).map _)[j]? = _
          rw [List.getElem?_map, List.getElem?_range hj, totR_mul (lw.trans (lcol j).symm), lm]
          rfl
    intro H3 g3
    obtain ⟨s23, accz, hDz, hz⟩ := g3.done (by omega)
    have s3 := s2.trans s23
    -- the sum of the bounds
    refine ⟨_, rfl, _, _, rfl, .inl (s3.seq hr'), _, rfl, by rw [rr.1]; omega, by rw [rr.1]; omega, fun D2 nD2 => ?_⟩
    have e0 : ((vr.length : Nat) : Int).toNat = rs.length := by rw [rr.1]; omega
    rw [e0]
    have lm : (mulR ws (bndR rs)).length = rs.length := by rw [mulR_len (lw.trans lbnd.symm), lw]
    refine lc_range (lo := 0) (n := rs.length) (Grow K H3 D2 (mulR ws (bndR rs))) (Grow.zero nD2) ?_ ?_
    · intro i H4 hi g4
      have s4 := s3.trans g4.1
      obtain ⟨u, eu, hu⟩ := rw'.at (show i < ws.length by omega)
      obtain ⟨v, ev, t, ta, vb, rfl, ht, ⟨vf, hf, rf⟩, hb⟩ := rr.2 i _ (List.getElem?_eq_getElem hi)
      obtain ⟨b1, b2, b3⟩ := br _ (List.getElem_mem hi)
      refine ⟨rfl, tyes ⟨_, rfl, _, rfl, ix_l (j := i) (by omega) (s4.seq hw) eu ⟨_, rfl, _, rfl, ix_l (j := i) (by omega) (s4.seq hr') ev (ix_t (j := 1) rfl (Same.tup s4 ht) rfl ?_)⟩⟩⟩
      refine ⟨u, vb, _, _, kw, ka, rfl, hu.mono s4, hb.mono s4, (bw _ (List.getElem_mem _)).1, b2, by omega, fun y H5 e5 r5 => ?_⟩
      refine g4.step nD2 e5 ?_ r5 (by omega)
      exact mulR_at (List.getElem?_eq_getElem (show i < ws.length by omega)) (bndR_at (List.getElem?_eq_getElem hi))
    intro H4 g4
    obtain ⟨s34, acc, hD2, hacc⟩ := g4.done (by omega)
    refine ⟨D2, mulR ws (bndR rs), kw + ka, ks, rfl, ⟨acc, SqL.of hD2, hacc⟩, bmul _ lbnd bbnd, fun i hi => ?_, hk, fun vb H5 s45 rb => ?_⟩
    · rw [totR_mul (lw.trans lbnd.symm)]
      exact bb i (by omega)
    rw [totR_mul (lw.trans lbnd.symm), lm] at rb
    have s35 := s34.trans s45
    have s5 := s3.trans s35
    have hDz5 := s35 _ _ hDz
    have hz5 := hz.mono s35
    -- no sum below nothing
    refine ⟨_, rfl, Dz, rfl, ⟨_, SqL.of hDz5⟩, fun D3 nD3 => ?_⟩
    refine lc_list (K := K) (a := Dz) (xs := accz) (fun i H' => Same H5 H' ∧ H' D3 = some (.lst [])) ⟨Same.new nD3, upd_same⟩ (fun i H' _ g => g.1.seq (SqL.of hDz5)) ?_ ?_
    · rintro i u H' hu ⟨s6, hD⟩
      obtain ⟨x, ex, hux⟩ := hz5.of_v hu
      have ix0 : 0 ≤ x := by
        obtain ⟨j, hj, rfl⟩ := List.mem_map.mp (List.mem_of_getElem? ex)
        exact pc j (List.mem_range.mp hj)
      have x0 : ¬ (x.num < (0 : Int)) := Int.not_lt.mpr (Mm.nonneg_num.mp ix0)
      refine ⟨rfl, _, rfl, ix_num (hux.mono s6) ⟨_, _, rfl, rfl, _, rfl, ?_⟩⟩
      rw [decide_eq_false x0]
      exact iteF ⟨s6, hD⟩
    rintro H6 ⟨s56, hD6⟩
    refine ⟨by decide, fun p7 np7 => ?_⟩
    have s67 : Same H6 (upd H6 p7 (.lst [])) := Same.new np7
    refine ⟨D3, p7, [], [], rfl, rfl, SqL.of (s67 _ _ hD6), SqL.of upd_same, .nil, rfl, _, rfl, iteF ?_⟩
    generalize hH7 : upd H6 p7 (.lst []) = H7
    rw [hH7] at s67
    have s57 := s56.trans s67
    have s7 := s5.trans s57
    have rb7 := rb.mono s57
    refine ⟨_, rfl, ix_num rb7 ⟨_, _, rfl, rfl, _, rfl, ?_⟩⟩
    refine ite2 (fun c => ?_) (fun c => ?_)
    · exact c ▸ q _ s7
    · have z0 : psum ws (bndR rs) rs.length = 0 ∧ ∃ i r, rs[i]? = some r ∧ r.s = true ∧ 0 < ws.getD i 0 := pb.resolve_left fun z => c (decide_eq_true (Mm.neg_num.mp z))
      obtain ⟨z0, i0, r0, er0, es0, ew0⟩ := z0
      refine ⟨_, rfl, ix_num rb7 ⟨rfl, _, rfl, ?_⟩⟩
      rw [eq_num, if_pos (decide_eq_true z0)]
      refine ⟨_, rfl, _, _, rfl, .inl (s7.seq hr'), _, rfl, by rw [rr.1]; omega, by rw [rr.1]; omega, fun D8 nD8 => ?_⟩
      rw [e0]
      refine lc_range (lo := 0) (n := rs.length) (fun i H' => Same H7 H' ∧ ∃ acc : List Int, H' D8 = some (.lst (acc.map V.int)) ∧ acc.length ≤ i ∧ (i0 < i → acc ≠ [])) ⟨Same.new nD8, [], upd_same, Nat.le_refl _, fun h => by omega⟩ ?_ ?_
      · rintro i H' hi ⟨s8, acc8, hD8, hl8, hne8⟩
        have s78 := s7.trans s8
        obtain ⟨u, eu, hu⟩ := rw'.at (show i < ws.length by omega)
        obtain ⟨v, ev, t, ta, vb, rfl, ht, _, _⟩ := rr.2 i _ (List.getElem?_eq_getElem hi)
        refine ⟨rfl, _, rfl, _, rfl, ix_l (j := i) (by omega) (s78.seq hr') ev (ix_t (j := 2) rfl (Same.tup s78 ht) rfl ⟨_, rfl, ?_⟩)⟩
        have hg : ws.getD i 0 = ws[i] := getD_of (List.getElem?_eq_getElem (by omega))
        have hno : (rs[i].s = true → 0 < ws[i] → False) → Same H7 H' ∧ ∃ acc : List Int, H' D8 = some (.lst (acc.map V.int)) ∧ acc.length ≤ i + 1 ∧ (i0 < i + 1 → acc ≠ []) := fun hf => by
          refine ⟨s8, acc8, hD8, by omega, fun h => hne8 ?_⟩
          by_cases c : i0 = i
          · subst c
            rw [List.getElem?_eq_getElem hi] at er0
            cases er0
            rw [hg] at ew0
            exact (hf es0 ew0).elim
          · omega
        refine ite2 (fun c1 => ?_) (fun c1 => ?_)
        · refine ⟨_, rfl, _, rfl, ix_l (j := i) (by omega) (s78.seq hw) eu (ix_num (hu.mono s78) ⟨_, _, rfl, rfl, _, rfl, ?_⟩)⟩
          refine ite2 (fun c2 => ?_) (fun c2 => ?_)
          · refine ⟨_, rfl, _, hD8, ?_, Same.mut s8 nD8, acc8 ++ [(0 + (i : Int))], ?_, ?_, fun _ => by simp⟩
            · rw [List.length_map]
              exact Nat.lt_of_le_of_lt (show acc8.length ≤ 1000 by omega) (by decide)
            · rw [upd_same, List.map_append]; rfl
            · rw [List.length_append]; exact Nat.succ_le_succ hl8
          · exact hno fun _ h => c2 (decide_eq_true (Mm.pos_num.mp h))
        · exact hno fun h _ => c1 h
      · rintro H8 ⟨s8, acc8, hD8, hl8, hne8⟩
        refine ⟨by decide, fun p9 np9 => ?_⟩
        have s9 : Same H8 (upd H8 p9 (.lst [])) := Same.new np9
        refine ⟨D8, p9, _, _, rfl, rfl, SqL.of (s9 _ _ hD8), SqL.of upd_same, ints_dp acc8, sh_ints acc8, ?_⟩
        have hi0 := (List.getElem?_eq_some_iff.mp er0).1
        have hn := hne8 hi0
        cases e : acc8 with
        | nil => exact absurd e hn
        | cons x xs => exact q _ ((s7.trans s8).trans s9)
end
end MM
namespace MM
open PySem PySem.Spec PyProof.Rows L2 LamX
open Mm (Tab)
/-! ### frames -/
/-- all but lists and instances stay -/
def Mv (H H' : Hp) : Prop := ∀ b o, H b = some o → (∀ xs, o ≠ .lst xs) → (∀ C dx fs, o ≠ .ins C dx fs) → H' b = some o
section
variable {H H1 H' : Hp} {a : Addr}
theorem Mv.of (e : Same H H') : Mv H H' := fun b o h _ _ => e b o h
theorem Mv.trans (x : Mv H H1) (y : Mv H1 H') : Mv H H' := fun b o h n1 n2 => y b o (x b o h n1 n2) n1 n2
theorem Mv.lst {xs : List V} {o : HO} (h : H a = some (.lst xs)) : Mv H (upd H a o) := fun b u e n1 _ => by
  rw [upd_ne (fun z => by rw [z, h] at e; exact n1 _ (Option.some.inj e).symm)]; exact e
theorem Mv.ins {C dx : Addr} {fs : List (Str × V)} {o : HO} (h : H a = some (.ins C dx fs)) : Mv H (upd H a o) := fun b u e _ n2 => by
  rw [upd_ne (fun z => by rw [z, h] at e; exact n2 _ _ _ (Option.some.inj e).symm)]; exact e
theorem Mv.ts (x : Mv H H') : TS H H' := ⟨fun b xs h => x b _ h (fun _ z => by cases z) (fun _ _ _ z => by cases z), fun b o u h => x b _ h (fun _ z => by cases z) (fun _ _ _ z => by cases z)⟩
theorem Mv.tabs {L : List (Addr × Str)} (x : Mv H H') (t : Tabs L H) : Tabs L H' := fun p hp => by
  obtain ⟨ps, h1, h2, h3⟩ := t p hp
  refine ⟨ps, x _ _ h1 (fun _ z => by cases z) (fun _ _ _ z => by cases z), h2, fun pos cv hc => ?_⟩
  obtain ⟨c, e1, e2⟩ := h3 pos cv hc
  refine ⟨c, e1, x _ _ e2 (fun _ z => ?_) (fun _ _ _ z => ?_)⟩
  · unfold CodeO at z; cases z
  · unfold CodeO at z; cases z
theorem _root_.LamX.ExtN.same {H0 : Hp} (x : ExtN H0 H) (e : Same H H') : ExtN H0 H' := x.trans (ExtN.of e)
/-- what was not there may change -/
theorem _root_.LamX.ExtN.put {H0 : Hp} {o : HO} (x : ExtN H0 H) (h : H0 a = none) : ExtN H0 (upd H a o) := fun b u e n => by
  rw [upd_ne (ne_of_none e h)]; exact x b u e n
theorem _root_.LamX.ExtN.ts (x : ExtN H H') : TS H H' := ⟨fun b xs h => x b _ h (fun _ z => by cases z), fun b o u h => x b _ h (fun _ z => by cases z)⟩
end
theorem none0 {H0 H : Hp} {a : Addr} (nt : ∀ b ps, H0 b ≠ some (.tbl ps)) (x : ExtN H0 H) (h : H a = none) : H0 a = none := by
  cases e : H0 a with
  | none => rfl
  | some o =>
    have := x a o e (fun ps z => nt a ps (by rw [e, z]))
    rw [h] at this
    cases this
/-- all but the object at p stay -/
def Pf (p : Addr) (H H' : Hp) : Prop := ∀ b o, H b = some o → b ≠ p → H' b = some o
section
variable {H H1 H' : Hp} {p : Addr}
theorem Pf.of (e : Same H H') : Pf p H H' := fun b o h _ => e b o h
theorem Pf.trans (x : Pf p H H1) (y : Pf p H1 H') : Pf p H H' := fun b o h n => y b o (x b o h n) n
theorem Pf.put {o : HO} : Pf p H (upd H p o) := fun b u h n => by rw [upd_ne n]; exact h
theorem Pf.mv {C dx : Addr} {fs : List (Str × V)} (x : Pf p H H') (h : H p = some (.ins C dx fs)) : Mv H H' := fun b o e _ n2 => x b o e (fun z => by
  rw [z, h] at e
  exact n2 _ _ _ (Option.some.inj e).symm)
theorem Pf.lst {C dx a : Addr} {fs : List (Str × V)} {xs : List V} {K : PySem.W.Frag} (x : Pf p H H') (h : H p = some (.ins C dx fs)) (e : SqL K H a xs) : SqL K H' a xs := by
  rcases e with (e | ⟨o, e⟩) | e
  · exact .inl (.inl (x _ _ e (ne_of e h (fun z => by cases z))))
  · exact .inl (.inr ⟨o, x _ _ e (ne_of e h (fun z => by cases z))⟩)
  · exact .inr e
end
/-! ### the tableau in the heap -/
def natV (l : List Nat) : List V := l.map fun (n : Nat) => V.int (n : Int)
theorem natV_at {l : List Nat} {i n : Nat} (h : l[i]? = some n) : (natV l)[i]? = some (.int (n : Int)) := by
  unfold natV
  rw [List.getElem?_map, h]; rfl
theorem natV_len (l : List Nat) : (natV l).length = l.length := List.length_map ..
theorem natV_set (l : List Nat) (i n : Nat) : natV (l.set i n) = (natV l).set i (.int (n : Int)) := by
  unfold natV
  rw [List.map_set]
def fldT (w m : Nat) (la lb lc lg : Addr) : List (Str × V) := [(Str.ofString "width", V.int w), (Str.ofString "many", V.int m), (Str.ofString "rest", V.ref la), (Str.ofString "base", V.ref lb), (Str.ofString "cells", V.ref lc), (Str.ofString "goal", V.ref lg)]
structure TC (K : PySem.W.Frag) (C : Addr) : Prop where
  cls : Cls K C
  width : NoAttr K C "width"
  many : NoAttr K C "many"
  rest : NoAttr K C "rest"
  base : NoAttr K C "base"
  cells : NoAttr K C "cells"
  goal : NoAttr K C "goal"
structure TblAt (K : PySem.W.Frag) (C : Addr) (H0 H : Hp) (p dx la lb lc lg : Addr) (vc vg : List V) (T : Tab) : Prop where
  ob : H p = some (.ins C dx (fldT T.width T.many la lb lc lg))
  ra : H la = some (.lst (natV T.rest))
  rb : H lb = some (.lst (natV T.base))
  rc : H lc = some (.lst vc)
  rg : H lg = some (.lst vg)
  gv : RL K H vg T.goal
  cl : vc.length = T.cells.length
  cv : ∀ (i : Nat) (rs : List Rat), T.cells[i]? = some rs → ∃ (r : Addr) (vs : List V), vc[i]? = some (V.ref r) ∧ H r = some (.lst vs) ∧ RL K H vs rs ∧ r ≠ la ∧ r ≠ lb ∧ r ≠ lc
  ab : la ≠ lb
  ac : la ≠ lc
  bc : lb ≠ lc
  ga : lg ≠ la
  gb : lg ≠ lb
  gc : lg ≠ lc
  fp : H0 p = none
  fa : H0 la = none
  fb : H0 lb = none
  fc : H0 lc = none
  nt : ∀ b ps, H0 b ≠ some (.tbl ps)
section
variable {K : PySem.W.Frag} {C : Addr} {H0 H H' : Hp} {p dx la lb lc lg : Addr} {vc vg : List V} {T : Tab} {Q : VK} {σ : L2.St} {v : V} {f : Str}
theorem TblAt.mono (t : TblAt K C H0 H p dx la lb lc lg vc vg T) (e : Same H H') : TblAt K C H0 H' p dx la lb lc lg vc vg T :=
  { t with ob := e _ _ t.ob, ra := e _ _ t.ra, rb := e _ _ t.rb, rc := e _ _ t.rc, rg := e _ _ t.rg, gv := t.gv.mono e,
           cv := fun i rs h => by
             obtain ⟨r, vs, h1, h2, h3, h4⟩ := t.cv i rs h
             exact ⟨r, vs, h1, e _ _ h2, h3.mono e, h4⟩ }
theorem TblAt.extN (t : TblAt K C H0 H p dx la lb lc lg vc vg T) (e : ExtN H H') : TblAt K C H0 H' p dx la lb lc lg vc vg T :=
  { t with ob := e _ _ t.ob (fun _ z => by cases z), ra := e _ _ t.ra (fun _ z => by cases z), rb := e _ _ t.rb (fun _ z => by cases z), rc := e _ _ t.rc (fun _ z => by cases z), rg := e _ _ t.rg (fun _ z => by cases z), gv := t.gv.ts e.ts,
           cv := fun i rs h => by
             obtain ⟨r, vs, h1, h2, h3, h4⟩ := t.cv i rs h
             exact ⟨r, vs, h1, e _ _ h2 (fun _ z => by cases z), h3.ts e.ts, h4⟩ }
theorem put_goal {w m : Nat} {x : Addr} : putF "goal" (V.ref x) (fldT w m la lb lc lg) = fldT w m la lb lc x := rfl
theorem put_rest {w m : Nat} {x : Addr} : putF "rest" (V.ref x) (fldT w m la lb lc lg) = fldT w m x lb lc lg := rfl
theorem put_cells {w m : Nat} {x : Addr} : putF "cells" (V.ref x) (fldT w m la lb lc lg) = fldT w m la lb x lg := rfl
theorem TblAt.row (t : TblAt K C H0 H p dx la lb lc lg vc vg T) {i : Nat} (h : i < T.cells.length) : ∃ (r : Addr) (vs : List V), vc[i]? = some (V.ref r) ∧ H r = some (.lst vs) ∧ RL K H vs (T.row i) ∧ r ≠ la ∧ r ≠ lb ∧ r ≠ lc := by
  have e : T.cells[i]? = some (T.row i) := by
    unfold Mm.Tab.row
    rw [List.getD_eq_getElem?_getD, List.getElem?_eq_getElem h]; rfl
  exact t.cv i _ e
theorem TblAt.setCells (t : TblAt K C H0 H p dx la lb lc lg vc vg T) {r : Addr} {vs : List V} {rs : List Rat} (i : Nat) (hr : H r = some (.lst vs)) (hv : RL K H vs rs) (na : r ≠ la) (nb : r ≠ lb) (nc : r ≠ lc) :
    TblAt K C H0 (upd H lc (.lst (vc.set i (.ref r)))) p dx la lb lc lg (vc.set i (.ref r)) vg { T with cells := T.cells.set i rs } := by
  have ts := TS.lst (o := .lst (vc.set i (.ref r))) t.rc
  refine ⟨?_, ?_, ?_, upd_same, ?_, t.gv.ts ts, ?_, ?_, t.ab, t.ac, t.bc, t.ga, t.gb, t.gc, t.fp, t.fa, t.fb, t.fc, t.nt⟩
  · rw [upd_ne (ne_of t.ob t.rc (fun z => by cases z))]; exact t.ob
  · rw [upd_ne t.ac]; exact t.ra
  · rw [upd_ne t.bc]; exact t.rb
  · rw [upd_ne t.gc]; exact t.rg
  · show (vc.set i _).length = (T.cells.set i rs).length
    rw [List.length_set, List.length_set, t.cl]
  · intro j rs' h
    have h : (T.cells.set i rs)[j]? = some rs' := h
    by_cases e : i = j
    · subst e
      have hlt : i < T.cells.length := by
        have := (List.getElem?_eq_some_iff.mp h).1
        rw [List.length_set] at this
        exact this
      rw [List.getElem?_set_self hlt] at h
      cases h
      refine ⟨r, vs, ?_, ?_, hv.ts ts, na, nb, nc⟩
      · rw [List.getElem?_set_self (by rw [t.cl]; exact hlt)]
      · rw [upd_ne nc]; exact hr
    · rw [List.getElem?_set_ne e] at h
      obtain ⟨r', vs', h1, h2, h3, h4, h5, h6⟩ := t.cv j rs' h
      refine ⟨r', vs', ?_, ?_, h3.ts ts, h4, h5, h6⟩
      · rw [List.getElem?_set_ne e]; exact h1
      · rw [upd_ne h6]; exact h2
theorem TblAt.setRow (t : TblAt K C H0 H p dx la lb lc lg vc vg T) {r : Addr} {ws vs : List V} {rs : List Rat} (i : Nat) (hi : vc[i]? = some (V.ref r)) (nd : vc.Nodup) (hr : H r = some (.lst ws)) (hv : RL K H vs rs) (na : r ≠ la) (nb : r ≠ lb) (nc : r ≠ lc) (ng : r ≠ lg) (h0 : H0 r = none) :
    TblAt K C H0 (upd H r (.lst vs)) p dx la lb lc lg vc vg { T with cells := T.cells.set i rs } := by
  have ts := TS.lst (o := .lst vs) hr
  refine ⟨?_, ?_, ?_, ?_, ?_, t.gv.ts ts, ?_, ?_, t.ab, t.ac, t.bc, t.ga, t.gb, t.gc, t.fp, t.fa, t.fb, t.fc, t.nt⟩
  · rw [upd_ne (ne_of t.ob hr (fun z => by cases z))]; exact t.ob
  · rw [upd_ne na.symm]; exact t.ra
  · rw [upd_ne nb.symm]; exact t.rb
  · rw [upd_ne nc.symm]; exact t.rc
  · rw [upd_ne ng.symm]; exact t.rg
  · show vc.length = (T.cells.set i rs).length
    rw [List.length_set, t.cl]
  · intro j rs' h
    have h : (T.cells.set i rs)[j]? = some rs' := h
    have hi1 := (List.getElem?_eq_some_iff.mp hi).1
    by_cases e : i = j
    · subst e
      rw [List.getElem?_set_self (by rw [← t.cl]; exact hi1)] at h
      cases h
      exact ⟨r, vs, hi, upd_same, hv.ts ts, na, nb, nc⟩
    · rw [List.getElem?_set_ne e] at h
      obtain ⟨r', vs', h1, h2, h3, h4⟩ := t.cv j rs' h
      have ne : r' ≠ r := fun z => by
        subst z
        have hj1 := (List.getElem?_eq_some_iff.mp h1).1
        have e1 := (List.getElem?_eq_some_iff.mp hi).2
        have e2 := (List.getElem?_eq_some_iff.mp h1).2
        exact e ((List.getElem_inj nd).mp (e1.trans e2.symm))
      exact ⟨r', vs', h1, by rw [upd_ne ne]; exact h2, h3.ts ts, h4⟩
theorem TblAt.setRest (t : TblAt K C H0 H p dx la lb lc lg vc vg T) (rest : List Nat) : TblAt K C H0 (upd H la (.lst (natV rest))) p dx la lb lc lg vc vg { T with rest := rest } := by
  have ts := TS.lst (o := .lst (natV rest)) t.ra
  refine ⟨?_, upd_same, ?_, ?_, ?_, t.gv.ts ts, t.cl, fun j rs' h => ?_, t.ab, t.ac, t.bc, t.ga, t.gb, t.gc, t.fp, t.fa, t.fb, t.fc, t.nt⟩
  · rw [upd_ne (ne_of t.ob t.ra (fun z => by cases z))]; exact t.ob
  · rw [upd_ne t.ab.symm]; exact t.rb
  · rw [upd_ne t.ac.symm]; exact t.rc
  · rw [upd_ne t.ga]; exact t.rg
  · obtain ⟨r', vs', h1, h2, h3, h4, h5, h6⟩ := t.cv j rs' h
    exact ⟨r', vs', h1, by rw [upd_ne h4]; exact h2, h3.ts ts, h4, h5, h6⟩
theorem TblAt.setBase (t : TblAt K C H0 H p dx la lb lc lg vc vg T) (bs : List Nat) : TblAt K C H0 (upd H lb (.lst (natV bs))) p dx la lb lc lg vc vg { T with base := bs } := by
  have ts := TS.lst (o := .lst (natV bs)) t.rb
  refine ⟨?_, ?_, upd_same, ?_, ?_, t.gv.ts ts, t.cl, fun j rs' h => ?_, t.ab, t.ac, t.bc, t.ga, t.gb, t.gc, t.fp, t.fa, t.fb, t.fc, t.nt⟩
  · rw [upd_ne (ne_of t.ob t.rb (fun z => by cases z))]; exact t.ob
  · rw [upd_ne t.ab]; exact t.ra
  · rw [upd_ne t.bc.symm]; exact t.rc
  · rw [upd_ne t.gb]; exact t.rg
  · obtain ⟨r', vs', h1, h2, h3, h4, h5, h6⟩ := t.cv j rs' h
    exact ⟨r', vs', h1, by rw [upd_ne h5]; exact h2, h3.ts ts, h4, h5, h6⟩
theorem TblAt.newRest {Hx : Hp} (t : TblAt K C H0 H p dx la lb lc lg vc vg T) {a : Addr} {rest : List Nat} (n1 : Hx a = none) (ha : H a = some (.lst (natV rest))) (x : ExtN H0 Hx) (hb : Hx lb ≠ none) (hc : Hx lc ≠ none) (hg : Hx lg ≠ none) (hr : ∀ r, V.ref r ∈ vc → Hx r ≠ none) :
    TblAt K C H0 (upd H p (.ins C dx (fldT T.width T.many a lb lc lg))) p dx a lb lc lg vc vg { T with rest := rest } := by
  have ts := TS.ins (o := .ins C dx (fldT T.width T.many a lb lc lg)) t.ob
  have nl : ∀ {a : Addr} {xs : List V}, H a = some (.lst xs) → a ≠ p := fun h => ne_of h t.ob (fun z => by cases z)
  have na : ∀ b, Hx b ≠ none → b ≠ a := fun b h z => h (by rw [z]; exact n1)
  refine ⟨upd_same, ?_, ?_, ?_, ?_, t.gv.ts ts, t.cl, fun j rs' h => ?_, (na _ hb).symm, (na _ hc).symm, t.bc, na _ hg, t.gb, t.gc, t.fp, none0 t.nt x n1, t.fb, t.fc, t.nt⟩
  · rw [upd_ne (nl ha)]; exact ha
  · rw [upd_ne (nl t.rb)]; exact t.rb
  · rw [upd_ne (nl t.rc)]; exact t.rc
  · rw [upd_ne (nl t.rg)]; exact t.rg
  · obtain ⟨r', vs', h1, h2, h3, h4, h5, h6⟩ := t.cv j rs' h
    exact ⟨r', vs', h1, by rw [upd_ne (nl h2)]; exact h2, h3.ts ts, na _ (hr _ (List.mem_of_getElem? h1)), h5, h6⟩
theorem TblAt.setGoal (t : TblAt K C H0 H p dx la lb lc lg vc vg T) {g : Addr} {vs : List V} {rs : List Rat} (hg : H g = some (.lst vs)) (hv : RL K H vs rs) (na : g ≠ la) (nb : g ≠ lb) (nc : g ≠ lc) :
    TblAt K C H0 (upd H p (.ins C dx (fldT T.width T.many la lb lc g))) p dx la lb lc g vc vs { T with goal := rs } := by
  have ts := TS.ins (o := .ins C dx (fldT T.width T.many la lb lc g)) t.ob
  have nl : ∀ {a : Addr} {xs : List V}, H a = some (.lst xs) → a ≠ p := fun h => ne_of h t.ob (fun z => by cases z)
  refine ⟨upd_same, ?_, ?_, ?_, ?_, hv.ts ts, t.cl, fun j rs' h => ?_, t.ab, t.ac, t.bc, na, nb, nc, t.fp, t.fa, t.fb, t.fc, t.nt⟩
  · rw [upd_ne (nl t.ra)]; exact t.ra
  · rw [upd_ne (nl t.rb)]; exact t.rb
  · rw [upd_ne (nl t.rc)]; exact t.rc
  · rw [upd_ne (nl hg)]; exact hg
  · obtain ⟨r', vs', h1, h2, h3, h4, h5, h6⟩ := t.cv j rs' h
    exact ⟨r', vs', h1, by rw [upd_ne (nl h2)]; exact h2, h3.ts ts, h4, h5, h6⟩
end
abbrev s_Tableau___init__ : Stmt := (inClass (topS 23) 0)
theorem sc_Tableau___init__ : FnScope ["self", "size", "rows", "at", "factor", "factors", "bound"] ["self", "size", "rows"] (defScope s_Tableau___init__) := C8.fnScope_by (by decide +kernel)
abbrev s_Tableau_pivot : Stmt := (inClass (topS 23) 1)
theorem sc_Tableau_pivot : FnScope ["self", "row", "col", "by", "fresh", "cell", "at"] ["self", "row", "col"] (defScope s_Tableau_pivot) := C8.fnScope_by (by decide +kernel)
abbrev s_Tableau_row_for : Stmt := (inClass (topS 23) 2)
theorem sc_Tableau_row_for : FnScope ["self", "col", "found", "least", "at", "cells", "most"] ["self", "col"] (defScope s_Tableau_row_for) := C8.fnScope_by (by decide +kernel)
abbrev s_Tableau_improve : Stmt := (inClass (topS 23) 3)
theorem sc_Tableau_improve : FnScope ["self", "ways", "col", "way", "row"] ["self"] (defScope s_Tableau_improve) := C8.fnScope_by (by decide +kernel)
abbrev s_Tableau_begin : Stmt := (inClass (topS 23) 4)
theorem sc_Tableau_begin : FnScope ["self", "cells", "helper", "at", "least"] ["self"] (defScope s_Tableau_begin) := C8.fnScope_by (by decide +kernel)
abbrev s_Tableau_drop : Stmt := (inClass (topS 23) 5)
theorem sc_Tableau_drop : FnScope ["self", "helper", "row", "cols", "col", "cells"] ["self", "helper"] (defScope s_Tableau_drop) := C8.fnScope_by (by decide +kernel)
abbrev s_Tableau_aim : Stmt := (inClass (topS 23) 6)
theorem sc_Tableau_aim : FnScope ["self", "factors", "goal", "at", "factor", "col", "cells", "one", "cell"] ["self", "factors"] (defScope s_Tableau_aim) := C8.fnScope_by (by decide +kernel)
abbrev s_Tableau_present : Stmt := (inClass (topS 23) 7)
theorem sc_Tableau_present : FnScope ["self", "found", "at", "cells", "name"] ["self"] (defScope s_Tableau_present) := C8.fnScope_by (by decide +kernel)
abbrev s_Tableau_weights : Stmt := (inClass (topS 23) 8)
theorem sc_Tableau_weights : FnScope ["self", "found", "at", "name", "factor"] ["self"] (defScope s_Tableau_weights) := C8.fnScope_by (by decide +kernel)
end MM
namespace MM
open PySem PySem.Spec PyProof.Rows L2 LamX
open Mm (Tab)
theorem exch_eq (rs fs : List Rat) (col : Nat) : exR rs fs col = Mm.exch rs fs col := rfl
theorem ixN_nat {n j : Nat} {i : Int} (e : i = (j : Int)) (h : j < n) : ixN n i = some j := by
  subst e
  unfold ixN
  rw [if_pos (by omega), if_pos (by omega)]
  rfl
/-- the rows as the loop turns them -/
def pc (T : Tab) (row : Nat) (fr : List Rat) (col : Nat) : Nat → List (List Rat)
  | 0 => T.cells.set row fr
  | i + 1 => if i = row then pc T row fr col i else (pc T row fr col i).set i (Mm.exch (T.row i) fr col)
theorem pc_len (T : Tab) (row : Nat) (fr : List Rat) (col : Nat) : ∀ i, (pc T row fr col i).length = T.cells.length
  | 0 => List.length_set ..
  | i + 1 => by
    show (if i = row then pc T row fr col i else (pc T row fr col i).set i _).length = _
    by_cases h : i = row
    · rw [if_pos h]; exact pc_len T row fr col i
    · rw [if_neg h, List.length_set]; exact pc_len T row fr col i
theorem pc_at (T : Tab) (row : Nat) (fr : List Rat) (col : Nat) (hrow : row < T.cells.length) : ∀ i j, j < T.cells.length → (pc T row fr col i)[j]? = some (if j = row then fr else if j < i then Mm.exch (T.row j) fr col else T.row j)
  | 0, j, hj => by
    show (T.cells.set row fr)[j]? = _
    by_cases h : j = row
    · subst h
      rw [if_pos rfl, List.getElem?_set_self hj]
    · rw [if_neg h, if_neg (Nat.not_lt_zero j), List.getElem?_set_ne (Ne.symm h)]
      unfold Mm.Tab.row
      rw [List.getD_eq_getElem?_getD, List.getElem?_eq_getElem hj]; rfl
  | i + 1, j, hj => by
    have ih := pc_at T row fr col hrow i j hj
    show (if i = row then pc T row fr col i else (pc T row fr col i).set i _)[j]? = _
    by_cases h : i = row
    · rw [if_pos h, ih]
      by_cases h2 : j = row
      · rw [if_pos h2, if_pos h2]
      · rw [if_neg h2, if_neg h2]
        congr 1
        by_cases h3 : j < i
        · rw [if_pos h3, if_pos (by omega)]
        · rw [if_neg h3, if_neg (by omega)]
    · rw [if_neg h]
      by_cases h2 : j = i
      · subst h2
        rw [if_neg h, if_pos (Nat.lt_succ_self j), List.getElem?_set_self (by rw [pc_len]; exact hj)]
      · rw [List.getElem?_set_ne (Ne.symm h2), ih]
        by_cases h4 : j = row
        · rw [if_pos h4, if_pos h4]
        · rw [if_neg h4, if_neg h4]
          congr 1
          by_cases h3 : j < i
          · rw [if_pos h3, if_pos (by omega)]
          · rw [if_neg h3, if_neg (by omega)]
theorem pc_end (T : Tab) (row col : Nat) (hrow : row < T.cells.length) : pc T row (Mm.freshR (T.row row) col) col T.cells.length = (T.pivot row col).cells := by
  refine List.ext_getElem? fun j => ?_
  by_cases hj : j < T.cells.length
  · rw [pc_at T row _ col hrow _ j hj, if_pos hj]
    show _ = (List.map _ _)[j]?
    rw [List.getElem?_map, List.getElem?_range hj]
    show _ = some (if j = row then Mm.freshR (T.row row) col else Mm.exch (T.row j) (Mm.freshR (T.row row) col) col)
    rfl
  · rw [List.getElem?_eq_none (by rw [pc_len]; omega), List.getElem?_eq_none (by show (List.map _ _).length ≤ j; rw [List.length_map, List.length_range]; omega)]
section
variable {P : Program} {w : World} {K : PySem.W.Frag} {mg : Str → Option Value} {base : Heap} {f : Addr} {fd : FuncData} {C : Addr}
def spPivot (K : PySem.W.Frag) (C : Addr) : Sp := fun vs H Q _ => ∃ (H0 : Hp) (p dx la lb lc lg : Addr) (vc vg : List V) (T : Tab) (row col k : Nat), vs = [.ref p, .int row, .int col] ∧ ExtN H0 H ∧ TblAt K C H0 H p dx la lb lc lg vc vg T ∧ T.Ok k ∧ k ≤ 2200 ∧ row < T.cells.length ∧ 1 ≤ col ∧ col < T.goal.length ∧ T.at_ row col ≠ 0 ∧
  ∀ H' lg' vc' vg', ExtN H0 H' → Mv H H' → TblAt K C H0 H' p dx la lb lc lg' vc' vg' (T.pivot row col) → Q .non H'
theorem ok_pivot (TK : TC K C) (F : FnP K "pivot" "Tableau.pivot" s_Tableau_pivot f fd) (T : Txt K mg) (c_inverse : C8.Cal P w K mg base 1 "inverse" (spInverse K) []) (c_minus : C8.Cal P w K mg base 3 "minus" (spMinus K) []) (c_times : C8.Cal P w K mg base 2 "times" (spTimes K) []) (c_exchanged : C8.Cal P w K mg base 3 "exchanged" (spExch K) []) : FnOk P w K mg base C8.CX0 4 f fd ["self", "row", "col"] (spPivot K C) := by
  refine F.ok sc_Tableau_pivot (fun vs H Q E h => ?_) (fun cdv A outer s H vs Q E hr h => ⟨_, PSs.nox (pss_cons (ps_set (i := 3) sc_Tableau_pivot.nd rfl (.inr rfl) (C8.pe_c c_inverse hr (by first | decide | omega) rfl (pa_cons (pe_ix (ixK (K := K) rfl) (pe_ix (ixK (K := K) rfl) (fldK (K := K) rfl (pv 0) rfl) (pv 1) (fun _ _ => rfl)) (pv 2) (fun _ _ => rfl)) pa_nil)))
 (pss_cons (ps_setLc (i := 4) (own := [("cell", 5)]) (g := (gName 5)) (tt := tYes) rfl sc_Tableau_pivot.nd rfl rfl (sw_true rfl rfl rfl (by decide +kernel)) (piListK (K := K) rfl (pe_ix (ixK (K := K) rfl) (fldK (K := K) rfl (pv 0) rfl) (pv 1) (fun _ _ => rfl))) (blkOk_by (own := [("cell", 5)]) (by kernel_rfl)) (fun _ _ _ _ _ => (pg_name (i := 5) sc_Tableau_pivot.nd rfl (.inl rfl))) (fun _ _ _ _ _ => pts_nil) (fun _ _ _ _ _ => (C8.pe_c c_minus hr (by first | decide | omega) rfl (pa_cons (C8.pe_gc rfl T.gZ) (pa_cons (C8.pe_c c_times hr (by first | decide | omega) rfl (pa_cons (pv 5) (pa_cons (pv 3) pa_nil))) pa_nil)))))
 (pss_cons (ps_asg (pv 3) (pg_sub (pv 4) (pv 2) set_list))
 (pss_cons (ps_asg (pe_tup (pa_cons (pe_ix (ixK (K := K) rfl) (fldK (K := K) rfl (pv 0) rfl) (pe_op op_sub (pv 2) pe_int) (fun _ _ => rfl)) (pa_cons (pe_ix (ixK (K := K) rfl) (fldK (K := K) rfl (pv 0) rfl) (pv 1) (fun _ _ => rfl)) pa_nil))) (pgTupK (K := K) rfl rfl (pgs_cons (pg_sub (fldK (K := K) rfl (pv 0) rfl) (pv 1) set_list) (pgs_cons (pg_sub (fldK (K := K) rfl (pv 0) rfl) (pe_op op_sub (pv 2) pe_int) set_list) pgs_nil))))
 (pss_cons (ps_asg (pv 4) (pg_sub (fldK (K := K) rfl (pv 0) rfl) (pv 1) set_list))
 (pss_cons (ps_for PassesOwn.never rfl (pi_range1 rfl T.f_range (pa_cons (pe_callB (lenK (K := K) rfl) rfl T.f_len (by decide +kernel) (pa_cons (fldK (K := K) rfl (pv 0) rfl) pa_nil)) pa_nil)) (pg_name (i := 6) sc_Tableau_pivot.nd rfl (.inl rfl)) (pss_one (ps_if (pt_cmpR op_ne (pv 6) (pv 1) (nomark _)) (pss_one (ps_asg (C8.pe_c c_exchanged hr (by first | decide | omega) rfl (pa_cons (pe_ix (ixK (K := K) rfl) (fldK (K := K) rfl (pv 0) rfl) (pv 6) (fun _ _ => rfl)) (pa_cons (pv 4) (pa_cons (pv 2) pa_nil)))) (pg_sub (fldK (K := K) rfl (pv 0) rfl) (pv 6) set_list))) pss_nil)))
 (pss_one (psFldK (K := K) rfl (pv 0) (C8.pe_c c_exchanged hr (by first | decide | omega) rfl (pa_cons (fldK (K := K) rfl (pv 0) rfl) (pa_cons (pv 4) (pa_cons (pv 2) pa_nil)))) rfl)))))))), ?_⟩)
  · obtain ⟨_, _, _, _, _, _, _, _, _, _, _, _, _, rfl, _⟩ := h
    rfl
  · obtain ⟨H0, p, dx, la, lb, lc, lg, vc, vg, T0, row, col, k, rfl, ex, t, ok, hk, hrow, hc1, hc2, hne, q⟩ := h
    obtain ⟨r, vs, er, hr', rv, ra, rb, rc⟩ := t.row hrow
    have hmem : T0.row row ∈ T0.cells := by
      unfold Mm.Tab.row
      rw [List.getD_eq_getElem?_getD, List.getElem?_eq_getElem hrow]
      exact List.getElem_mem hrow
    have hlen : (T0.row row).length = T0.goal.length := ok.cl _ hmem
    have hb : ∀ x ∈ T0.row row, Mm.Lt k x := ok.cb _ hmem
    obtain ⟨u, eu, hu⟩ := rv.at (show col < (T0.row row).length by omega)
    have ea : T0.at_ row col = (T0.row row)[col] := getD_of (List.getElem?_eq_getElem (by omega))
    have hgl := ok.gl
    have hn1 := ok.n1
    have hn2 := ok.n2
    -- by
    refine ⟨_, rfl, p, C, dx, _, _, rfl, t.ob, TK.cls, TK.cells, rfl, _, rfl, ix_l (j := row) rfl (SqL.of t.rc) er ⟨_, rfl, ix_l (j := col) rfl (SqL.of hr') eu ⟨u, _, rfl, hu, by rw [← ea]; exact hne, fun vby H1 e1 r1 => ?_⟩⟩⟩
    have t1 := t.mono e1
    have hr1 := e1 _ _ hr'
    have rv1 := rv.mono e1
    have lby : Mm.Lt k (1 / (T0.row row)[col]) := (hb _ (List.getElem_mem _)).inv (by rw [← ea]; exact hne)
    -- fresh
    refine ⟨_, rfl, p, C, dx, _, _, rfl, t1.ob, TK.cls, TK.cells, rfl, _, rfl, ix_l (j := row) rfl (SqL.of t1.rc) er ⟨r, rfl, ⟨_, SqL.of hr1⟩, fun D nD => ?_⟩⟩
    let zs : List Rat := (T0.row row).map fun c => -(c * (1 / (T0.row row)[col]))
    have lz : zs.length = (T0.row row).length := List.length_map ..
    refine lc_list (K := K) (a := r) (xs := vs) (Grow K H1 D zs) (Grow.zero nD) (fun i H2 _ g => g.1.seq (SqL.of hr1)) ?_ ?_
    · intro i v H2 hv g
      obtain ⟨x, exx, hux⟩ := rv1.of_v hv
      have hx := hb x (List.mem_of_getElem? exx)
      refine ⟨rfl, tyes ⟨_, rfl, _, rfl, v, vby, x, _, k, k, rfl, hux.mono g.1, r1.mono g.1, hx, lby, by omega, fun vt H3 e3 r3 => ?_⟩⟩
      refine ⟨.ref (zA K), vt, 0, _, 1, k + k, rfl, T.rZ _, r3, zero_lt (by decide), hx.mul lby, by omega, fun vm H4 e4 r4 => ?_⟩
      refine g.step nD (e3.trans e4) ?_ r4 (by omega)
      show ((T0.row row).map _)[i]? = _
      rw [List.getElem?_map, exx]
      show some _ = some _
      congr 1
      grind
    intro H2 g
    obtain ⟨s2, acc, hD, hacc⟩ := g.done (by rw [rv.1]; omega)
    have nDla : D ≠ la := (ne_of_none t1.ra nD).symm
    have nDlb : D ≠ lb := (ne_of_none t1.rb nD).symm
    have nDlc : D ≠ lc := (ne_of_none t1.rc nD).symm
    -- fresh[col] = by
    refine ⟨_, rfl, _, rfl, _, rfl, D, acc, _, col, rfl, rfl, hD, ixN_nat rfl (by rw [hacc.1]; omega), ?_⟩
    have s3 : Same H1 (upd H2 D (.lst (acc.set col vby))) := Same.mut s2 nD
    generalize hH3 : upd H2 D (.lst (acc.set col vby)) = H3 at s3 ⊢
    have t3 := t1.mono s3
    have hD3 : H3 D = some (.lst (acc.set col vby)) := by rw [← hH3]; exact upd_same
    have fr3 : RL K H3 (acc.set col vby) (Mm.freshR (T0.row row) col) := by
      have e : Mm.freshR (T0.row row) col = zs.set col (1 / (T0.row row)[col]) := by
        have e0 : (T0.row row).getD col 0 = (T0.row row)[col] := ea
        unfold Mm.freshR
        rw [e0]
      rw [e, ← hH3]
      exact (hacc.set (r1.mono s2) col).ts (TS.lst hD)
    -- the swap of names
    have hbr : T0.base[row]? = some (T0.base.getD row 0) := by
      rw [List.getD_eq_getElem?_getD, List.getElem?_eq_getElem (show row < T0.base.length by rw [ok.bl]; exact hrow)]; rfl
    have hrc : T0.rest[col - 1]? = some (T0.rest.getD (col - 1) 0) := by
      rw [List.getD_eq_getElem?_getD, List.getElem?_eq_getElem (show col - 1 < T0.rest.length by omega)]; rfl
    refine ⟨_, rfl, p, C, dx, _, _, rfl, t3.ob, TK.cls, TK.rest, rfl, _, rfl, _, _, rfl, rfl, ix_l (j := col - 1) (by omega) (SqL.of t3.ra) (natV_at hrc) ⟨_, rfl, p, C, dx, _, _, rfl, t3.ob, TK.cls, TK.base, rfl, _, rfl, ix_l (j := row) rfl (SqL.of t3.rb) (natV_at hbr) ⟨by show 2 ≤ sizeLine; decide, fun tp np => ?_⟩⟩⟩
    have s4 := Same.new (o := .tup [.int (T0.rest.getD (col - 1) 0 : Nat), .int (T0.base.getD row 0 : Nat)]) np
    have t4 := t3.mono s4
    refine ⟨tp, _, rfl, SqT.of upd_same, rfl, _, _, rfl, _, rfl, p, C, dx, _, _, rfl, t4.ob, TK.cls, TK.base, rfl, _, rfl, lb, _, _, row, rfl, rfl, t4.rb, ixN_nat rfl (by rw [natV_len, ok.bl]; exact hrow), ?_⟩
    rw [← natV_set]
    have t5 := t4.setBase (T0.base.set row (T0.rest.getD (col - 1) 0))
    refine ⟨_, _, rfl, _, rfl, p, C, dx, _, _, rfl, t5.ob, TK.cls, TK.rest, rfl, _, rfl, _, _, rfl, rfl, la, _, _, col - 1, rfl, rfl, t5.ra, ixN_nat (by omega) (by rw [natV_len]; show col - 1 < T0.rest.length; omega), rfl, ?_⟩
    rw [← natV_set]
    have t6 := t5.setRest (T0.rest.set (col - 1) (T0.base.getD row 0))
    have ex6 := ((((ex.same e1).same s3).same s4).put (o := .lst (natV (T0.base.set row (T0.rest.getD (col - 1) 0)))) t.fb).put (o := .lst (natV (T0.rest.set (col - 1) (T0.base.getD row 0)))) t.fa
    have mv6 := (((Mv.of e1).trans (Mv.of s3)).trans (Mv.of s4)).trans ((Mv.lst (o := .lst (natV (T0.base.set row (T0.rest.getD (col - 1) 0)))) t4.rb).trans (Mv.lst (o := .lst (natV (T0.rest.set (col - 1) (T0.base.getD row 0)))) t5.ra))
    have mv36 := (Mv.of s4).trans ((Mv.lst (o := .lst (natV (T0.base.set row (T0.rest.getD (col - 1) 0)))) t4.rb).trans (Mv.lst (o := .lst (natV (T0.rest.set (col - 1) (T0.base.getD row 0)))) t5.ra))
    have hD6 : upd (upd (upd H3 tp (.tup [.int (T0.rest.getD (col - 1) 0 : Nat), .int (T0.base.getD row 0 : Nat)])) lb (.lst (natV (T0.base.set row (T0.rest.getD (col - 1) 0))))) la (.lst (natV (T0.rest.set (col - 1) (T0.base.getD row 0)))) D = some (.lst (acc.set col vby)) := by
      rw [upd_ne nDla, upd_ne nDlb]
      exact s4 _ _ hD3
    have fr6 := fr3.ts mv36.ts
    generalize upd (upd (upd H3 tp (.tup [.int (T0.rest.getD (col - 1) 0 : Nat), .int (T0.base.getD row 0 : Nat)])) lb (.lst (natV (T0.base.set row (T0.rest.getD (col - 1) 0))))) la (.lst (natV (T0.rest.set (col - 1) (T0.base.getD row 0)))) = H6 at t6 ex6 mv6 hD6 fr6 ⊢
    generalize hfr : Mm.freshR (T0.row row) col = fr at fr6
    have lfr : fr.length = T0.goal.length := by
      rw [← hfr]
      unfold Mm.freshR
      rw [List.length_set, List.length_map, hlen]
    have bfr : ∀ y ∈ fr, Mm.Lt (k + k) y := by
      rw [← hfr]
      intro y hy
      unfold Mm.freshR at hy
      have e0 : (T0.row row).getD col 0 = (T0.row row)[col] := ea
      rw [e0] at hy
      rcases List.mem_or_eq_of_mem_set hy with h | h
      · obtain ⟨x, hx, rfl⟩ := List.mem_map.mp h
        exact ((hb x hx).mul lby).neg
      · rw [h]
        exact lby.mono (by omega)
    generalize hacc' : acc.set col vby = av at hD6 fr6
    -- cells[row] = fresh
    refine ⟨_, rfl, _, rfl, p, C, dx, _, _, rfl, t6.ob, TK.cls, TK.cells, rfl, _, rfl, lc, _, _, row, rfl, rfl, t6.rc, ixN_nat rfl (by rw [t6.cl]; exact hrow), ?_⟩
    have t7 := t6.setCells row hD6 fr6 nDla nDlb nDlc
    have ex7 := ex6.put (o := .lst (vc.set row (.ref D))) t.fc
    have mv7 := mv6.trans (Mv.lst (o := .lst (vc.set row (.ref D))) t6.rc)
    have hD7 : upd H6 lc (.lst (vc.set row (.ref D))) D = some (.lst av) := by
      rw [upd_ne nDlc]; exact hD6
    have fr7 := fr6.ts (TS.lst (o := .lst (vc.set row (.ref D))) t6.rc)
    generalize upd H6 lc (.lst (vc.set row (.ref D))) = H7 at t7 ex7 mv7 hD7 fr7 ⊢
    have lc7 : (vc.set row (V.ref D)).length = T0.cells.length := by rw [List.length_set, t.cl]
    refine ⟨_, rfl, p, C, dx, _, _, rfl, t7.ob, TK.cls, TK.cells, rfl, _, _, rfl, .inl (SqL.of t7.rc), _, rfl, by rw [lc7]; omega, by rw [lc7]; omega, ?_⟩
    have e0 : (((vc.set row (V.ref D)).length : Nat) : Int).toNat = T0.cells.length := by rw [lc7]; omega
    rw [e0]
    refine for_range (lo := 0) (n := T0.cells.length) (fun i σ H' => ∃ (l6 : Option V) (vc' : List V), σ = [some (.ref p), some (.int row), some (.int col), some vby, some (.ref D), none, l6] ∧ ExtN H0 H' ∧ Mv H H' ∧
      TblAt K C H0 H' p dx la lb lc lg vc' vg { T0 with rest := T0.rest.set (col - 1) (T0.base.getD row 0), base := T0.base.set row (T0.rest.getD (col - 1) 0), cells := pc T0 row fr col i } ∧ H' D = some (.lst av) ∧ RL K H' av fr)
      ⟨none, _, rfl, ex7, mv7, t7, hD7, fr7⟩ ?_ ?_
    · rintro i σ H' hi ⟨l6, vc', rfl, ex', mv', ti, hD', fr'⟩
      refine ⟨_, rfl, _, rfl, rfl, _, rfl, ?_⟩
      by_cases hir : i = row
      · have e1 : (!decide (V.int (0 + (i : Int)) = V.int (row : Int))) = false := by
          rw [hir, decide_eq_true (by rw [Int.zero_add])]; rfl
        rw [e1]
        refine iteF ⟨_, vc', rfl, ex', mv', ?_, hD', fr'⟩
        have e2 : pc T0 row fr col (i + 1) = pc T0 row fr col i := if_pos hir
        rw [e2]
        exact ti
      · have e1 : (!decide (V.int (0 + (i : Int)) = V.int (row : Int))) = true := by
          rw [decide_eq_false (fun z => hir (by have := V.int.inj z; omega))]; rfl
        rw [e1]
        have hci : (pc T0 row fr col i)[i]? = some (T0.row i) := by
          rw [pc_at T0 row fr col hrow i i hi, if_neg hir, if_neg (Nat.lt_irrefl i)]
        obtain ⟨r', vs', er', hr2, rv2, ra2, rb2, rc2⟩ := ti.cv i _ hci
        have hm2 : T0.row i ∈ T0.cells := by
          unfold Mm.Tab.row
          rw [List.getD_eq_getElem?_getD, List.getElem?_eq_getElem hi]
          exact List.getElem_mem hi
        have hl2 : (T0.row i).length = T0.goal.length := ok.cl _ hm2
        refine iteT ⟨_, rfl, p, C, dx, _, _, rfl, ti.ob, TK.cls, TK.cells, rfl, _, rfl, ix_l (j := i) (by omega) (SqL.of ti.rc) er' ⟨_, rfl, _, rfl, r', D, T0.row i, fr, col, k, k + k, rfl, ⟨vs', SqL.of hr2, rv2⟩, ⟨av, SqL.of hD', fr'⟩, by rw [hl2, lfr], by omega, by omega, ok.cb _ hm2, bfr, by omega, fun p' H'' e'' hp' => ?_⟩⟩
        have t'' := ti.mono e''
        obtain ⟨rs', h1, h2, h3, h4, h5⟩ : ∃ vs'', H'' p' = some (.lst vs'') ∧ RL K H'' vs'' (Mm.exch (T0.row i) fr col) ∧ p' ≠ la ∧ p' ≠ lb ∧ p' ≠ lc := by
          rcases hp' with ⟨e1, e2⟩ | ⟨e1, vs'', e2, e3⟩
          · rw [e1, ← exch_eq, e2]
            exact ⟨vs', e'' _ _ hr2, rv2.mono e'', ra2, rb2, rc2⟩
          · exact ⟨vs'', e2, e3, (ne_of_none ti.ra e1).symm, (ne_of_none ti.rb e1).symm, (ne_of_none ti.rc e1).symm⟩
        refine ⟨_, rfl, p, C, dx, _, _, rfl, t''.ob, TK.cls, TK.cells, rfl, _, rfl, lc, _, _, i, rfl, rfl, t''.rc, ixN_nat (by omega) (by rw [t''.cl]; show i < (pc T0 row fr col i).length; rw [pc_len]; exact hi), ?_⟩
        have t8 := t''.setCells i h1 h2 h3 h4 h5
        refine ⟨_, vc'.set i (V.ref p'), rfl, (ex'.same e'').put t.fc, (mv'.trans (Mv.of e'')).trans (Mv.lst t''.rc), ?_, ?_, (fr'.mono e'').ts (TS.lst t''.rc)⟩
        · have e2 : pc T0 row fr col (i + 1) = (pc T0 row fr col i).set i (Mm.exch (T0.row i) fr col) := if_neg hir
          rw [e2]
          exact t8
        · rw [upd_ne nDlc]; exact e'' _ _ hD'
    · rintro σ H' ⟨l6, vc', rfl, ex', mv', ti, hD', fr'⟩
      refine ⟨_, rfl, p, C, dx, _, _, rfl, ti.ob, TK.cls, TK.goal, rfl, _, rfl, _, rfl, lg, D, T0.goal, fr, col, k, k + k, rfl, ⟨vg, SqL.of ti.rg, ti.gv⟩, ⟨av, SqL.of hD', fr'⟩, lfr.symm, hc2, by omega, ok.gb, bfr, by omega, fun p' H'' e'' hp' => ?_⟩
      have t'' := ti.mono e''
      obtain ⟨rs', h1, h2, h3, h4, h5⟩ : ∃ vs'', H'' p' = some (.lst vs'') ∧ RL K H'' vs'' (Mm.exch T0.goal fr col) ∧ p' ≠ la ∧ p' ≠ lb ∧ p' ≠ lc := by
        rcases hp' with ⟨e1, e2⟩ | ⟨e1, vs'', e2, e3⟩
        · rw [e1, ← exch_eq, e2]
          exact ⟨vg, e'' _ _ ti.rg, ti.gv.mono e'', t.ga, t.gb, t.gc⟩
        · exact ⟨vs'', e2, e3, (ne_of_none ti.ra e1).symm, (ne_of_none ti.rb e1).symm, (ne_of_none ti.rc e1).symm⟩
      refine ⟨_, rfl, p, C, dx, _, rfl, t''.ob, TK.cls, TK.goal, by show 6 < 1000; decide, ?_⟩
      show Q .non (upd H'' p (.ins C dx (putF "goal" (V.ref p') (fldT T0.width T0.many la lb lc lg))))
      rw [put_goal]
      have t9 := t''.setGoal h1 h2 h3 h4 h5
      refine q _ p' vc' rs' ((ex'.same e'').put t.fp) ((mv'.trans (Mv.of e'')).trans (Mv.ins t''.ob)) ?_
      have e3 : T0.pivot row col = { T0 with rest := T0.rest.set (col - 1) (T0.base.getD row 0), base := T0.base.set row (T0.rest.getD (col - 1) 0), cells := pc T0 row fr col T0.cells.length, goal := Mm.exch T0.goal fr col } := by
        rw [← hfr, pc_end T0 row col hrow]
        rfl
      rw [e3]
      exact t9
end
end MM
namespace MM
open PySem PySem.Spec PyProof.Rows L2 LamX
open Mm (Tab)
/-- a loop over enumerate(xs) -/
theorem for_enum {K : PySem.W.Frag} {a : Addr} {xs : List V} {g : TG} {tb : L2.TS} {D : Ends} {σ : L2.St} {H : Hp} (Pv : Nat → L2.St → Hp → Prop) (h0 : Pv 0 σ H) (hq : ∀ i σ H, Pv i σ H → SqL K H a xs)
    (hs : ∀ (i : Nat) (x : V) (T : Addr) (σ : L2.St) (H : Hp), xs[i]? = some x → Pv i σ H → H T = none → g (.ref T) σ (upd H T (.tup [.int (i : Nat), x])) fun σ2 H2 => tb { D with nx := Pv (i + 1), ct := Pv (i + 1), bk := D.nx } σ2 H2) (hd : ∀ σ H, Pv xs.length σ H → D.nx σ H) :
    ∃ W : Nat → Nat → L2.St → Hp → Prop, (∃ m, W 0 m σ H) ∧ ∀ i m σ H, W i m σ H →
      ((Ite K a).stop i H ∧ D.nx σ H) ∨ ((Ite K a).go i H ∧ ∃ N : L2.St → Hp → Prop, (∀ σ' H', N σ' H' → ∃ m', m' < m ∧ W (i + 1) m' σ' H') ∧ ∀ v H', (Ite K a).yld i H v H' → g v σ H' fun σ2 H2 => tb { D with nx := N, ct := N, bk := D.nx } σ2 H2) := by
  refine ⟨fun i m σ H => m = xs.length - i ∧ i ≤ xs.length ∧ Pv i σ H, ⟨_, rfl, Nat.zero_le _, h0⟩, ?_⟩
  rintro i m σ H ⟨rfl, hi, p⟩
  have q := hq i σ H p
  by_cases c : i < xs.length
  · refine .inr ⟨⟨xs, xs[i], q, List.getElem?_eq_getElem c⟩, Pv (i + 1), fun σ' H' p' => ⟨_, by omega, rfl, c, p'⟩, ?_⟩
    rintro v H' ⟨T, x, rfl, hT, rfl, f⟩
    exact hs i x T σ H (f xs q) p hT
  · have e : i = xs.length := by omega
    subst e
    exact .inl ⟨⟨xs, q, Nat.le_refl _⟩, hd σ H p⟩
section
variable {P : Program} {w : World} {K : PySem.W.Frag} {mg : Str → Option Value} {base : Heap} {f : Addr} {fd : FuncData} {C : Addr}
def optV : Option Nat → V
  | none => .non
  | some r => .int (r : Int)
def spRowFor (K : PySem.W.Frag) (C : Addr) : Sp := fun vs H Q _ => ∃ (H0 : Hp) (p dx la lb lc lg : Addr) (vc vg : List V) (T : Tab) (col k : Nat), vs = [.ref p, .int col] ∧ TblAt K C H0 H p dx la lb lc lg vc vg T ∧ T.Ok k ∧ k ≤ 2200 ∧ 1 ≤ col ∧ col < T.goal.length ∧
  ∀ H', Same H H' → Q (optV (T.rowFor col)) H'
theorem rf_lt (T : Tab) (col : Nat) : ∀ n r, (T.rf col n).1 = some r → r < n
  | 0, r, h => by cases h
  | n + 1, r, h => by
    unfold Mm.Tab.rf at h
    split at h
    · split at h
      · cases h; exact Nat.lt_succ_self _
      · rename_i f' l e
        split at h
        · cases h; exact Nat.lt_succ_self _
        · cases h
          have := rf_lt T col n r (by rw [e])
          omega
    · have := rf_lt T col n r h
      omega
def most_ (T : Tab) (n col : Nat) : Rat := T.at_ n 0 * (1 / (-(T.at_ n col)))
theorem rf_skip {T : Tab} {col n : Nat} (h : ¬ T.at_ n col < 0) : T.rf col (n + 1) = T.rf col n := by
  rw [Mm.Tab.rf, if_neg h]
theorem rf_first {T : Tab} {col n : Nat} {l : Rat} (h : T.at_ n col < 0) (e : T.rf col n = (none, l)) : T.rf col (n + 1) = (some n, most_ T n col) := by
  rw [Mm.Tab.rf, if_pos h, e]; rfl
theorem rf_yes {T : Tab} {col n g : Nat} {l : Rat} (h : T.at_ n col < 0) (e : T.rf col n = (some g, l)) (c : most_ T n col < l ∨ (most_ T n col = l ∧ T.base.getD n 0 < T.base.getD g 0)) : T.rf col (n + 1) = (some n, most_ T n col) := by
  rw [Mm.Tab.rf, if_pos h, e]
  exact if_pos c
theorem rf_no {T : Tab} {col n g : Nat} {l : Rat} (h : T.at_ n col < 0) (e : T.rf col n = (some g, l)) (c : ¬ (most_ T n col < l ∨ (most_ T n col = l ∧ T.base.getD n 0 < T.base.getD g 0))) : T.rf col (n + 1) = (some g, l) := by
  rw [Mm.Tab.rf, if_pos h, e]
  exact if_neg c
theorem ok_row_for (TK : TC K C) (F : FnP K "row_for" "Tableau.row_for" s_Tableau_row_for f fd) (T : Txt K mg) (c_inverse : C8.Cal P w K mg base 1 "inverse" (spInverse K) []) (c_minus : C8.Cal P w K mg base 3 "minus" (spMinus K) []) (c_times : C8.Cal P w K mg base 2 "times" (spTimes K) []) (c_below : C8.Cal P w K mg base 1 "below" (spBelow K) []) : FnOk P w K mg base C8.CX0 4 f fd ["self", "col"] (spRowFor K C) := by
  refine F.ok sc_Tableau_row_for (fun vs H Q E h => ?_) (fun cdv A outer s H vs Q E hr h => ⟨_, PSs.nox (pss_cons (ps_par (i := 2) (j := 3) rfl sc_Tableau_row_for.nd rfl rfl (by decide) rfl rfl (pa_cons pe_non (pa_cons (C8.pe_gc rfl T.gZ) pa_nil)) (by rfl))
 (pss_cons (ps_for PassesOwn.never rfl (piEnumK (K := K) rfl rfl T.f_enumerate (pa_cons (fldK (K := K) rfl (pv 0) rfl) pa_nil)) (pgTupK (K := K) rfl rfl (pgs_cons (pg_name (i := 4) sc_Tableau_row_for.nd rfl (.inl rfl)) (pgs_cons (pg_name (i := 5) sc_Tableau_row_for.nd rfl (.inl rfl)) pgs_nil))) (pss_one (ps_if (pt_cmpR op_lt (pe_ix (ixK (K := K) rfl) (pe_ix (ixK (K := K) rfl) (pv 5) (pv 1) (fun _ _ => rfl)) pe_int (fun _ _ => rfl)) pe_int (nomark _)) (pss_cons (ps_set (i := 6) sc_Tableau_row_for.nd rfl (.inl rfl) (C8.pe_c c_times hr (by first | decide | omega) rfl (pa_cons (pe_ix (ixK (K := K) rfl) (pv 5) pe_int (fun _ _ => rfl)) (pa_cons (C8.pe_c c_inverse hr (by first | decide | omega) rfl (pa_cons (C8.pe_c c_minus hr (by first | decide | omega) rfl (pa_cons (C8.pe_gc rfl T.gZ) (pa_cons (pe_ix (ixK (K := K) rfl) (pv 5) (pv 1) (fun _ _ => rfl)) pa_nil))) pa_nil)) pa_nil))))
 (pss_one (ps_if (PW.pt (pw_or (pt_cmpR op_isN (pv 2) pe_non (nomark _)) (pw_or (pt_val (C8.pe_c c_below hr (by first | decide | omega) rfl (pa_cons (pv 6) (pa_cons (pv 3) pa_nil)))) (pw_or1 (PW.pt (pw_and (pt_cmpR (eqRK (K := K) rfl hr.units) (pv 6) (pv 3) (nomark _)) (pw_and1 (pt_cmpR op_lt (pe_ix (ixK (K := K) rfl) (fldK (K := K) rfl (pv 0) rfl) (pv 4) (fun _ _ => rfl)) (pe_ix (ixK (K := K) rfl) (fldK (K := K) rfl (pv 0) rfl) (pv 2) (fun _ _ => rfl)) (nomark _))))))))) (pss_one (ps_par (i := 2) (j := 3) rfl sc_Tableau_row_for.nd rfl rfl (by decide) rfl rfl (pa_cons (pv 4) (pa_cons (pv 6) pa_nil)) (by rfl))) pss_nil))) pss_nil)))
 (pss_one (ps_ret (pv 2))))), ?_⟩)
  · obtain ⟨_, _, _, _, _, _, _, _, _, _, _, _, rfl, _⟩ := h
    rfl
  · obtain ⟨H0, p, dx, la, lb, lc, lg, vc, vg, T0, col, k, rfl, t, ok, hk, hc1, hc2, q⟩ := h
    have hn1 := ok.n1
    have hn2 := ok.n2
    have hgl := ok.gl
    have hcell : SqL K H lc vc := SqL.of t.rc
    refine ⟨_, _, rfl, ?_⟩
    refine ⟨_, rfl, p, C, dx, _, _, rfl, t.ob, TK.cls, TK.cells, rfl, lc, _, rfl, hcell, for_enum (K := K) (a := lc) (xs := vc) (fun n σ H' => ∃ (vl : V) (l4 l5 l6 : Option V), σ = [some (.ref p), some (.int col), some (optV (T0.rf col n).1), some vl, l4, l5, l6] ∧ Same H H' ∧ RV K H' vl (T0.rf col n).2 ∧ Mm.Lt (k + k + 1) (T0.rf col n).2)
      ⟨_, none, none, none, rfl, Same.refl H, T.rZ H, zero_lt (by omega)⟩ (fun i σ H' ⟨_, _, _, _, _, s, _⟩ => s.seq hcell) ?_ ?_⟩
    · rintro n x Tp σ H' hx ⟨vl, l4, l5, l6, rfl, sm, rl, ll⟩ nT
      have hn : n < T0.cells.length := by rw [← t.cl]; exact (List.getElem?_eq_some_iff.mp hx).1
      obtain ⟨r, vs, er, hr', rv, _, _, _⟩ := t.row hn
      rw [er] at hx
      cases hx
      have s1 : Same H' (upd H' Tp (.tup [.int (n : Nat), .ref r])) := Same.new nT
      have s2 := sm.trans s1
      have hmem : T0.row n ∈ T0.cells := by
        unfold Mm.Tab.row
        rw [List.getD_eq_getElem?_getD, List.getElem?_eq_getElem hn]
        exact List.getElem_mem hn
      have hlen : (T0.row n).length = T0.goal.length := ok.cl _ hmem
      have hb : ∀ x ∈ T0.row n, Mm.Lt k x := ok.cb _ hmem
      obtain ⟨u, eu, hu⟩ := rv.at (show col < (T0.row n).length by omega)
      obtain ⟨u0, eu0, hu0⟩ := rv.at (show 0 < (T0.row n).length by omega)
      have ea : T0.at_ n col = (T0.row n)[col] := getD_of (List.getElem?_eq_getElem (by omega))
      have ea0 : T0.at_ n 0 = (T0.row n)[0] := getD_of (List.getElem?_eq_getElem (by omega))
      have bc := hb _ (List.getElem_mem (show col < (T0.row n).length by omega))
      have b0 := hb _ (List.getElem_mem (show 0 < (T0.row n).length by omega))
      have hrow2 : SqL K (upd H' Tp (.tup [.int (n : Nat), .ref r])) r vs := SqL.of (s2 _ _ hr')
      refine ⟨Tp, _, rfl, SqT.of upd_same, rfl, _, _, rfl, _, _, rfl, rfl, ?_⟩
      refine ⟨_, rfl, _, rfl, ix_l (j := col) rfl hrow2 eu (ix_num (hu.mono s2) ⟨_, _, rfl, rfl, _, rfl, ?_⟩)⟩
      refine ite2 (fun c => ?_) (fun c => ?_)
      · have hc : T0.at_ n col < 0 := by rw [ea]; exact Mm.neg_num.mpr (of_decide_eq_true c)
        have hne : (0 : Rat) - (T0.row n)[col] ≠ 0 := by
          rw [← ea]; grind
        refine ⟨_, rfl, ix_l (j := 0) rfl hrow2 eu0 ⟨_, rfl, _, rfl, ix_l (j := col) rfl hrow2 eu ⟨.ref (zA K), u, 0, _, 1, k, rfl, T.rZ _, hu.mono s2, zero_lt (by decide), bc, by omega, fun vm H1 e1 r1 => ?_⟩⟩⟩
        have bm : Mm.Lt k ((0 : Rat) - (T0.row n)[col]) := by
          have : (0 : Rat) - (T0.row n)[col] = -(T0.row n)[col] := by grind
          rw [this]; exact bc.neg
        refine ⟨vm, _, rfl, r1, hne, fun vi H2 e2 r2 => ?_⟩
        refine ⟨u0, vi, _, _, k, k, rfl, ((hu0.mono s2).mono e1).mono e2, r2, b0, bm.inv hne, by omega, fun vt H3 e3 r3 => ?_⟩
        have em : (T0.row n)[0] * (1 / ((0 : Rat) - (T0.row n)[col])) = most_ T0 n col := by
          unfold most_
          rw [ea, ea0]
          have : (0 : Rat) - (T0.row n)[col] = -(T0.row n)[col] := by grind
          rw [this]
        have bmost : Mm.Lt (k + k + 1) (most_ T0 n col) := by
          rw [← em]
          exact (b0.mul (bm.inv hne)).mono (by omega)
        rw [em] at r3
        have s3 := ((s1.trans e1).trans e2).trans e3
        have t3 := t.mono (sm.trans s3)
        have rl3 := rl.mono s3
        refine ⟨_, rfl, rfl, _, rfl, ?_⟩
        cases erf : T0.rf col n with
        | mk fo l =>
          rw [erf] at rl3 ll
          cases fo with
          | none =>
            refine iteT (iteT ⟨_, rfl, _, rfl, _, _, rfl, vt, some (.int (n : Nat)), some (.ref r), some vt, ?_, sm.trans s3, ?_, ?_⟩)
            · rw [rf_first hc erf]; rfl
            · rw [rf_first hc erf]; exact r3
            · rw [rf_first hc erf]; exact bmost
          | some g =>
            have hg : g < n := rf_lt T0 col n g (by rw [erf])
            refine iteF ⟨_, rfl, _, rfl, vt, vl, _, _, _, _, rfl, r3, rl3, bmost, ll, by omega, _, rfl, ?_⟩
            refine ite2 (fun c2 => ?_) (fun c2 => ?_)
            · have cc : most_ T0 n col < l ∨ (most_ T0 n col = l ∧ T0.base.getD n 0 < T0.base.getD g 0) := .inl (of_decide_eq_true c2)
              refine iteT ⟨_, rfl, _, rfl, _, _, rfl, vt, some (.int (n : Nat)), some (.ref r), some vt, ?_, sm.trans s3, ?_, ?_⟩
              · rw [rf_yes hc erf cc]; rfl
              · rw [rf_yes hc erf cc]; exact r3
              · rw [rf_yes hc erf cc]; exact bmost
            · have c2 : ¬ most_ T0 n col < l := fun z => c2 (decide_eq_true z)
              refine ⟨_, rfl, _, rfl, _, _, r3, rl3, _, rfl, ?_⟩
              refine ite2 (fun c3 => ?_) (fun c3 => ?_)
              · have c3 : most_ T0 n col = l := of_decide_eq_true c3
                have hbn : T0.base[n]? = some (T0.base.getD n 0) := by
                  rw [List.getD_eq_getElem?_getD, List.getElem?_eq_getElem (show n < T0.base.length by rw [ok.bl]; exact hn)]; rfl
                have hbg : T0.base[g]? = some (T0.base.getD g 0) := by
                  rw [List.getD_eq_getElem?_getD, List.getElem?_eq_getElem (show g < T0.base.length by rw [ok.bl]; omega)]; rfl
                refine ⟨_, rfl, p, C, dx, _, _, rfl, t3.ob, TK.cls, TK.base, rfl, _, rfl, ix_l (j := n) rfl (SqL.of t3.rb) (natV_at hbn) ⟨_, rfl, p, C, dx, _, _, rfl, t3.ob, TK.cls, TK.base, rfl, _, rfl, ix_l (j := g) rfl (SqL.of t3.rb) (natV_at hbg) ⟨_, _, rfl, rfl, _, rfl, ?_⟩⟩⟩
                refine ite2 (fun c4 => ?_) (fun c4 => ?_)
                · have c4 : T0.base.getD n 0 < T0.base.getD g 0 := by have := of_decide_eq_true c4; omega
                  have cc : most_ T0 n col < l ∨ (most_ T0 n col = l ∧ T0.base.getD n 0 < T0.base.getD g 0) := .inr ⟨c3, c4⟩
                  refine ⟨_, rfl, _, rfl, _, _, rfl, vt, some (.int (n : Nat)), some (.ref r), some vt, ?_, sm.trans s3, ?_, ?_⟩
                  · rw [rf_yes hc erf cc]; rfl
                  · rw [rf_yes hc erf cc]; exact r3
                  · rw [rf_yes hc erf cc]; exact bmost
                · have cc : ¬ (most_ T0 n col < l ∨ (most_ T0 n col = l ∧ T0.base.getD n 0 < T0.base.getD g 0)) := fun z => z.elim c2 fun y => c4 (decide_eq_true (by have := y.2; omega))
                  refine ⟨vl, some (.int (n : Nat)), some (.ref r), some vt, ?_, sm.trans s3, ?_, ?_⟩
                  · rw [rf_no hc erf cc]; rfl
                  · rw [rf_no hc erf cc]; exact rl3
                  · rw [rf_no hc erf cc]; exact ll
              · have cc : ¬ (most_ T0 n col < l ∨ (most_ T0 n col = l ∧ T0.base.getD n 0 < T0.base.getD g 0)) := fun z => z.elim c2 fun y => c3 (decide_eq_true y.1)
                refine iteF ⟨vl, some (.int (n : Nat)), some (.ref r), some vt, ?_, sm.trans s3, ?_, ?_⟩
                · rw [rf_no hc erf cc]; rfl
                · rw [rf_no hc erf cc]; exact rl3
                · rw [rf_no hc erf cc]; exact ll
      · have hc : ¬ T0.at_ n col < 0 := fun z => c (decide_eq_true (Mm.neg_num.mp (by rw [← ea]; exact z)))
        refine ⟨vl, some (.int (n : Nat)), some (.ref r), l6, ?_, s2, ?_, ?_⟩
        · rw [rf_skip hc]; rfl
        · rw [rf_skip hc]; exact rl.mono s1
        · rw [rf_skip hc]; exact ll
    · rintro σ H' ⟨vl, l4, l5, l6, rfl, sm, rl, ll⟩
      refine ⟨_, rfl, ?_⟩
      rw [t.cl]
      exact q _ sm
end
end MM
namespace MM
open PySem PySem.Spec PyProof.Rows L2 LamX
open Mm (Tab)
/-- the columns that would raise the goal -/
def wy (T : Tab) (j : Nat) : List Int := ((List.range j).filter fun c => decide (0 < T.goal.getD (c + 1) 0)).map fun (c : Nat) => (1 + (c : Int) : Int)
theorem wy_succ (T : Tab) (j : Nat) : wy T (j + 1) = if 0 < T.goal.getD (j + 1) 0 then wy T j ++ [1 + (j : Int)] else wy T j := by
  unfold wy
  rw [List.range_succ, List.filter_append, List.map_append]
  by_cases h : 0 < T.goal.getD (j + 1) 0
  · rw [if_pos h, List.filter_cons_of_pos (by simpa using h)]
    rfl
  · rw [if_neg h, List.filter_cons_of_neg (by simpa using h)]
    simp
theorem wy_len (T : Tab) (j : Nat) : (wy T j).length ≤ j := by
  unfold wy
  rw [List.length_map]
  have := List.length_filter_le (fun c => decide (0 < T.goal.getD (c + 1) 0)) (List.range j)
  rw [List.length_range] at this
  exact this
theorem wy_mem {T : Tab} {j : Nat} {z : Int} : z ∈ wy T j ↔ ∃ c : Nat, c < j ∧ 0 < T.goal.getD (c + 1) 0 ∧ z = 1 + (c : Int) := by
  unfold wy
  rw [List.mem_map]
  constructor
  · rintro ⟨c, hc, rfl⟩
    obtain ⟨h1, h2⟩ := List.mem_filter.mp hc
    exact ⟨c, List.mem_range.mp h1, of_decide_eq_true h2, rfl⟩
  · rintro ⟨c, h1, h2, rfl⟩
    exact ⟨c, List.mem_filter.mpr ⟨List.mem_range.mpr h1, decide_eq_true h2⟩, rfl⟩
section
variable {P : Program} {w : World} {K : PySem.W.Frag} {mg : Str → Option Value} {base : Heap} {f : Addr} {fd : FuncData} {C : Addr}
/-- the lambda's qualified name -/
def lamQ : Str := (("Tableau.improve" : Str) ++ (".<locals>." : Str)) ++ ("<lambda>" : Str)
def spImprove (K : PySem.W.Frag) (C Pt : Addr) : Sp := fun vs H Q _ => ∃ (H0 : Hp) (p dx la lb lc lg : Addr) (vc vg : List V) (T T' : Tab) (k n : Nat), vs = [.ref p] ∧ ExtN H0 H ∧ Tabs [(Pt, lamQ)] H ∧ TblAt K C H0 H p dx la lb lc lg vc vg T ∧ Mm.Imp k n T T' ∧ k ≤ 2200 ∧
  ∀ H' lg' vc' vg', ExtN H0 H' → Tabs [(Pt, lamQ)] H' → TblAt K C H0 H' p dx la lb lc lg' vc' vg' T' → Q .non H'
theorem ok_improve {Pt : Addr} (TK : TC K C) (F : FnP K "improve" "Tableau.improve" s_Tableau_improve f fd) (T : Txt K mg) (hTB : ∀ c, fd.code = .ref c → TabB base mg c Pt)
    (c_row_for : C8.Met P w K mg base 4 C "row_for" (spRowFor K C) []) (c_pivot : C8.Met P w K mg base 4 C "pivot" (spPivot K C) []) : FnOk P w K mg base C8.CX0 6 f fd ["self"] (spImprove K C Pt) := by
  obtain ⟨oc, od, dV, kV, doc, pm, an, cdv, ct, osl, efd, lk, hcd, _, _⟩ := F.ex
  obtain ⟨c, rfl⟩ := He.codeIn_ref hcd
  have TB : TabB base mg c Pt := hTB c (by rw [efd])
  subst efd
  refine fn_of lk hcd sc_Tableau_improve (fun vs H Q E h => ?_) (fun A outer s H vs Q E hr h => ?_)
  · obtain ⟨_, _, _, _, _, _, _, _, _, _, _, _, _, rfl, _⟩ := h
    rfl
  let L : List (Addr × Str) := [(Pt, lamQ)]
  have hmT : (Pt, lamQ) ∈ L := List.mem_singleton.mpr rfl
  have hmu : ∀ p ∈ L, p.1 = Pt → p.2 = lamQ := fun p hp _ => by rw [List.mem_singleton.mp hp]
  refine ⟨_, PSs.nox (pss_one (ps_while PassesOwn.never (pt_val pe_bl) (pss_cons (ps_setLc (i := 1) (own := [("col", 2)]) (g := (gName 2)) rfl sc_Tableau_improve.nd rfl rfl (sw_true rfl rfl rfl (by decide +kernel)) (pi_range2 rfl T.f_range (pa_cons pe_int (pa_cons (pe_callB (lenK (K := K) rfl) rfl T.f_len (by decide +kernel) (pa_cons (fldK (K := K) rfl (pv 0) rfl) pa_nil)) pa_nil))) (blkOk_by (own := [("col", 2)]) (by kernel_rfl)) (fun _ _ _ _ _ => (pg_name (i := 2) sc_Tableau_improve.nd rfl (.inl rfl))) (fun _ _ _ _ _ => (pts_one (pt_cmpR op_gt (pe_ix (ixK (K := K) rfl) (pe_ix (ixK (K := K) rfl) (fldK (K := K) rfl (pv 0) rfl) (pv 2) (fun _ _ => rfl)) pe_int (fun _ _ => rfl)) pe_int (nomark _)))) (fun _ _ _ _ _ => (pv 2)))
 (pss_cons (ps_if (pt_cmpR (eqNilK (K := K) rfl hr.units) (pv 1) (pe_lst pa_nil) (nomark _)) (pss_one (ps_ret pe_non)) pss_nil)
 (pss_cons (ps_set (i := 2) sc_Tableau_improve.nd rfl (.inl rfl) (pe_minLam (T := L) (k := 3) (i := 3) rfl T.f_min (hr.mono (by decide)) (pa_cons (pv 1) pa_nil) (lamS1_by rfl) TB rfl hmT hmu rfl (fun _ _ _ _ _ _ => rfl) sc_Tableau_improve.nd rfl (fun A outer s H f c' hr2 => (pe_ix (ixK (K := K) rfl) (fldK (K := K) rfl (pv 0) rfl) (pe_op op_sub (pv 3) pe_int) (fun _ _ => rfl)))))
 (pss_cons (ps_set (i := 4) sc_Tableau_improve.nd rfl (.inl rfl) (C8.pe_mt c_row_for hr (by first | decide | omega) (pv 0) (pa_cons (pv 2) pa_nil)))
 (pss_cons (ps_if (pt_cmpR op_isN (pv 4) pe_non (nomark _)) (pss_one (ps_ret (pv 2))) pss_nil)
 (pss_one (ps_expr (C8.pe_mt c_pivot hr (by first | decide | omega) (pv 0) (pa_cons (pv 4) (pa_cons (pv 2) pa_nil)))))))))))), ?_⟩
  obtain ⟨H0, p, dx, la, lb, lc, lg, vc, vg, T0, T', k, n, rfl, ex, tb, t, im, hk, q⟩ := h
  refine ⟨fun m σ H => ∃ (lg : Addr) (vc vg : List V) (Tc : Tab) (l1 l2 l4 : Option V), σ = [some (.ref p), l1, l2, none, l4] ∧ ExtN H0 H ∧ Tabs [(Pt, lamQ)] H ∧ TblAt K C H0 H p dx la lb lc lg vc vg Tc ∧ Mm.Imp k m Tc T', ⟨n, lg, vc, vg, T0, none, none, none, rfl, ex, tb, t, im⟩, ?_⟩
  clear t tb ex im lg vc vg
  rintro m σ H1 ⟨lg, vc, vg, Tc, l1, l2, l4, rfl, ex, tb, t, im⟩
  refine ⟨true, rfl, iteT ⟨_, fun σ' H' h => h, ?_⟩⟩
  have ok : Tc.Ok k := by cases im <;> assumption
  have hn1 := ok.n1
  have hn2 := ok.n2
  have hgl := ok.gl
  -- the ways
  have lg1 : vg.length = Tc.goal.length := t.gv.1
  refine ⟨_, rfl, p, C, dx, _, _, rfl, t.ob, TK.cls, TK.goal, rfl, _, _, rfl, .inl (SqL.of t.rg), 1, _, rfl, ⟨by decide, by decide, by rw [lg1]; omega, by rw [lg1]; omega⟩, fun D nD => ?_⟩
  have e0 : ((vg.length : Int) - 1).toNat = Tc.rest.length := by rw [lg1]; omega
  rw [e0]
  refine lc_range (lo := 1) (n := Tc.rest.length) (fun i H2 => Same H1 H2 ∧ H2 D = some (.lst ((wy Tc i).map V.int))) ⟨Same.new nD, upd_same⟩ ?_ ?_
  · rintro i H2 hi ⟨s2, hD⟩
    have t2 := t.mono s2
    obtain ⟨u, eu, hu⟩ := t2.gv.at (show 1 + i < Tc.goal.length by omega)
    have ea : Tc.goal.getD (i + 1) 0 = Tc.goal[1 + i]'(by omega) := by
      rw [Nat.add_comm]
      exact getD_of (List.getElem?_eq_getElem (by omega))
    refine ⟨rfl, _, rfl, p, C, dx, _, _, rfl, t2.ob, TK.cls, TK.goal, rfl, _, rfl, ix_l (j := 1 + i) (by omega) (SqL.of t2.rg) eu (ix_num hu ⟨_, _, rfl, rfl, _, rfl, ?_⟩)⟩
    refine ite2 (fun c => ?_) (fun c => ?_)
    · have hp : 0 < Tc.goal.getD (i + 1) 0 := by rw [ea]; exact Mm.pos_num.mpr (of_decide_eq_true c)
      refine ⟨_, rfl, _, hD, ?_, Same.mut s2 nD, ?_⟩
      · rw [List.length_map]
        exact Nat.lt_of_le_of_lt (Nat.le_trans (wy_len Tc i) (show i ≤ 100 by omega)) (by decide)
      · rw [upd_same, wy_succ, if_pos hp, List.map_append]
        rfl
    · have hp : ¬ 0 < Tc.goal.getD (i + 1) 0 := fun z => c (decide_eq_true (Mm.pos_num.mp (by rw [← ea]; exact z)))
      refine ⟨s2, ?_⟩
      rw [wy_succ, if_neg hp]
      exact hD
  rintro H2 ⟨s2, hD⟩
  generalize hws : wy Tc Tc.rest.length = ws at hD
  have way_of : ∀ c, Tc.Way c → ((c : Nat) : Int) ∈ ws := fun c ⟨h1, h2, h3⟩ => by
    rw [← hws]
    refine wy_mem.mpr ⟨c - 1, by omega, ?_, by omega⟩
    rw [Nat.sub_add_cancel h1]
    exact h3
  have way_in : ∀ z, z ∈ ws → ∃ c : Nat, z = (c : Int) ∧ Tc.Way c := fun z hz => by
    rw [← hws] at hz
    obtain ⟨c, h1, h2, rfl⟩ := wy_mem.mp hz
    exact ⟨c + 1, by omega, by omega, by omega, h2⟩
  have hwl : ws.length ≤ 100 := by
    rw [← hws]
    exact Nat.le_trans (wy_len _ _) hn1
  -- no way: the end
  refine ⟨_, rfl, by show 0 ≤ sizeLine; decide, fun p1 np1 => ?_⟩
  have s3 := Same.new (o := .lst []) np1
  refine ⟨D, p1, _, _, rfl, rfl, SqL.of (s3 _ _ hD), SqL.of upd_same, ints_dp ws, sh_ints ws, _, rfl, ?_⟩
  have s13 := s2.trans s3
  have hD3 := s3 _ _ hD
  generalize upd H2 p1 (.lst []) = H3 at s3 s13 hD3 ⊢
  cases hw : ws with
  | nil =>
    refine iteT ?_
    have no : ∀ c, ¬ Tc.Way c := fun c hc => by
      have := way_of c hc
      rw [hw] at this
      cases this
    have eT : Tc = T' := by
      cases im with
      | stop => rfl
      | step _ hB => exact (no _ hB.1).elim
    rw [← eT] at q
    exact q H3 lg vc vg (ex.same s13) (tb.ext s13) (t.mono s13)
  | cons z0 zs0 =>
    have hpos : 0 < ws.length := by rw [hw]; exact Nat.succ_pos _
    refine iteF ?_
    cases im with
    | stop _ no =>
      obtain ⟨c, _, hc⟩ := way_in z0 (by rw [hw]; exact List.mem_cons_self)
      exact (no c hc).elim
    | @step n' _ _ row col _ hB hU hR hrow hne im' =>
      have t3 := t.mono s13
      refine ⟨_, rfl, D, ws, fun j => ((Tc.rest.getD ((ws.getD j 1 - 1).toNat) 0 : Nat) : Int), rfl, SqL.of hD3, hpos, tb.ext s13, fun H4 eN T4 => ?_⟩
      have t4 := t3.extN eN
      have ex4 := (ex.same s13).trans eN
      refine ⟨fun j z hj => ?_, fun j z hj hbest => ?_⟩
      · obtain ⟨c, rfl, h1, h2, h3⟩ := way_in z (List.mem_of_getElem? hj)
        have hrc : Tc.rest[c - 1]? = some (Tc.rest.getD (c - 1) 0) := by
          rw [List.getD_eq_getElem?_getD, List.getElem?_eq_getElem (show c - 1 < Tc.rest.length by omega)]; rfl
        refine ⟨_, rfl, p, C, dx, _, _, rfl, t4.ob, TK.cls, TK.rest, rfl, _, rfl, _, _, rfl, rfl, ix_l (j := c - 1) (by omega) (SqL.of t4.ra) (natV_at hrc) ⟨rfl, ?_⟩⟩
        have e1 : ws.getD j 1 = (c : Int) := by rw [List.getD_eq_getElem?_getD, hj]; rfl
        show V.int _ = V.int ((Tc.rest.getD ((ws.getD j 1 - 1).toNat) 0 : Nat) : Int)
        rw [e1, show ((c : Int) - 1).toNat = c - 1 by omega]
      · obtain ⟨c, rfl, hc⟩ := way_in z (List.mem_of_getElem? hj)
        have e1 : ws.getD j 1 = (c : Int) := by rw [List.getD_eq_getElem?_getD, hj]; rfl
        have ec : c = col := by
          refine hU c ⟨hc, fun c' hc' => ?_⟩
          obtain ⟨j', hj', ej'⟩ := List.mem_iff_getElem.mp (way_of c' hc')
          have e2 : ws.getD j' 1 = (c' : Int) := by rw [List.getD_eq_getElem?_getD, List.getElem?_eq_getElem hj']; exact ej'
          have h := (hbest j' hj').1
          have h : ((Tc.rest.getD ((ws.getD j 1 - 1).toNat) 0 : Nat) : Int) ≤ ((Tc.rest.getD ((ws.getD j' 1 - 1).toNat) 0 : Nat) : Int) := h
          rw [e1, e2, show ((c : Int) - 1).toNat = c - 1 by omega, show ((c' : Int) - 1).toNat = c' - 1 by omega] at h
          omega
        subst ec
        obtain ⟨hc1, hc2, hc3⟩ := hc
        refine ⟨_, rfl, p, dx, _, rfl, t4.ob, rfl, _, rfl, H0, p, dx, la, lb, lc, lg, vc, vg, Tc, c, k, rfl, t4, ok, hk, hc1, hc2, fun H5 e5 => ?_⟩
        rw [hR]
        have t5 := t4.mono e5
        refine ⟨_, rfl, rfl, _, rfl, iteF ?_⟩
        refine ⟨_, rfl, p, dx, _, rfl, t5.ob, rfl, _, rfl, _, rfl, H0, p, dx, la, lb, lc, lg, vc, vg, Tc, row, c, k, rfl, ex4.same e5, t5, ok, hk, hrow, hc1, hc2, hne, fun H6 lg' vc' vg' ex6 mv6 t6 => ?_⟩
        exact ⟨n', Nat.lt_succ_self _, lg', vc', vg', _, _, _, _, rfl, ex6, mv6.tabs (T4.ext e5), t6, im'⟩
end
end MM
namespace MM
open PySem PySem.Spec PyProof.Rows L2 LamX
open Mm (Tab)
/-- a row as solve hands it over -/
def Row2 (K : PySem.W.Frag) (H : Hp) (v : V) (r : List Rat × Rat) : Prop := ∃ t a vb, v = .ref t ∧ SqT K H t [.ref a, vb] ∧ SR false K H a r.1 ∧ RV K H vb r.2
def Rows2 (K : PySem.W.Frag) (H : Hp) (vs : List V) (rs : List (List Rat × Rat)) : Prop := vs.length = rs.length ∧ ∀ (i : Nat) (r : List Rat × Rat), rs[i]? = some r → ∃ v, vs[i]? = some v ∧ Row2 K H v r
section
variable {K : PySem.W.Frag} {H H' : Hp} {v : V} {r : List Rat × Rat} {vs : List V} {rs : List (List Rat × Rat)}
theorem Row2.mono (h : Row2 K H v r) (e : Same H H') : Row2 K H' v r := by
  obtain ⟨t, a, vb, rfl, h1, ⟨vs, h2, h3⟩, h4⟩ := h
  exact ⟨t, a, vb, rfl, Same.tup e h1, ⟨vs, SqK.mono h2 e, h3.mono e⟩, h4.mono e⟩
theorem Rows2.mono (h : Rows2 K H vs rs) (e : Same H H') : Rows2 K H' vs rs := ⟨h.1, fun i r hr => by
  obtain ⟨v, h1, h2⟩ := h.2 i r hr
  exact ⟨v, h1, h2.mono e⟩⟩
theorem Rows2.of_v (h : Rows2 K H vs rs) {i : Nat} (e : vs[i]? = some v) : ∃ r, rs[i]? = some r ∧ Row2 K H v r := by
  have hi : i < rs.length := by rw [← h.1]; exact (List.getElem?_eq_some_iff.mp e).1
  obtain ⟨w, h1, h2⟩ := h.2 i _ (List.getElem?_eq_getElem hi)
  rw [e] at h1
  cases h1
  exact ⟨_, List.getElem?_eq_getElem hi, h2⟩
end
theorem Row2.ts {K : PySem.W.Frag} {H H' : Hp} {v : V} {r : List Rat × Rat} (h : Row2 K H v r) (e : TS H H') : Row2 K H' v r := by
  obtain ⟨t, a, vb, rfl, h1, ⟨vs, h2, h3⟩, h4⟩ := h
  exact ⟨t, a, vb, rfl, e.tup h1, ⟨vs, e.tup h2, h3.ts e⟩, h4.ts e⟩
theorem Rows2.ts {K : PySem.W.Frag} {H H' : Hp} {vs : List V} {rs : List (List Rat × Rat)} (h : Rows2 K H vs rs) (e : TS H H') : Rows2 K H' vs rs := ⟨h.1, fun i r hr => by
  obtain ⟨v, h1, h2⟩ := h.2 i r hr
  exact ⟨v, h1, h2.ts e⟩⟩
/-- new lists of ratios -/
structure NewL (K : PySem.W.Frag) (H2 : Hp) (D : Addr) (H' : Hp) (acc : List V) (cs : List (List Rat)) : Prop where
  len : acc.length = cs.length
  at_ : ∀ (j : Nat) (rs : List Rat), cs[j]? = some rs → ∃ (r : Addr) (vs : List V), acc[j]? = some (V.ref r) ∧ H' r = some (.lst vs) ∧ RL K H' vs rs
  new : ∀ r, V.ref r ∈ acc → H2 r = none ∧ r ≠ D ∧ H' r ≠ none
  nd : acc.Nodup
theorem NewL.nil {K : PySem.W.Frag} {H2 H' : Hp} {D : Addr} : NewL K H2 D H' [] [] := ⟨rfl, fun j rs h => by simp at h, fun r h => by simp at h, List.nodup_nil⟩
theorem NewL.mono {K : PySem.W.Frag} {H2 H' H'' : Hp} {D : Addr} {acc : List V} {cs : List (List Rat)} (h : NewL K H2 D H' acc cs) (e : Same H' H'') : NewL K H2 D H'' acc cs :=
  ⟨h.len, fun j rs hj => by
    obtain ⟨r, vs, h1, h2, h3⟩ := h.at_ j rs hj
    exact ⟨r, vs, h1, e _ _ h2, h3.mono e⟩, fun r hr => by
    obtain ⟨h1, h2, h3⟩ := h.new r hr
    refine ⟨h1, h2, ?_⟩
    cases q : H' r with
    | none => exact absurd q h3
    | some o => rw [e _ _ q]; simp, h.nd⟩
theorem NewL.put {K : PySem.W.Frag} {H2 H' : Hp} {D : Addr} {acc xs : List V} {o : HO} {cs : List (List Rat)} (h : NewL K H2 D H' acc cs) (hD : H' D = some (.lst xs)) : NewL K H2 D (upd H' D o) acc cs :=
  ⟨h.len, fun j rs hj => by
    obtain ⟨r, vs, h1, h2, h3⟩ := h.at_ j rs hj
    refine ⟨r, vs, h1, ?_, h3.ts (TS.lst hD)⟩
    rw [upd_ne (h.new r (List.mem_of_getElem? h1)).2.1]
    exact h2, fun r hr => by
    obtain ⟨h1, h2, h3⟩ := h.new r hr
    exact ⟨h1, h2, by rw [upd_ne h2]; exact h3⟩, h.nd⟩
theorem NewL.snoc {K : PySem.W.Frag} {H2 H' : Hp} {D r : Addr} {acc vs : List V} {cs : List (List Rat)} {rs : List Rat} (h : NewL K H2 D H' acc cs) (hr : H' r = some (.lst vs)) (hv : RL K H' vs rs) (n2 : H2 r = none) (nD : r ≠ D) (na : V.ref r ∉ acc) : NewL K H2 D H' (acc ++ [.ref r]) (cs ++ [rs]) :=
  ⟨by rw [List.length_append, List.length_append, h.len]; rfl, fun j rs' hj => by
    by_cases c : j < cs.length
    · rw [List.getElem?_append_left c] at hj
      rw [List.getElem?_append_left (by rw [h.len]; exact c)]
      exact h.at_ j rs' hj
    · rw [List.getElem?_append_right (by omega)] at hj
      have e : j - cs.length = 0 := by
        have := (List.getElem?_eq_some_iff.mp hj).1
        simp at this
        omega
      rw [e] at hj
      cases hj
      rw [List.getElem?_append_right (by rw [h.len]; omega), h.len, e]
      exact ⟨r, vs, rfl, hr, hv⟩, fun r' hr' => by
    rcases List.mem_append.mp hr' with z | z
    · exact h.new r' z
    · have e : r' = r := by simpa using z
      subst e
      exact ⟨n2, nD, by rw [hr]; simp⟩, by
    rw [List.nodup_append]
    exact ⟨h.nd, by simp, fun a ha b hb => by
      have e : b = V.ref r := by simpa using hb
      subst e
      exact fun e => na (e ▸ ha)⟩⟩
/-- the rows are new and apart -/
def Fresh (H0 : Hp) (vc : List V) (lg : Addr) : Prop := vc.Nodup ∧ ∀ r, V.ref r ∈ vc → H0 r = none ∧ r ≠ lg
section
variable {P : Program} {w : World} {K : PySem.W.Frag} {mg : Str → Option Value} {base : Heap} {f : Addr} {fd : FuncData} {C : Addr}
def spTInit (K : PySem.W.Frag) (C : Addr) : Sp := fun vs H Q _ => ∃ (H0 : Hp) (p dx b : Addr) (n k : Nat) (vr : List V) (rows : List (List Rat × Rat)), vs = [.ref p, .int n, .ref b] ∧ (∀ b ps, H0 b ≠ some (.tbl ps)) ∧ ExtN H0 H ∧ H0 p = none ∧ H p = some (.ins C dx []) ∧ SqL K H b vr ∧ Rows2 K H vr rows ∧ n ≤ 99 ∧ rows.length ≤ 100 ∧ k ≤ 2200 ∧
  (∀ r ∈ rows, r.1.length = n ∧ ∀ x ∈ r.1, Mm.Lt k x) ∧
  ∀ H' la lb lc lg vc vg, ExtN H0 H' → Mv H H' → TblAt K C H0 H' p dx la lb lc lg vc vg (Tab.init n rows) → Fresh H0 vc lg → Q .non H'
theorem ok_tinit (TK : TC K C) (F : FnP K "__init__" "Tableau.__init__" s_Tableau___init__ f fd) (T : Txt K mg) (c_minus : C8.Cal P w K mg base 3 "minus" (spMinus K) []) : FnOk P w K mg base C8.CX0 4 f fd ["self", "size", "rows"] (spTInit K C) := by
  refine F.ok sc_Tableau___init__ (fun vs H Q E h => ?_) (fun cdv A outer s H vs Q E hr h => ⟨_, PSs.nox (pss_cons (psFldK (K := K) rfl (pv 0) (pv 1) rfl)
 (pss_cons (psFldK (K := K) rfl (pv 0) (pe_callB (lenK (K := K) rfl) rfl T.f_len (by decide +kernel) (pa_cons (pv 2) pa_nil)) rfl)
 (pss_cons (psFldK (K := K) rfl (pv 0) (pe_lc (own := [("at", 3)]) (g := (gName 3)) (tt := tYes) rfl sc_Tableau___init__.nd (pi_range1 rfl T.f_range (pa_cons (pv 1) pa_nil)) (blkOk_by (own := [("at", 3)]) (by kernel_rfl)) (fun _ _ _ _ _ => (pg_name (i := 3) sc_Tableau___init__.nd rfl (.inl rfl))) (fun _ _ _ _ _ => pts_nil) (fun _ _ _ _ _ => (pv 3))) rfl)
 (pss_cons (psFldK (K := K) rfl (pv 0) (pe_lc (own := [("at", 3)]) (g := (gName 3)) (tt := tYes) rfl sc_Tableau___init__.nd (pi_range1 rfl T.f_range (pa_cons (pe_callB (lenK (K := K) rfl) rfl T.f_len (by decide +kernel) (pa_cons (pv 2) pa_nil)) pa_nil)) (blkOk_by (own := [("at", 3)]) (by kernel_rfl)) (fun _ _ _ _ _ => (pg_name (i := 3) sc_Tableau___init__.nd rfl (.inl rfl))) (fun _ _ _ _ _ => pts_nil) (fun _ _ _ _ _ => (pe_op op_add (pv 1) (pv 3)))) rfl)
 (pss_cons (psFldK (K := K) rfl (pv 0) (pe_lc (own := [("factors", 5), ("bound", 6)]) (g := (gTup K 2 (gCons (gName 5) (gCons (gName 6) gNil)))) (tt := tYes) rfl sc_Tableau___init__.nd (piListK (K := K) rfl (pv 2)) (blkOk_by (own := [("factors", 5), ("bound", 6)]) (by kernel_rfl)) (fun _ _ _ _ _ => (pgTupK (K := K) rfl rfl (pgs_cons (pg_name (i := 5) sc_Tableau___init__.nd rfl (.inl rfl)) (pgs_cons (pg_name (i := 6) sc_Tableau___init__.nd rfl (.inl rfl)) pgs_nil)))) (fun _ _ _ _ _ => pts_nil) (fun _ _ _ _ _ => (pe_lst (pa_cons (pv 6) (starK (K := K) rfl (pe_lc (own := [("factor", 4)]) (g := (gName 4)) (tt := tYes) rfl sc_Tableau___init__.nd (piTupK (K := K) rfl (pv 5)) (blkOk_by (own := [("factor", 4)]) (by kernel_rfl)) (fun _ _ _ _ _ => (pg_name (i := 4) sc_Tableau___init__.nd rfl (.inl rfl))) (fun _ _ _ _ _ => pts_nil) (fun _ _ _ _ _ => (C8.pe_c c_minus hr (by first | decide | omega) rfl (pa_cons (C8.pe_gc rfl T.gZ) (pa_cons (pv 4) pa_nil))))) pa_nil))))) rfl)
 (pss_one (psFldK (K := K) rfl (pv 0) (pe_lc (own := [("at", 3)]) (g := (gName 3)) (tt := tYes) rfl sc_Tableau___init__.nd (pi_range1 rfl T.f_range (pa_cons (pe_op op_add (pv 1) pe_int) pa_nil)) (blkOk_by (own := [("at", 3)]) (by kernel_rfl)) (fun _ _ _ _ _ => (pg_name (i := 3) sc_Tableau___init__.nd rfl (.inl rfl))) (fun _ _ _ _ _ => pts_nil) (fun _ _ _ _ _ => (C8.pe_gc rfl T.gZ))) rfl))))))), ?_⟩)
  · obtain ⟨_, _, _, _, _, _, _, _, rfl, _⟩ := h
    rfl
  · obtain ⟨H0, p, dx, b, n, k, vr, rows, rfl, nt, ex, np, hp, hb, hr', hn, hz, hk, hl, q⟩ := h
    have lr : vr.length = rows.length := hr'.1
    -- width
    refine ⟨_, rfl, _, rfl, p, C, dx, _, rfl, hp, TK.cls, TK.width, by decide, ?_⟩
    have f1 : Pf p H (upd H p (.ins C dx (putF "width" (V.int n) []))) := Pf.put
    have hp1 : upd H p (.ins C dx (putF "width" (V.int n) [])) p = some (.ins C dx [(Str.ofString "width", V.int n)]) := upd_same
    have ex1 := ex.put (o := .ins C dx (putF "width" (V.int n) [])) np
    generalize upd H p (.ins C dx (putF "width" (V.int n) [])) = H1 at f1 hp1 ex1 ⊢
    -- many
    refine ⟨_, rfl, _, _, rfl, .inl (f1.lst hp hb), _, rfl, p, C, dx, _, rfl, hp1, TK.cls, TK.many, by show 1 < 1000; decide, ?_⟩
    rw [lr]
    have f2 : Pf p H (upd H1 p (.ins C dx (putF "many" (V.int (rows.length : Nat)) [(Str.ofString "width", V.int n)]))) := f1.trans Pf.put
    have hp2 : upd H1 p (.ins C dx (putF "many" (V.int (rows.length : Nat)) [(Str.ofString "width", V.int n)])) p = some (.ins C dx [(Str.ofString "width", V.int n), (Str.ofString "many", V.int (rows.length : Nat))]) := upd_same
    have ex2 := ex1.put (o := .ins C dx (putF "many" (V.int (rows.length : Nat)) [(Str.ofString "width", V.int n)])) np
    generalize upd H1 p (.ins C dx (putF "many" (V.int (rows.length : Nat)) [(Str.ofString "width", V.int n)])) = H2 at f2 hp2 ex2 ⊢
    clear hp1 ex1 f1 H1
    -- rest
    refine ⟨_, rfl, n, rfl, by omega, by omega, fun la nla => ?_⟩
    refine lc_range (lo := 0) (n := n) (fun i H' => Same H2 H' ∧ H' la = some (.lst (natV (List.range i)))) ⟨Same.new nla, upd_same⟩ ?_ ?_
    · rintro i H' hi ⟨s, hD⟩
      refine ⟨rfl, tyes ⟨_, rfl, _, hD, ?_, Same.mut s nla, ?_⟩⟩
      · rw [natV_len, List.length_range]
        exact Nat.lt_of_le_of_lt (show i ≤ 100 by omega) (by decide)
      · rw [upd_same, List.range_succ]
        unfold natV
        rw [List.map_append]
        show some (HO.lst (_ ++ [V.int (0 + (i : Int))])) = _
        rw [Int.zero_add]
        rfl
    rintro H3 ⟨s3, hla3⟩
    have hp3 := s3 _ _ hp2
    have f3 := f2.trans (Pf.of s3)
    have ex3 := ex2.same s3
    have n0a : H0 la = none := none0 nt ex2 nla
    have lap : la ≠ p := ne_of hla3 hp3 (fun z => by cases z)
    refine ⟨_, rfl, p, C, dx, _, rfl, hp3, TK.cls, TK.rest, by show 2 < 1000; decide, ?_⟩
    have f4 : Pf p H (upd H3 p (.ins C dx (putF "rest" (V.ref la) [(Str.ofString "width", V.int n), (Str.ofString "many", V.int (rows.length : Nat))]))) := f3.trans Pf.put
    have hp4 : upd H3 p (.ins C dx (putF "rest" (V.ref la) [(Str.ofString "width", V.int n), (Str.ofString "many", V.int (rows.length : Nat))])) p = some (.ins C dx [(Str.ofString "width", V.int n), (Str.ofString "many", V.int (rows.length : Nat)), (Str.ofString "rest", V.ref la)]) := upd_same
    have ex4 := ex3.put (o := .ins C dx (putF "rest" (V.ref la) [(Str.ofString "width", V.int n), (Str.ofString "many", V.int (rows.length : Nat))])) np
    have hla4 : upd H3 p (.ins C dx (putF "rest" (V.ref la) [(Str.ofString "width", V.int n), (Str.ofString "many", V.int (rows.length : Nat))])) la = some (.lst (natV (List.range n))) := by rw [upd_ne lap]; exact hla3
    generalize upd H3 p (.ins C dx (putF "rest" (V.ref la) [(Str.ofString "width", V.int n), (Str.ofString "many", V.int (rows.length : Nat))])) = H4 at f4 hp4 ex4 hla4 ⊢
    clear hp3 ex3 hla3 f3 s3 nla hp2 ex2 f2 H3 H2
    -- base
    refine ⟨_, rfl, _, _, rfl, .inl (f4.lst hp hb), _, rfl, by rw [lr]; omega, by rw [lr]; omega, fun lb nlb => ?_⟩
    have e0 : ((vr.length : Nat) : Int).toNat = rows.length := by rw [lr]; omega
    rw [e0]
    refine lc_range (lo := 0) (n := rows.length) (fun i H' => Same H4 H' ∧ H' lb = some (.lst (natV ((List.range i).map (fun i => n + i))))) ⟨Same.new nlb, upd_same⟩ ?_ ?_
    · rintro i H' hi ⟨s, hD⟩
      refine ⟨rfl, tyes ⟨_, rfl, _, rfl, _, _, rfl, rfl, _, hD, ?_, Same.mut s nlb, ?_⟩⟩
      · rw [natV_len, List.length_map, List.length_range]
        exact Nat.lt_of_le_of_lt (show i ≤ 100 by omega) (by decide)
      · rw [upd_same, List.range_succ, List.map_append]
        unfold natV
        rw [List.map_append]
        show some (HO.lst (_ ++ [V.int ((n : Int) + (0 + (i : Int)))])) = _
        rw [Int.zero_add]
        rfl
    rintro H5 ⟨s5, hlb5⟩
    have hp5 := s5 _ _ hp4
    have f5 := f4.trans (Pf.of s5)
    have ex5 := ex4.same s5
    have hla5 := s5 _ _ hla4
    have n0b : H0 lb = none := none0 nt ex4 nlb
    have ab : la ≠ lb := ne_of_none hla4 nlb
    have lbp : lb ≠ p := ne_of hlb5 hp5 (fun z => by cases z)
    refine ⟨_, rfl, p, C, dx, _, rfl, hp5, TK.cls, TK.base, by show 3 < 1000; decide, ?_⟩
    generalize hO : HO.ins C dx (putF "base" (V.ref lb) [(Str.ofString "width", V.int n), (Str.ofString "many", V.int (rows.length : Nat)), (Str.ofString "rest", V.ref la)]) = O
    have f6 : Pf p H (upd H5 p O) := f5.trans Pf.put
    have hp6 : upd H5 p O p = some (.ins C dx [(Str.ofString "width", V.int n), (Str.ofString "many", V.int (rows.length : Nat)), (Str.ofString "rest", V.ref la), (Str.ofString "base", V.ref lb)]) := by rw [← hO]; exact upd_same
    have ex6 := ex5.put (o := O) np
    have hla6 : upd H5 p O la = _ := (upd_ne lap).trans hla5
    have hlb6 : upd H5 p O lb = _ := (upd_ne lbp).trans hlb5
    generalize upd H5 p O = H6 at f6 hp6 ex6 hla6 hlb6 ⊢
    clear hp5 ex5 hla5 hlb5 f5 s5 nlb hp4 ex4 f4 hla4 H5 H4 hO O
    -- cells
    have hb6 := f6.lst hp hb
    have hr6 := hr'.ts (f6.mv hp).ts
    refine ⟨_, rfl, b, rfl, ⟨_, hb6⟩, fun lc nlc => ?_⟩
    let cs : List (List Rat) := rows.map fun r => r.2 :: r.1.map (fun x => -x)
    have lcs : cs.length = rows.length := List.length_map ..
    refine lc_list (K := K) (a := b) (xs := vr) (fun i H' => Same H6 H' ∧ ∃ acc, H' lc = some (.lst acc) ∧ NewL K H6 lc H' acc (cs.take i)) ⟨Same.new nlc, [], upd_same, by rw [List.take_zero]; exact NewL.nil⟩ (fun i H' _ g => g.1.seq hb6) ?_ ?_
    · rintro i u H' hu ⟨s, acc, hD, hN⟩
      obtain ⟨r, er, t, a, vb, rfl, ht, ⟨vf, hf, rf⟩, hbd⟩ := hr6.of_v hu
      have hf : SqT K H6 a vf := hf
      have hmem := List.mem_of_getElem? er
      obtain ⟨l1, b1⟩ := hl r hmem
      have hi : i < rows.length := (List.getElem?_eq_some_iff.mp er).1
      refine ⟨t, _, rfl, Same.tup s ht, rfl, _, _, rfl, _, _, rfl, rfl, rfl, tyes ?_⟩
      refine ⟨_, rfl, _, rfl, a, rfl, ⟨_, Same.tup s hf⟩, fun D2 nD2 => ?_⟩
      let zs : List Rat := r.1.map fun x => -x
      have lz : zs.length = r.1.length := List.length_map ..
      refine lc_tup (K := K) (a := a) (xs := vf) (Grow K H' D2 zs) (Grow.zero nD2) (fun j H2 _ g => Same.tup (s.trans g.1) hf) ?_ ?_
      · intro j v H2 hv g
        obtain ⟨x, ex', hux⟩ := rf.of_v hv
        refine ⟨rfl, tyes ⟨_, rfl, .ref (zA K), v, 0, x, 1, k, rfl, T.rZ _, hux.mono (s.trans g.1), zero_lt (by decide), b1 x (List.mem_of_getElem? ex'), by omega, fun vm H3 e3 r3 => ?_⟩⟩
        refine g.step nD2 e3 ?_ r3 (by omega)
        show (r.1.map _)[j]? = _
        rw [List.getElem?_map, ex']
        show some _ = some _
        congr 1
        grind
      · intro H2 g
        obtain ⟨s2, acc2, hD2, hacc2⟩ := g.done (by rw [rf.1]; omega)
        refine ⟨D2, acc2, rfl, .inr (SqL.of hD2), ?_⟩
        have hlen : acc2.length = n := by rw [hacc2.1, lz, l1]
        refine ⟨?_, fun y nY => ?_⟩
        · show (vb :: (acc2 ++ [])).length ≤ sizeLine
          rw [List.append_nil, List.length_cons, hlen]
          exact Nat.le_trans (show n + 1 ≤ 100 by omega) (by decide)
        have s3 := Same.new (o := .lst (vb :: (acc2 ++ []))) nY
        have s13 := s2.trans s3
        have hlc3 : upd H2 y (.lst (vb :: (acc2 ++ []))) lc = some (.lst acc) := s13 _ _ hD
        have hY : upd H2 y (.lst (vb :: (acc2 ++ []))) y = some (.lst (vb :: acc2)) := by rw [upd_same, List.append_nil]
        have hrow : RL K (upd H2 y (.lst (vb :: (acc2 ++ [])))) (vb :: acc2) (r.2 :: zs) := RL.cons ((hbd.mono s).mono s13) (hacc2.mono s3)
        have nYlc : y ≠ lc := (ne_of_none (s2 _ _ hD) nY).symm
        have nY6 : H6 y = none := by
          cases q : H6 y with
          | none => rfl
          | some o => have := s2 _ _ (s _ _ q); rw [nY] at this; cases this
        have nYacc : V.ref y ∉ acc := fun z => by
          obtain ⟨_, _, h3⟩ := (hN.mono s2).new y z
          exact h3 nY
        generalize upd H2 y (.lst (vb :: (acc2 ++ []))) = H3 at s3 s13 hlc3 hY hrow ⊢
        refine ⟨acc, hlc3, ?_, Same.mut (s.trans s13) nlc, acc ++ [.ref y], upd_same, ?_⟩
        · rw [hN.len, List.length_take]
          exact Nat.lt_of_le_of_lt (Nat.le_trans (Nat.min_le_left _ _) (show i ≤ 100 by omega)) (by decide)
        · have ecs : cs[i]? = some (r.2 :: zs) := by
            show (rows.map _)[i]? = _
            rw [List.getElem?_map, er]; rfl
          rw [take_snoc ecs]
          exact ((hN.mono s13).snoc hY hrow nY6 nYlc nYacc).put hlc3
    · rintro H7 ⟨s7, vc, hlc7, hN⟩
      rw [lr, ← lcs, List.take_length] at hN
      have hp7 := s7 _ _ hp6
      have f7 := f6.trans (Pf.of s7)
      have ex7 := ex6.same s7
      have hla7 := s7 _ _ hla6
      have hlb7 := s7 _ _ hlb6
      have n0c : H0 lc = none := none0 nt ex6 nlc
      have ac : la ≠ lc := ne_of_none hla6 nlc
      have bc : lb ≠ lc := ne_of_none hlb6 nlc
      have lcp : lc ≠ p := ne_of hlc7 hp7 (fun z => by cases z)
      refine ⟨_, rfl, p, C, dx, _, rfl, hp7, TK.cls, TK.cells, by show 4 < 1000; decide, ?_⟩
      generalize hO : HO.ins C dx (putF "cells" (V.ref lc) [(Str.ofString "width", V.int n), (Str.ofString "many", V.int (rows.length : Nat)), (Str.ofString "rest", V.ref la), (Str.ofString "base", V.ref lb)]) = O
      have f8 : Pf p H (upd H7 p O) := f7.trans Pf.put
      have hp8 : upd H7 p O p = some (.ins C dx [(Str.ofString "width", V.int n), (Str.ofString "many", V.int (rows.length : Nat)), (Str.ofString "rest", V.ref la), (Str.ofString "base", V.ref lb), (Str.ofString "cells", V.ref lc)]) := by rw [← hO]; exact upd_same
      have ex8 := ex7.put (o := O) np
      have hla8 : upd H7 p O la = _ := (upd_ne lap).trans hla7
      have hlb8 : upd H7 p O lb = _ := (upd_ne lbp).trans hlb7
      have hlc8 : upd H7 p O lc = _ := (upd_ne lcp).trans hlc7
      have ts78 : TS H7 (upd H7 p O) := TS.ins hp7
      have hcells : ∀ (j : Nat) (rs : List Rat), cs[j]? = some rs → ∃ (r : Addr) (vs : List V), vc[j]? = some (V.ref r) ∧ upd H7 p O r = some (.lst vs) ∧ RL K (upd H7 p O) vs rs ∧ r ≠ la ∧ r ≠ lb ∧ r ≠ lc := fun j rs hj => by
        obtain ⟨r, vs, h1, h2, h3⟩ := hN.at_ j rs hj
        obtain ⟨g1, g2, _⟩ := hN.new r (List.mem_of_getElem? h1)
        exact ⟨r, vs, h1, by rw [upd_ne (ne_of h2 hp7 (fun z => by cases z))]; exact h2, h3.ts ts78, (ne_of_none hla6 g1).symm, (ne_of_none hlb6 g1).symm, g2⟩
      generalize upd H7 p O = H8 at f8 hp8 ex8 hla8 hlb8 hlc8 hcells ⊢
      -- goal
      refine ⟨_, rfl, _, _, rfl, rfl, _, rfl, by omega, by omega, fun lg nlg => ?_⟩
      have e1 : (((n : Nat) : Int) + 1).toNat = n + 1 := by omega
      rw [e1]
      refine lc_range (lo := 0) (n := n + 1) (Grow K H8 lg (List.replicate (n + 1) 0)) (Grow.zero nlg) ?_ ?_
      · intro j H' hj g
        refine ⟨rfl, tyes ?_⟩
        exact g.step nlg (Same.refl _) (by rw [List.getElem?_replicate, if_pos hj]) (T.rZ _) (by rw [List.length_replicate]; omega)
      · intro H9 g
        obtain ⟨s9, vg, hlg9, hvg⟩ := g.done (by rw [List.length_replicate]; exact Nat.le_refl _)
        have hp9 := s9 _ _ hp8
        refine ⟨_, rfl, p, C, dx, _, rfl, hp9, TK.cls, TK.goal, by show 5 < 1000; decide, ?_⟩
        have ts9 : TS H9 (upd H9 p (.ins C dx (fldT n rows.length la lb lc lg))) := TS.ins hp9
        have nl : ∀ {a : Addr} {xs : List V}, H9 a = some (.lst xs) → a ≠ p := fun h => ne_of h hp9 (fun z => by cases z)
        refine q (upd H9 p (.ins C dx (fldT n rows.length la lb lc lg))) la lb lc lg vc vg ((ex8.same s9).put np) (((f8.trans (Pf.of s9)).trans Pf.put).mv hp) ⟨upd_same, ?_, ?_, ?_, ?_, hvg.ts ts9, ?_, fun j rs hj => ?_, ab, ac, bc, (ne_of_none hla8 nlg).symm, (ne_of_none hlb8 nlg).symm, (ne_of_none hlc8 nlg).symm, np, n0a, n0b, n0c, nt⟩ ⟨hN.nd, fun r hr => ⟨none0 nt ex6 (hN.new r hr).1, ?_⟩⟩
        · exact (upd_ne (nl (s9 _ _ hla8))).trans (s9 _ _ hla8)
        · exact (upd_ne (nl (s9 _ _ hlb8))).trans (s9 _ _ hlb8)
        · exact (upd_ne (nl (s9 _ _ hlc8))).trans (s9 _ _ hlc8)
        · exact (upd_ne (nl hlg9)).trans hlg9
        · show vc.length = cs.length
          exact hN.len
        · obtain ⟨r, vs, h1, h2, h3, h4⟩ := hcells j rs hj
          exact ⟨r, vs, h1, (upd_ne (nl (s9 _ _ h2))).trans (s9 _ _ h2), (h3.mono s9).ts ts9, h4⟩
        · obtain ⟨j, hj, ej⟩ := List.mem_iff_getElem.mp hr
          obtain ⟨r', vs', h1, h2, _⟩ := hcells j _ (List.getElem?_eq_getElem (show j < cs.length by rw [← hN.len]; exact hj))
          rw [List.getElem?_eq_getElem hj, ej] at h1
          cases h1
          exact ne_of_none h2 nlg
end
end MM
namespace MM
open PySem PySem.Spec PyProof.Rows L2 LamX
open Mm (Tab)
theorem cut_to {xs : List V} {j : Nat} (h : j ≤ xs.length) : cutV xs none (some (j : Int)) = xs.take j := by
  unfold cutV
  rw [HT.sIx_none, show HT.sIx xs.length xs.length (some (j : Int)) = min j xs.length from HT.sIx_nat xs.length xs.length j, List.drop_zero, Nat.sub_zero, Nat.min_eq_left h]
theorem cut_from {xs : List V} {j : Nat} (h : j ≤ xs.length) : cutV xs (some (j : Int)) none = xs.drop j := by
  unfold cutV
  rw [HT.sIx_none, show HT.sIx xs.length 0 (some (j : Int)) = min j xs.length from HT.sIx_nat xs.length 0 j, Nat.min_eq_left h]
  exact List.take_of_length_le (by rw [List.length_drop]; exact Nat.le_refl _)
theorem natV_take (l : List Nat) (j : Nat) : natV (l.take j) = (natV l).take j := by
  unfold natV
  rw [List.map_take]
theorem natV_drop (l : List Nat) (j : Nat) : natV (l.drop j) = (natV l).drop j := by
  unfold natV
  rw [List.map_drop]
theorem natV_app (l m : List Nat) : natV (l ++ m) = natV l ++ natV m := by
  unfold natV
  rw [List.map_append]
theorem natV_flat (l : List Nat) : (natV l).all flatV = true := by
  rw [List.all_eq_true]
  intro x hx
  obtain ⟨n, _, rfl⟩ := List.mem_map.mp hx
  rfl
theorem natV_in (l : List Nat) (h : Nat) : inV (.int (h : Int)) (natV l) = decide (h ∈ l) := by
  unfold inV natV
  rw [List.any_map]
  induction l with
  | nil => simp
  | cons a l ih =>
    rw [List.any_cons, ih]
    show ((((a : Int) == (h : Int))) || decide (h ∈ l)) = _
    rw [Bool.eq_iff_iff]
    simp only [Bool.or_eq_true, beq_iff_eq, decide_eq_true_eq, List.mem_cons]
    constructor
    · rintro (e | e)
      · exact .inl (by omega)
      · exact .inr e
    · rintro (e | e)
      · exact .inl (by omega)
      · exact .inr e
theorem natV_idx {l : List Nat} {h : Nat} (m : h ∈ l) : (natV l)[l.idxOf h]? = some (.int (h : Int)) := by
  refine natV_at ?_
  rw [List.getElem?_eq_getElem (List.idxOf_lt_length_iff.mpr m), List.getElem_idxOf]
theorem natV_before {l : List Nat} {h j : Nat} {z : V} (hj : j < l.idxOf h) (e : (natV l)[j]? = some z) : eqV z (.int (h : Int)) = false := by
  have hlt : j < l.length := Nat.lt_of_lt_of_le hj (List.idxOf_le_length)
  rw [natV_at (List.getElem?_eq_getElem hlt)] at e
  cases e
  show (((l[j] : Nat) : Int) == (h : Int)) = false
  have hj : j < l.findIdx (· == h) := hj
  have := List.not_of_lt_findIdx hj
  rw [beq_eq_false_iff_ne]
  intro z
  have e : l[j] = h := by omega
  simp [e] at this
theorem eqV_self (h : Int) : eqV (.int h) (.int h) = true := by show (h == h) = true; simp
theorem index_nat {K : PySem.W.Frag} {H : Hp} {a : Addr} {l : List Nat} {h : Nat} {Q : VK} (hl : H a = some (.lst (natV l))) (m : h ∈ l) (q : Q (.int ((l.idxOf h : Nat) : Int)) H) : rIndex K (.ref a) [.int (h : Int)] H Q :=
  ⟨a, natV l, .int h, l.idxOf h, .int h, rfl, rfl, SqL.of hl, rfl, natV_flat l, natV_idx m, by show ((h : Int) == (h : Int)) = true; simp, fun _ _ hj e => natV_before hj e, q⟩
theorem nz_succ (T : Tab) (row j : Nat) : T.nz row (j + 1) = if T.at_ row (j + 1) ≠ 0 then T.nz row j ++ [j + 1] else T.nz row j := by
  unfold Mm.Tab.nz
  rw [List.range_succ, List.filter_append, List.map_append]
  by_cases h : T.at_ row (j + 1) ≠ 0
  · rw [if_pos h, List.filter_cons_of_pos (by simpa using h)]
    rfl
  · rw [if_neg h, List.filter_cons_of_neg (by simpa using h)]
    simp
theorem nz_len (T : Tab) (row j : Nat) : (T.nz row j).length ≤ j := by
  unfold Mm.Tab.nz
  rw [List.length_map]
  have := List.length_filter_le (fun c => decide (T.at_ row (c + 1) ≠ 0)) (List.range j)
  rw [List.length_range] at this
  exact this
theorem nz_mem {T : Tab} {row j z : Nat} (h : z ∈ T.nz row j) : 1 ≤ z ∧ z ≤ j ∧ T.at_ row z ≠ 0 := by
  unfold Mm.Tab.nz at h
  obtain ⟨c, hc, rfl⟩ := List.mem_map.mp h
  obtain ⟨h1, h2⟩ := List.mem_filter.mp hc
  exact ⟨by omega, by have := List.mem_range.mp h1; omega, of_decide_eq_true h2⟩
section
variable {P : Program} {w : World} {K : PySem.W.Frag} {mg : Str → Option Value} {base : Heap} {f : Addr} {fd : FuncData} {C : Addr}
def spDrop (K : PySem.W.Frag) (C : Addr) : Sp := fun vs H Q _ => ∃ (H0 : Hp) (p dx la lb lc lg : Addr) (vc vg : List V) (T T' : Tab) (h k : Nat), vs = [.ref p, .int h] ∧ ExtN H0 H ∧ TblAt K C H0 H p dx la lb lc lg vc vg T ∧ Mm.Drop k h T T' ∧ k ≤ 2200 ∧
  ∀ H' la' lc' lg' vc' vg', ExtN H0 H' → Mv H H' → TblAt K C H0 H' p dx la' lb lc' lg' vc' vg' T' → Q .non H'
theorem ok_drop (TK : TC K C) (F : FnP K "drop" "Tableau.drop" s_Tableau_drop f fd) (T : Txt K mg) (c_pivot : C8.Met P w K mg base 4 C "pivot" (spPivot K C) []) : FnOk P w K mg base C8.CX0 5 f fd ["self", "helper"] (spDrop K C) := by
  refine F.ok sc_Tableau_drop (fun vs H Q E h => ?_) (fun cdv A outer s H vs Q E hr h => ⟨_, PSs.nox (C8.pss_cut (ps_if (pt_cmpR (inK (K := K) rfl) (pv 1) (fldK (K := K) rfl (pv 0) rfl) rfl) (pss_cons (ps_set (i := 2) sc_Tableau_drop.nd rfl (.inr rfl) (bmK (K := K) rfl PySem.F.plainAttrs_list PySem.F.slot_list_index PySem.F.type_list_index (indexK (K := K) rfl) (fldK (K := K) rfl (pv 0) rfl) (pa_cons (pv 1) pa_nil)))
 (pss_cons (ps_setLc (i := 3) (own := [("col", 4)]) (g := (gName 4)) rfl sc_Tableau_drop.nd rfl rfl (sw_true rfl rfl rfl (by decide +kernel)) (pi_range2 rfl T.f_range (pa_cons pe_int (pa_cons (pe_callB (lenK (K := K) rfl) rfl T.f_len (by decide +kernel) (pa_cons (fldK (K := K) rfl (pv 0) rfl) pa_nil)) pa_nil))) (blkOk_by (own := [("col", 4)]) (by kernel_rfl)) (fun _ _ _ _ _ => (pg_name (i := 4) sc_Tableau_drop.nd rfl (.inl rfl))) (fun _ _ _ _ _ => (pts_one (pt_cmpR op_ne (pe_ix (ixK (K := K) rfl) (pe_ix (ixK (K := K) rfl) (pe_ix (ixK (K := K) rfl) (fldK (K := K) rfl (pv 0) rfl) (pv 2) (fun _ _ => rfl)) (pv 4) (fun _ _ => rfl)) pe_int (fun _ _ => rfl)) pe_int (nomark _)))) (fun _ _ _ _ _ => (pv 4)))
 (pss_one (ps_expr (C8.pe_mt c_pivot hr (by first | decide | omega) (pv 0) (pa_cons (pv 2) (pa_cons (pe_ix (ixK (K := K) rfl) (pv 3) pe_int (fun _ _ => rfl)) pa_nil))))))) pss_nil)
 (pss_cons (ps_set (i := 4) sc_Tableau_drop.nd rfl (.inr rfl) (pe_op op_add (bmK (K := K) rfl PySem.F.plainAttrs_list PySem.F.slot_list_index PySem.F.type_list_index (indexK (K := K) rfl) (fldK (K := K) rfl (pv 0) rfl) (pa_cons (pv 1) pa_nil)) pe_int))
 (pss_cons (psFldK (K := K) rfl (pv 0) (pe_op op_cat (pe_slice (slK (K := K) rfl) (fldK (K := K) rfl (pv 0) rfl) po_none (po_some (pe_op op_sub (pv 4) pe_int))) (pe_slice (slK (K := K) rfl) (fldK (K := K) rfl (pv 0) rfl) (po_some (pv 4)) po_none)) rfl)
 (pss_one (psFldK (K := K) rfl (pv 0) (pe_lc (own := [("cells", 5)]) (g := (gName 5)) (tt := tYes) rfl sc_Tableau_drop.nd (piListK (K := K) rfl (fldK (K := K) rfl (pv 0) rfl)) (blkOk_by (own := [("cells", 5)]) (by kernel_rfl)) (fun _ _ _ _ _ => (pg_name (i := 5) sc_Tableau_drop.nd rfl (.inl rfl))) (fun _ _ _ _ _ => pts_nil) (fun _ _ _ _ _ => (pe_op op_cat (pe_slice (slK (K := K) rfl) (pv 5) po_none (po_some (pv 4))) (pe_slice (slK (K := K) rfl) (pv 5) (po_some (pe_op op_add (pv 4) pe_int)) po_none)))) rfl))))), ?_⟩)
  · obtain ⟨_, _, _, _, _, _, _, _, _, _, _, _, _, rfl, _⟩ := h
    rfl
  · obtain ⟨H0, p, dx, la, lb, lc, lg, vc, vg, T0, T', hh, k, rfl, ex, t, dr, hk, q⟩ := h
    refine ⟨fun σ H' => ∃ (lg : Addr) (vc vg : List V) (T1 : Tab) (r2 c3 l4 : Option V), σ = [some (.ref p), some (.int hh), r2, c3, l4, none] ∧ ExtN H0 H' ∧ Mv H H' ∧ TblAt K C H0 H' p dx la lb lc lg vc vg T1 ∧ T1.Ok k ∧ hh ∈ T1.rest ∧ T' = T1.cut (T1.rest.idxOf hh + 1), ?_, ?_⟩
    · refine ⟨_, rfl, _, rfl, p, C, dx, _, _, rfl, t.ob, TK.cls, TK.base, rfl, lb, _, rfl, .inl (SqL.of t.rb), rfl, natV_flat _, _, rfl, ?_⟩
      show ite (inV (V.int (hh : Int)) (natV T0.base) = true) _ _
      rw [natV_in]
      cases dr with
      | out ok hb hr' =>
        rw [decide_eq_false hb]
        exact iteF ⟨lg, vc, vg, T0, _, _, _, rfl, ex, Mv.of (Same.refl H), t, ok, hr', rfl⟩
      | @turn col ok hb hz ok1 hr1 =>
        rw [decide_eq_true hb]
        have hn1 := ok.n1
        have hn2 := ok.n2
        have hgl := ok.gl
        have hrow : T0.base.idxOf hh < T0.cells.length := by rw [← ok.bl]; exact List.idxOf_lt_length_iff.mpr hb
        refine iteT ⟨_, rfl, p, C, dx, _, _, rfl, t.ob, TK.cls, TK.base, rfl, .inl ⟨rfl, _, SqL.of t.rb⟩, _, rfl, ?_⟩
        refine ⟨lb, natV T0.base, .int (hh : Int), T0.base.idxOf hh, .int (hh : Int), rfl, rfl, SqL.of t.rb, rfl, natV_flat _, natV_idx hb, eqV_self _, fun _ _ hj e => natV_before hj e, ?_⟩
        generalize hrw : T0.base.idxOf hh = row at *
        have lg1 : vg.length = T0.goal.length := t.gv.1
        refine ⟨_, rfl, p, C, dx, _, _, rfl, t.ob, TK.cls, TK.goal, rfl, _, _, rfl, .inl (SqL.of t.rg), 1, _, rfl, ⟨by decide, by decide, by rw [lg1]; omega, by rw [lg1]; omega⟩, fun D nD => ?_⟩
        have e0 : ((vg.length : Int) - 1).toNat = T0.rest.length := by rw [lg1]; omega
        rw [e0]
        obtain ⟨r, vs, er, hr', rv, ra, rb, rc⟩ := t.row hrow
        have hmem : T0.row row ∈ T0.cells := by
          unfold Mm.Tab.row
          rw [List.getD_eq_getElem?_getD, List.getElem?_eq_getElem hrow]
          exact List.getElem_mem hrow
        have hlen : (T0.row row).length = T0.goal.length := ok.cl _ hmem
        refine lc_range (lo := 1) (n := T0.rest.length) (fun i H2 => Same H H2 ∧ H2 D = some (.lst (natV (T0.nz row i)))) ⟨Same.new nD, upd_same⟩ ?_ ?_
        · rintro i H2 hi ⟨s2, hD⟩
          have t2 := t.mono s2
          obtain ⟨u, eu, hu⟩ := (rv.mono s2).at (show 1 + i < (T0.row row).length by omega)
          have ea : T0.at_ row (i + 1) = (T0.row row)[1 + i]'(by omega) := by
            rw [Nat.add_comm]
            exact getD_of (List.getElem?_eq_getElem (by omega))
          refine ⟨rfl, _, rfl, p, C, dx, _, _, rfl, t2.ob, TK.cls, TK.cells, rfl, _, rfl, ix_l (j := row) rfl (SqL.of t2.rc) er ⟨_, rfl, ix_l (j := 1 + i) (by omega) (SqL.of (s2 _ _ hr')) eu (ix_num hu ⟨rfl, _, rfl, ?_⟩)⟩⟩
          rw [ne_num]
          by_cases c0 : (T0.row row)[1 + i]'(by omega) = 0
          · rw [decide_eq_true c0]
            refine iteF ⟨s2, ?_⟩
            rw [nz_succ, if_neg (by rw [ea]; exact fun z => z c0)]
            exact hD
          · rw [decide_eq_false c0]
            refine iteT ⟨_, rfl, _, hD, ?_, Same.mut s2 nD, ?_⟩
            · rw [natV_len]
              exact Nat.lt_of_le_of_lt (Nat.le_trans (nz_len T0 row i) (show i ≤ 100 by omega)) (by decide)
            · rw [upd_same, nz_succ, if_pos (by rw [ea]; exact c0), natV_app]
              show some (HO.lst (_ ++ [V.int (1 + (i : Int))])) = some (HO.lst (_ ++ [V.int ((i + 1 : Nat) : Int)]))
              rw [show (1 + (i : Int)) = ((i + 1 : Nat) : Int) by omega]
        rintro H2 ⟨s2, hD⟩
        have t2 := t.mono s2
        obtain ⟨z1, z2, z3⟩ := nz_mem (List.mem_of_getElem? hz)
        refine ⟨_, rfl, p, dx, _, rfl, t2.ob, rfl, _, rfl, _, rfl, ix_l (j := 0) rfl (SqL.of hD) (natV_at hz) ⟨H0, p, dx, la, lb, lc, lg, vc, vg, T0, row, col, k, rfl, ex.same s2, t2, ok, hk, hrow, z1, by omega, z3, fun H3 lg' vc' vg' ex3 mv3 t3 => ?_⟩⟩
        refine ⟨lg', vc', vg', _, _, _, _, rfl, ex3, (Mv.of s2).trans mv3, t3, ok1, hr1, rfl⟩
    · rintro σ H1 ⟨lg, vc, vg, T1, r2, c3, l4, rfl, ex1, mv1, t1, ok, hm, rfl⟩
      clear t dr ex
      have hn1 := ok.n1
      have hn2 := ok.n2
      have hgl := ok.gl
      have hix : T1.rest.idxOf hh < T1.rest.length := List.idxOf_lt_length_iff.mpr hm
      refine ⟨_, rfl, p, C, dx, _, _, rfl, t1.ob, TK.cls, TK.rest, rfl, .inl ⟨rfl, _, SqL.of t1.ra⟩, _, rfl, ?_⟩
      refine ⟨la, natV T1.rest, .int (hh : Int), T1.rest.idxOf hh, .int (hh : Int), rfl, rfl, SqL.of t1.ra, rfl, natV_flat _, natV_idx hm, eqV_self _, fun _ _ hj e => natV_before hj e, ?_⟩
      refine ⟨_, _, rfl, rfl, ?_⟩
      generalize T1.rest.idxOf hh = ix at *
      -- rest
      refine ⟨_, rfl, p, C, dx, _, _, rfl, t1.ob, TK.cls, TK.rest, rfl, _, rfl, _, _, rfl, rfl, _, rfl, la, _, rfl, SqL.of t1.ra, fun q1 nq1 => ?_⟩
      have s2 := Same.new (o := .lst (cutV (natV T1.rest) none (some ((ix : Int) + 1 - 1)))) nq1
      have e1 : cutV (natV T1.rest) none (some ((ix : Int) + 1 - 1)) = natV (T1.rest.take ix) := by
        rw [show ((ix : Int) + 1 - 1) = (ix : Int) by omega, cut_to (by rw [natV_len]; omega), natV_take]
      have hq1 : upd H1 q1 (.lst (cutV (natV T1.rest) none (some ((ix : Int) + 1 - 1)))) q1 = some (.lst (natV (T1.rest.take ix))) := by rw [upd_same, e1]
      generalize upd H1 q1 (.lst (cutV (natV T1.rest) none (some ((ix : Int) + 1 - 1)))) = H2 at s2 hq1 ⊢
      have t2 := t1.mono s2
      refine ⟨_, rfl, p, C, dx, _, _, rfl, t2.ob, TK.cls, TK.rest, rfl, _, rfl, _, rfl, la, _, rfl, SqL.of t2.ra, fun q2 nq2 => ?_⟩
      have s3 := Same.new (o := .lst (cutV (natV T1.rest) (some ((ix : Int) + 1)) none)) nq2
      have e2 : cutV (natV T1.rest) (some ((ix : Int) + 1)) none = natV (T1.rest.drop (ix + 1)) := by
        rw [show ((ix : Int) + 1) = ((ix + 1 : Nat) : Int) by omega, cut_from (by rw [natV_len]; omega), natV_drop]
      have hq2 : upd H2 q2 (.lst (cutV (natV T1.rest) (some ((ix : Int) + 1)) none)) q2 = some (.lst (natV (T1.rest.drop (ix + 1)))) := by rw [upd_same, e2]
      have hq13 := s3 _ _ hq1
      generalize upd H2 q2 (.lst (cutV (natV T1.rest) (some ((ix : Int) + 1)) none)) = H3 at s3 hq2 hq13 ⊢
      refine ⟨q1, q2, _, _, rfl, rfl, hq13, hq2, ?_, fun la' nla' => ?_⟩
      · rw [natV_len, natV_len, List.length_take, List.length_drop]
        exact Nat.le_trans (show min ix T1.rest.length + (T1.rest.length - (ix + 1)) ≤ 200 by omega) (by decide)
      rw [← natV_app]
      have s4 := Same.new (o := .lst (natV (T1.rest.take ix ++ T1.rest.drop (ix + 1)))) nla'
      have hla' : upd H3 la' (.lst (natV (T1.rest.take ix ++ T1.rest.drop (ix + 1)))) la' = _ := upd_same
      have s14 := (s2.trans s3).trans s4
      have t4 := t1.mono s14
      have nla1 : H1 la' = none := by
        cases z : H1 la' with
        | none => rfl
        | some o => have := (s2.trans s3) _ _ z; rw [nla'] at this; cases this
      generalize upd H3 la' (.lst (natV (T1.rest.take ix ++ T1.rest.drop (ix + 1)))) = H4 at s4 hla' s14 t4 ⊢
      refine ⟨_, rfl, p, C, dx, _, rfl, t4.ob, TK.cls, TK.rest, by show 6 < 1000; decide, ?_⟩
      rw [put_rest]
      have some_of : ∀ {a : Addr} {o : HO}, H1 a = some o → H1 a ≠ none := fun h => by rw [h]; simp
      have rows1 : ∀ r, V.ref r ∈ vc → H1 r ≠ none := fun r hr => by
        obtain ⟨j, hj, ej⟩ := List.mem_iff_getElem.mp hr
        obtain ⟨r', vs', h1, h2, _⟩ := t1.row (show j < T1.cells.length by rw [← t1.cl]; exact hj)
        rw [List.getElem?_eq_getElem hj, ej] at h1
        cases h1
        exact some_of h2
      have t5 := t4.newRest nla1 hla' ex1 (some_of t1.rb) (some_of t1.rc) (some_of t1.rg) rows1
      have ex5 := (ex1.same s14).put (o := .ins C dx (fldT T1.width T1.many la' lb lc lg)) t1.fp
      have mv5 := (mv1.trans (Mv.of s14)).trans (Mv.ins (o := .ins C dx (fldT T1.width T1.many la' lb lc lg)) t4.ob)
      generalize upd H4 p (.ins C dx (fldT T1.width T1.many la' lb lc lg)) = H5 at t5 ex5 mv5 ⊢
      -- cells
      refine ⟨_, rfl, p, C, dx, _, _, rfl, t5.ob, TK.cls, TK.cells, rfl, lc, rfl, ⟨_, SqL.of t5.rc⟩, fun lc' nlc' => ?_⟩
      let cs : List (List Rat) := T1.cells.map fun r => r.take (ix + 1) ++ r.drop (ix + 1 + 1)
      have lcs : cs.length = T1.cells.length := List.length_map ..
      refine lc_list (K := K) (a := lc) (xs := vc) (fun i H' => Same H5 H' ∧ ∃ acc, H' lc' = some (.lst acc) ∧ NewL K H5 lc' H' acc (cs.take i)) ⟨Same.new nlc', [], upd_same, by rw [List.take_zero]; exact NewL.nil⟩ (fun i H' _ g => g.1.seq (SqL.of t5.rc)) ?_ ?_
      · rintro i u H' hu ⟨s, acc, hD, hN⟩
        have hi : i < T1.cells.length := by rw [← t1.cl]; exact (List.getElem?_eq_some_iff.mp hu).1
        obtain ⟨r, vs, er, hr', rv, _, _, _⟩ := t5.row (show i < T1.cells.length from hi)
        rw [er] at hu
        cases hu
        have hr2 := s _ _ hr'
        have rv2 := rv.mono s
        have eci : T1.cells[i]? = some (T1.row i) := by
          unfold Mm.Tab.row
          rw [List.getD_eq_getElem?_getD, List.getElem?_eq_getElem hi]; rfl
        have hmem : T1.row i ∈ T1.cells := List.mem_of_getElem? eci
        have hlen : (T1.row i).length = T1.goal.length := ok.cl _ hmem
        have lvs : vs.length = T1.goal.length := by rw [rv.1]; exact hlen
        have rv2 : RL K H' vs (T1.row i) := rv2
        refine ⟨rfl, tyes ⟨_, rfl, _, rfl, _, rfl, r, _, rfl, SqL.of hr2, fun q3 nq3 => ?_⟩⟩
        have s6 := Same.new (o := .lst (cutV vs none (some ((ix : Int) + 1)))) nq3
        have e3 : cutV vs none (some ((ix : Int) + 1)) = vs.take (ix + 1) := by
          rw [show ((ix : Int) + 1) = ((ix + 1 : Nat) : Int) by omega, cut_to (by omega)]
        have hq3 : upd H' q3 (.lst (cutV vs none (some ((ix : Int) + 1)))) q3 = some (.lst (vs.take (ix + 1))) := by rw [upd_same, e3]
        generalize upd H' q3 (.lst (cutV vs none (some ((ix : Int) + 1)))) = H6 at s6 hq3 ⊢
        refine ⟨_, rfl, _, rfl, _, _, rfl, rfl, _, rfl, r, _, rfl, SqL.of (s6 _ _ hr2), fun q4 nq4 => ?_⟩
        have s7 := Same.new (o := .lst (cutV vs (some ((ix : Int) + 1 + 1)) none)) nq4
        have e4 : cutV vs (some ((ix : Int) + 1 + 1)) none = vs.drop (ix + 1 + 1) := by
          rw [show ((ix : Int) + 1 + 1) = ((ix + 1 + 1 : Nat) : Int) by omega, cut_from (by omega)]
        have hq4 : upd H6 q4 (.lst (cutV vs (some ((ix : Int) + 1 + 1)) none)) q4 = some (.lst (vs.drop (ix + 1 + 1))) := by rw [upd_same, e4]
        have hq37 := s7 _ _ hq3
        generalize upd H6 q4 (.lst (cutV vs (some ((ix : Int) + 1 + 1)) none)) = H7 at s7 hq4 hq37 ⊢
        refine ⟨q3, q4, _, _, rfl, rfl, hq37, hq4, ?_, fun y nY => ?_⟩
        · rw [List.length_take, List.length_drop, lvs]
          exact Nat.le_trans (show min (ix + 1) T1.goal.length + (T1.goal.length - (ix + 1 + 1)) ≤ 300 by omega) (by decide)
        have s8 := Same.new (o := .lst (vs.take (ix + 1) ++ vs.drop (ix + 1 + 1))) nY
        have s68 := s6.trans s7
        have s18 := s68.trans s8
        have hY : upd H7 y (.lst (vs.take (ix + 1) ++ vs.drop (ix + 1 + 1))) y = _ := upd_same
        have hlc3 : upd H7 y (.lst (vs.take (ix + 1) ++ vs.drop (ix + 1 + 1))) lc' = some (.lst acc) := s18 _ _ hD
        have hrow : RL K (upd H7 y (.lst (vs.take (ix + 1) ++ vs.drop (ix + 1 + 1)))) (vs.take (ix + 1) ++ vs.drop (ix + 1 + 1)) ((T1.row i).take (ix + 1) ++ (T1.row i).drop (ix + 1 + 1)) :=
          RL.append ((rv2.mono s18).take _) ((rv2.mono s18).drop _)
        have nYlc : y ≠ lc' := (ne_of_none (s68 _ _ hD) nY).symm
        have nY5 : H5 y = none := by
          cases q : H5 y with
          | none => rfl
          | some o => have := s68 _ _ (s _ _ q); rw [nY] at this; cases this
        have nYacc : V.ref y ∉ acc := fun z => by
          obtain ⟨_, _, h3⟩ := (hN.mono s68).new y z
          exact h3 nY
        generalize upd H7 y (.lst (vs.take (ix + 1) ++ vs.drop (ix + 1 + 1))) = H8 at s8 s18 hlc3 hY hrow ⊢
        refine ⟨acc, hlc3, ?_, Same.mut (s.trans s18) nlc', acc ++ [.ref y], upd_same, ?_⟩
        · rw [hN.len, List.length_take]
          exact Nat.lt_of_le_of_lt (Nat.le_trans (Nat.min_le_left _ _) (show i ≤ 100 by omega)) (by decide)
        · have ecs : cs[i]? = some ((T1.row i).take (ix + 1) ++ (T1.row i).drop (ix + 1 + 1)) := by
            show (T1.cells.map _)[i]? = _
            rw [List.getElem?_map, eci]; rfl
          rw [take_snoc ecs]
          exact ((hN.mono s18).snoc hY hrow nY5 nYlc nYacc).put hlc3
      · rintro H6 ⟨s6, vc', hlc', hN⟩
        rw [t5.cl, show ({ T1 with rest := T1.rest.take ix ++ T1.rest.drop (ix + 1) } : Tab).cells.length = cs.length from lcs.symm, List.take_length] at hN
        have t6 := t5.mono s6
        refine ⟨_, rfl, p, C, dx, _, rfl, t6.ob, TK.cls, TK.cells, by show 6 < 1000; decide, ?_⟩
        show Q .non (upd H6 p (.ins C dx (putF "cells" (V.ref lc') (fldT T1.width T1.many la' lb lc lg))))
        rw [put_cells]
        have ts := TS.ins (o := .ins C dx (fldT T1.width T1.many la' lb lc' lg)) t6.ob
        have nl : ∀ {a : Addr} {xs : List V}, H6 a = some (.lst xs) → a ≠ p := fun h => ne_of h t6.ob (fun z => by cases z)
        refine q _ la' lc' lg vc' vg ((ex5.same s6).put t1.fp) ((mv5.trans (Mv.of s6)).trans (Mv.ins t6.ob)) ⟨upd_same, ?_, ?_, ?_, ?_, t6.gv.ts ts, ?_, fun j rs hj => ?_, t5.ab, ne_of_none t5.ra nlc', ne_of_none t5.rb nlc', t5.ga, t5.gb, ne_of_none t5.rg nlc', t5.fp, t5.fa, t5.fb, none0 t5.nt ex5 nlc', t5.nt⟩
        · exact (upd_ne (nl t6.ra)).trans t6.ra
        · exact (upd_ne (nl t6.rb)).trans t6.rb
        · exact (upd_ne (nl hlc')).trans hlc'
        · exact (upd_ne (nl t6.rg)).trans t6.rg
        · show vc'.length = cs.length
          exact hN.len
        · obtain ⟨r, vs, h1, h2, h3⟩ := hN.at_ j rs hj
          obtain ⟨g1, g2, _⟩ := hN.new r (List.mem_of_getElem? h1)
          exact ⟨r, vs, h1, (upd_ne (nl h2)).trans h2, h3.ts ts, (ne_of_none t5.ra g1).symm, (ne_of_none t5.rb g1).symm, g2⟩
end
end MM
namespace MM
open PySem PySem.Spec PyProof.Rows L2 LamX
open Mm (Tab)
theorem imp_ok {k n : Nat} {T T' : Tab} (h : Mm.Imp k n T T') : T'.Ok k := by
  induction h with
  | stop ok _ => exact ok
  | step _ _ _ _ _ _ _ ih => exact ih
theorem lst_lt (T : Tab) (n : Nat) (h : 0 < n) : ∀ i, i ≤ n → T.lst i < n
  | 0, _ => h
  | i + 1, hi => by
    show (if T.at_ i 0 < T.at_ (T.lst i) 0 then i else T.lst i) < n
    by_cases c : T.at_ i 0 < T.at_ (T.lst i) 0
    · rw [if_pos c]; omega
    · rw [if_neg c]; exact lst_lt T n h i (by omega)
/-- the rows, a one behind each of the first i -/
def ac1 (T : Tab) : Nat → List (List Rat)
  | 0 => T.cells
  | i + 1 => (ac1 T i).set i (T.row i ++ [1])
theorem ac1_len (T : Tab) : ∀ i, (ac1 T i).length = T.cells.length
  | 0 => rfl
  | i + 1 => by
    show ((ac1 T i).set i _).length = _
    rw [List.length_set]; exact ac1_len T i
theorem ac1_at (T : Tab) : ∀ i j, j < T.cells.length → (ac1 T i)[j]? = some (if j < i then T.row j ++ [1] else T.row j)
  | 0, j, hj => by
    rw [if_neg (Nat.not_lt_zero j)]
    show T.cells[j]? = _
    unfold Mm.Tab.row
    rw [List.getD_eq_getElem?_getD, List.getElem?_eq_getElem hj]; rfl
  | i + 1, j, hj => by
    have ih := ac1_at T i j hj
    show ((ac1 T i).set i _)[j]? = _
    by_cases h2 : j = i
    · subst h2
      rw [if_pos (Nat.lt_succ_self j), List.getElem?_set_self (by rw [ac1_len]; exact hj)]
    · rw [List.getElem?_set_ne (Ne.symm h2), ih]
      by_cases h3 : j < i
      · rw [if_pos h3, if_pos (by omega)]
      · rw [if_neg h3, if_neg (by omega)]
theorem ac1_end (T : Tab) : ac1 T T.cells.length = T.cells.map (fun r => r ++ [1]) := by
  refine List.ext_getElem? fun j => ?_
  by_cases hj : j < T.cells.length
  · rw [ac1_at T _ j hj, if_pos hj, List.getElem?_map, List.getElem?_eq_getElem hj]
    unfold Mm.Tab.row
    rw [List.getD_eq_getElem?_getD, List.getElem?_eq_getElem hj]; rfl
  · rw [List.getElem?_eq_none (by rw [ac1_len]; omega), List.getElem?_eq_none (by rw [List.length_map]; omega)]
theorem row_at {T : Tab} {i : Nat} (hi : i < T.cells.length) : T.cells[i]? = some (T.row i) := by
  unfold Mm.Tab.row
  rw [List.getD_eq_getElem?_getD, List.getElem?_eq_getElem hi]; rfl
theorem row_mem {T : Tab} {i : Nat} (hi : i < T.cells.length) : T.row i ∈ T.cells := List.mem_of_getElem? (row_at hi)
theorem help_row {T : Tab} {i : Nat} (hi : i < T.cells.length) : T.help.row i = T.row i ++ [1] := by
  show (T.cells.map (fun r => r ++ [1])).getD i [] = _
  rw [List.getD_eq_getElem?_getD, List.getElem?_map, row_at hi]; rfl
theorem help_one {T : Tab} {k i : Nat} (ok : T.Ok k) (hi : i < T.cells.length) : T.help.at_ i (T.rest.length + 1) = 1 := by
  unfold Mm.Tab.at_
  rw [help_row hi]
  have hl : (T.row i).length = T.rest.length + 1 := by rw [ok.cl _ (row_mem hi), ok.gl]
  rw [← hl, List.getD_eq_getElem?_getD, List.getElem?_append_right (Nat.le_refl _), Nat.sub_self]; rfl
/-- which rows stand -/
def nn (T : Tab) (i : Nat) : List Bool := (List.range i).map fun j => decide (0 ≤ T.at_ j 0)
theorem nn_succ (T : Tab) (i : Nat) : nn T (i + 1) = nn T i ++ [decide (0 ≤ T.at_ i 0)] := by
  unfold nn
  rw [List.range_succ, List.map_append]; rfl
section
variable {P : Program} {w : World} {K : PySem.W.Frag} {mg : Str → Option Value} {base : Heap} {f : Addr} {fd : FuncData} {C : Addr}
def spBegin (K : PySem.W.Frag) (C Pt : Addr) : Sp := fun vs H Q _ => ∃ (H0 : Hp) (p dx la lb lc lg : Addr) (vc vg : List V) (T T' : Tab) (b : Bool) (k : Nat), vs = [.ref p] ∧ ExtN H0 H ∧ Tabs [(Pt, lamQ)] H ∧ TblAt K C H0 H p dx la lb lc lg vc vg T ∧ Fresh H0 vc lg ∧ Mm.Begin k T T' b ∧ 2 ≤ k ∧ k ≤ 2200 ∧ T.width + T.many ≤ 1000 ∧
  ∀ H' la' lc' lg' vc' vg', ExtN H0 H' → Tabs [(Pt, lamQ)] H' → TblAt K C H0 H' p dx la' lb lc' lg' vc' vg' T' → Q (.bl b) H'
theorem ok_begin {Pt : Addr} (TK : TC K C) (F : FnP K "begin" "Tableau.begin" s_Tableau_begin f fd) (T : Txt K mg) (c_below : C8.Cal P w K mg base 1 "below" (spBelow K) [])
    (c_pivot : C8.Met P w K mg base 4 C "pivot" (spPivot K C) []) (c_improve : C8.Met P w K mg base 6 C "improve" (spImprove K C Pt) []) (c_drop : C8.Met P w K mg base 5 C "drop" (spDrop K C) []) : FnOk P w K mg base C8.CX0 7 f fd ["self"] (spBegin K C Pt) := by
  refine F.ok sc_Tableau_begin (fun vs H Q E h => ?_) (fun cdv A outer s H vs Q E hr h => ⟨_, PSs.nox (pss_cons (ps_if (pt_val (pe_callB (allK (K := K) rfl rfl) rfl T.f_all (by decide +kernel) (pa_cons (pe_lc (own := [("cells", 1)]) (g := (gName 1)) (tt := tYes) rfl sc_Tableau_begin.nd (piListK (K := K) rfl (fldK (K := K) rfl (pv 0) rfl)) (blkOk_by (own := [("cells", 1)]) (by kernel_rfl)) (fun _ _ _ _ _ => (pg_name (i := 1) sc_Tableau_begin.nd rfl (.inl rfl))) (fun _ _ _ _ _ => pts_nil) (fun _ _ _ _ _ => (pe_cmpR op_ge (pe_ix (ixK (K := K) rfl) (pe_ix (ixK (K := K) rfl) (pv 1) pe_int (fun _ _ => rfl)) pe_int (fun _ _ => rfl)) pe_int (nomark _)))) pa_nil))) (pss_one (ps_ret pe_bl)) pss_nil)
 (pss_cons (ps_set (i := 2) sc_Tableau_begin.nd rfl (.inl rfl) (pe_op op_add (fldK (K := K) rfl (pv 0) rfl) (fldK (K := K) rfl (pv 0) rfl)))
 (pss_cons (ps_expr (bmK (K := K) rfl PySem.F.plainAttrs_list PySem.F.slot_list_append PySem.F.type_list_append mt_append (fldK (K := K) rfl (pv 0) rfl) (pa_cons (pv 2) pa_nil)))
 (pss_cons (ps_for PassesOwn.never rfl (piListK (K := K) rfl (fldK (K := K) rfl (pv 0) rfl)) (pg_name (i := 1) sc_Tableau_begin.nd rfl (.inl rfl)) (pss_one (ps_expr (bmK (K := K) rfl PySem.F.plainAttrs_list PySem.F.slot_list_append PySem.F.type_list_append mt_append (pv 1) (pa_cons (C8.pe_gc rfl T.gO) pa_nil)))))
 (pss_cons (psFldK (K := K) rfl (pv 0) (pe_op op_cat (pe_lc (own := [("at", 3)]) (g := (gName 3)) (tt := tYes) rfl sc_Tableau_begin.nd (pi_range1 rfl T.f_range (pa_cons (pe_op op_add (fldK (K := K) rfl (pv 0) rfl) pe_int) pa_nil)) (blkOk_by (own := [("at", 3)]) (by kernel_rfl)) (fun _ _ _ _ _ => (pg_name (i := 3) sc_Tableau_begin.nd rfl (.inl rfl))) (fun _ _ _ _ _ => pts_nil) (fun _ _ _ _ _ => (C8.pe_gc rfl T.gZ))) (pe_lst (pa_cons (pe_tup (pa_cons (pe_un un_neg pe_int) (pa_cons pe_int pa_nil))) pa_nil))) rfl)
 (pss_cons (ps_set (i := 4) sc_Tableau_begin.nd rfl (.inl rfl) pe_int)
 (pss_cons (ps_for PassesOwn.never rfl (piEnumK (K := K) rfl rfl T.f_enumerate (pa_cons (fldK (K := K) rfl (pv 0) rfl) pa_nil)) (pgTupK (K := K) rfl rfl (pgs_cons (pg_name (i := 3) sc_Tableau_begin.nd rfl (.inl rfl)) (pgs_cons (pg_name (i := 1) sc_Tableau_begin.nd rfl (.inl rfl)) pgs_nil))) (pss_one (ps_if (pt_val (C8.pe_c c_below hr (by first | decide | omega) rfl (pa_cons (pe_ix (ixK (K := K) rfl) (pv 1) pe_int (fun _ _ => rfl)) (pa_cons (pe_ix (ixK (K := K) rfl) (pe_ix (ixK (K := K) rfl) (fldK (K := K) rfl (pv 0) rfl) (pv 4) (fun _ _ => rfl)) pe_int (fun _ _ => rfl)) pa_nil)))) (pss_one (ps_set (i := 4) sc_Tableau_begin.nd rfl (.inl rfl) (pv 3))) pss_nil)))
 (pss_cons (ps_expr (C8.pe_mt c_pivot hr (by first | decide | omega) (pv 0) (pa_cons (pv 4) (pa_cons (pe_callB (lenK (K := K) rfl) rfl T.f_len (by decide +kernel) (pa_cons (fldK (K := K) rfl (pv 0) rfl) pa_nil)) pa_nil))))
 (pss_cons (ps_expr (C8.pe_mt0 c_improve hr (by first | decide | omega) (pv 0)))
 (pss_cons (ps_if (pt_cmpR op_lt (pe_ix (ixK (K := K) rfl) (pe_ix (ixK (K := K) rfl) (fldK (K := K) rfl (pv 0) rfl) pe_int (fun _ _ => rfl)) pe_int (fun _ _ => rfl)) pe_int (nomark _)) (pss_one (ps_ret pe_bl)) pss_nil)
 (pss_cons (ps_expr (C8.pe_mt c_drop hr (by first | decide | omega) (pv 0) (pa_cons (pv 2) pa_nil)))
 (pss_one (ps_ret pe_bl))))))))))))), ?_⟩)
  · obtain ⟨_, _, _, _, _, _, _, _, _, _, _, _, _, rfl, _⟩ := h
    rfl
  · obtain ⟨H0, p, dx, la, lb, lc, lg, vc, vg, T0, T', b, k, rfl, ex, tb, t, fr, bg, hk2, hk, hwm, q⟩ := h
    have ok : T0.Ok k := by cases bg <;> assumption
    have hn1 := ok.n1
    have hn2 := ok.n2
    have hgl := ok.gl
    refine ⟨_, rfl, p, C, dx, _, _, rfl, t.ob, TK.cls, TK.cells, rfl, lc, rfl, ⟨_, SqL.of t.rc⟩, fun D nD => ?_⟩
    refine lc_list (K := K) (a := lc) (xs := vc) (fun i H' => Same H H' ∧ H' D = some (.lst ((nn T0 i).map V.bl))) ⟨Same.new nD, upd_same⟩ (fun i H' _ g => g.1.seq (SqL.of t.rc)) ?_ ?_
    · rintro i u H' hu ⟨s, hD⟩
      have hi : i < T0.cells.length := by rw [← t.cl]; exact (List.getElem?_eq_some_iff.mp hu).1
      obtain ⟨r, vs, er, hr', rv, _, _, _⟩ := t.row hi
      rw [er] at hu
      cases hu
      have hlen : (T0.row i).length = T0.goal.length := ok.cl _ (row_mem hi)
      obtain ⟨u0, eu0, hu0⟩ := rv.at (show 0 < (T0.row i).length by omega)
      have ea0 : T0.at_ i 0 = (T0.row i)[0] := getD_of (List.getElem?_eq_getElem (by omega))
      refine ⟨rfl, tyes ⟨_, rfl, ix_l (j := 0) rfl (SqL.of (s _ _ hr')) eu0 (ix_num (hu0.mono s) ⟨_, _, rfl, rfl, _, hD, ?_, Same.mut s nD, ?_⟩)⟩⟩
      · unfold nn
        rw [List.length_map, List.length_map, List.length_range]
        exact Nat.lt_of_le_of_lt (show i ≤ 100 by omega) (by decide)
      · rw [upd_same, nn_succ, List.map_append, ea0]
        have e : decide ((0 : Rat) ≤ (T0.row i)[0]) = decide ((0 : Int) ≤ ((T0.row i)[0]).num) := by
          rw [Bool.eq_iff_iff, decide_eq_true_iff, decide_eq_true_iff]
          exact Mm.nonneg_num
        rw [e]
        rfl
    rintro H1 ⟨s1, hD⟩
    rw [t.cl] at hD
    have t1 := t.mono s1
    have ex1 := ex.same s1
    have tb1 := tb.ext s1
    refine ⟨D, _, rfl, SqL.of hD, _, rfl, ?_⟩
    show ite ((nn T0 T0.cells.length).all id = true) _ _
    have hall : (nn T0 T0.cells.length).all id = true ↔ ∀ i, i < T0.cells.length → 0 ≤ T0.at_ i 0 := by
      unfold nn
      rw [List.all_map, List.all_eq_true]
      exact ⟨fun h i hi => of_decide_eq_true (h i (List.mem_range.mpr hi)), fun h i hi => decide_eq_true (h i (List.mem_range.mp hi))⟩
    have rest1 : (∃ i, i < T0.cells.length ∧ T0.at_ i 0 < 0) → T0.help.Ok k → (∀ H' lg' vc' vg' T2 n, ExtN H0 H' → Tabs [(Pt, lamQ)] H' → TblAt K C H0 H' p dx la lb lc lg' vc' vg' T2 → Mm.Imp k n (T0.help.pivot (T0.help.lst T0.help.cells.length) T0.help.rest.length) T2 → True) → True := fun _ _ _ => trivial
    clear rest1
    by_cases hfine : ∀ i, i < T0.cells.length → 0 ≤ T0.at_ i 0
    · rw [hall.mpr hfine]
      have : T' = T0 ∧ b = true := by
        cases bg with
        | fine => exact ⟨rfl, rfl⟩
        | not _ he => obtain ⟨i, hi, hl⟩ := he; have := hfine i hi; grind
        | yes _ he => obtain ⟨i, hi, hl⟩ := he; have := hfine i hi; grind
      obtain ⟨rfl, rfl⟩ := this
      exact iteT (q H1 la lc lg vc vg ex1 tb1 t1)
    · have hf : (nn T0 T0.cells.length).all id = false := by
        cases e : (nn T0 T0.cells.length).all id with
        | false => rfl
        | true => exact (hfine (hall.mp e)).elim
      rw [hf]
      obtain ⟨n, T2, hex, okh, him, hend⟩ : ∃ (n : Nat) (T2 : Tab), (∃ i, i < T0.cells.length ∧ T0.at_ i 0 < 0) ∧ T0.help.Ok k ∧ Mm.Imp k n (T0.help.pivot (T0.help.lst T0.help.cells.length) T0.help.rest.length) T2 ∧
          ((T2.goal.getD 0 0 < 0 ∧ b = false ∧ T' = T2) ∨ (0 ≤ T2.goal.getD 0 0 ∧ b = true ∧ Mm.Drop k (T0.width + T0.many) T2 T')) := by
        cases bg with
        | fine _ h => exact (hfine h).elim
        | not _ he okh him hg => exact ⟨_, _, he, okh, him, .inl ⟨hg, rfl, rfl⟩⟩
        | yes _ he okh him hg hd => exact ⟨_, _, he, okh, him, .inr ⟨hg, rfl, hd⟩⟩
      have hpos : 0 < T0.cells.length := by obtain ⟨i, hi, _⟩ := hex; omega
      -- the helper
      refine iteF ⟨_, rfl, p, C, dx, _, _, rfl, t1.ob, TK.cls, TK.width, rfl, _, rfl, p, C, dx, _, _, rfl, t1.ob, TK.cls, TK.many, rfl, _, _, rfl, rfl, ?_⟩
      refine ⟨_, rfl, p, C, dx, _, _, rfl, t1.ob, TK.cls, TK.rest, rfl, .inl ⟨rfl, _, SqL.of t1.ra⟩, _, rfl, la, natV T0.rest, _, rfl, rfl, t1.ra, ?_, ?_⟩
      · rw [natV_len]
        exact Nat.lt_of_le_of_lt hn1 (by decide)
      have er : natV T0.rest ++ [V.int (((T0.width : Nat) : Int) + ((T0.many : Nat) : Int))] = natV (T0.rest ++ [T0.width + T0.many]) := by rw [natV_app]; rfl
      have t2 : TblAt K C H0 (upd H1 la (.lst (natV T0.rest ++ [V.int (((T0.width : Nat) : Int) + ((T0.many : Nat) : Int))]))) p dx la lb lc lg vc vg { T0 with rest := T0.rest ++ [T0.width + T0.many] } := by
        rw [er]; exact t1.setRest (T0.rest ++ [T0.width + T0.many])
      have ex2 := ex1.put (o := .lst (natV T0.rest ++ [V.int (((T0.width : Nat) : Int) + ((T0.many : Nat) : Int))])) t.fa
      have tb2 := (Mv.lst (o := .lst (natV T0.rest ++ [V.int (((T0.width : Nat) : Int) + ((T0.many : Nat) : Int))])) t1.ra).tabs tb1
      -- a one behind each row
      refine ⟨_, rfl, p, C, dx, _, _, rfl, t2.ob, TK.cls, TK.cells, rfl, lc, rfl, ⟨_, SqL.of t2.rc⟩, for_list (K := K) (a := lc) (xs := vc) (fun i σ H' => ∃ l1 : Option V, σ = [some (.ref p), l1, some (.int ((T0.width + T0.many : Nat) : Int)), none, none] ∧ ExtN H0 H' ∧ Tabs [(Pt, lamQ)] H' ∧
        TblAt K C H0 H' p dx la lb lc lg vc vg { T0 with rest := T0.rest ++ [T0.width + T0.many], cells := ac1 T0 i }) ⟨none, rfl, ex2, tb2, t2⟩ (fun i σ H' _ ⟨_, _, _, _, t'⟩ => SqL.of t'.rc) ?_ ?_⟩
      · rintro i u σ H' hu ⟨l1, rfl, ex', tb', t'⟩
        have hi : i < T0.cells.length := by rw [← t.cl]; exact (List.getElem?_eq_some_iff.mp hu).1
        have hci : (ac1 T0 i)[i]? = some (T0.row i) := by rw [ac1_at T0 i i hi, if_neg (Nat.lt_irrefl i)]
        obtain ⟨r, vs, er', hr', rv, ra, rb, rc⟩ := t'.cv i _ hci
        rw [er'] at hu
        cases hu
        have hlen : (T0.row i).length = T0.goal.length := ok.cl _ (row_mem hi)
        have hlv : vs.length = T0.goal.length := by rw [rv.1]; exact hlen
        obtain ⟨f1, f2⟩ := fr.2 r (List.mem_of_getElem? er')
        refine ⟨_, rfl, .inl ⟨rfl, _, SqL.of hr'⟩, r, vs, _, rfl, rfl, hr', ?_, ?_⟩
        · rw [hlv]
          exact Nat.lt_of_le_of_lt (show T0.goal.length ≤ 200 by omega) (by decide)
        · exact ⟨_, rfl, ex'.put f1, (Mv.lst hr').tabs tb', t'.setRow i er' fr.1 hr' (rv.snoc (T.rO _)) ra rb rc f2 f1⟩
      · rintro σ H3 ⟨l1, rfl, ex3, tb3, t3⟩
        rw [t.cl, ac1_end] at t3
        clear t2 ex2 tb2 t1 ex1 tb1
        -- the new goal
        refine ⟨_, rfl, p, C, dx, _, _, rfl, t3.ob, TK.cls, TK.width, rfl, _, _, rfl, rfl, _, rfl, by show -(2 ^ 62) ≤ ((T0.width : Nat) : Int) + 1; omega, by show ((T0.width : Nat) : Int) + 1 < 2 ^ 62; omega, fun G1 nG1 => ?_⟩
        have e1 : (((T0.width : Nat) : Int) + 1).toNat = T0.width + 1 := by omega
        refine lc_range (lo := 0) (n := (((T0.width : Nat) : Int) + 1).toNat) (Grow K H3 G1 (List.replicate (T0.width + 1) 0)) (Grow.zero nG1) ?_ ?_
        · intro j H' hj g
          rw [e1] at hj
          refine ⟨rfl, tyes ?_⟩
          exact g.step nG1 (Same.refl _) (by rw [List.getElem?_replicate, if_pos hj]) (T.rZ _) (by rw [List.length_replicate]; omega)
        intro H4 g
        obtain ⟨s4, gv, hG1, hgv⟩ := g.done (by rw [List.length_replicate, e1]; exact Nat.le_refl _)
        have lgv : gv.length = T0.width + 1 := by rw [hgv.1, List.length_replicate]
        refine ⟨_, rfl, by show 2 ≤ sizeLine; decide, fun tp ntp => ?_⟩
        have s5 := Same.new (o := .tup [.int (-1), .int 1]) ntp
        refine ⟨by show 1 ≤ sizeLine; decide, fun G2 nG2 => ?_⟩
        have s6 := Same.new (o := .lst [.ref tp]) nG2
        have s56 := s5.trans s6
        have htp : SqT K (upd (upd H4 tp (.tup [.int (-1), .int 1])) G2 (.lst [.ref tp])) tp [.int (-1), .int 1] := SqT.of (s6 _ _ upd_same)
        have hG16 := s56 _ _ hG1
        refine ⟨G1, G2, gv, [.ref tp], rfl, rfl, hG16, upd_same, ?_, fun g5 ng5 => ?_⟩
        · rw [lgv]
          exact Nat.le_trans (show T0.width + 1 + 1 ≤ 2000 by omega) (by decide)
        have s7 := Same.new (o := .lst (gv ++ [.ref tp])) ng5
        have s47 := s4.trans (s56.trans s7)
        have t7 := t3.mono s47
        have hg5 : upd (upd (upd H4 tp (.tup [.int (-1), .int 1])) G2 (.lst [.ref tp])) g5 (.lst (gv ++ [.ref tp])) g5 = some (.lst (gv ++ [.ref tp])) := upd_same
        have rvm : RV K (upd (upd (upd H4 tp (.tup [.int (-1), .int 1])) G2 (.lst [.ref tp])) g5 (.lst (gv ++ [.ref tp]))) (.ref tp) (-1) := ⟨tp, rfl, Same.tup s7 htp⟩
        have hgl7 : RL K (upd (upd (upd H4 tp (.tup [.int (-1), .int 1])) G2 (.lst [.ref tp])) g5 (.lst (gv ++ [.ref tp]))) (gv ++ [.ref tp]) (List.replicate (T0.width + 1) 0 ++ [-1]) := ((hgv.mono s56).mono s7).snoc rvm
        have ng4 : H3 g5 = none := by
          cases z : H3 g5 with
          | none => rfl
          | some o => have := (s4.trans s56) _ _ z; rw [ng5] at this; cases this
        have ex7 := ex3.same s47
        have tb7 := tb3.ext s47
        have t8 := t7.setGoal hg5 hgl7 (ne_of_none t3.ra ng4).symm (ne_of_none t3.rb ng4).symm (ne_of_none t3.rc ng4).symm
        have ex8 := ex7.put (o := .ins C dx (fldT T0.width T0.many la lb lc g5)) t.fp
        have tb8 := (Mv.ins (o := .ins C dx (fldT T0.width T0.many la lb lc g5)) t7.ob).tabs tb7
        refine ⟨_, rfl, p, C, dx, _, rfl, t7.ob, TK.cls, TK.goal, by show 6 < 1000; decide, ?_⟩
        have t8 : TblAt K C H0 (upd (upd (upd (upd H4 tp (.tup [.int (-1), .int 1])) G2 (.lst [.ref tp])) g5 (.lst (gv ++ [.ref tp]))) p (.ins C dx (fldT T0.width T0.many la lb lc g5))) p dx la lb lc g5 vc (gv ++ [.ref tp]) T0.help := t8
        -- the least bound
        have hcl : T0.help.cells.length = T0.cells.length := by
          show (T0.cells.map _).length = _
          rw [List.length_map]
        have hrl : T0.help.rest.length = T0.rest.length + 1 := by
          show (T0.rest ++ [_]).length = _
          rw [List.length_append]; rfl
        refine ⟨_, rfl, p, C, dx, _, _, rfl, t8.ob, TK.cls, TK.cells, rfl, lc, _, rfl, SqL.of t8.rc, for_enum (K := K) (a := lc) (xs := vc) (fun i σ H' => ∃ l1 l3 : Option V, σ = [some (.ref p), l1, some (.int ((T0.width + T0.many : Nat) : Int)), l3, some (.int ((T0.help.lst i : Nat) : Int))] ∧ ExtN H0 H' ∧ Tabs [(Pt, lamQ)] H' ∧ TblAt K C H0 H' p dx la lb lc g5 vc (gv ++ [V.ref tp]) T0.help)
          ⟨_, _, rfl, ex8, tb8, t8⟩ (fun i σ H' ⟨_, _, _, _, _, t'⟩ => SqL.of t'.rc) ?_ ?_⟩
        · rintro i x Tp σ H' hx ⟨l1, l3, rfl, ex', tb', t'⟩ nT
          have hi : i < T0.help.cells.length := by rw [hcl, ← t.cl]; exact (List.getElem?_eq_some_iff.mp hx).1
          have hl : T0.help.lst i < T0.help.cells.length := lst_lt T0.help _ (by omega) i (by omega)
          obtain ⟨r, vs, er', hr', rv, _, _, _⟩ := t'.row hi
          rw [er'] at hx
          cases hx
          obtain ⟨r2, vs2, er2, hr2, rv2, _, _, _⟩ := t'.row hl
          have s1 : Same H' (upd H' Tp (.tup [.int (i : Nat), .ref r])) := Same.new nT
          have t'' := t'.mono s1
          have m1 := row_mem hi
          have m2 := row_mem hl
          have l1' := okh.cl _ m1
          have l2' := okh.cl _ m2
          have lg := okh.gl
          obtain ⟨u0, eu0, hu0⟩ := rv.at (show 0 < (T0.help.row i).length by omega)
          obtain ⟨u1, eu1, hu1⟩ := rv2.at (show 0 < (T0.help.row (T0.help.lst i)).length by omega)
          have ea0 : T0.help.at_ i 0 = (T0.help.row i)[0] := getD_of (List.getElem?_eq_getElem (by omega))
          have ea1 : T0.help.at_ (T0.help.lst i) 0 = (T0.help.row (T0.help.lst i))[0] := getD_of (List.getElem?_eq_getElem (by omega))
          refine ⟨Tp, _, rfl, SqT.of upd_same, rfl, _, _, rfl, _, _, rfl, rfl, ?_⟩
          refine ⟨_, rfl, ix_l (j := 0) rfl (SqL.of (s1 _ _ hr')) eu0 ⟨_, rfl, p, C, dx, _, _, rfl, t''.ob, TK.cls, TK.cells, rfl, _, rfl, ix_l (j := T0.help.lst i) rfl (SqL.of t''.rc) er2 (ix_l (j := 0) rfl (SqL.of (s1 _ _ hr2)) eu1 ⟨u0, u1, _, _, k, k, rfl, hu0.mono s1, hu1.mono s1, okh.cb _ m1 _ (List.getElem_mem _), okh.cb _ m2 _ (List.getElem_mem _), by omega, _, rfl, ?_⟩)⟩⟩
          rw [← ea0, ← ea1]
          refine ite2 (fun c => ?_) (fun c => ?_)
          · refine ⟨_, rfl, some (.ref r), some (.int (i : Nat)), ?_, ex'.same s1, tb'.ext s1, t''⟩
            have : T0.help.lst (i + 1) = i := if_pos (of_decide_eq_true c)
            rw [this]; rfl
          · refine ⟨some (.ref r), some (.int (i : Nat)), ?_, ex'.same s1, tb'.ext s1, t''⟩
            have : T0.help.lst (i + 1) = T0.help.lst i := if_neg (fun z => c (decide_eq_true z))
            rw [this]; rfl
        · rintro σ H9 ⟨l1, l3, hσ, ex9, tb9, t9⟩
          rw [show vc.length = T0.help.cells.length by rw [t.cl, hcl]] at hσ
          subst hσ
          have hl : T0.help.lst T0.help.cells.length < T0.help.cells.length := lst_lt T0.help _ (by omega) _ (Nat.le_refl _)
          have lg := okh.gl
          have hl0 : T0.help.lst T0.help.cells.length < T0.cells.length := by omega
          refine ⟨_, rfl, p, dx, _, rfl, t9.ob, rfl, _, rfl, _, rfl, p, C, dx, _, _, rfl, t9.ob, TK.cls, TK.rest, rfl, _, _, rfl, .inl (SqL.of t9.ra), H0, p, dx, la, lb, lc, g5, vc, _, T0.help, T0.help.lst T0.help.cells.length, T0.help.rest.length, k, ?_, ex9, t9, okh, hk, hl, by omega, by omega, ?_, fun H10 lg' vc' vg' ex10 mv10 t10 => ?_⟩
          · rw [natV_len]; rfl
          · rw [hrl, help_one ok hl0]
            decide
          · have tb10 := mv10.tabs tb9
            refine ⟨_, rfl, p, dx, _, rfl, t10.ob, rfl, H0, p, dx, la, lb, lc, lg', vc', vg', _, T2, k, n, rfl, ex10, tb10, t10, him, hk, fun H11 lg2 vc2 vg2 ex11 tb11 t11 => ?_⟩
            have ok2 := imp_ok him
            have gl2 := ok2.gl
            obtain ⟨u0, eu0, hu0⟩ := t11.gv.at (show 0 < T2.goal.length by omega)
            have ea0 : T2.goal.getD 0 0 = T2.goal[0] := getD_of (List.getElem?_eq_getElem (by omega))
            refine ⟨_, rfl, p, C, dx, _, _, rfl, t11.ob, TK.cls, TK.goal, rfl, ix_l (j := 0) rfl (SqL.of t11.rg) eu0 (ix_num hu0 ⟨_, _, rfl, rfl, _, rfl, ?_⟩)⟩
            rcases hend with ⟨hg, rfl, rfl⟩ | ⟨hg, rfl, hd⟩
            · rw [decide_eq_true (Mm.neg_num.mp (by rw [← ea0]; exact hg))]
              exact iteT (q H11 la lc lg2 vc2 vg2 ex11 tb11 t11)
            · rw [decide_eq_false (fun z => by have := Mm.neg_num.mpr z; rw [← ea0] at this; grind)]
              refine iteF ⟨_, rfl, p, dx, _, rfl, t11.ob, rfl, _, rfl, H0, p, dx, la, lb, lc, lg2, vc2, vg2, T2, T', T0.width + T0.many, k, rfl, ex11, t11, hd, hk, fun H12 la3 lc3 lg3 vc3 vg3 ex12 mv12 t12 => ?_⟩
              exact q H12 la3 lc3 lg3 vc3 vg3 ex12 (mv12.tabs tb11) t12
end
end MM
namespace MM
open PySem PySem.Spec PyProof.Rows L2 LamX
open Mm (Tab)
section
variable {P : Program} {w : World} {K : PySem.W.Frag} {mg : Str → Option Value} {base : Heap} {f : Addr} {fd : FuncData} {C : Addr}
def spAim (K : PySem.W.Frag) (C : Addr) : Sp := fun vs H Q _ => ∃ (H0 : Hp) (p dx la lb lc lg a : Addr) (vc vg : List V) (T : Tab) (n k : Nat), vs = [.ref p, .ref a] ∧ ExtN H0 H ∧ TblAt K C H0 H p dx la lb lc lg vc vg T ∧ T.Ok0 k ∧ k ≤ 2200 ∧ 2 ≤ k ∧ SR true K H a (List.replicate n 0 ++ [1]) ∧ n ≤ 100 ∧ (n ∈ T.rest ∨ n ∈ T.base) ∧
  ∀ H' lg' vg', ExtN H0 H' → Mv H H' → TblAt K C H0 H' p dx la lb lc lg' vc vg' (T.aimed n) → Q .non H'
theorem ok_aim (TK : TC K C) (F : FnP K "aim" "Tableau.aim" s_Tableau_aim f fd) (T : Txt K mg) (c_plus : C8.Cal P w K mg base 2 "plus" (spPlus K) []) (c_times : C8.Cal P w K mg base 2 "times" (spTimes K) []) : FnOk P w K mg base C8.CX0 3 f fd ["self", "factors"] (spAim K C) := by
  refine F.ok sc_Tableau_aim (fun vs H Q E h => ?_) (fun cdv A outer s H vs Q E hr h => ⟨_, PSs.nox (pss_cons (ps_setLc (i := 2) (own := [("at", 3)]) (g := (gName 3)) (tt := tYes) rfl sc_Tableau_aim.nd rfl rfl (sw_true rfl rfl rfl (by decide +kernel)) (pi_range1 rfl T.f_range (pa_cons (pe_op op_add (pe_callB (lenK (K := K) rfl) rfl T.f_len (by decide +kernel) (pa_cons (fldK (K := K) rfl (pv 0) rfl) pa_nil)) pe_int) pa_nil)) (blkOk_by (own := [("at", 3)]) (by kernel_rfl)) (fun _ _ _ _ _ => (pg_name (i := 3) sc_Tableau_aim.nd rfl (.inl rfl))) (fun _ _ _ _ _ => pts_nil) (fun _ _ _ _ _ => (C8.pe_gc rfl T.gZ)))
 (pss_cons (ps_for PassesOwn.never rfl (piEnumK (K := K) rfl rfl T.f_enumerate (pa_cons (pv 1) pa_nil)) (pgTupK (K := K) rfl rfl (pgs_cons (pg_name (i := 3) sc_Tableau_aim.nd rfl (.inl rfl)) (pgs_cons (pg_name (i := 4) sc_Tableau_aim.nd rfl (.inr rfl)) pgs_nil))) (pss_one (ps_if (PW.pt (pw_and (pt_cmpR op_ne (pe_ix (ixK (K := K) rfl) (pv 4) pe_int (fun _ _ => rfl)) pe_int (nomark _)) (pw_and1 (pt_cmpR (inK (K := K) rfl) (pv 3) (fldK (K := K) rfl (pv 0) rfl) rfl)))) (pss_cons (ps_set (i := 5) sc_Tableau_aim.nd rfl (.inl rfl) (pe_op op_add (bmK (K := K) rfl PySem.F.plainAttrs_list PySem.F.slot_list_index PySem.F.type_list_index (indexK (K := K) rfl) (fldK (K := K) rfl (pv 0) rfl) (pa_cons (pv 3) pa_nil)) pe_int))
 (pss_one (ps_asg (C8.pe_c c_plus hr (by first | decide | omega) rfl (pa_cons (pe_ix (ixK (K := K) rfl) (pv 2) (pv 5) (fun _ _ => rfl)) (pa_cons (pv 4) pa_nil))) (pg_sub (pv 2) (pv 5) set_list)))) (pss_one (ps_if (pt_cmpR op_ne (pe_ix (ixK (K := K) rfl) (pv 4) pe_int (fun _ _ => rfl)) pe_int (nomark _)) (pss_cons (ps_set (i := 6) sc_Tableau_aim.nd rfl (.inl rfl) (pe_ix (ixK (K := K) rfl) (fldK (K := K) rfl (pv 0) rfl) (bmK (K := K) rfl PySem.F.plainAttrs_list PySem.F.slot_list_index PySem.F.type_list_index (indexK (K := K) rfl) (fldK (K := K) rfl (pv 0) rfl) (pa_cons (pv 3) pa_nil)) (fun _ _ => rfl)))
 (pss_one (ps_setLc (i := 2) (own := [("one", 7), ("cell", 8)]) (g := (gTup K 2 (gCons (gName 7) (gCons (gName 8) gNil)))) (tt := tYes) rfl sc_Tableau_aim.nd rfl rfl (sw_true rfl rfl rfl (by decide +kernel)) (piZipK (K := K) rfl rfl T.f_zip (pa_cons (pv 2) (pa_cons (pv 6) pa_nil))) (blkOk_by (own := [("one", 7), ("cell", 8)]) (by kernel_rfl)) (fun _ _ _ _ _ => (pgTupK (K := K) rfl rfl (pgs_cons (pg_name (i := 7) sc_Tableau_aim.nd rfl (.inl rfl)) (pgs_cons (pg_name (i := 8) sc_Tableau_aim.nd rfl (.inl rfl)) pgs_nil)))) (fun _ _ _ _ _ => pts_nil) (fun _ _ _ _ _ => (C8.pe_c c_plus hr (by first | decide | omega) rfl (pa_cons (pv 7) (pa_cons (C8.pe_c c_times hr (by first | decide | omega) rfl (pa_cons (pv 4) (pa_cons (pv 8) pa_nil))) pa_nil))))))) pss_nil)))))
 (pss_one (psFldK (K := K) rfl (pv 0) (pv 2) rfl)))), ?_⟩)
  · obtain ⟨_, _, _, _, _, _, _, _, _, _, _, _, _, rfl, _⟩ := h
    rfl
  · obtain ⟨H0, p, dx, la, lb, lc, lg, a, vc, vg, T0, n, k, rfl, ex, t, ok, hk, hk2, ⟨vf, hf, rf⟩, hn, hin, q⟩ := h
    have hf : SqL K H a vf := hf
    have hn1 := ok.n1
    have hn2 := ok.n2
    have la1 : (natV T0.rest).length = T0.rest.length := natV_len _
    refine ⟨_, rfl, p, C, dx, _, _, rfl, t.ob, TK.cls, TK.rest, rfl, _, _, rfl, .inl (SqL.of t.ra), _, _, rfl, rfl, _, rfl, by rw [la1]; omega, by rw [la1]; omega, fun D nD => ?_⟩
    refine lc_range (lo := 0) (n := (((natV T0.rest).length : Int) + 1).toNat) (Grow K H D (List.replicate (T0.rest.length + 1) 0)) (Grow.zero nD) ?_ ?_
    · intro j H' hj g
      rw [la1] at hj
      refine ⟨rfl, tyes ?_⟩
      exact g.step nD (Same.refl _) (by rw [List.getElem?_replicate, if_pos (by omega)]) (T.rZ _) (by rw [List.length_replicate]; omega)
    intro H1 g
    obtain ⟨s1, gv, hD, hgv⟩ := g.done (by rw [List.length_replicate, la1]; omega)
    let z : List Rat := List.replicate (T0.rest.length + 1) 0
    have lz : z.length = T0.rest.length + 1 := List.length_replicate ..
    have lvf : vf.length = n + 1 := by rw [rf.1, List.length_append, List.length_replicate]; rfl
    refine ⟨_, rfl, a, _, rfl, s1.seq hf, for_enum (K := K) (a := a) (xs := vf) (fun i σ H' => ∃ (g : Addr) (gv : List V) (l3 l4 l5 l6 : Option V), σ = [some (.ref p), some (.ref a), some (.ref g), l3, l4, l5, l6, none, none] ∧ Same H H' ∧ H g = none ∧ H' g = some (.lst gv) ∧ RL K H' gv (if i ≤ n then z else (T0.aimed n).goal))
      ⟨D, gv, _, _, _, _, rfl, s1, nD, hD, by rw [if_pos (Nat.zero_le _)]; exact hgv⟩ (fun i σ H' ⟨_, _, _, _, _, _, _, s, _⟩ => s.seq hf) ?_ ?_⟩
    · rintro i x Tp σ H' hx ⟨g, gv', l3, l4, l5, l6, rfl, s, ng, hg, hgv'⟩ nT
      obtain ⟨y, ey, hxy⟩ := rf.of_v hx
      have hi : i < n + 1 := by rw [← lvf]; exact (List.getElem?_eq_some_iff.mp hx).1
      rw [if_pos (by omega)] at hgv'
      have s2 : Same H' (upd H' Tp (.tup [.int (i : Nat), x])) := Same.new nT
      have s3 := s.trans s2
      have hg3 := s2 _ _ hg
      have hgv3 := hgv'.mono s2
      have t3 := t.mono s3
      have hx3 := hxy.mono s3
      refine ⟨Tp, _, rfl, SqT.of upd_same, rfl, _, _, rfl, _, _, rfl, rfl, ?_⟩
      refine ⟨_, rfl, ix_num hx3 ⟨rfl, _, rfl, ?_⟩⟩
      rw [ne_num]
      by_cases hin' : i < n
      · have ey0 : y = 0 := by
          rw [List.getElem?_append_left (by rw [List.length_replicate]; exact hin'), List.getElem?_replicate, if_pos hin'] at ey
          exact (Option.some.inj ey).symm
        rw [decide_eq_true ey0]
        refine iteF (iteF ⟨_, rfl, ix_num hx3 ⟨rfl, _, rfl, ?_⟩⟩)
        rw [ne_num, decide_eq_true ey0]
        refine iteF ⟨g, gv', _, _, _, _, rfl, s3, ng, hg3, ?_⟩
        rw [if_pos (by omega)]
        exact hgv3
      · have ein : i = n := by omega
        subst ein
        have ey1 : y = 1 := by
          rw [List.getElem?_append_right (by rw [List.length_replicate]; exact Nat.le_refl _), List.length_replicate, Nat.sub_self] at ey
          exact (Option.some.inj ey).symm
        subst ey1
        rw [decide_eq_false (by decide)]
        refine iteT ⟨_, rfl, _, rfl, p, C, dx, _, _, rfl, t3.ob, TK.cls, TK.rest, rfl, la, _, rfl, .inl (SqL.of t3.ra), rfl, natV_flat _, _, rfl, ?_⟩
        show ite (inV (V.int (i : Int)) (natV T0.rest) = true) _ _
        rw [natV_in]
        by_cases hm : i ∈ T0.rest
        · have hix : T0.rest.idxOf i < T0.rest.length := List.idxOf_lt_length_iff.mpr hm
          have eg : (T0.aimed i).goal = z.set (T0.rest.idxOf i + 1) 1 := if_pos hm
          rw [decide_eq_true hm]
          refine iteT ⟨_, rfl, p, C, dx, _, _, rfl, t3.ob, TK.cls, TK.rest, rfl, .inl ⟨rfl, _, SqL.of t3.ra⟩, _, rfl, ?_⟩
          refine ⟨la, natV T0.rest, .int (i : Int), T0.rest.idxOf i, .int (i : Int), rfl, rfl, SqL.of t3.ra, rfl, natV_flat _, natV_idx hm, eqV_self _, fun _ _ hj e => natV_before hj e, ?_⟩
          obtain ⟨u, eu, hu⟩ := hgv3.at (show T0.rest.idxOf i + 1 < z.length by omega)
          have ez : z[T0.rest.idxOf i + 1]'(by omega) = 0 := List.getElem_replicate ..
          rw [ez] at hu
          refine ⟨_, _, rfl, rfl, _, rfl, _, rfl, ix_l (j := T0.rest.idxOf i + 1) (by omega) (SqL.of hg3) eu ⟨_, rfl, u, x, 0, 1, 2, 2, rfl, hu, hx3, zero_lt (by decide), ⟨by decide, by decide⟩, by omega, fun vp H4 e4 r4 => ?_⟩⟩
          refine ⟨_, rfl, _, rfl, g, gv', _, T0.rest.idxOf i + 1, rfl, rfl, e4 _ _ hg3, ixN_nat (by omega) (by rw [hgv'.1, lz]; omega), ?_⟩
          refine ⟨g, _, _, _, _, _, rfl, Same.mut (s3.trans e4) ng, ng, upd_same, ?_⟩
          rw [if_neg (by omega), eg]
          have e01 : (0 : Rat) + 1 = 1 := by grind
          rw [e01] at r4
          exact ((hgv3.mono e4).set r4 _).ts (TS.lst (e4 _ _ hg3))
        · have hmb : i ∈ T0.base := hin.resolve_left hm
          have hib : T0.base.idxOf i < T0.cells.length := by rw [← ok.bl]; exact List.idxOf_lt_length_iff.mpr hmb
          have eg : (T0.aimed i).goal = T0.row (T0.base.idxOf i) := if_neg hm
          rw [decide_eq_false hm]
          refine iteF ⟨_, rfl, ix_num hx3 ⟨rfl, _, rfl, ?_⟩⟩
          rw [ne_num, decide_eq_false (by decide)]
          obtain ⟨r, vs, er, hr', rv, _, _, _⟩ := t3.row hib
          have hlen : (T0.row (T0.base.idxOf i)).length = T0.rest.length + 1 := ok.cl _ (row_mem hib)
          refine iteT ⟨_, rfl, p, C, dx, _, _, rfl, t3.ob, TK.cls, TK.cells, rfl, _, rfl, p, C, dx, _, _, rfl, t3.ob, TK.cls, TK.base, rfl, .inl ⟨rfl, _, SqL.of t3.rb⟩, _, rfl, ?_⟩
          refine ⟨lb, natV T0.base, .int (i : Int), T0.base.idxOf i, .int (i : Int), rfl, rfl, SqL.of t3.rb, rfl, natV_flat _, natV_idx hmb, eqV_self _, fun _ _ hj e => natV_before hj e, ?_⟩
          refine ix_l (j := T0.base.idxOf i) rfl (SqL.of t3.rc) er ?_
          refine ⟨_, rfl, _, rfl, true, true, g, r, gv', vs, rfl, SqL.of hg3, SqL.of hr', fun D2 nD2 => ?_⟩
          refine lc_zipG (K := K) (k1 := true) (k2 := true) (a := g) (b := r) (xs := gv') (ys := vs) (by rw [hgv'.1, rv.1, lz, hlen]) (Grow K (upd H' Tp (.tup [.int (i : Nat), x])) D2 (T0.row (T0.base.idxOf i))) (Grow.zero nD2) (fun j H4 g4 => ⟨g4.1.seq (SqL.of hg3), g4.1.seq (SqL.of hr')⟩) ?_ ?_
          · rintro j u v t4 H4 hu hv g4 nt4
            obtain ⟨y0, ey0, huy⟩ := hgv3.of_v hu
            obtain ⟨y1, ey1, hvy⟩ := rv.of_v hv
            have ez : y0 = 0 := by
              rw [List.getElem?_replicate] at ey0
              split at ey0
              · exact (Option.some.inj ey0).symm
              · cases ey0
            subst ez
            have s4 : Same H4 (upd H4 t4 (.tup [u, v])) := Same.new nt4
            have s5 := g4.1.trans s4
            have b1 := ok.cb _ (row_mem hib) y1 (List.mem_of_getElem? ey1)
            refine ⟨t4, [u, v], rfl, .inl (.inl upd_same), rfl, u, [v], rfl, v, [], rfl, rfl, rfl, tyes ?_⟩
            refine ⟨_, rfl, _, rfl, _, rfl, x, v, 1, y1, 2, k, rfl, hx3.mono s5, hvy.mono s5, ⟨by decide, by decide⟩, b1, by omega, fun vt H5 e5 r5 => ?_⟩
            have b11 : (1 : Rat) * y1 = y1 := by grind
            rw [b11] at r5
            refine ⟨u, vt, 0, y1, 1, k, rfl, (huy.mono s5).mono e5, r5, zero_lt (by decide), b1, by omega, fun vp H6 e6 r6 => ?_⟩
            have b00 : (0 : Rat) + y1 = y1 := by grind
            rw [b00] at r6
            exact g4.step nD2 ((s4.trans e5).trans e6) ey1 r6 (by omega)
          · intro H4 g4
            obtain ⟨s4, acc, hD2, hacc⟩ := g4.done (by rw [hgv'.1, lz, hlen]; exact Nat.le_refl _)
            refine ⟨D2, acc, _, _, _, _, rfl, s3.trans s4, s3.free nD2, hD2, ?_⟩
            rw [if_neg (by omega), eg]
            exact hacc
    · rintro σ H' ⟨g, gv', l3, l4, l5, l6, rfl, s, ng, hg, hgv'⟩
      rw [lvf, if_neg (by omega)] at hgv'
      have t' := t.mono s
      refine ⟨_, rfl, _, rfl, p, C, dx, _, rfl, t'.ob, TK.cls, TK.goal, by show 6 < 1000; decide, ?_⟩
      show Q .non (upd H' p (.ins C dx (putF "goal" (V.ref g) (fldT T0.width T0.many la lb lc lg))))
      rw [put_goal]
      exact q _ g gv' ((ex.same s).put t.fp) ((Mv.of s).trans (Mv.ins t'.ob)) (t'.setGoal hg hgv' (ne_of_none t.ra ng).symm (ne_of_none t.rb ng).symm (ne_of_none t.rc ng).symm)
end
end MM
namespace MM
open PySem PySem.Spec PyProof.Rows L2 LamX
open Mm (Tab)
section
variable {P : Program} {w : World} {K : PySem.W.Frag} {mg : Str → Option Value} {base : Heap} {f : Addr} {fd : FuncData} {C : Addr}
theorem pr_len (T : Tab) : ∀ i, (T.pr i).length = T.width
  | 0 => List.length_replicate ..
  | i + 1 => by
    show (if T.base.getD i 0 < T.width then (T.pr i).set _ _ else T.pr i).length = _
    by_cases h : T.base.getD i 0 < T.width
    · rw [if_pos h, List.length_set]; exact pr_len T i
    · rw [if_neg h]; exact pr_len T i
theorem wt_len (T : Tab) : ∀ i, (T.wt i).length = T.many
  | 0 => List.length_replicate ..
  | i + 1 => by
    show (if T.width ≤ T.rest.getD i 0 ∧ T.rest.getD i 0 < T.width + T.many then (T.wt i).set _ _ else T.wt i).length = _
    by_cases h : T.width ≤ T.rest.getD i 0 ∧ T.rest.getD i 0 < T.width + T.many
    · rw [if_pos h, List.length_set]; exact wt_len T i
    · rw [if_neg h]; exact wt_len T i
def spPresent (K : PySem.W.Frag) (C : Addr) : Sp := fun vs H Q _ => ∃ (H0 : Hp) (p dx la lb lc lg : Addr) (vc vg : List V) (T : Tab), vs = [.ref p] ∧ TblAt K C H0 H p dx la lb lc lg vc vg T ∧ T.base.length = T.cells.length ∧ (∀ r ∈ T.cells, 0 < r.length) ∧ T.width ≤ 1000 ∧ RetL K H Q T.present
theorem ok_present (TK : TC K C) (F : FnP K "present" "Tableau.present" s_Tableau_present f fd) (T : Txt K mg) : FnOk P w K mg base C8.CX0 1 f fd ["self"] (spPresent K C) := by
  refine F.ok sc_Tableau_present (fun vs H Q E h => ?_) (fun cdv A outer s H vs Q E hr h => ⟨_, PSs.nox (pss_cons (ps_setLc (i := 1) (own := [("at", 2)]) (g := (gName 2)) (tt := tYes) rfl sc_Tableau_present.nd rfl rfl (sw_true rfl rfl rfl (by decide +kernel)) (pi_range1 rfl T.f_range (pa_cons (fldK (K := K) rfl (pv 0) rfl) pa_nil)) (blkOk_by (own := [("at", 2)]) (by kernel_rfl)) (fun _ _ _ _ _ => (pg_name (i := 2) sc_Tableau_present.nd rfl (.inl rfl))) (fun _ _ _ _ _ => pts_nil) (fun _ _ _ _ _ => (C8.pe_gc rfl T.gZ)))
 (pss_cons (ps_for PassesOwn.never rfl (piZipK (K := K) rfl rfl T.f_zip (pa_cons (fldK (K := K) rfl (pv 0) rfl) (pa_cons (fldK (K := K) rfl (pv 0) rfl) pa_nil))) (pgTupK (K := K) rfl rfl (pgs_cons (pg_name (i := 3) sc_Tableau_present.nd rfl (.inl rfl)) (pgs_cons (pg_name (i := 4) sc_Tableau_present.nd rfl (.inl rfl)) pgs_nil))) (pss_one (ps_if (pt_cmpR op_lt (pv 4) (fldK (K := K) rfl (pv 0) rfl) (nomark _)) (pss_one (ps_asg (pe_ix (ixK (K := K) rfl) (pv 3) pe_int (fun _ _ => rfl)) (pg_sub (pv 1) (pv 4) set_list))) pss_nil)))
 (pss_one (ps_ret (pv 1))))), ?_⟩)
  · obtain ⟨_, _, _, _, _, _, _, _, _, _, rfl, _⟩ := h
    rfl
  · obtain ⟨H0, p, dx, la, lb, lc, lg, vc, vg, T0, rfl, t, hbl, hcl, hw, q⟩ := h
    refine ⟨_, rfl, p, C, dx, _, _, rfl, t.ob, TK.cls, TK.width, rfl, _, rfl, by omega, by omega, fun D nD => ?_⟩
    have e0 : (((T0.width : Nat) : Int)).toNat = T0.width := by omega
    rw [e0]
    refine lc_range (lo := 0) (n := T0.width) (Grow K H D (List.replicate T0.width 0)) (Grow.zero nD) ?_ ?_
    · intro j H' hj g
      refine ⟨rfl, tyes ?_⟩
      exact g.step nD (Same.refl _) (by rw [List.getElem?_replicate, if_pos hj]) (T.rZ _) (by rw [List.length_replicate]; omega)
    intro H1 g
    obtain ⟨s1, acc, hD, hacc⟩ := g.done (by rw [List.length_replicate]; exact Nat.le_refl _)
    have t1 := t.mono s1
    refine ⟨_, rfl, p, C, dx, _, _, rfl, t1.ob, TK.cls, TK.cells, rfl, _, rfl, p, C, dx, _, _, rfl, t1.ob, TK.cls, TK.base, rfl, true, true, lc, lb, vc, natV T0.base, rfl, SqL.of t1.rc, SqL.of t1.rb, for_zipG (K := K) (k1 := true) (k2 := true) (a := lc) (b := lb) (xs := vc) (ys := natV T0.base) (by rw [natV_len, t.cl, hbl]) (fun i σ H' => ∃ (av : List V) (l2 l3 l4 : Option V), σ = [some (.ref p), some (.ref D), l2, l3, l4] ∧ Same H H' ∧ H' D = some (.lst av) ∧ RL K H' av (T0.pr i))
      ⟨acc, _, _, _, rfl, s1, hD, hacc⟩ (fun i σ H' ⟨_, _, _, _, _, s, _⟩ => ⟨s.seq (SqL.of t.rc), s.seq (SqL.of t.rb)⟩) ?_ ?_⟩
    · rintro i u v Tp σ H' hu hv ⟨av, l2, l3, l4, rfl, s, hD', hav⟩ nT
      have hi : i < T0.cells.length := by rw [← t.cl]; exact (List.getElem?_eq_some_iff.mp hu).1
      obtain ⟨r, vs, er, hr', rv, _, _, _⟩ := t.row hi
      rw [er] at hu
      cases hu
      have eb : T0.base[i]? = some (T0.base.getD i 0) := by
        rw [List.getD_eq_getElem?_getD, List.getElem?_eq_getElem (show i < T0.base.length by omega)]; rfl
      rw [natV_at eb] at hv
      cases hv
      have s2 : Same H' (upd H' Tp (.tup [.ref r, .int ((T0.base.getD i 0 : Nat) : Int)])) := Same.new nT
      have s3 := s.trans s2
      have t3 := t.mono s3
      have hD3 := s2 _ _ hD'
      have hav3 := hav.mono s2
      obtain ⟨u0, eu0, hu0⟩ := (rv.mono s3).at (show 0 < (T0.row i).length from hcl _ (row_mem hi))
      have ea0 : T0.at_ i 0 = (T0.row i)[0]'(hcl _ (row_mem hi)) := getD_of (List.getElem?_eq_getElem (hcl _ (row_mem hi)))
      refine ⟨Tp, [.ref r, .int ((T0.base.getD i 0 : Nat) : Int)], rfl, .inl (.inl upd_same), rfl, .ref r, [.int ((T0.base.getD i 0 : Nat) : Int)], rfl, .int ((T0.base.getD i 0 : Nat) : Int), [], rfl, rfl, ?_⟩
      refine ⟨_, rfl, _, rfl, p, C, dx, _, _, rfl, t3.ob, TK.cls, TK.width, rfl, _, _, rfl, rfl, _, rfl, ?_⟩
      refine ite2 (fun c => ?_) (fun c => ?_)
      · have hlt : T0.base.getD i 0 < T0.width := by have := of_decide_eq_true c; omega
        refine ⟨_, rfl, ix_l (j := 0) rfl (SqL.of (s3 _ _ hr')) eu0 ⟨_, rfl, _, rfl, D, av, _, T0.base.getD i 0, rfl, rfl, hD3, ixN_nat rfl (by rw [hav.1, pr_len]; exact hlt), ?_⟩⟩
        refine ⟨_, l2, some (.ref r), some (.int ((T0.base.getD i 0 : Nat) : Int)), rfl, Same.mut s3 nD, upd_same, ?_⟩
        have e : T0.pr (i + 1) = (T0.pr i).set (T0.base.getD i 0) (T0.at_ i 0) := if_pos hlt
        rw [e, ea0]
        exact (hav3.set hu0 _).ts (TS.lst hD3)
      · have hlt : ¬ T0.base.getD i 0 < T0.width := fun z => c (decide_eq_true (by omega))
        refine ⟨av, _, _, _, rfl, s3, hD3, ?_⟩
        have e : T0.pr (i + 1) = T0.pr i := if_neg hlt
        rw [e]
        exact hav3
    · rintro σ H' ⟨av, l2, l3, l4, rfl, s, hD', hav⟩
      rw [t.cl] at hav
      exact ⟨_, rfl, q D av H' s nD hD' hav⟩
def spWeights (K : PySem.W.Frag) (C : Addr) : Sp := fun vs H Q _ => ∃ (H0 : Hp) (p dx la lb lc lg : Addr) (vc vg : List V) (T : Tab) (k : Nat), vs = [.ref p] ∧ TblAt K C H0 H p dx la lb lc lg vc vg T ∧ T.goal.length = T.rest.length + 1 ∧ (∀ x ∈ T.goal, Mm.Lt k x) ∧ k ≤ 2200 ∧ T.many ≤ 1000 ∧ T.rest.length ≤ 1000 ∧ RetL K H Q T.weights
theorem ok_weights (TK : TC K C) (F : FnP K "weights" "Tableau.weights" s_Tableau_weights f fd) (T : Txt K mg) (c_minus : C8.Cal P w K mg base 3 "minus" (spMinus K) []) : FnOk P w K mg base C8.CX0 4 f fd ["self"] (spWeights K C) := by
  refine F.ok sc_Tableau_weights (fun vs H Q E h => ?_) (fun cdv A outer s H vs Q E hr h => ⟨_, PSs.nox (pss_cons (ps_setLc (i := 1) (own := [("at", 2)]) (g := (gName 2)) (tt := tYes) rfl sc_Tableau_weights.nd rfl rfl (sw_true rfl rfl rfl (by decide +kernel)) (pi_range1 rfl T.f_range (pa_cons (fldK (K := K) rfl (pv 0) rfl) pa_nil)) (blkOk_by (own := [("at", 2)]) (by kernel_rfl)) (fun _ _ _ _ _ => (pg_name (i := 2) sc_Tableau_weights.nd rfl (.inl rfl))) (fun _ _ _ _ _ => pts_nil) (fun _ _ _ _ _ => (C8.pe_gc rfl T.gZ)))
 (pss_cons (ps_for PassesOwn.never rfl (piZipK (K := K) rfl rfl T.f_zip (pa_cons (fldK (K := K) rfl (pv 0) rfl) (pa_cons (pe_slice (slK (K := K) rfl) (fldK (K := K) rfl (pv 0) rfl) (po_some pe_int) po_none) pa_nil))) (pgTupK (K := K) rfl rfl (pgs_cons (pg_name (i := 3) sc_Tableau_weights.nd rfl (.inl rfl)) (pgs_cons (pg_name (i := 4) sc_Tableau_weights.nd rfl (.inl rfl)) pgs_nil))) (pss_one (ps_if (pt_chain op_le op_lt (fldK (K := K) rfl (pv 0) rfl) (pv 3) (pe_op op_add (fldK (K := K) rfl (pv 0) rfl) (fldK (K := K) rfl (pv 0) rfl))) (pss_one (ps_asg (C8.pe_c c_minus hr (by first | decide | omega) rfl (pa_cons (C8.pe_gc rfl T.gZ) (pa_cons (pv 4) pa_nil))) (pg_sub (pv 1) (pe_op op_sub (pv 3) (fldK (K := K) rfl (pv 0) rfl)) set_list))) pss_nil)))
 (pss_one (ps_ret (pv 1))))), ?_⟩)
  · obtain ⟨_, _, _, _, _, _, _, _, _, _, _, rfl, _⟩ := h
    rfl
  · obtain ⟨H0, p, dx, la, lb, lc, lg, vc, vg, T0, k, rfl, t, hgl, hgb, hk, hm, hrl, q⟩ := h
    refine ⟨_, rfl, p, C, dx, _, _, rfl, t.ob, TK.cls, TK.many, rfl, _, rfl, by omega, by omega, fun D nD => ?_⟩
    have e0 : (((T0.many : Nat) : Int)).toNat = T0.many := by omega
    rw [e0]
    refine lc_range (lo := 0) (n := T0.many) (Grow K H D (List.replicate T0.many 0)) (Grow.zero nD) ?_ ?_
    · intro j H' hj g
      refine ⟨rfl, tyes ?_⟩
      exact g.step nD (Same.refl _) (by rw [List.getElem?_replicate, if_pos hj]) (T.rZ _) (by rw [List.length_replicate]; omega)
    intro H1 g
    obtain ⟨s1, acc, hD, hacc⟩ := g.done (by rw [List.length_replicate]; exact Nat.le_refl _)
    have t1 := t.mono s1
    refine ⟨_, rfl, p, C, dx, _, _, rfl, t1.ob, TK.cls, TK.rest, rfl, _, rfl, p, C, dx, _, _, rfl, t1.ob, TK.cls, TK.goal, rfl, 1, rfl, lg, _, rfl, SqL.of t1.rg, fun sl nsl => ?_⟩
    have s2 : Same H1 (upd H1 sl (.lst (cutV vg (some 1) none))) := Same.new nsl
    have ec : cutV vg (some 1) none = vg.drop 1 := cut_from (j := 1) (by rw [t.gv.1]; omega)
    have hsl : upd H1 sl (.lst (cutV vg (some 1) none)) sl = some (.lst (vg.drop 1)) := by rw [ec]; exact upd_same
    have slD : sl ≠ D := (ne_of_none hD nsl).symm
    have s12 := s1.trans s2
    have t2 := t.mono s12
    have lvg : (vg.drop 1).length = T0.rest.length := by rw [List.length_drop, t.gv.1, hgl]; rfl
    refine ⟨true, true, la, sl, natV T0.rest, vg.drop 1, rfl, SqL.of t2.ra, SqL.of hsl, for_zipG (K := K) (k1 := true) (k2 := true) (a := la) (b := sl) (xs := natV T0.rest) (ys := vg.drop 1) (by rw [natV_len, lvg]) (fun i σ H' => ∃ (av : List V) (l2 l3 l4 : Option V), σ = [some (.ref p), some (.ref D), l2, l3, l4] ∧ Same H H' ∧ H' sl = some (.lst (vg.drop 1)) ∧ H' D = some (.lst av) ∧ RL K H' av (T0.wt i))
      ⟨acc, _, _, _, rfl, s12, hsl, s2 _ _ hD, hacc.mono s2⟩ (fun i σ H' ⟨_, _, _, _, _, s, h, _⟩ => ⟨s.seq (SqL.of t.ra), SqL.of h⟩) ?_ ?_⟩
    · rintro i u v Tp σ H' hu hv ⟨av, l2, l3, l4, rfl, s, hsl', hD', hav⟩ nT
      have hi : i < T0.rest.length := by rw [← natV_len T0.rest]; exact (List.getElem?_eq_some_iff.mp hu).1
      have eb : T0.rest[i]? = some (T0.rest.getD i 0) := by
        rw [List.getD_eq_getElem?_getD, List.getElem?_eq_getElem hi]; rfl
      rw [natV_at eb] at hu
      cases hu
      have s2 : Same H' (upd H' Tp (.tup [.int ((T0.rest.getD i 0 : Nat) : Int), v])) := Same.new nT
      have s3 := s.trans s2
      have t3 := t.mono s3
      have hD3 := s2 _ _ hD'
      have hav3 := hav.mono s2
      have hsl3 := s2 _ _ hsl'
      rw [List.getElem?_drop] at hv
      obtain ⟨y, ey, hvy⟩ := t3.gv.of_v hv
      have hy := hgb y (List.mem_of_getElem? ey)
      have eyd : T0.goal.getD (i + 1) 0 = y := by rw [Nat.add_comm]; exact getD_of ey
      refine ⟨Tp, [.int ((T0.rest.getD i 0 : Nat) : Int), v], rfl, .inl (.inl upd_same), rfl, .int ((T0.rest.getD i 0 : Nat) : Int), [v], rfl, v, [], rfl, rfl, ?_⟩
      refine ⟨_, rfl, p, C, dx, _, _, rfl, t3.ob, TK.cls, TK.width, rfl, _, rfl, _, _, rfl, rfl, _, rfl, ?_⟩
      by_cases c1 : T0.width ≤ T0.rest.getD i 0
      · have d1 : decide (((T0.width : Nat) : Int) ≤ ((T0.rest.getD i 0 : Nat) : Int)) = true := decide_eq_true (by omega)
        rw [if_pos d1]
        refine ⟨_, rfl, p, C, dx, _, _, rfl, t3.ob, TK.cls, TK.width, rfl, _, rfl, p, C, dx, _, _, rfl, t3.ob, TK.cls, TK.many, rfl, _, _, rfl, rfl, _, _, rfl, rfl, _, rfl, ?_⟩
        refine ite2 (fun c => ?_) (fun c => ?_)
        · have c2 : T0.rest.getD i 0 < T0.width + T0.many := by have := of_decide_eq_true c; omega
          refine ⟨_, rfl, .ref (zA K), v, 0, y, 1, k, rfl, T.rZ _, hvy, zero_lt (by decide), hy, by omega, fun vm H4 e4 r4 => ?_⟩
          have t4 := t3.mono e4
          have hD4 := e4 _ _ hD3
          have hw := wt_len T0 i
          refine ⟨_, rfl, _, rfl, _, rfl, p, C, dx, _, _, rfl, t4.ob, TK.cls, TK.width, rfl, _, _, rfl, rfl, D, av, _, T0.rest.getD i 0 - T0.width, rfl, rfl, hD4, ixN_nat (by omega) (by rw [hav.1, hw]; omega), ?_⟩
          refine ⟨_, l2, some (.int ((T0.rest.getD i 0 : Nat) : Int)), some v, rfl, Same.mut (s3.trans e4) nD, (upd_ne slD).trans (e4 _ _ hsl3), upd_same, ?_⟩
          have e : T0.wt (i + 1) = (T0.wt i).set (T0.rest.getD i 0 - T0.width) (-(T0.goal.getD (i + 1) 0)) := if_pos ⟨c1, c2⟩
          rw [e, eyd]
          have ez : (0 : Rat) - y = -y := by grind
          rw [ez] at r4
          exact ((hav3.mono e4).set r4 _).ts (TS.lst hD4)
        · have c2 : ¬ (T0.width ≤ T0.rest.getD i 0 ∧ T0.rest.getD i 0 < T0.width + T0.many) := fun z => c (decide_eq_true (by omega))
          refine ⟨av, l2, some (.int ((T0.rest.getD i 0 : Nat) : Int)), some v, rfl, s3, hsl3, hD3, ?_⟩
          have e : T0.wt (i + 1) = T0.wt i := if_neg c2
          rw [e]; exact hav3
      · have d1 : ¬ decide (((T0.width : Nat) : Int) ≤ ((T0.rest.getD i 0 : Nat) : Int)) = true := fun z => c1 (by have := of_decide_eq_true z; omega)
        rw [if_neg d1]
        refine ⟨_, rfl, iteF ?_⟩
        refine ⟨av, l2, some (.int ((T0.rest.getD i 0 : Nat) : Int)), some v, rfl, s3, hsl3, hD3, ?_⟩
        have e : T0.wt (i + 1) = T0.wt i := if_neg (fun z => c1 z.1)
        rw [e]; exact hav3
    · rintro σ H' ⟨av, l2, l3, l4, rfl, s, hsl', hD', hav⟩
      rw [natV_len] at hav
      exact ⟨_, rfl, q D av H' s nD hD' hav⟩
end
end MM
namespace MM
open PySem PySem.Spec PyProof.Rows L2 LamX
open Mm (Tab)
abbrev s_Problem___init__ : Stmt := (inClass (topS 29) 1)
theorem sc_Problem___init__ : FnScope ["self", "size", "rows", "at", "row", "factor", "factors", "bound", "strict"] ["self", "size", "rows"] (defScope s_Problem___init__) := C8.fnScope_by (by decide +kernel)
abbrev s_Problem_size : Stmt := (inClass (topS 29) 2)
theorem sc_Problem_size : FnScope ["self"] ["self"] (defScope s_Problem_size) := C8.fnScope_by (by decide +kernel)
abbrev s_Problem_rows : Stmt := (inClass (topS 29) 3)
theorem sc_Problem_rows : FnScope ["self"] ["self"] (defScope s_Problem_rows) := C8.fnScope_by (by decide +kernel)
abbrev s_Problem_keeps : Stmt := (inClass (topS 29) 5)
theorem sc_Problem_keeps : FnScope ["self", "values", "loose", "value", "factors", "bound", "strict", "got"] ["self", "values", "loose"] (defScope s_Problem_keeps) := C8.fnScope_by (by decide +kernel)
abbrev s_Problem_solve : Stmt := (inClass (topS 29) 6)
theorem sc_Problem_solve : FnScope ["self", "slack", "factors", "bound", "strict", "last", "table", "found"] ["self"] (defScope s_Problem_solve) := C8.fnScope_by (by decide +kernel)
abbrev s_Problem___eq__ : Stmt := (inClass (topS 29) 9)
theorem sc_Problem___eq__ : FnScope ["self", "other"] ["self", "other"] (defScope s_Problem___eq__) := C8.fnScope_by (by decide +kernel)
abbrev s_Answer___init__ : Stmt := (inClass (topS 33) 1)
theorem sc_Answer___init__ : FnScope ["self", "problem"] ["self", "problem"] (defScope s_Answer___init__) := C8.fnScope_by (by decide +kernel)
abbrev s_Answer_problem : Stmt := (inClass (topS 33) 2)
theorem sc_Answer_problem : FnScope ["self"] ["self"] (defScope s_Answer_problem) := C8.fnScope_by (by decide +kernel)
def fldP (n : Nat) (lr : Addr) : List (Str × V) := [(Str.ofString "own_size", V.int n), (Str.ofString "own_rows", V.ref lr)]
structure PC_ (K : PySem.W.Frag) (C : Addr) : Prop where
  cls : Cls K C
  size : NoAttr K C "own_size"
  rows : NoAttr K C "own_rows"
/-- a problem in the heap -/
structure PrAt (K : PySem.W.Frag) (C : Addr) (H : Hp) (p dx lr : Addr) (n : Nat) (rows : List PRow) : Prop where
  ob : H p = some (.ins C dx (fldP n lr))
  ls : ∃ vr, SqL K H lr vr ∧ RowsL false K H vr rows
theorem PrAt.mono {K : PySem.W.Frag} {C : Addr} {H H' : Hp} {p dx lr : Addr} {n : Nat} {rows : List PRow} (h : PrAt K C H p dx lr n rows) (e : Same H H') : PrAt K C H' p dx lr n rows := by
  obtain ⟨vr, h1, h2⟩ := h.ls
  exact ⟨e _ _ h.ob, vr, e.seq h1, h2.mono e⟩
theorem rowV_ts {K : PySem.W.Frag} {H H' : Hp} {v : V} {r : PRow} (h : RowV false K H v r) (e : TS H H') : RowV false K H' v r := by
  obtain ⟨t, a, vb, rfl, h1, ⟨vs, h2, h3⟩, h4⟩ := h
  exact ⟨t, a, vb, rfl, e.tup h1, ⟨vs, e.tup h2, h3.ts e⟩, h4.ts e⟩
theorem rowsL_ts {K : PySem.W.Frag} {H H' : Hp} {vs : List V} {rs : List PRow} (h : RowsL false K H vs rs) (e : TS H H') : RowsL false K H' vs rs := ⟨h.1, fun i r hr => by
  obtain ⟨v, h1, h2⟩ := h.2 i r hr
  exact ⟨v, h1, rowV_ts h2 e⟩⟩
theorem rowsL_snoc {k : Bool} {K : PySem.W.Frag} {H : Hp} {vs : List V} {rs : List PRow} {v : V} {r : PRow} (h : RowsL k K H vs rs) (hv : RowV k K H v r) : RowsL k K H (vs ++ [v]) (rs ++ [r]) := by
  refine ⟨by rw [List.length_append, List.length_append, h.1]; rfl, fun i q e => ?_⟩
  by_cases c : i < rs.length
  · rw [List.getElem?_append_left c] at e
    rw [List.getElem?_append_left (by rw [h.1]; exact c)]
    exact h.2 i q e
  · rw [List.getElem?_append_right (by omega)] at e
    have : i - rs.length = 0 := by
      have := (List.getElem?_eq_some_iff.mp e).1
      simp at this
      omega
    rw [this] at e
    cases e
    rw [List.getElem?_append_right (by rw [h.1]; omega), h.1, this]
    exact ⟨v, rfl, hv⟩
section
variable {P : Program} {w : World} {K : PySem.W.Frag} {mg : Str → Option Value} {base : Heap} {f : Addr} {fd : FuncData} {C : Addr}
def spPInit (K : PySem.W.Frag) (C : Addr) : Sp := fun vs H Q _ => ∃ (p dx a : Addr) (n : Nat) (rows : List PRow), vs = [.ref p, .int n, .ref a] ∧ H p = some (.ins C dx []) ∧ RowsAt true K H a rows ∧ n ≤ 60 ∧ rows.length ≤ 1000 ∧ (∀ r ∈ rows, r.f.length = n) ∧
  ∀ H' lr, Pf p H H' → PrAt K C H' p dx lr n rows → Q .non H'
theorem ok_pinit {dvs : List V} (PK : PC_ K C) (F : FunD K "__init__" "Problem.__init__" (defArgs s_Problem___init__) (defBody s_Problem___init__) (defScope s_Problem___init__) dvs [] f fd) (T : Txt K mg) (c_is_number : C8.Cal P w K mg base 2 "is_number" spNumber []) (c_is_row : C8.Cal P w K mg base 4 "is_row" (spIsRow K) []) (c_ratio_of : C8.Cal P w K mg base 3 "ratio_of" (spRatioOf K) []) : FnOk P w K mg base C8.CX0 5 f fd ["self", "size", "rows"] (spPInit K C) := by
  refine F.ok sc_Problem___init__ (fun vs H Q E h => ?_) (fun cdv A outer s H vs Q E hr h => ⟨_, PSs.nox (pss_cons (ps_if (pt_not (pt_val (C8.pe_c c_is_number hr (by first | decide | omega) rfl (pa_cons (pv 1) (pa_cons pe_int (pa_cons (C8.pe_gc rfl T.gM) pa_nil)))))) (pss_one ps_never) pss_nil)
 (pss_cons (ps_for PassesOwn.never rfl (piEnumK (K := K) rfl rfl T.f_enumerate (pa_cons (pv 2) pa_nil)) (pgTupK (K := K) rfl rfl (pgs_cons (pg_name (i := 3) sc_Problem___init__.nd rfl (.inl rfl)) (pgs_cons (pg_name (i := 4) sc_Problem___init__.nd rfl (.inl rfl)) pgs_nil))) (pss_one (ps_if (pt_not (pt_val (C8.pe_c c_is_row hr (by first | decide | omega) rfl (pa_cons (pv 4) (pa_cons (pv 1) pa_nil))))) (pss_one ps_never) pss_nil)))
 (pss_cons (psFldK (K := K) rfl (pv 0) (pv 1) rfl)
 (pss_one (psFldK (K := K) rfl (pv 0) (pe_lc (own := [("factors", 6), ("bound", 7), ("strict", 8)]) (g := (gTup K 3 (gCons (gName 6) (gCons (gName 7) (gCons (gName 8) gNil))))) (tt := tYes) rfl sc_Problem___init__.nd (piListK (K := K) rfl (pv 2)) (blkOk_by (own := [("factors", 6), ("bound", 7), ("strict", 8)]) (by kernel_rfl)) (fun _ _ _ _ _ => (pgTupK (K := K) rfl rfl (pgs_cons (pg_name (i := 6) sc_Problem___init__.nd rfl (.inl rfl)) (pgs_cons (pg_name (i := 7) sc_Problem___init__.nd rfl (.inl rfl)) (pgs_cons (pg_name (i := 8) sc_Problem___init__.nd rfl (.inl rfl)) pgs_nil))))) (fun _ _ _ _ _ => pts_nil) (fun _ _ _ _ _ => (pe_tup (pa_cons (pe_callTy (tupK (K := K) rfl) rfl T.f_tuple (by decide +kernel) (pa_cons (pe_lc (own := [("factor", 5)]) (g := (gName 5)) (tt := tYes) rfl sc_Problem___init__.nd (piListK (K := K) rfl (pv 6)) (blkOk_by (own := [("factor", 5)]) (by kernel_rfl)) (fun _ _ _ _ _ => (pg_name (i := 5) sc_Problem___init__.nd rfl (.inl rfl))) (fun _ _ _ _ _ => pts_nil) (fun _ _ _ _ _ => (C8.pe_c c_ratio_of hr (by first | decide | omega) rfl (pa_cons (pv 5) pa_nil)))) pa_nil)) (pa_cons (C8.pe_c c_ratio_of hr (by first | decide | omega) rfl (pa_cons (pv 7) pa_nil)) (pa_cons (pv 8) pa_nil)))))) rfl))))), ?_⟩)
  · obtain ⟨_, _, _, _, _, rfl, _⟩ := h
    rfl
  · obtain ⟨p, dx, a, n, rows, rfl, hp, ⟨vr, hr', rr⟩, hn, hz, hl, q⟩ := h
    have lr1 : vr.length = rows.length := rr.1
    refine ⟨_, rfl, _, _, _, rfl, by omega, by omega, _, rfl, iteF ?_⟩
    refine ⟨_, rfl, a, _, rfl, hr', for_enum (K := K) (a := a) (xs := vr) (fun i σ H' => ∃ l3 l4 : Option V, σ = [some (.ref p), some (.int n), some (.ref a), l3, l4, none, none, none, none] ∧ Same H H')
      ⟨none, none, rfl, Same.refl H⟩ (fun i σ H' ⟨_, _, _, s⟩ => s.seq hr') ?_ ?_⟩
    · rintro i x Tp σ H' hx ⟨l3, l4, rfl, s⟩ nT
      obtain ⟨r, er, hrow⟩ := rr.of_v hx
      have s2 : Same H' (upd H' Tp (.tup [.int (i : Nat), x])) := Same.new nT
      have s3 := s.trans s2
      have hlr := hl r (List.mem_of_getElem? er)
      refine ⟨Tp, _, rfl, SqT.of upd_same, rfl, _, _, rfl, _, _, rfl, rfl, ?_⟩
      refine ⟨_, rfl, _, rfl, x, r, by rw [hlr]; rfl, hrow.mono s3, by omega, fun H4 s4 => ?_⟩
      exact ⟨_, rfl, iteF ⟨_, _, rfl, s3.trans s4⟩⟩
    · rintro σ H1 ⟨l3, l4, rfl, s⟩
      have hp1 := s _ _ hp
      refine ⟨_, rfl, _, rfl, p, C, dx, _, rfl, hp1, PK.cls, PK.size, by decide, ?_⟩
      have f2 : Pf p H (upd H1 p (.ins C dx (putF "own_size" (V.int n) []))) := (Pf.of s).trans Pf.put
      have hp2 : upd H1 p (.ins C dx (putF "own_size" (V.int n) [])) p = some (.ins C dx [(Str.ofString "own_size", V.int n)]) := upd_same
      have hb2 := f2.lst hp hr'
      have rr2 : ∀ (i : Nat) (r : PRow), rows[i]? = some r → ∃ v, vr[i]? = some v ∧ ∃ t ta vb vf, v = .ref t ∧ SqT K (upd H1 p (.ins C dx (putF "own_size" (V.int n) []))) t [.ref ta, vb, .bl r.s] ∧ SqL K (upd H1 p (.ins C dx (putF "own_size" (V.int n) []))) ta vf ∧ RL K (upd H1 p (.ins C dx (putF "own_size" (V.int n) []))) vf r.f ∧ RV K (upd H1 p (.ins C dx (putF "own_size" (V.int n) []))) vb r.b := fun i r er => by
        obtain ⟨v, ev, t, ta, vb, rfl, ht, ⟨vf, hf, rf⟩, hb⟩ := rr.2 i r er
        have ts := (f2.mv hp).ts
        exact ⟨_, ev, t, ta, vb, vf, rfl, ts.tup ht, f2.lst hp hf, rf.ts ts, hb.ts ts⟩
      generalize upd H1 p (.ins C dx (putF "own_size" (V.int n) [])) = H2 at f2 hp2 hb2 rr2 ⊢
      refine ⟨_, rfl, a, rfl, ⟨_, hb2⟩, fun lr nlr => ?_⟩
      refine lc_list (K := K) (a := a) (xs := vr) (fun i H' => Same H2 H' ∧ ∃ acc, H' lr = some (.lst acc) ∧ RowsL false K H' acc (rows.take i)) ⟨Same.new nlr, [], upd_same, by rw [List.take_zero]; exact ⟨rfl, fun i r h => by simp at h⟩⟩ (fun i H' _ g => g.1.seq hb2) ?_ ?_
      · rintro i u H' hu ⟨s2, acc, hD, hacc⟩
        have hi : i < rows.length := by rw [← lr1]; exact (List.getElem?_eq_some_iff.mp hu).1
        obtain ⟨v, ev, t, ta, vb, vf, rfl, ht, hf, rf, hb⟩ := rr2 i _ (List.getElem?_eq_getElem hi)
        rw [ev] at hu
        cases hu
        have hlr := hl _ (List.getElem_mem hi)
        have lvf : vf.length = n := by rw [rf.1, hlr]
        refine ⟨t, _, rfl, Same.tup s2 ht, rfl, _, _, rfl, _, _, rfl, _, _, rfl, rfl, rfl, tyes ?_⟩
        refine ⟨_, rfl, ta, rfl, ⟨_, s2.seq hf⟩, fun D2 nD2 => ?_⟩
        refine lc_list (K := K) (a := ta) (xs := vf) (fun j H4 => Same H' H4 ∧ H4 D2 = some (.lst (vf.take j))) ⟨Same.new nD2, upd_same⟩ (fun j H4 _ g => (s2.trans g.1).seq hf) ?_ ?_
        · rintro j u4 H4 hu4 ⟨s4, hD4⟩
          obtain ⟨x4, ex4, hx4⟩ := rf.of_v hu4
          refine ⟨rfl, tyes ⟨_, rfl, u4, x4, rfl, hx4.mono (s2.trans s4), _, hD4, ?_, Same.mut s4 nD2, ?_⟩⟩
          · rw [List.length_take]
            exact Nat.lt_of_le_of_lt (Nat.le_trans (Nat.min_le_right _ _) (show vf.length ≤ 100 by omega)) (by decide)
          · rw [upd_same, take_snoc hu4]
        · rintro H4 ⟨s4, hD4⟩
          rw [List.take_length] at hD4
          refine ⟨D2, vf, rfl, .inl ⟨SqL.of hD4, fun l nl => ?_⟩⟩
          have s5 := Same.new (o := .tup vf) nl
          have s25 := (s2.trans s4).trans s5
          refine ⟨_, rfl, vb, _, rfl, hb.mono s25, ?_⟩
          refine ⟨_, rfl, by show 3 ≤ sizeLine; decide, fun y ny => ?_⟩
          have s6 := Same.new (o := .tup [.ref l, vb, .bl rows[i].s]) ny
          have s26 := s25.trans s6
          have hD6 : upd (upd H4 l (.tup vf)) y (.tup [.ref l, vb, .bl rows[i].s]) lr = some (.lst acc) := ((s4.trans s5).trans s6) _ _ hD
          refine ⟨acc, hD6, ?_, Same.mut s26 nlr, acc ++ [.ref y], upd_same, ?_⟩
          · rw [hacc.1, List.length_take]
            exact Nat.lt_of_le_of_lt (Nat.le_trans (Nat.min_le_right _ _) hz) (by decide)
          · rw [take_snoc (List.getElem?_eq_getElem hi)]
            have hrow : RowV false K (upd (upd H4 l (.tup vf)) y (.tup [.ref l, vb, .bl rows[i].s])) (.ref y) rows[i] :=
              ⟨y, l, vb, rfl, SqT.of upd_same, ⟨vf, SqT.of (s6 _ _ upd_same), rf.mono s26⟩, hb.mono s26⟩
            exact rowsL_snoc ((rowsL_ts (hacc.mono ((s4.trans s5).trans s6)) (TS.lst hD6))) (rowV_ts hrow (TS.lst hD6))
      · rintro H3 ⟨s3, acc, hD, hacc⟩
        rw [lr1, List.take_length] at hacc
        have hp3 := s3 _ _ hp2
        refine ⟨_, rfl, p, C, dx, _, rfl, hp3, PK.cls, PK.rows, by show 1 < 1000; decide, ?_⟩
        have lrp : lr ≠ p := ne_of hD hp3 (fun z => by cases z)
        refine q _ lr ((f2.trans (Pf.of s3)).trans Pf.put) ⟨upd_same, acc, SqL.of ((upd_ne lrp).trans hD), rowsL_ts hacc (TS.ins hp3)⟩
end
end MM
namespace MM
open PySem PySem.Spec PyProof.Rows L2 LamX
section
variable {P : Program} {w : World} {K : PySem.W.Frag} {mg : Str → Option Value} {base : Heap} {f : Addr} {fd : FuncData} {C : Addr}
def spSize (K : PySem.W.Frag) (C : Addr) : Sp := fun vs H Q _ => ∃ (p dx lr : Addr) (n : Nat) (rows : List PRow), vs = [.ref p] ∧ PrAt K C H p dx lr n rows ∧ Q (.int n) H
theorem ok_size (PK : PC_ K C) (F : FnP K "size" "Problem.size" s_Problem_size f fd) (T : Txt K mg) : FnOk P w K mg base C8.CX0 1 f fd ["self"] (spSize K C) := by
  refine F.ok sc_Problem_size (fun vs H Q E h => ?_) (fun cdv A outer s H vs Q E hr h => ⟨_, PSs.nox (pss_one (ps_ret (fldK (K := K) rfl (pv 0) rfl))), ?_⟩)
  · obtain ⟨_, _, _, _, _, rfl, _⟩ := h
    rfl
  · obtain ⟨p, dx, lr, n, rows, rfl, t, q⟩ := h
    exact ⟨_, rfl, p, C, dx, _, _, rfl, t.ob, PK.cls, PK.size, rfl, q⟩
def spRowsM (K : PySem.W.Frag) (C : Addr) : Sp := fun vs H Q _ => ∃ (p dx lr : Addr) (n : Nat) (rows : List PRow), vs = [.ref p] ∧ PrAt K C H p dx lr n rows ∧ ∀ l H', Same H H' → RowsAt false K H' l rows → Q (.ref l) H'
theorem ok_rows (PK : PC_ K C) (F : FnP K "rows" "Problem.rows" s_Problem_rows f fd) (T : Txt K mg) : FnOk P w K mg base C8.CX0 1 f fd ["self"] (spRowsM K C) := by
  refine F.ok sc_Problem_rows (fun vs H Q E h => ?_) (fun cdv A outer s H vs Q E hr h => ⟨_, PSs.nox (pss_one (ps_ret (pe_callTy (listK (K := K) rfl) rfl T.f_list (by decide +kernel) (pa_cons (fldK (K := K) rfl (pv 0) rfl) pa_nil)))), ?_⟩)
  · obtain ⟨_, _, _, _, _, rfl, _⟩ := h
    rfl
  · obtain ⟨p, dx, lr, n, rows, rfl, t, q⟩ := h
    obtain ⟨vr, h1, h2⟩ := t.ls
    refine ⟨_, rfl, p, C, dx, _, _, rfl, t.ob, PK.cls, PK.rows, rfl, lr, vr, rfl, .inl h1, fun l nl => ?_⟩
    exact q l _ (Same.new nl) ⟨vr, SqL.of upd_same, h2.mono (Same.new nl)⟩
def spKeeps (K : PySem.W.Frag) (C : Addr) : Sp := fun vs H Q _ => ∃ (p dx lr b : Addr) (rows : List PRow) (ws : List Rat) (ka kw ks : Nat), vs = [.ref p, .ref b, .bl false] ∧ PrAt K C H p dx lr ws.length rows ∧ SR true K H b ws ∧ ws.length ≤ 1000 ∧
  (∀ r ∈ rows, r.f.length = ws.length ∧ Mm.Lt ka r.b ∧ (∀ x ∈ r.f, Mm.Lt ka x) ∧ (∀ i, i ≤ ws.length → Mm.Lt ks (psum r.f ws i)) ∧ psum r.f ws ws.length ≤ r.b ∧ (r.s = true → psum r.f ws ws.length ≠ r.b)) ∧
  (∀ x ∈ ws, Mm.Lt kw x ∧ 0 ≤ x) ∧ ks + (ka + kw) ≤ 9000 ∧ RetB H Q true
theorem ok_keeps {kws : List (Str × V)} (PK : PC_ K C) (F : FunD K "keeps" "Problem.keeps" (defArgs s_Problem_keeps) (defBody s_Problem_keeps) (defScope s_Problem_keeps) [] kws f fd) (T : Txt K mg) (c_is_ratio : C8.Cal P w K mg base 2 "is_ratio" (spRatio K) []) (c_dot : C8.Cal P w K mg base 3 "dot" (spDot K) []) (c_below : C8.Cal P w K mg base 1 "below" (spBelow K) []) : FnOk P w K mg base C8.CX0 4 f fd ["self", "values", "loose"] (spKeeps K C) := by
  refine F.ok sc_Problem_keeps (fun vs H Q E h => ?_) (fun cdv A outer s H vs Q E hr h => ⟨_, PSs.nox (pss_cons (ps_if (PW.pt (pw_or (pt_not (pt_val (pe_callB (isiTK (K := K) rfl) rfl T.f_isinstance (by decide +kernel) (pa_cons (pv 1) (pa_cons (pe_tup (pa_cons (pe_bltn (v := .ty "list") rfl T.f_list (by decide +kernel) rfl) (pa_cons (pe_bltn (v := .ty "tuple") rfl T.f_tuple (by decide +kernel) rfl) pa_nil))) pa_nil))))) (pw_or1 (pt_cmpR op_ne (pe_callB (lenK (K := K) rfl) rfl T.f_len (by decide +kernel) (pa_cons (pv 1) pa_nil)) (fldK (K := K) rfl (pv 0) rfl) (nomark _))))) (pss_one (ps_ret pe_bl)) pss_nil)
 (pss_cons (ps_if (pt_not (pt_val (pe_callB (allK (K := K) rfl rfl) rfl T.f_all (by decide +kernel) (pa_cons (pe_lc (own := [("value", 3)]) (g := (gName 3)) (tt := tYes) rfl sc_Problem_keeps.nd (piListK (K := K) rfl (pv 1)) (blkOk_by (own := [("value", 3)]) (by kernel_rfl)) (fun _ _ _ _ _ => (pg_name (i := 3) sc_Problem_keeps.nd rfl (.inl rfl))) (fun _ _ _ _ _ => pts_nil) (fun _ _ _ _ _ => (pe_and (C8.pe_c c_is_ratio hr (by first | decide | omega) rfl (pa_cons (pv 3) pa_nil)) (pe_one (pe_cmpR op_ge (pe_ix (ixK (K := K) rfl) (pv 3) pe_int (fun _ _ => rfl)) pe_int (nomark _)))))) pa_nil)))) (pss_one (ps_ret pe_bl)) pss_nil)
 (pss_cons (ps_for PassesOwn.never rfl (piListK (K := K) rfl (fldK (K := K) rfl (pv 0) rfl)) (pgTupK (K := K) rfl rfl (pgs_cons (pg_name (i := 4) sc_Problem_keeps.nd rfl (.inl rfl)) (pgs_cons (pg_name (i := 5) sc_Problem_keeps.nd rfl (.inl rfl)) (pgs_cons (pg_name (i := 6) sc_Problem_keeps.nd rfl (.inl rfl)) pgs_nil)))) (pss_cons (ps_set (i := 7) sc_Problem_keeps.nd rfl (.inl rfl) (C8.pe_c c_dot hr (by first | decide | omega) rfl (pa_cons (pv 4) (pa_cons (pv 1) pa_nil))))
 (pss_one (ps_if (PW.pt (pw_or (pt_val (C8.pe_c c_below hr (by first | decide | omega) rfl (pa_cons (pv 5) (pa_cons (pv 7) pa_nil)))) (pw_or1 (PW.pt (pw_and (pt_val (pv 6)) (pw_and (pt_not (pt_val (pv 2))) (pw_and1 (pt_cmpR (eqRK (K := K) rfl hr.units) (pv 7) (pv 5) (nomark _))))))))) (pss_one (ps_ret pe_bl)) pss_nil))))
 (pss_one (ps_ret pe_bl))))), ?_⟩)
  · obtain ⟨_, _, _, _, _, _, _, _, _, rfl, _⟩ := h
    rfl
  · obtain ⟨p, dx, lr, b, rows, ws, ka, kw, ks, rfl, t, ⟨vw, hw, rw'⟩, lw, br, bw, hk, q⟩ := h
    have hw : SqL K H b vw := hw
    obtain ⟨vr, hr', rr⟩ := t.ls
    refine ⟨_, rfl, by show 2 ≤ sizeLine; decide, fun p1 np1 => ?_⟩
    have s1 : Same H (upd H p1 (.tup [.ty "list", .ty "tuple"])) := Same.new np1
    have hw1 := s1.seq hw
    have t1 := t.mono s1
    refine ⟨_, p1, _, _, _, true, rfl, upd_same, pair_lt, TyX.mono s1 hw, kit_lt_l, _, rfl, iteF ?_⟩
    refine ⟨_, rfl, _, _, rfl, .inl hw1, _, rfl, p, C, dx, _, _, rfl, t1.ob, PK.cls, PK.size, rfl, rfl, _, rfl, ?_⟩
    rw [rw'.1, decide_eq_true rfl]
    refine iteF ⟨_, rfl, b, rfl, ⟨_, hw1⟩, fun D nD => ?_⟩
    refine lc_list (K := K) (a := b) (xs := vw) (GrowT (upd H p1 (.tup [.ty "list", .ty "tuple"])) D) (GrowT.zero nD) (fun i H2 _ g => g.1.seq hw1) ?_ ?_
    · intro i u H2 hu g
      obtain ⟨x, ex, hux⟩ := rw'.of_v hu
      have hi := (List.getElem?_eq_some_iff.mp ex).1
      have hux2 := hux.mono (s1.trans g.1)
      have x0 : (0 : Int) ≤ x.num := Mm.nonneg_num.mp (bw x (List.mem_of_getElem? ex)).2
      refine ⟨rfl, tyes ⟨_, rfl, _, x, rfl, hux2, _, rfl, iteT ⟨_, rfl, ix_num hux2 ⟨_, _, rfl, rfl, ?_⟩⟩⟩⟩
      obtain ⟨acc, h1, h2, h3⟩ := g.step nD (Same.refl _) (by omega)
      refine ⟨acc, h1, h2, ?_⟩
      show GrowT _ D (i + 1) (upd H2 D (.lst (acc ++ [.bl (decide ((0 : Int) ≤ x.num))])))
      rw [decide_eq_true x0]
      exact h3
    · intro H2 g
      refine ⟨D, _, rfl, SqL.of g.2, _, rfl, ?_⟩
      rw [all_true]
      have s2 := s1.trans g.1
      have t2 := t.mono s2
      refine iteF ⟨_, rfl, p, C, dx, _, _, rfl, t2.ob, PK.cls, PK.rows, rfl, lr, rfl, ⟨_, s2.seq hr'⟩, for_list (K := K) (a := lr) (xs := vr) (fun i σ H' => ∃ l4 l5 l6 l7, σ = [some (.ref p), some (.ref b), some (.bl false), none, l4, l5, l6, l7] ∧ Same H H')
        ⟨none, none, none, none, rfl, s2⟩ (fun i σ H' _ ⟨_, _, _, _, _, s⟩ => s.seq hr') ?_ ?_⟩
      · rintro i u σ H' hu ⟨l4, l5, l6, l7, rfl, sm⟩
        obtain ⟨r, er, tt, ta, vb, rfl, ht, ⟨vf, hf, rf⟩, hb⟩ := rr.of_v hu
        have hmem := List.mem_of_getElem? er
        obtain ⟨b1, b2, b3, b4, b5, b6⟩ := br r hmem
        have hf : SqT K H ta vf := hf
        refine ⟨tt, _, rfl, Same.tup sm ht, rfl, _, _, rfl, _, _, rfl, _, _, rfl, rfl, ?_⟩
        refine ⟨_, rfl, _, rfl, false, true, ta, b, r.f, ws, ka, kw, ks, rfl, ⟨vf, Same.tup sm hf, rf.mono sm⟩, ⟨vw, sm.seq hw, rw'.mono sm⟩, b1, b3, fun x hx => (bw x hx).1, fun i hi => b4 i (by omega), by omega, fun vg H1 e1 r1 => ?_⟩
        rw [b1] at r1
        have hb1 := (hb.mono sm).mono e1
        have hn : decide (r.b < psum r.f ws ws.length) = false := decide_eq_false (Rat.not_lt.mpr b5)
        refine ⟨_, rfl, _, rfl, vb, vg, r.b, _, ka, ks, rfl, hb1, r1, b2, b4 _ (Nat.le_refl _), by omega, _, rfl, ?_⟩
        rw [hn]
        refine iteF ⟨_, rfl, _, rfl, ?_⟩
        cases hs : r.s with
        | false => exact iteF (iteF ⟨_, _, _, _, rfl, sm.trans e1⟩)
        | true =>
          refine iteT ⟨_, rfl, _, rfl, iteT ⟨_, rfl, _, rfl, _, _, r1, hb1, _, rfl, ?_⟩⟩
          rw [decide_eq_false (b6 hs)]
          exact iteF ⟨_, _, _, _, rfl, sm.trans e1⟩
      · rintro σ H' ⟨l4, l5, l6, l7, rfl, sm⟩
        exact q _ sm
def spEqP (K : PySem.W.Frag) (C : Addr) : Sp := fun vs H Q _ => ∃ (p dx lr : Addr) (n : Nat) (rows : List PRow), vs = [.ref p, .ref p] ∧ PrAt K C H p dx lr n rows ∧ Q (.bl true) H
theorem ok_eqp (PK : PC_ K C) (F : FnP K "__eq__" "Problem.__eq__" s_Problem___eq__ f fd) (T : Txt K mg) (g_Problem : ∃ u, mg "Problem" = some u ∧ RelV (.ref C) u) (i_Problem : C8.InsC K C) : FnOk P w K mg base C8.CX0 1 f fd ["self", "other"] (spEqP K C) := by
  refine F.ok sc_Problem___eq__ (fun vs H Q E h => ?_) (fun cdv A outer s H vs Q E hr h => ⟨_, PSs.nox (pss_one (ps_ret (pe_and (pe_callB (C8.call_isC i_Problem) rfl T.f_isinstance (by decide +kernel) (pa_cons (pv 1) (pa_cons (C8.pe_gc rfl g_Problem) pa_nil))) (pe_and (pe_cmpR op_eq (fldK (K := K) rfl (pv 0) rfl) (fldK (K := K) rfl (pv 1) rfl) (nomark _)) (pe_one (pe_cmpR (eqDK (K := K) rfl hr.units) (fldK (K := K) rfl (pv 0) rfl) (fldK (K := K) rfl (pv 1) rfl) (nomark _))))))), ?_⟩)
  · obtain ⟨_, _, _, _, _, rfl, _⟩ := h
    rfl
  · obtain ⟨p, dx, lr, n, rows, rfl, t, q⟩ := h
    obtain ⟨vr, h1, h2⟩ := t.ls
    have dp : Dp K H (.ref lr) (.list (rows.map (rowD false))) := .lst h1 h2.dp
    refine ⟨_, rfl, p, dx, _, rfl, t.ob, _, rfl, iteT ?_⟩
    refine ⟨_, rfl, p, C, dx, _, _, rfl, t.ob, PK.cls, PK.size, rfl, _, rfl, p, C, dx, _, _, rfl, t.ob, PK.cls, PK.size, rfl, rfl, _, rfl, ?_⟩
    rw [if_pos (decide_eq_true rfl)]
    refine ⟨_, rfl, p, C, dx, _, _, rfl, t.ob, PK.cls, PK.rows, rfl, _, rfl, p, C, dx, _, _, rfl, t.ob, PK.cls, PK.rows, rfl, _, _, dp, dp, sh_rows false rows, sh_rows false rows, ?_⟩
    rw [PySem.SeqAt.eqv_refl (.list (rows.map (rowD false))) (lay_rows false rows)]
    exact q
end
end MM
namespace MM
open PySem PySem.Spec PyProof.Rows L2 LamX NdefX
abbrev s_Barred_holds : Stmt := (inClass (topS 35) 3)
theorem sc_Barred_holds : FnScope ["self", "rows", "factors", "bound", "factor", "weight", "row"] ["self"] (defScope s_Barred_holds) := C8.fnScope_by (by decide +kernel)
abbrev s_Solved_holds : Stmt := (inClass (topS 34) 3)
theorem sc_Solved_holds : FnScope ["self"] ["self"] (defScope s_Solved_holds) := C8.fnScope_by (by decide +kernel)
abbrev s_Solved_numbers : Stmt := (inClass (topS 34) 2)
theorem sc_Solved_numbers : FnScope ["self"] ["self"] (defScope s_Solved_numbers) := C8.fnScope_by (by decide +kernel)
abbrev s_Barred_weights : Stmt := (inClass (topS 35) 2)
theorem sc_Barred_weights : FnScope ["self"] ["self"] (defScope s_Barred_weights) := C8.fnScope_by (by decide +kernel)
abbrev s_Solved___bool__ : Stmt := (inClass (topS 34) 4)
theorem sc_Solved___bool__ : FnScope ["self"] ["self"] (defScope s_Solved___bool__) := C8.fnScope_by (by decide +kernel)
abbrev s_Answer___bool__ : Stmt := (inClass (topS 33) 5)
theorem sc_Answer___bool__ : FnScope ["self"] ["self"] (defScope s_Answer___bool__) := C8.fnScope_by (by decide +kernel)
abbrev s_SInit : Stmt := inClass (topS 34) 1
abbrev s_BInit : Stmt := inClass (topS 35) 1
def superO (st : Stmt) : Expr := match defBody st with
  | .Expr (.Call (.Attribute o _ _) _ _ _) _ :: _ => o
  | _ => .Constant .none 0 ⟨0, 0, 0, 0⟩
def plS (st : Stmt) (env : Env) : Sem Bool := do return (← importBound (superO st) env).getD true
section
variable {P : Program} {w : World} {K : PySem.W.Frag} {mg : Str → Option Value} {base : Heap} {f : Addr} {fd : FuncData} {C : Addr}
def spAInit (K : PySem.W.Frag) : Sp := fun vs H Q _ => ∃ (a dx C : Addr) (v : V), vs = [.ref a, v] ∧ H a = some (.ins C dx []) ∧ Cls K C ∧ NoAttr K C "own_problem" ∧ Q .non (upd H a (.ins C dx [(Str.ofString "own_problem", v)]))
theorem ok_ainit (F : FnP K "__init__" "Answer.__init__" s_Answer___init__ f fd) (T : Txt K mg) : FnOk P w K mg base C8.CX0 1 f fd ["self", "problem"] (spAInit K) := by
  refine F.ok sc_Answer___init__ (fun vs H Q E h => ?_) (fun cdv A outer s H vs Q E hr h => ⟨_, PSs.nox (pss_one (psFldK (K := K) rfl (pv 0) (pv 1) rfl)), ?_⟩)
  · obtain ⟨_, _, _, _, rfl, _⟩ := h
    rfl
  · obtain ⟨a, dx, C, v, rfl, ha, hc, hn, q⟩ := h
    exact ⟨_, rfl, _, rfl, a, C, dx, _, rfl, ha, hc, hn, by decide, q⟩
def fldA (x : Str) (p lv : Addr) : List (Str × V) := [(Str.ofString "own_problem", V.ref p), (x, V.ref lv)]
structure AC (K : PySem.W.Frag) (C : Addr) (x : Str) : Prop where
  cls : Cls K C
  prob : NoAttr K C "own_problem"
  vals : NoAttr K C x
def spAns (K : PySem.W.Frag) (C : Addr) (x : Str) : Sp := fun vs H Q _ => ∃ (a dx p b : Addr) (ws : List Rat), vs = [.ref a, .ref p, .ref b] ∧ H a = some (.ins C dx []) ∧ SR true K H b ws ∧ ws.length ≤ 1000 ∧
  ∀ H' lv, Pf a H H' → H' a = some (.ins C dx (fldA x p lv)) → SR true K H' lv ws → Q .non H'
def nfS (cc cda : Addr) : NF := ⟨"__init__", "Solved.__init__", defArgs s_SInit, defBody s_SInit, defScope s_SInit, [(Str.ofString "__class__", cc)], cda⟩
theorem ok_sinit {cc cda f2 : Addr} {fd2 : FuncData} (S : SupF P K (nfS cc cda) f C cc f2 "__init__") (hfd : ∃ (oc : Value) (od : Option Addr) (osl : Array (Option Value)), K.lookup f = some ⟨oc, od, .func fd, osl⟩) (htop : (P.main.scope.names.lookup ("super" : Str)).isSome = false) (AK : AC K C "own_values") (T : Txt K mg)
    (G : FnR P w K mg base C8.CX0 1 f2 (spAInit K)) (c_as_list : C8.Cal P w K mg base 3 "as_list" (spAsList K) []) : FnOk P w K mg base C8.CX0 5 f fd ["self", "problem", "values"] (spAns K C "own_values") := by
  refine ok_super (k := 4) (N := ["self", "problem", "values", "__class__"]) (ar := ⟨"self", none, _⟩) (pl := plS s_SInit) S (nscope_by (sc := defScope s_SInit) (by decide +kernel)) (G.mono (by decide)) hfd (show (defScope s_SInit).names.lookup (Str.ofString "super") = some .globalImplicit by decide +kernel) (show (defScope s_SInit).names.lookup (Str.ofString "self") = some .local by decide +kernel) rfl T.f_super htop (by decide) rfl rfl (fun vs H Q E h => ?_) (fun A outer s H vs Q E hr h => ?_) (fun L => rfl) (fun L => rfl) (fun L => rfl) (fun L => rfl) (fun L => rfl)
  · obtain ⟨_, _, _, _, _, rfl, _⟩ := h
    rfl
  · obtain ⟨a, dx, p, b, ws, rfl, ha, hb, hz, q⟩ := h
    refine ⟨_, _, a, dx, [], pa_cons (pv 1) pa_nil, pss_one (psFldK (K := K) rfl (pv 0) (C8.pe_c c_as_list hr (by decide) rfl (pa_cons (pv 2) pa_nil)) rfl), rfl, ha, ?_⟩
    have f1 : Pf a H (upd H a (.ins C dx [(Str.ofString "own_problem", V.ref p)])) := Pf.put
    obtain ⟨vb, hb1, hb2⟩ := hb
    have hb1 : SqL K H b vb := hb1
    refine ⟨_, rfl, a, dx, C, .ref p, rfl, ha, AK.cls, AK.prob, ?_⟩
    refine ⟨_, rfl, b, ws, rfl, ⟨vb, f1.lst ha hb1, hb2.ts (f1.mv ha).ts⟩, hz, fun D acc H' s nD hD hacc => ?_⟩
    have ha' : H' a = some (.ins C dx [(Str.ofString "own_problem", V.ref p)]) := s _ _ upd_same
    refine ⟨_, rfl, a, C, dx, _, rfl, ha', AK.cls, AK.vals, by show 1 < 1000; decide, ?_⟩
    have nDa : D ≠ a := ne_of hD ha' (fun z => by cases z)
    exact q _ D ((f1.trans (Pf.of s)).trans Pf.put) upd_same ⟨acc, SqL.of ((upd_ne nDa).trans hD), hacc.ts (TS.ins ha')⟩
def nfB (cc cda : Addr) : NF := ⟨"__init__", "Barred.__init__", defArgs s_BInit, defBody s_BInit, defScope s_BInit, [(Str.ofString "__class__", cc)], cda⟩
theorem ok_binit {cc cda f2 : Addr} (S : SupF P K (nfB cc cda) f C cc f2 "__init__") (hfd : ∃ (oc : Value) (od : Option Addr) (osl : Array (Option Value)), K.lookup f = some ⟨oc, od, .func fd, osl⟩) (htop : (P.main.scope.names.lookup ("super" : Str)).isSome = false) (AK : AC K C "own_weights") (T : Txt K mg)
    (G : FnR P w K mg base C8.CX0 1 f2 (spAInit K)) (c_as_list : C8.Cal P w K mg base 3 "as_list" (spAsList K) []) : FnOk P w K mg base C8.CX0 5 f fd ["self", "problem", "weights"] (spAns K C "own_weights") := by
  refine ok_super (k := 4) (N := ["self", "problem", "weights", "__class__"]) (ar := ⟨"self", none, _⟩) (pl := plS s_BInit) S (nscope_by (sc := defScope s_BInit) (by decide +kernel)) (G.mono (by decide)) hfd (show (defScope s_BInit).names.lookup (Str.ofString "super") = some .globalImplicit by decide +kernel) (show (defScope s_BInit).names.lookup (Str.ofString "self") = some .local by decide +kernel) rfl T.f_super htop (by decide) rfl rfl (fun vs H Q E h => ?_) (fun A outer s H vs Q E hr h => ?_) (fun L => rfl) (fun L => rfl) (fun L => rfl) (fun L => rfl) (fun L => rfl)
  · obtain ⟨_, _, _, _, _, rfl, _⟩ := h
    rfl
  · obtain ⟨a, dx, p, b, ws, rfl, ha, hb, hz, q⟩ := h
    refine ⟨_, _, a, dx, [], pa_cons (pv 1) pa_nil, pss_one (psFldK (K := K) rfl (pv 0) (C8.pe_c c_as_list hr (by decide) rfl (pa_cons (pv 2) pa_nil)) rfl), rfl, ha, ?_⟩
    have f1 : Pf a H (upd H a (.ins C dx [(Str.ofString "own_problem", V.ref p)])) := Pf.put
    obtain ⟨vb, hb1, hb2⟩ := hb
    have hb1 : SqL K H b vb := hb1
    refine ⟨_, rfl, a, dx, C, .ref p, rfl, ha, AK.cls, AK.prob, ?_⟩
    refine ⟨_, rfl, b, ws, rfl, ⟨vb, f1.lst ha hb1, hb2.ts (f1.mv ha).ts⟩, hz, fun D acc H' s nD hD hacc => ?_⟩
    have ha' : H' a = some (.ins C dx [(Str.ofString "own_problem", V.ref p)]) := s _ _ upd_same
    refine ⟨_, rfl, a, C, dx, _, rfl, ha', AK.cls, AK.vals, by show 1 < 1000; decide, ?_⟩
    have nDa : D ≠ a := ne_of hD ha' (fun z => by cases z)
    exact q _ D ((f1.trans (Pf.of s)).trans Pf.put) upd_same ⟨acc, SqL.of ((upd_ne nDa).trans hD), hacc.ts (TS.ins ha')⟩
/-! ### the answers' methods -/
def spProb (K : PySem.W.Frag) : Sp := fun vs H Q _ => ∃ (a dx C : Addr) (fs : List (Str × V)) (v : V), vs = [.ref a] ∧ H a = some (.ins C dx fs) ∧ Cls K C ∧ NoAttr K C "own_problem" ∧ fs.lookup (Str.ofString "own_problem") = some v ∧ Q v H
theorem ok_problem (F : FnP K "problem" "Answer.problem" s_Answer_problem f fd) (T : Txt K mg) : FnOk P w K mg base C8.CX0 1 f fd ["self"] (spProb K) := by
  refine F.ok sc_Answer_problem (fun vs H Q E h => ?_) (fun cdv A outer s H vs Q E hr h => ⟨_, PSs.nox (pss_one (ps_ret (fldK (K := K) rfl (pv 0) rfl))), ?_⟩)
  · obtain ⟨_, _, _, _, _, rfl, _⟩ := h
    rfl
  · obtain ⟨a, dx, C, fs, v, rfl, ha, hc, hn, hl, q⟩ := h
    exact ⟨_, rfl, a, C, dx, fs, v, rfl, ha, hc, hn, hl, q⟩
def spTrue : Sp := fun vs H Q _ => ∃ a : V, vs = [a] ∧ Q (.bl true) H
def spFalse : Sp := fun vs H Q _ => ∃ a : V, vs = [a] ∧ Q (.bl false) H
theorem ok_sbool (F : FnP K "__bool__" "Solved.__bool__" s_Solved___bool__ f fd) (T : Txt K mg) : FnOk P w K mg base C8.CX0 1 f fd ["self"] spTrue := by
  refine F.ok sc_Solved___bool__ (fun vs H Q E h => ?_) (fun cdv A outer s H vs Q E hr h => ⟨_, PSs.nox (pss_one (ps_ret pe_bl)), ?_⟩)
  · obtain ⟨_, rfl, _⟩ := h
    rfl
  · obtain ⟨a, rfl, q⟩ := h
    exact q
theorem ok_abool (F : FnP K "__bool__" "Answer.__bool__" s_Answer___bool__ f fd) (T : Txt K mg) : FnOk P w K mg base C8.CX0 1 f fd ["self"] spFalse := by
  refine F.ok sc_Answer___bool__ (fun vs H Q E h => ?_) (fun cdv A outer s H vs Q E hr h => ⟨_, PSs.nox (pss_one (ps_ret pe_bl)), ?_⟩)
  · obtain ⟨_, rfl, _⟩ := h
    rfl
  · obtain ⟨a, rfl, q⟩ := h
    exact q
def spNums (K : PySem.W.Frag) (C : Addr) (x : Str) : Sp := fun vs H Q _ => ∃ (a dx p lv : Addr) (ws : List Rat), vs = [.ref a] ∧ H a = some (.ins C dx (fldA x p lv)) ∧ SR true K H lv ws ∧ ws.length ≤ 1000 ∧ RetL K H Q ws
theorem ok_numbers (AK : AC K C "own_values") (F : FnP K "numbers" "Solved.numbers" s_Solved_numbers f fd) (T : Txt K mg) (c_as_list : C8.Cal P w K mg base 3 "as_list" (spAsList K) []) : FnOk P w K mg base C8.CX0 4 f fd ["self"] (spNums K C "own_values") := by
  refine F.ok sc_Solved_numbers (fun vs H Q E h => ?_) (fun cdv A outer s H vs Q E hr h => ⟨_, PSs.nox (pss_one (ps_ret (C8.pe_c c_as_list hr (by first | decide | omega) rfl (pa_cons (fldK (K := K) rfl (pv 0) rfl) pa_nil)))), ?_⟩)
  · obtain ⟨_, _, _, _, _, rfl, _⟩ := h
    rfl
  · obtain ⟨a, dx, p, lv, ws, rfl, ha, hl, hz, q⟩ := h
    exact ⟨_, rfl, a, C, dx, _, _, rfl, ha, AK.cls, AK.vals, rfl, lv, ws, rfl, hl, hz, q⟩
theorem ok_bweights (AK : AC K C "own_weights") (F : FnP K "weights" "Barred.weights" s_Barred_weights f fd) (T : Txt K mg) (c_as_list : C8.Cal P w K mg base 3 "as_list" (spAsList K) []) : FnOk P w K mg base C8.CX0 4 f fd ["self"] (spNums K C "own_weights") := by
  refine F.ok sc_Barred_weights (fun vs H Q E h => ?_) (fun cdv A outer s H vs Q E hr h => ⟨_, PSs.nox (pss_one (ps_ret (C8.pe_c c_as_list hr (by first | decide | omega) rfl (pa_cons (fldK (K := K) rfl (pv 0) rfl) pa_nil)))), ?_⟩)
  · obtain ⟨_, _, _, _, _, rfl, _⟩ := h
    rfl
  · obtain ⟨a, dx, p, lv, ws, rfl, ha, hl, hz, q⟩ := h
    exact ⟨_, rfl, a, C, dx, _, _, rfl, ha, AK.cls, AK.vals, rfl, lv, ws, rfl, hl, hz, q⟩
end
end MM
namespace MM
open PySem PySem.Spec PyProof.Rows L2 LamX NdefX
/-- a property of the class at C -/
structure Prp (P : Program) (w : World) (K : PySem.W.Frag) (mg : Str → Option Value) (base : Heap) (k : Nat) (C : Addr) (f : Str) (sp : Sp) : Prop where
  ex : ∃ (p g : Addr) (fd : FuncData) (ps : List Str), Cls K C ∧ PropOf K C f p g ∧ FnOk P w K mg base C8.CX0 k g fd ps sp ∧ L2.Binds K fd ps []
section
variable {X : Cx} {k j : Nat} {C : Addr} {f : Str} {sp : Sp} {e : Expr} {pos : Pos} {ta : TE}
theorem pe_pp (c : Prp X.prog X.w X.K X.mg X.base k C f sp) (hr : Room j X.A) (hk : k + 1 ≤ j) (he : PE X e ta) (hab : attributeBase e f X.env (eval e X.env) = eval e X.env) : PE X (.Attribute e f pos) (tProp C sp [] C8.E0 ta) := by
  obtain ⟨p, g, fd, ps, hc, hp, F, hb⟩ := c.ex
  exact pe_prop he hc hp F (hr.mono hk) hb .nil C8.pass0 hab
end
/-- the list of truths that grows -/
def GrowB (H : Hp) (D : Addr) (bs : Nat → Bool) (i : Nat) (H' : Hp) : Prop := Same H H' ∧ H' D = some (.lst (((List.range i).map bs).map V.bl))
theorem GrowB.zero {H : Hp} {D : Addr} {bs : Nat → Bool} (h : H D = none) : GrowB H D bs 0 (upd H D (.lst [])) := ⟨Same.new h, upd_same⟩
theorem GrowB.step {H H' H4 : Hp} {D : Addr} {bs : Nat → Bool} {i : Nat} {b : Bool} (hD : H D = none) (g : GrowB H D bs i H') (e : Same H' H4) (hb : b = bs i) (hz : i ≤ 100000) :
    ∃ acc, H4 D = some (.lst acc) ∧ acc.length < sizeLine ∧ GrowB H D bs (i + 1) (upd H4 D (.lst (acc ++ [.bl b]))) := by
  refine ⟨_, e _ _ g.2, ?_, Same.mut (g.1.trans e) hD, ?_⟩
  · rw [List.length_map, List.length_map, List.length_range]
    exact Nat.lt_of_le_of_lt hz (by decide)
  · rw [upd_same, List.range_succ, List.map_append, List.map_append, hb]
    rfl
theorem any_range {bs : Nat → Bool} {n : Nat} : ((List.range n).map bs).any id = true ↔ ∃ i, i < n ∧ bs i = true := by
  rw [List.any_map, List.any_eq_true]
  exact ⟨fun ⟨i, h1, h2⟩ => ⟨i, List.mem_range.mp h1, h2⟩, fun ⟨i, h1, h2⟩ => ⟨i, List.mem_range.mpr h1, h2⟩⟩
section
variable {P : Program} {w : World} {K : PySem.W.Frag} {mg : Str → Option Value} {base : Heap} {f : Addr} {fd : FuncData} {C CP : Addr}
def spSHolds (K : PySem.W.Frag) (C CP : Addr) : Sp := fun vs H Q _ => ∃ (a dx p lv dp lr : Addr) (rows : List PRow) (ws : List Rat) (ka kw ks : Nat), vs = [.ref a] ∧ H a = some (.ins C dx (fldA "own_values" p lv)) ∧ PrAt K CP H p dp lr ws.length rows ∧ SR true K H lv ws ∧ ws.length ≤ 1000 ∧
  (∀ r ∈ rows, r.f.length = ws.length ∧ Mm.Lt ka r.b ∧ (∀ x ∈ r.f, Mm.Lt ka x) ∧ (∀ i, i ≤ ws.length → Mm.Lt ks (psum r.f ws i)) ∧ psum r.f ws ws.length ≤ r.b ∧ (r.s = true → psum r.f ws ws.length ≠ r.b)) ∧
  (∀ x ∈ ws, Mm.Lt kw x ∧ 0 ≤ x) ∧ ks + (ka + kw) ≤ 9000 ∧ RetB H Q true
theorem ok_sholds (AK : AC K C "own_values") (F : FnP K "holds" "Solved.holds" s_Solved_holds f fd) (T : Txt K mg) (c_keeps : C8.Met P w K mg base 4 CP "keeps" (spKeeps K CP) [.bl false]) : FnOk P w K mg base C8.CX0 5 f fd ["self"] (spSHolds K C CP) := by
  refine F.ok sc_Solved_holds (fun vs H Q E h => ?_) (fun cdv A outer s H vs Q E hr h => ⟨_, PSs.nox (pss_one (ps_ret (C8.pe_mt c_keeps hr (by first | decide | omega) (fldK (K := K) rfl (pv 0) rfl) (pa_cons (fldK (K := K) rfl (pv 0) rfl) pa_nil)))), ?_⟩)
  · obtain ⟨_, _, _, _, _, _, _, _, _, _, _, rfl, _⟩ := h
    rfl
  · obtain ⟨a, dx, p, lv, dp, lr, rows, ws, ka, kw, ks, rfl, ha, hp, hl, hz, hr', hw, hk, q⟩ := h
    exact ⟨_, rfl, a, C, dx, _, _, rfl, ha, AK.cls, AK.prob, rfl, p, dp, _, rfl, hp.ob, rfl, _, rfl, a, C, dx, _, _, rfl, ha, AK.cls, AK.vals, rfl, p, dp, lr, lv, rows, ws, ka, kw, ks, rfl, hp, hl, hz, hr', hw, hk, q⟩
def spBHolds (K : PySem.W.Frag) (C CP : Addr) : Sp := fun vs H Q _ => ∃ (a dx p lv dp lr : Addr) (n : Nat) (rows : List PRow) (ws : List Rat) (ka kw ks : Nat), vs = [.ref a] ∧ H a = some (.ins C dx (fldA "own_weights" p lv)) ∧ PrAt K CP H p dp lr n rows ∧ SR true K H lv ws ∧ ws.length = rows.length ∧ n ≤ 1000 ∧ rows.length ≤ 1000 ∧ 0 < ka ∧
  (∀ r ∈ rows, r.f.length = n ∧ Mm.Lt ka r.b ∧ ∀ x ∈ r.f, Mm.Lt ka x) ∧ (∀ x ∈ ws, Mm.Lt kw x ∧ 0 ≤ x) ∧ (∀ j i, i ≤ rows.length → Mm.Lt ks (psum ws (colR rows j) i)) ∧ (∀ i, i ≤ rows.length → Mm.Lt ks (psum ws (bndR rows) i)) ∧ ks + (kw + ka) ≤ 9000 ∧
  (∀ j, j < n → 0 ≤ psum ws (colR rows j) rows.length) ∧ (psum ws (bndR rows) rows.length < 0 ∨ (psum ws (bndR rows) rows.length = 0 ∧ ∃ i r, rows[i]? = some r ∧ r.s = true ∧ 0 < ws.getD i 0)) ∧ RetB H Q true
theorem ok_bholds (AK : AC K C "own_weights") (F : FnP K "holds" "Barred.holds" s_Barred_holds f fd) (T : Txt K mg) (c_rows : C8.Met P w K mg base 1 CP "rows" (spRowsM K CP) []) (c_size : Prp P w K mg base 1 CP "size" (spSize K CP)) (c_are_ratios : C8.Cal P w K mg base 3 "are_ratios" (spAreR K) []) (c_least_weights : C8.Cal P w K mg base 4 "least_weights" (spLeast K) []) : FnOk P w K mg base C8.CX0 5 f fd ["self"] (spBHolds K C CP) := by
  refine F.ok sc_Barred_holds (fun vs H Q E h => ?_) (fun cdv A outer s H vs Q E hr h => ⟨_, PSs.nox (pss_cons (ps_set (i := 1) sc_Barred_holds.nd rfl (.inl rfl) (C8.pe_mt0 c_rows hr (by first | decide | omega) (fldK (K := K) rfl (pv 0) rfl)))
 (pss_cons (ps_if (pt_not (pt_val (C8.pe_c c_are_ratios hr (by first | decide | omega) rfl (pa_cons (fldK (K := K) rfl (pv 0) rfl) (pa_cons (pe_callB (lenK (K := K) rfl) rfl T.f_len (by decide +kernel) (pa_cons (pv 1) pa_nil)) pa_nil))))) (pss_one (ps_ret pe_bl)) pss_nil)
 (pss_cons (ps_asg (C8.pe_c c_least_weights hr (by first | decide | omega) rfl (pa_cons (pe_pp c_size hr (by first | decide | omega) (fldK (K := K) rfl (pv 0) rfl) rfl) (pa_cons (pv 1) (pa_cons (fldK (K := K) rfl (pv 0) rfl) pa_nil)))) (pgTupK (K := K) rfl rfl (pgs_cons (pg_name (i := 2) sc_Barred_holds.nd rfl (.inl rfl)) (pgs_cons (pg_name (i := 3) sc_Barred_holds.nd rfl (.inl rfl)) pgs_nil))))
 (pss_cons (ps_if (PW.pt (pw_or (pt_val (pe_callB (anyK (K := K) rfl rfl) rfl T.f_any (by decide +kernel) (pa_cons (pe_lc (own := [("factor", 4)]) (g := (gName 4)) (tt := tYes) rfl sc_Barred_holds.nd (piListK (K := K) rfl (pv 2)) (blkOk_by (own := [("factor", 4)]) (by kernel_rfl)) (fun _ _ _ _ _ => (pg_name (i := 4) sc_Barred_holds.nd rfl (.inl rfl))) (fun _ _ _ _ _ => pts_nil) (fun _ _ _ _ _ => (pe_cmpR op_lt (pe_ix (ixK (K := K) rfl) (pv 4) pe_int (fun _ _ => rfl)) pe_int (nomark _)))) pa_nil))) (pw_or1 (pt_cmpR op_gt (pe_ix (ixK (K := K) rfl) (pv 3) pe_int (fun _ _ => rfl)) pe_int (nomark _))))) (pss_one (ps_ret pe_bl)) pss_nil)
 (pss_one (ps_ret (pe_or (pe_cmpR op_lt (pe_ix (ixK (K := K) rfl) (pv 3) pe_int (fun _ _ => rfl)) pe_int (nomark _)) (pe_one (pe_callB (anyK (K := K) rfl rfl) rfl T.f_any (by decide +kernel) (pa_cons (pe_lc (own := [("weight", 5), ("row", 6)]) (g := (gTup K 2 (gCons (gName 5) (gCons (gName 6) gNil)))) (tt := tYes) rfl sc_Barred_holds.nd (piZipK (K := K) rfl rfl T.f_zip (pa_cons (fldK (K := K) rfl (pv 0) rfl) (pa_cons (pv 1) pa_nil))) (blkOk_by (own := [("weight", 5), ("row", 6)]) (by kernel_rfl)) (fun _ _ _ _ _ => (pgTupK (K := K) rfl rfl (pgs_cons (pg_name (i := 5) sc_Barred_holds.nd rfl (.inl rfl)) (pgs_cons (pg_name (i := 6) sc_Barred_holds.nd rfl (.inl rfl)) pgs_nil)))) (fun _ _ _ _ _ => pts_nil) (fun _ _ _ _ _ => (pe_and (pe_cmpR op_gt (pe_ix (ixK (K := K) rfl) (pv 5) pe_int (fun _ _ => rfl)) pe_int (nomark _)) (pe_one (pe_ix (ixK (K := K) rfl) (pv 6) pe_int (fun _ _ => rfl)))))) pa_nil)))))))))), ?_⟩)
  · obtain ⟨_, _, _, _, _, _, _, _, _, _, _, _, rfl, _⟩ := h
    rfl
  · obtain ⟨a, dx, p, lv, dp, lr, n, rows, ws, ka, kw, ks, rfl, ha, hp, hl, hlen, hn, hz, hka, hr', hw, hc, hb, hk, hcs, hbs, q⟩ := h
    refine ⟨_, rfl, a, C, dx, _, _, rfl, ha, AK.cls, AK.prob, rfl, p, dp, _, rfl, hp.ob, rfl, p, dp, lr, n, rows, rfl, hp, fun l H1 s1 ⟨vr, hl1, hrr⟩ => ?_⟩
    have ha1 := s1 _ _ ha
    have hp1 := hp.mono s1
    have hl1' : SqL K H1 l vr := hl1
    have hlv1 := SR.mono hl s1
    have lvr : vr.length = rows.length := hrr.1
    refine ⟨_, rfl, a, C, dx, _, _, rfl, ha1, AK.cls, AK.vals, rfl, _, rfl, _, _, rfl, .inl hl1', lv, ws, by rw [lvr, ← hlen]; rfl, hlv1, by omega, fun x hx => (hw x hx).2, fun H2 s2 => ?_⟩
    refine ⟨_, rfl, iteF ?_⟩
    have s12 := s1.trans s2
    have ha2 := s12 _ _ ha
    have hp2 := hp.mono s12
    have hlv2 := SR.mono hl s12
    refine ⟨_, rfl, a, C, dx, _, _, rfl, ha2, AK.cls, AK.prob, rfl, p, dp, _, rfl, hp2.ob, p, dp, lr, n, rows, rfl, hp2, ?_⟩
    refine ⟨_, rfl, _, rfl, a, C, dx, _, _, rfl, ha2, AK.cls, AK.vals, rfl, n, l, lv, rows, ws, kw, ka, ks, rfl, ⟨vr, s2.seq hl1, hrr.mono s2⟩, hlv2, hlen, hn, hz, fun r hr => (hr' r hr).1, fun x hx => (hw x hx).1, fun r hr => (hr' r hr).2, hka, hc, hb, hk, fun tp tq vb H3 s3 ht hq hvb => ?_⟩
    refine ⟨tp, _, rfl, ht, rfl, _, _, rfl, _, _, rfl, rfl, ?_⟩
    obtain ⟨vz, hz1, hz2⟩ := hq
    have hz1 : SqL K H3 tq vz := hz1
    have lz : vz.length = n := by rw [hz2.1, List.length_map, List.length_range]
    have s13 := s12.trans s3
    refine ⟨_, rfl, tq, rfl, ⟨_, hz1⟩, fun D nD => ?_⟩
    refine lc_list (K := K) (a := tq) (xs := vz) (GrowB H3 D (fun _ => false)) (GrowB.zero nD) (fun i H' _ g => g.1.seq hz1) ?_ ?_
    · intro i u H' hu g
      obtain ⟨x, ex, hux⟩ := hz2.of_v hu
      have x0 : 0 ≤ x := by
        obtain ⟨j, hj, rfl⟩ := List.mem_map.mp (List.mem_of_getElem? ex)
        exact hcs j (List.mem_range.mp hj)
      have hi : i < n := by rw [← lz]; exact (List.getElem?_eq_some_iff.mp hu).1
      refine ⟨rfl, tyes ⟨_, rfl, ix_num (hux.mono g.1) ⟨_, _, rfl, rfl, ?_⟩⟩⟩
      exact g.step nD (Same.refl _) (decide_eq_false (Int.not_lt.mpr (Mm.nonneg_num.mp x0))) (by omega)
    intro H4 g4
    have hany : (((List.range vz.length).map (fun _ => false)).any id) = false := by
      cases e : ((List.range vz.length).map (fun _ => false)).any id with
      | false => rfl
      | true => obtain ⟨i, _, h⟩ := any_range.mp e; cases h
    refine ⟨D, _, rfl, SqL.of g4.2, _, rfl, ?_⟩
    rw [hany]
    have hvb4 := hvb.mono g4.1
    have hb0 : psum ws (bndR rows) rows.length ≤ 0 := by
      rcases hbs with h | ⟨h, _⟩
      · exact Rat.le_of_lt h
      · rw [h]; exact Rat.le_refl
    refine iteF ⟨_, rfl, ix_num hvb4 ⟨_, _, rfl, rfl, _, rfl, ?_⟩⟩
    have c1 : ¬ (0 : Int) < (psum ws (bndR rows) rows.length).num := fun z => by
      have := Mm.pos_num.mpr z
      grind
    rw [decide_eq_false c1]
    refine iteF ⟨_, rfl, ix_num hvb4 ⟨_, _, rfl, rfl, _, rfl, ?_⟩⟩
    have s14 := s13.trans g4.1
    refine ite2 (fun c => ?_) (fun c => ?_)
    · exact c ▸ q _ s14
    · have hz0 : psum ws (bndR rows) rows.length = 0 ∧ ∃ i r, rows[i]? = some r ∧ r.s = true ∧ 0 < ws.getD i 0 := hbs.resolve_left fun z => c (decide_eq_true (Mm.neg_num.mp z))
      obtain ⟨_, i0, r0, er0, es0, ew0⟩ := hz0
      have ha4 := s14 _ _ ha
      obtain ⟨vw, hw1, hw2⟩ := SR.mono hl s14
      have hw1 : SqL K H4 lv vw := hw1
      have hr4 := ((s2.trans s3).trans g4.1).seq hl1'
      have hrr4 := hrr.mono ((s2.trans s3).trans g4.1)
      refine ⟨_, rfl, a, C, dx, _, _, rfl, ha4, AK.cls, AK.vals, rfl, _, rfl, true, true, lv, l, vw, vr, rfl, hw1, hr4, fun D2 nD2 => ?_⟩
      refine lc_zipG (K := K) (k1 := true) (k2 := true) (a := lv) (b := l) (xs := vw) (ys := vr) (by rw [hw2.1, lvr, hlen]) (GrowB H4 D2 (fun i => decide (0 < ws.getD i 0) && ((rows[i]?).map (·.s)).getD false)) (GrowB.zero nD2) (fun i H' g => ⟨g.1.seq hw1, g.1.seq hr4⟩) ?_ ?_
      · rintro i u v t H' hu hv g nt
        obtain ⟨x, ex, hux⟩ := hw2.of_v hu
        obtain ⟨r, er, tr, ta, vbd, rfl, htr, _, _⟩ := hrr4.of_v hv
        have hi := (List.getElem?_eq_some_iff.mp er).1
        have s5 : Same H' (upd H' t (.tup [u, .ref tr])) := Same.new nt
        have s45 := g.1.trans s5
        have egd : ws.getD i 0 = x := getD_of ex
        have ers : ((rows[i]?).map (·.s)).getD false = r.s := by rw [er]; rfl
        refine ⟨t, [u, .ref tr], rfl, .inl (.inl upd_same), rfl, u, [.ref tr], rfl, .ref tr, [], rfl, rfl, rfl, tyes ?_⟩
        refine ⟨_, rfl, ix_num (hux.mono s45) ⟨_, _, rfl, rfl, _, rfl, ?_⟩⟩
        refine ite2 (fun c5 => ?_) (fun c5 => ?_)
        · refine ⟨_, rfl, ix_t (j := 2) rfl (Same.tup s45 htr) rfl ?_⟩
          refine g.step nD2 s5 ?_ (by omega)
          show r.s = (decide (0 < ws.getD i 0) && ((rows[i]?).map (·.s)).getD false)
          rw [egd, ers, decide_eq_true (Mm.pos_num.mpr (of_decide_eq_true c5))]; rfl
        · refine g.step nD2 s5 ?_ (by omega)
          show false = (decide (0 < ws.getD i 0) && ((rows[i]?).map (·.s)).getD false)
          rw [egd, decide_eq_false (fun z => c5 (decide_eq_true (Mm.pos_num.mp z)))]; rfl
      · intro H5 g5
        have hlw : vw.length = rows.length := by rw [hw2.1, hlen]
        have hi0 := (List.getElem?_eq_some_iff.mp er0).1
        have hT : ((List.range vw.length).map (fun i => decide (0 < ws.getD i 0) && ((rows[i]?).map (·.s)).getD false)).any id = true := any_range.mpr ⟨i0, by omega, by
          show (decide (0 < ws.getD i0 0) && ((rows[i0]?).map (·.s)).getD false) = true
          rw [er0, decide_eq_true ew0]; exact es0⟩
        refine ⟨D2, _, rfl, SqL.of g5.2, ?_⟩
        rw [hT]
        exact q _ (s14.trans g5.1)
end
end MM
namespace MM
open PySem PySem.Spec PyProof.Rows L2 LamX NdefX
open Mm (Tab)
def mrow (r : PRow) : Mm.Row := ⟨r.f, r.b, r.s⟩
section
variable {K : PySem.W.Frag} {H H' : Hp} {a b : Addr} {xs ys : List V} {Q : VK}
theorem cat_any (ha : SqT K H a xs) (hb : SqT K H b ys) (hy : ys ≠ []) (hz : xs.length + ys.length ≤ 1000) (q : ∀ g H', Same H H' → SqT K H' g (xs ++ ys) → Q (.ref g) H') : rCatA K (.ref a) (.ref b) H Q :=
  ⟨a, b, xs, ys, rfl, rfl, ha, hb, Nat.le_trans hz (by decide), fun e => q b H (Same.refl H) (by rw [e]; exact hb), fun _ e => absurd e hy, fun _ _ p np => q p _ (Same.new np) (SqT.of upd_same)⟩
theorem flat_rep (n : Nat) (x : V) : (List.replicate n [x]).flatten = List.replicate n x := by
  induction n with
  | zero => rfl
  | succ n ih => rw [List.replicate_succ, List.flatten_cons, ih]; rfl
theorem rep_any {x : V} {n : Nat} (ha : SqT K H a [x]) (hn : n ≤ 1000) (q : ∀ g H', Same H H' → SqT K H' g (List.replicate n x) → Q (.ref g) H') : rRepA K (.ref a) (.int (n : Int)) H Q :=
  ⟨a, n, [x], rfl, rfl, ha, by simp, hn, by simp, fun e => q a H (Same.refl H) (by subst e; exact ha), fun _ p np => q p _ (Same.new np) (by rw [flat_rep]; exact SqT.of upd_same)⟩
theorem Rows2.snoc {vs : List V} {rs : List (List Rat × Rat)} {v : V} {r : List Rat × Rat} (h : Rows2 K H vs rs) (hv : Row2 K H v r) : Rows2 K H (vs ++ [v]) (rs ++ [r]) := by
  refine ⟨by rw [List.length_append, List.length_append, h.1]; rfl, fun i q e => ?_⟩
  by_cases c : i < rs.length
  · rw [List.getElem?_append_left c] at e
    rw [List.getElem?_append_left (by rw [h.1]; exact c)]
    exact h.2 i q e
  · rw [List.getElem?_append_right (by omega)] at e
    have : i - rs.length = 0 := by
      have := (List.getElem?_eq_some_iff.mp e).1
      simp at this
      omega
    rw [this] at e
    cases e
    rw [List.getElem?_append_right (by rw [h.1]; omega), h.1, this]
    exact ⟨v, rfl, hv⟩
theorem rl_rep (hx : ∀ H, RV K H (.ref a) 0) : ∀ n, RL K H (List.replicate n (.ref a)) (List.replicate n 0)
  | 0 => RL.nil
  | n + 1 => by
    rw [List.replicate_succ, List.replicate_succ]
    exact RL.cons (hx H) (rl_rep hx n)
/-- the heap without its tables -/
def strip (H : Hp) : Hp := fun b => match H b with
  | some (.tbl _) => none
  | o => o
theorem strip_nt (b : Addr) (ps : Array Value) : strip H b ≠ some (.tbl ps) := fun e => by
  unfold strip at e
  split at e
  · cases e
  · rename_i h
    exact h ps e
theorem strip_some {o : HO} (h : H b = some o) (n : ∀ ps, o ≠ .tbl ps) : strip H b = some o := by
  unfold strip
  rw [h]
  split
  · rename_i ps e
    exact absurd (Option.some.inj e) (n ps)
  · rfl
theorem strip_none (h : H b = none) : strip H b = none := by
  unfold strip
  rw [h]
theorem strip_ext : ExtN (strip H) H := fun b o e n => by
  unfold strip at e
  split at e
  · cases e
  · exact e
theorem ext_strip {H0 : Hp} (x : ExtN H0 H) (y : ExtN (strip H) H') : ExtN H0 H' := fun b o e n => y b o (strip_some (x b o e n) n) n
theorem same_strip (y : ExtN (strip H) H') : ExtN H H' := fun b o e n => y b o (strip_some e n) n
theorem PrAt.extN {C p dx lr : Addr} {n : Nat} {rows : List PRow} (h : PrAt K C H p dx lr n rows) (e : ExtN H H') : PrAt K C H' p dx lr n rows := by
  obtain ⟨vr, h1, h2⟩ := h.ls
  exact ⟨e _ _ h.ob (fun _ z => by cases z), vr, sqL_ext e h1, rowsL_ts h2 e.ts⟩
end
section
variable {P : Program} {w : World} {K : PySem.W.Frag} {mg : Str → Option Value} {base : Heap} {f : Addr} {fd : FuncData} {C CP CT CS CB : Addr}
def ansX (b : Bool) : Str := match b with
  | true => "own_values"
  | false => "own_weights"
def ansC (CS CB : Addr) (b : Bool) : Addr := match b with
  | true => CS
  | false => CB
def spSolve (K : PySem.W.Frag) (CP CS CB Pt : Addr) : Sp := fun vs H Q _ => ∃ (H0 : Hp) (p dp lr : Addr) (n k : Nat) (rows : List PRow) (b : Bool) (vals : List Rat), vs = [.ref p] ∧ (∀ b ps, H0 b ≠ some (.tbl ps)) ∧ ExtN H0 H ∧ Tabs [(Pt, lamQ)] H ∧ PrAt K CP H p dp lr n rows ∧ n ≤ 60 ∧ rows.length ≤ 99 ∧ (∀ r ∈ rows, r.f.length = n ∧ ∀ x ∈ r.f, Mm.Lt k x) ∧ 2 ≤ k ∧ k ≤ 2200 ∧ Mm.Solve k n (rows.map mrow) b vals ∧
  ∀ H' a dx lv, ExtN H0 H' → Tabs [(Pt, lamQ)] H' → H' a = some (.ins (ansC CS CB b) dx (fldA (ansX b) p lv)) → SR true K H' lv vals → Q (.ref a) H'
theorem ok_solve {Pt : Addr} (PK : PC_ K CP) (TK : TC K CT) (F : FnP K "solve" "Problem.solve" s_Problem_solve f fd) (T : Txt K mg) (c_Tableau : C8.Mak P w K mg base 4 "Tableau" CT (spTInit K CT) []) (c_begin : C8.Met P w K mg base 7 CT "begin" (spBegin K CT Pt) []) (c_aim : C8.Met P w K mg base 3 CT "aim" (spAim K CT) [])
    (c_improve : C8.Met P w K mg base 6 CT "improve" (spImprove K CT Pt) []) (c_present : C8.Met P w K mg base 1 CT "present" (spPresent K CT) []) (c_weights : C8.Met P w K mg base 4 CT "weights" (spWeights K CT) []) (c_Solved : C8.Mak P w K mg base 5 "Solved" CS (spAns K CS "own_values") []) (c_Barred : C8.Mak P w K mg base 5 "Barred" CB (spAns K CB "own_weights") []) : FnOk P w K mg base C8.CX0 8 f fd ["self"] (spSolve K CP CS CB Pt) := by
  refine F.ok sc_Problem_solve (fun vs H Q E h => ?_) (fun cdv A outer s H vs Q E hr h => ⟨_, PSs.nox (pss_cons (ps_setLc (i := 1) (own := [("factors", 2), ("bound", 3), ("strict", 4)]) (g := (gTup K 3 (gCons (gName 2) (gCons (gName 3) (gCons (gName 4) gNil))))) (tt := tYes) rfl sc_Problem_solve.nd rfl rfl (sw_true rfl rfl rfl (by decide +kernel)) (piListK (K := K) rfl (fldK (K := K) rfl (pv 0) rfl)) (blkOk_by (own := [("factors", 2), ("bound", 3), ("strict", 4)]) (by kernel_rfl)) (fun _ _ _ _ _ => (pgTupK (K := K) rfl rfl (pgs_cons (pg_name (i := 2) sc_Problem_solve.nd rfl (.inl rfl)) (pgs_cons (pg_name (i := 3) sc_Problem_solve.nd rfl (.inl rfl)) (pgs_cons (pg_name (i := 4) sc_Problem_solve.nd rfl (.inl rfl)) pgs_nil))))) (fun _ _ _ _ _ => pts_nil) (fun _ _ _ _ _ => (pe_tup (pa_cons (pe_op (catTK (K := K) rfl) (pv 2) (pe_tup (pa_cons (pe_tup (pa_cons (pe_callTy call_int1 rfl T.f_int (by decide +kernel) (pa_cons (pv 4) pa_nil)) (pa_cons pe_int pa_nil))) pa_nil))) (pa_cons (pv 3) pa_nil)))))
 (pss_cons (ps_set (i := 5) sc_Problem_solve.nd rfl (.inl rfl) (pe_tup (pa_cons (pe_op (catTK (K := K) rfl) (pe_op (repA (K := K) rfl) (pe_tup (pa_cons (C8.pe_gc rfl T.gZ) pa_nil)) (fldK (K := K) rfl (pv 0) rfl)) (pe_tup (pa_cons (C8.pe_gc rfl T.gO) pa_nil))) (pa_cons (C8.pe_gc rfl T.gO) pa_nil))))
 (pss_cons (ps_set (i := 6) sc_Problem_solve.nd rfl (.inl rfl) (C8.pe_mk c_Tableau hr (by first | decide | omega) rfl (pa_cons (pe_op op_add (fldK (K := K) rfl (pv 0) rfl) pe_int) (pa_cons (pe_lst (starK (K := K) rfl (pv 1) (pa_cons (pv 5) pa_nil))) pa_nil))))
 (pss_cons (ps_set (i := 7) sc_Problem_solve.nd rfl (.inl rfl) (C8.pe_mt0 c_begin hr (by first | decide | omega) (pv 6)))
 (pss_cons (ps_if (pt_val (pv 7)) (pss_cons (ps_expr (C8.pe_mt c_aim hr (by first | decide | omega) (pv 6) (pa_cons (pe_op op_cat (pe_op op_rep (pe_lst (pa_cons (C8.pe_gc rfl T.gZ) pa_nil)) (fldK (K := K) rfl (pv 0) rfl)) (pe_lst (pa_cons (C8.pe_gc rfl T.gO) pa_nil))) pa_nil)))
 (pss_cons (ps_expr (C8.pe_mt0 c_improve hr (by first | decide | omega) (pv 6)))
 (pss_one (ps_if (pt_cmpR op_gt (pe_ix (ixK (K := K) rfl) (pe_ix (ixK (K := K) rfl) (fldK (K := K) rfl (pv 6) rfl) pe_int (fun _ _ => rfl)) pe_int (fun _ _ => rfl)) pe_int (nomark _)) (pss_one (ps_ret (C8.pe_mk c_Solved hr (by first | decide | omega) rfl (pa_cons (pv 0) (pa_cons (pe_slice (slK (K := K) rfl) (C8.pe_mt0 c_present hr (by first | decide | omega) (pv 6)) po_none (po_some (fldK (K := K) rfl (pv 0) rfl))) pa_nil))))) pss_nil)))) pss_nil)
 (pss_one (ps_ret (C8.pe_mk c_Barred hr (by first | decide | omega) rfl (pa_cons (pv 0) (pa_cons (pe_slice (slK (K := K) rfl) (C8.pe_mt0 c_weights hr (by first | decide | omega) (pv 6)) po_none (po_some (pe_callB (lenK (K := K) rfl) rfl T.f_len (by decide +kernel) (pa_cons (fldK (K := K) rfl (pv 0) rfl) pa_nil)))) pa_nil)))))))))), ?_⟩)
  · obtain ⟨_, _, _, _, _, _, _, _, _, rfl, _⟩ := h
    rfl
  · obtain ⟨H0, p, dp, lr, n, k, rows, b, vals, rfl, nt, ex, tb, hp, hn, hz, hl, hk2, hk, so, q⟩ := h
    obtain ⟨vr, hr', rr⟩ := hp.ls
    have lvr : vr.length = rows.length := rr.1
    -- the rows of the tableau
    let sl : List (List Rat × Rat) := rows.map fun r => (r.f ++ [if r.s then 1 else 0], r.b)
    have lsl : sl.length = rows.length := List.length_map ..
    refine ⟨_, rfl, p, CP, dp, _, _, rfl, hp.ob, PK.cls, PK.rows, rfl, lr, rfl, ⟨_, hr'⟩, fun D nD => ?_⟩
    refine lc_list (K := K) (a := lr) (xs := vr) (fun i H' => Same H H' ∧ ∃ acc, H' D = some (.lst acc) ∧ Rows2 K H' acc (sl.take i)) ⟨Same.new nD, [], upd_same, by rw [List.take_zero]; exact ⟨rfl, fun i r h => by simp at h⟩⟩ (fun i H' _ g => g.1.seq hr') ?_ ?_
    · rintro i u H' hu ⟨s, acc, hD, hacc⟩
      obtain ⟨r, er, t, ta, vb, rfl, ht, ⟨vf, hf, rf⟩, hb⟩ := rr.of_v hu
      have hf : SqT K H ta vf := hf
      have hmem := List.mem_of_getElem? er
      have hi := (List.getElem?_eq_some_iff.mp er).1
      have lvf : vf.length = n := by rw [rf.1, (hl r hmem).1]
      refine ⟨t, _, rfl, Same.tup s ht, rfl, _, _, rfl, _, _, rfl, _, _, rfl, rfl, rfl, tyes ?_⟩
      refine ⟨_, rfl, _, rfl, .inr ⟨r.s, rfl, by show 2 ≤ sizeLine; decide, fun e ne => ?_⟩⟩
      have s1 := Same.new (o := .tup [.int (if r.s = true then 1 else 0), .int 1]) ne
      have hve : RV K (upd H' e (.tup [.int (if r.s = true then 1 else 0), .int 1])) (.ref e) (if r.s then 1 else 0) := by
        cases r.s
        · exact RV.new rfl rfl
        · exact RV.new rfl rfl
      generalize upd H' e (.tup [.int (if r.s = true then 1 else 0), .int 1]) = H1 at s1 hve ⊢
      refine ⟨by show 1 ≤ sizeLine; decide, fun e1 ne1 => ?_⟩
      have s2 := Same.new (o := .tup [.ref e]) ne1
      have he1 : SqT K (upd H1 e1 (.tup [.ref e])) e1 [.ref e] := SqT.of upd_same
      have hve2 := hve.mono s2
      generalize upd H1 e1 (.tup [.ref e]) = H2 at s2 he1 hve2 ⊢
      have s02 := (s.trans s1).trans s2
      refine cat_any (K := K) (Same.tup s02 hf) he1 (by simp) (by rw [lvf]; show n + 1 ≤ 1000; omega) fun g H3 s3 hg => ?_
      refine ⟨_, rfl, by show 2 ≤ sizeLine; decide, fun y ny => ?_⟩
      have s4 := Same.new (o := .tup [.ref g, vb]) ny
      have s04 := (s02.trans s3).trans s4
      have s14 := (s1.trans s2).trans (s3.trans s4)
      have hD4 := s14 _ _ hD
      have hrow : Row2 K (upd H3 y (.tup [.ref g, vb])) (.ref y) (r.f ++ [if r.s then 1 else 0], r.b) :=
        ⟨y, g, vb, rfl, SqT.of upd_same, ⟨vf ++ [.ref e], Same.tup s4 hg, (rf.mono s04).snoc (hve2.mono (s3.trans s4))⟩, hb.mono s04⟩
      refine ⟨acc, hD4, ?_, Same.mut s04 nD, acc ++ [.ref y], upd_same, ?_⟩
      · rw [hacc.1, List.length_take]
        exact Nat.lt_of_le_of_lt (Nat.le_trans (Nat.min_le_left _ _) (show i ≤ 1000 by omega)) (by decide)
      · have esl : sl[i]? = some (r.f ++ [if r.s then 1 else 0], r.b) := by
          show (rows.map _)[i]? = _
          rw [List.getElem?_map, er]; rfl
        rw [take_snoc esl]
        exact ((hacc.mono s14).snoc hrow).ts (TS.lst hD4)
    rintro H1 ⟨s1, acc, hD, hacc⟩
    rw [lvr, ← lsl, List.take_length] at hacc
    have hp1 := hp.mono s1
    -- last
    refine ⟨by show 1 ≤ sizeLine; decide, fun z0 nz0 => ?_⟩
    have s2 := Same.new (o := .tup [.ref (zA K)]) nz0
    have hz0 : SqT K (upd H1 z0 (.tup [.ref (zA K)])) z0 [.ref (zA K)] := SqT.of upd_same
    generalize upd H1 z0 (.tup [.ref (zA K)]) = H2 at s2 hz0 ⊢
    have hp2 := hp1.mono s2
    refine ⟨_, rfl, p, CP, dp, _, _, rfl, hp2.ob, PK.cls, PK.size, rfl, ?_⟩
    refine rep_any (K := K) hz0 (by omega) fun g3 H3 s3 hg3 => ?_
    refine ⟨by show 1 ≤ sizeLine; decide, fun o0 no0 => ?_⟩
    have s4 := Same.new (o := .tup [.ref (oA K)]) no0
    have ho0 : SqT K (upd H3 o0 (.tup [.ref (oA K)])) o0 [.ref (oA K)] := SqT.of upd_same
    generalize upd H3 o0 (.tup [.ref (oA K)]) = H4 at s4 ho0 ⊢
    refine cat_any (K := K) (Same.tup s4 hg3) ho0 (by simp) (by rw [List.length_replicate]; show n + 1 ≤ 1000; omega) fun g5 H5 s5 hg5 => ?_
    refine ⟨by show 2 ≤ sizeLine; decide, fun l6 nl6 => ?_⟩
    have s6 := Same.new (o := .tup [.ref g5, .ref (oA K)]) nl6
    have s16 := ((s2.trans s3).trans (s4.trans s5)).trans s6
    have hlast : Row2 K (upd H5 l6 (.tup [.ref g5, .ref (oA K)])) (.ref l6) (List.replicate n 0 ++ [1], 1) :=
      ⟨l6, g5, _, rfl, SqT.of upd_same, ⟨_, Same.tup s6 hg5, (rl_rep (fun H => T.rZ H) n).snoc (T.rO _)⟩, T.rO _⟩
    generalize upd H5 l6 (.tup [.ref g5, .ref (oA K)]) = H6 at s6 s16 hlast ⊢
    have s06 := s1.trans s16
    have hp6 := hp.mono s06
    have hD6 := s16 _ _ hD
    have hacc6 := hacc.mono s16
    -- the tableau
    refine ⟨_, rfl, p, CP, dp, _, _, rfl, hp6.ob, PK.cls, PK.size, rfl, _, _, rfl, rfl, _, rfl, D, acc, rfl, .inr (SqL.of hD6), _, rfl, ?_⟩
    have lacc : acc.length = rows.length := by rw [hacc.1, lsl]
    refine ⟨?_, fun l7 nl7 x dx nx ndx ned => ?_⟩
    · show (acc ++ [V.ref l6]).length ≤ sizeLine
      rw [List.length_append, lacc]
      exact Nat.le_trans (show rows.length + 1 ≤ 1000 by omega) (by decide)
    have s7 := Same.new (o := .lst (acc ++ [V.ref l6])) nl7
    have s07 := s06.trans s7
    have hl7 : upd H6 l7 (.lst (acc ++ [V.ref l6])) l7 = some (.lst (acc ++ [V.ref l6])) := upd_same
    have hrows7 : Rows2 K (upd H6 l7 (.lst (acc ++ [V.ref l6]))) (acc ++ [V.ref l6]) (Mm.slack n (rows.map mrow)) := by
      have e : Mm.slack n (rows.map mrow) = sl ++ [(List.replicate n 0 ++ [1], 1)] := by
        unfold Mm.slack
        rw [List.map_map]
        rfl
      rw [e]
      exact (hacc6.mono s7).snoc (hlast.mono s7)
    have hp7 := hp.mono s07
    have nx : (upd H6 l7 (.lst (acc ++ [V.ref l6]))) x = none := nx
    have ndx : (upd H6 l7 (.lst (acc ++ [V.ref l6]))) dx = none := ndx
    have ex7 := ex.same s07
    have tb7 := tb.ext s07
    have hlw : ∀ r ∈ Mm.slack n (rows.map mrow), r.1.length = n + 1 ∧ ∀ x ∈ r.1, Mm.Lt k x := by
      intro r hr
      unfold Mm.slack at hr
      rcases List.mem_append.mp hr with h | h
      · obtain ⟨q0, hq0, rfl⟩ := List.mem_map.mp h
        obtain ⟨r0, hr0, rfl⟩ := List.mem_map.mp hq0
        obtain ⟨h1, h2⟩ := hl r0 hr0
        refine ⟨by show (r0.f ++ [_]).length = n + 1; rw [List.length_append, h1]; rfl, fun y hy => ?_⟩
        rcases List.mem_append.mp hy with h3 | h3
        · exact h2 y h3
        · rw [List.mem_singleton.mp h3]
          show Mm.Lt k (if r0.s then 1 else 0)
          cases r0.s
          · exact zero_lt (by omega)
          · exact Mm.Lt.mono (k := 2) ⟨by decide, by decide⟩ hk2
      · rw [List.mem_singleton.mp h]
        refine ⟨by show (List.replicate n (0 : Rat) ++ [1]).length = n + 1; rw [List.length_append, List.length_replicate]; rfl, fun y hy => ?_⟩
        rcases List.mem_append.mp hy with h3 | h3
        · rw [(List.mem_replicate.mp h3).2]; exact zero_lt (by omega)
        · rw [List.mem_singleton.mp h3]; exact Mm.Lt.mono (k := 2) ⟨by decide, by decide⟩ hk2
    have lsk : (Mm.slack n (rows.map mrow)).length = rows.length + 1 := by
      unfold Mm.slack
      rw [List.length_append, List.length_map, List.length_map]; rfl
    generalize upd H6 l7 (.lst (acc ++ [V.ref l6])) = H7 at s7 s07 hl7 hrows7 hp7 nx ndx ex7 tb7
    have s8 : Same H7 (upd (upd H7 dx (.own x)) x (.ins CT dx [])) := (Same.new ndx).trans (Same.new (by rw [upd_ne ned.symm]; exact nx))
    refine ⟨strip H7, x, dx, l7, n + 1, k, _, _, rfl, strip_nt, (strip_ext.same s8), strip_none nx, upd_same, SqL.of (s8 _ _ hl7), hrows7.mono s8, by omega, by rw [lsk]; omega, hk, hlw, fun H9 la lb lc lg vc vg ex9 mv9 t9 fr9 => ⟨rfl, ?_⟩⟩
    have tb9 := mv9.tabs (tb7.ext s8)
    have hwm : (Tab.init (n + 1) (Mm.slack n (rows.map mrow))).width + (Tab.init (n + 1) (Mm.slack n (rows.map mrow))).many ≤ 1000 := by
      show n + 1 + (Mm.slack n (rows.map mrow)).length ≤ 1000
      rw [lsk]; omega
    have hmrow : (rows.map mrow).length = rows.length := List.length_map ..
    have hprS : ∀ H', ExtN (strip H7) H' → PrAt K CP H' p dp lr n rows := fun H' e => hp7.extN (same_strip e)
    -- what Barred says
    have fin : ∀ (H' : Hp) (T2 : Tab) (la' lc' lg' : Addr) (vc' vg' : List V) (l2 l3 l4 l7' : Option V), ExtN (strip H7) H' → Tabs [(Pt, lamQ)] H' → TblAt K CT (strip H7) H' x dx la' lb lc' lg' vc' vg' T2 → T2.goal.length = T2.rest.length + 1 → (∀ y ∈ T2.goal, Mm.Lt k y) → T2.rest.length ≤ 1000 → T2.many = rows.length + 1 → b = false → vals = T2.weights.take rows.length →
        tRet (tMake CB (spAns K CB (Str.ofString "own_weights")) [] C8.E0 (tCons (tVar 0) (tCons (tSl (rSlL K) (tMeth CT (Str.ofString "weights") (spWeights K CT) [] C8.E0 (tVar 6) tNil) tNoPart (tPart (tCB (rLenK K) (tCons (tFld K (tVar 0) (Str.ofString "own_rows")) tNil)))) tNil)))
          { nx := fun _ H' => Q .non H', rt := Q } [some (.ref p), some (.ref D), l2, l3, l4, some (.ref l6), some (.ref x), l7'] H' := by
      intro H' T2 la' lc' lg' vc' vg' l2 l3 l4 l7' e' tb' t' hg hgb hrl hm hb hv
      subst hb
      refine ⟨_, rfl, _, rfl, x, dx, _, rfl, t'.ob, rfl, strip H7, x, dx, la', lb, lc', lg', vc', vg', T2, k, rfl, t', hg, hgb, hk, by omega, hrl, fun w vs H2 s2 nw hw hwv => ?_⟩
      have lw : vs.length = rows.length + 1 := by rw [hwv.1]; show (T2.wt _).length = _; rw [wt_len, hm]
      have e2 := e'.same s2
      have pr2 := hprS _ e2
      obtain ⟨vr2, h1, h2⟩ := pr2.ls
      refine ⟨_, rfl, p, CP, dp, _, _, rfl, pr2.ob, PK.cls, PK.rows, rfl, lr, vr2, rfl, .inl h1, _, rfl, w, vs, rfl, SqL.of hw, fun c nc => ?_⟩
      have s3 := Same.new (o := .lst (cutV vs none (some ((vr2.length : Nat) : Int)))) nc
      have ec : cutV vs none (some ((vr2.length : Nat) : Int)) = vs.take rows.length := by rw [h2.1, cut_to (by omega)]
      have hc3 : upd H2 c (.lst (cutV vs none (some ((vr2.length : Nat) : Int)))) c = some (.lst (vs.take rows.length)) := by rw [ec]; exact upd_same
      have hv3 := (hwv.mono s3).take rows.length
      generalize upd H2 c (.lst (cutV vs none (some ((vr2.length : Nat) : Int)))) = H3 at s3 hc3 hv3 ⊢
      intro a da na nda nad
      have s4 : Same H3 (upd (upd H3 da (.own a)) a (.ins CB da [])) := (Same.new nda).trans (Same.new (by rw [upd_ne nad.symm]; exact na))
      refine ⟨a, da, p, c, T2.weights.take rows.length, rfl, upd_same, ⟨_, SqL.of (s4 _ _ hc3), hv3.mono s4⟩, by rw [List.length_take]; omega, fun H5 lv f5 h51 h52 => ⟨rfl, ?_⟩⟩
      have s35 : Same H3 H5 := fun b o e => by
        have ne : b ≠ a := fun z => by rw [z] at e; have := na; rw [e] at this; cases this
        exact f5 b o (s4 b o e) ne
      have s25 := (s2.trans s3).trans s35
      rw [hv] at q
      exact q H5 a da lv (ext_strip ex7 (e'.same s25)) (tb'.ext s25) h51 h52
    cases so with
    | @no T1 bg ok1 hm1 =>
      rw [hmrow] at hm1
      refine ⟨_, rfl, x, dx, _, rfl, t9.ob, rfl, strip H7, x, dx, la, lb, lc, lg, vc, vg, _, T1, false, k, rfl, ex9, tb9, t9, fr9, bg, hk2, hk, hwm, fun H10 la' lc' lg' vc' vg' ex10 tb10 t10 => ?_⟩
      refine ⟨_, rfl, _, rfl, iteF ?_⟩
      refine fin H10 T1 la' lc' lg' vc' vg' _ _ _ _ ex10 tb10 t10 ?_ ok1.gb ?_ hm1 rfl ?_
      · exact ok1.gl
      · have := ok1.n1; omega
      · rw [hmrow]
    | @yes m T1 T3 bg ok1 hin im hw3 hm3 hpos =>
      rw [hmrow] at hm3
      refine ⟨_, rfl, x, dx, _, rfl, t9.ob, rfl, strip H7, x, dx, la, lb, lc, lg, vc, vg, _, T1, true, k, rfl, ex9, tb9, t9, fr9, bg, hk2, hk, hwm, fun H10 la' lc' lg' vc' vg' ex10 tb10 t10 => ?_⟩
      refine ⟨_, rfl, _, rfl, iteT ?_⟩
      -- aim
      refine ⟨_, rfl, x, dx, _, rfl, t10.ob, rfl, by show 1 ≤ sizeLine; decide, fun z nz => ?_⟩
      have u1 := Same.new (o := .lst [.ref (zA K)]) nz
      have hz1 : upd H10 z (.lst [.ref (zA K)]) z = some (.lst [.ref (zA K)]) := upd_same
      generalize upd H10 z (.lst [.ref (zA K)]) = H11 at u1 hz1 ⊢
      have pr11 := hprS _ (ex10.same u1)
      refine ⟨_, rfl, p, CP, dp, _, _, rfl, pr11.ob, PK.cls, PK.size, rfl, z, (n : Int), _, rfl, rfl, hz1, by omega, by omega, ?_, fun g ng => ?_⟩
      · show 1 * (n : Int).toNat ≤ sizeLine
        exact Nat.le_trans (show 1 * (n : Int).toNat ≤ 1000 by omega) (by decide)
      have u2 := Same.new (o := .lst (List.replicate (n : Int).toNat [V.ref (zA K)]).flatten) ng
      have hg2 : upd H11 g (.lst (List.replicate (n : Int).toNat [V.ref (zA K)]).flatten) g = some (.lst (List.replicate n (V.ref (zA K)))) := by
        rw [upd_same, Int.toNat_natCast, flat_rep]
      generalize upd H11 g (.lst (List.replicate (n : Int).toNat [V.ref (zA K)]).flatten) = H12 at u2 hg2 ⊢
      refine ⟨by show 1 ≤ sizeLine; decide, fun o no => ?_⟩
      have u3 := Same.new (o := .lst [.ref (oA K)]) no
      have ho3 : upd H12 o (.lst [.ref (oA K)]) o = some (.lst [.ref (oA K)]) := upd_same
      have hg3 := u3 _ _ hg2
      generalize upd H12 o (.lst [.ref (oA K)]) = H13 at u3 ho3 hg3 ⊢
      refine ⟨g, o, _, _, rfl, rfl, hg3, ho3, ?_, fun a13 na13 => ?_⟩
      · rw [List.length_replicate]
        exact Nat.le_trans (show n + 1 ≤ 1000 by omega) (by decide)
      have u4 := Same.new (o := .lst (List.replicate n (V.ref (zA K)) ++ [V.ref (oA K)])) na13
      have ha4 : upd H13 a13 (.lst (List.replicate n (V.ref (zA K)) ++ [V.ref (oA K)])) a13 = some (.lst (List.replicate n (V.ref (zA K)) ++ [V.ref (oA K)])) := upd_same
      generalize upd H13 a13 (.lst (List.replicate n (V.ref (zA K)) ++ [V.ref (oA K)])) = H14 at u4 ha4 ⊢
      have u14 := (u1.trans u2).trans (u3.trans u4)
      have t14 := t10.mono u14
      refine ⟨strip H7, x, dx, la', lb, lc', lg', a13, vc', vg', T1, n, k, rfl, ex10.same u14, t14, ok1, hk, hk2, ⟨_, SqL.of ha4, (rl_rep (fun H => T.rZ H) n).snoc (T.rO _)⟩, by omega, hin, fun H15 lg5 vg5 ex15 mv15 t15 => ?_⟩
      have tb15 := mv15.tabs (tb10.ext u14)
      refine ⟨_, rfl, x, dx, _, rfl, t15.ob, rfl, strip H7, x, dx, la', lb, lc', lg5, vc', vg5, _, T3, k, m, rfl, ex15, tb15, t15, im, hk, fun H16 lg6 vc6 vg6 ex16 tb16 t16 => ?_⟩
      have ok3 := imp_ok im
      have gl3 := ok3.gl
      obtain ⟨u0, eu0, hu0⟩ := t16.gv.at (show 0 < T3.goal.length by omega)
      have ea0 : T3.goal.getD 0 0 = T3.goal[0] := getD_of (List.getElem?_eq_getElem (by omega))
      refine ⟨_, rfl, x, CT, dx, _, _, rfl, t16.ob, TK.cls, TK.goal, rfl, ix_l (j := 0) rfl (SqL.of t16.rg) eu0 (ix_num hu0 ⟨_, _, rfl, rfl, _, rfl, ?_⟩)⟩
      rw [decide_eq_true (Mm.pos_num.mp (by rw [← ea0]; exact hpos))]
      refine iteT ?_
      refine ⟨_, rfl, _, rfl, x, dx, _, rfl, t16.ob, rfl, strip H7, x, dx, la', lb, lc', lg6, vc6, vg6, T3, rfl, t16, ok3.bl, fun r hr => by rw [ok3.cl r hr]; omega, by omega, fun w vs H17 s17 nw hw hwv => ?_⟩
      have lw : vs.length = n + 1 := by rw [hwv.1]; show (T3.pr _).length = _; rw [pr_len, hw3]
      have ex17 := ex16.same s17
      have pr17 := hprS _ ex17
      refine ⟨_, rfl, p, CP, dp, _, _, rfl, pr17.ob, PK.cls, PK.size, rfl, _, rfl, w, vs, rfl, SqL.of hw, fun c nc => ?_⟩
      have s3 := Same.new (o := .lst (cutV vs none (some (n : Int)))) nc
      have ec : cutV vs none (some (n : Int)) = vs.take n := cut_to (by omega)
      have hc3 : upd H17 c (.lst (cutV vs none (some (n : Int)))) c = some (.lst (vs.take n)) := by rw [ec]; exact upd_same
      have hv3 := (hwv.mono s3).take n
      generalize upd H17 c (.lst (cutV vs none (some (n : Int)))) = H18 at s3 hc3 hv3 ⊢
      intro a da na nda nad
      have s4 : Same H18 (upd (upd H18 da (.own a)) a (.ins CS da [])) := (Same.new nda).trans (Same.new (by rw [upd_ne nad.symm]; exact na))
      refine ⟨a, da, p, c, T3.present.take n, rfl, upd_same, ⟨_, SqL.of (s4 _ _ hc3), hv3.mono s4⟩, by rw [List.length_take]; omega, fun H5 lv f5 h51 h52 => ⟨rfl, ?_⟩⟩
      have s35 : Same H18 H5 := fun b o e => by
        have ne : b ≠ a := fun z => by rw [z] at e; have := na; rw [e] at this; cases this
        exact f5 b o (s4 b o e) ne
      have s25 := (s17.trans s3).trans s35
      exact q H5 a da lv (ext_strip ex7 (ex16.same s25)) (tb16.ext s25) h51 h52
    | @flat m T1 T3 bg ok1 hin im hw3 hm3 hpos =>
      rw [hmrow] at hm3
      refine ⟨_, rfl, x, dx, _, rfl, t9.ob, rfl, strip H7, x, dx, la, lb, lc, lg, vc, vg, _, T1, true, k, rfl, ex9, tb9, t9, fr9, bg, hk2, hk, hwm, fun H10 la' lc' lg' vc' vg' ex10 tb10 t10 => ?_⟩
      refine ⟨_, rfl, _, rfl, iteT ?_⟩
      -- aim
      refine ⟨_, rfl, x, dx, _, rfl, t10.ob, rfl, by show 1 ≤ sizeLine; decide, fun z nz => ?_⟩
      have u1 := Same.new (o := .lst [.ref (zA K)]) nz
      have hz1 : upd H10 z (.lst [.ref (zA K)]) z = some (.lst [.ref (zA K)]) := upd_same
      generalize upd H10 z (.lst [.ref (zA K)]) = H11 at u1 hz1 ⊢
      have pr11 := hprS _ (ex10.same u1)
      refine ⟨_, rfl, p, CP, dp, _, _, rfl, pr11.ob, PK.cls, PK.size, rfl, z, (n : Int), _, rfl, rfl, hz1, by omega, by omega, ?_, fun g ng => ?_⟩
      · show 1 * (n : Int).toNat ≤ sizeLine
        exact Nat.le_trans (show 1 * (n : Int).toNat ≤ 1000 by omega) (by decide)
      have u2 := Same.new (o := .lst (List.replicate (n : Int).toNat [V.ref (zA K)]).flatten) ng
      have hg2 : upd H11 g (.lst (List.replicate (n : Int).toNat [V.ref (zA K)]).flatten) g = some (.lst (List.replicate n (V.ref (zA K)))) := by
        rw [upd_same, Int.toNat_natCast, flat_rep]
      generalize upd H11 g (.lst (List.replicate (n : Int).toNat [V.ref (zA K)]).flatten) = H12 at u2 hg2 ⊢
      refine ⟨by show 1 ≤ sizeLine; decide, fun o no => ?_⟩
      have u3 := Same.new (o := .lst [.ref (oA K)]) no
      have ho3 : upd H12 o (.lst [.ref (oA K)]) o = some (.lst [.ref (oA K)]) := upd_same
      have hg3 := u3 _ _ hg2
      generalize upd H12 o (.lst [.ref (oA K)]) = H13 at u3 ho3 hg3 ⊢
      refine ⟨g, o, _, _, rfl, rfl, hg3, ho3, ?_, fun a13 na13 => ?_⟩
      · rw [List.length_replicate]
        exact Nat.le_trans (show n + 1 ≤ 1000 by omega) (by decide)
      have u4 := Same.new (o := .lst (List.replicate n (V.ref (zA K)) ++ [V.ref (oA K)])) na13
      have ha4 : upd H13 a13 (.lst (List.replicate n (V.ref (zA K)) ++ [V.ref (oA K)])) a13 = some (.lst (List.replicate n (V.ref (zA K)) ++ [V.ref (oA K)])) := upd_same
      generalize upd H13 a13 (.lst (List.replicate n (V.ref (zA K)) ++ [V.ref (oA K)])) = H14 at u4 ha4 ⊢
      have u14 := (u1.trans u2).trans (u3.trans u4)
      have t14 := t10.mono u14
      refine ⟨strip H7, x, dx, la', lb, lc', lg', a13, vc', vg', T1, n, k, rfl, ex10.same u14, t14, ok1, hk, hk2, ⟨_, SqL.of ha4, (rl_rep (fun H => T.rZ H) n).snoc (T.rO _)⟩, by omega, hin, fun H15 lg5 vg5 ex15 mv15 t15 => ?_⟩
      have tb15 := mv15.tabs (tb10.ext u14)
      refine ⟨_, rfl, x, dx, _, rfl, t15.ob, rfl, strip H7, x, dx, la', lb, lc', lg5, vc', vg5, _, T3, k, m, rfl, ex15, tb15, t15, im, hk, fun H16 lg6 vc6 vg6 ex16 tb16 t16 => ?_⟩
      have ok3 := imp_ok im
      have gl3 := ok3.gl
      obtain ⟨u0, eu0, hu0⟩ := t16.gv.at (show 0 < T3.goal.length by omega)
      have ea0 : T3.goal.getD 0 0 = T3.goal[0] := getD_of (List.getElem?_eq_getElem (by omega))
      refine ⟨_, rfl, x, CT, dx, _, _, rfl, t16.ob, TK.cls, TK.goal, rfl, ix_l (j := 0) rfl (SqL.of t16.rg) eu0 (ix_num hu0 ⟨_, _, rfl, rfl, _, rfl, ?_⟩)⟩
      rw [decide_eq_false (fun z => hpos (by rw [ea0]; exact Mm.pos_num.mpr z))]
      refine iteF ?_
      refine fin H16 T3 la' lc' lg6 vc6 vg6 _ _ _ _ ex16 tb16 t16 ok3.gl ok3.gb ?_ hm3 rfl ?_
      · have := ok3.n1; omega
      · rw [hmrow]
end
end MM
namespace MM
open PySem PySem.Spec PyProof.Rows L2
section
variable {prog : Program} {w : World} {A : Around} {E : Value → Shared → Prop} {s : Shared} {x : Addr}
theorem meets_bool_ins (x : Addr) : MeetsIn prog w (Builtin.«bool.__new__» ⟨[.type "bool", .ref x], []⟩) (fun A R s => wpAny (model prog w) A.in1 (truthy (.ref x)) (fun b s' => R (.ok (.ret (.bool b))) s') (fun e s' => R (.error e) s') s) :=
  .of_wp fun A R s hs => by
    obtain ⟨hp, g, d, tk, os⟩ := s
    have f1 := PySem.F.conv_sub_bool
    repeat (any_goals (first | assumption | (refine wpAny_bind (m := truthy (.ref x)) (wpAny_mono hs (fun b s' q => ?_) fun _ _ e => e)) | (with_reducible refine wpAny_mono hs (fun b s' q => ?_) fun _ _ e => e) | wp_step))
    all_goals first | exact ⟨_, rfl, q⟩ | trace_state
end
/-- a def called from somewhere below -/
theorem run_at {X : Cx} {k : Nat} {f : Addr} {fd : FuncData} {ps : List Str} {sp : Sp} {A : Around} {pins : List (Addr × Obj)} {σ : L2.St} {H : Hp} {s : Shared} {us : List Value} {vs : List V} {Q : VK} {E : Value → Shared → Prop} (F : FnOk X.prog X.w X.K X.mg X.base C8.CX0 k f fd ps sp) (hb : L2.Binds X.K fd ps []) (hr : Room k A) (e0 : Env0 X.prog X.w X.K X.mg X.base A X.stack s H)
    (I : Inv X pins σ H s) (r : Vals vs us) (h : sp vs H Q C8.E0) : wpAny (model X.prog X.w) A (call (.ref f) us) (EP X pins σ Q) E s := by
  have hl : us.length = ps.length := by rw [← r.length]; exact F.len _ _ _ _ h
  have hbs := hb s us I.kIn (by rw [List.append_nil]; exact hl)
  rw [List.append_nil] at hbs
  refine wpAny_call (codeAny_mono (F.run A X.stack s H ⟨us, []⟩ us vs Q C8.E0 hr e0 hbs r h) fun r s' hq => ?_)
  cases r with
  | error e => exact (show False from hq).elim
  | ok fl =>
    cases fl with
    | ret u => exact I.after hq
    | next => exact False.elim hq
    | brk => exact False.elim hq
    | cont => exact False.elim hq
section
variable {X : Cx} {k j : Nat} {C f : Addr} {fd : FuncData} {ps : List Str} {sp : Sp}
/-- bool(o), o's class has its own __bool__ -/
def rBoolI (C : Addr) (sp : Sp) : List V → Hp → VK → Prop := fun xs H Q => ∃ (a dx : Addr) (fs : List (Str × V)), xs = [.ref a] ∧ H a = some (.ins C dx fs) ∧ sp [.ref a] H (fun v H' => ∃ b, v = .bl b ∧ Q (.bl b) H') C8.E0
theorem call_boolI (F : FnOk X.prog X.w X.K X.mg X.base C8.CX0 k f fd ps sp) (hs : PySem.W.findIn X.K (.ref C) "__bool__" = some (some (.ref f))) (hf : PySem.W.isFn X.K (.ref f) = true) (hb : L2.Binds X.K fd ps []) (hr : Room j X.A) (hk : k + 2 ≤ j) : CallR X (.type "bool") (rBoolI C sp) := by
  intro pins s σ H xs us Q I r h
  obtain ⟨a, dx, fs, rfl, ha, q⟩ := h
  obtain rfl := Vals.ref1 r
  obtain ⟨mA, O, _, _, _, _⟩ := ins_get I.hok ha
  obtain ⟨od, J, _⟩ := O.look
  obtain ⟨m, hF⟩ := I.fr
  refine callType_newIn PySem.F.called_bool PySem.F.newNe_bool (PySem.F.typeCall_bool_1 _) (PySem.F.newCall_bool_1 _) (fun obj => PySem.F.args_object_init_2 obj _) PySem.F.entry_bool_new (meets_bool_ins a) ?_
  refine PySem.W.truthy_K hF I.ok.mod.kin J hs hf ?_
  refine thn (run_at (A := X.A.in1.in1) F hb ((hr.mono hk).in1).in1 I.env0.in1.in1 I (vs := [.ref a]) (.cons rfl .nil) q) fun u s' ⟨v, H', I', rv, b, eb, q'⟩ => ?_
  subst eb
  obtain rfl : u = Value.bool b := rv
  exact ⟨PySem.typeIs_bool _ _, .bl b, H', I', rfl, q'⟩
/-- o != o, o's class has its own __eq__ -/
def rNeI (C : Addr) (sp : Sp) : R2 := fun x y H Q => ∃ (a dx : Addr) (fs : List (Str × V)), x = .ref a ∧ y = .ref a ∧ H a = some (.ins C dx fs) ∧ sp [.ref a, .ref a] H (fun v H' => ∃ b, v = .bl b ∧ Q (.bl (!b)) H') C8.E0
theorem op_neI (F : FnOk X.prog X.w X.K X.mg X.base C8.CX0 k f fd ps sp) (hne : PySem.W.findIn X.K (.ref C) "__ne__" = some (some (.builtin "object.__ne__"))) (heq : PySem.W.findIn X.K (.ref C) "__eq__" = some (some (.ref f))) (hf : PySem.W.isFn X.K (.ref f) = true) (hm : PySem.W.mroIn X.K C (.type "object") = some true)
    (hb : L2.Binds X.K fd ps []) (hr : Room j X.A) (hk : k + 1 ≤ j) : OpR X (compareOp .NotEq) (rNeI C sp) := by
  intro pins s σ H x y v u Q I rx ry h
  obtain ⟨a, dx, fs, rfl, rfl, ha, q⟩ := h
  cases rx
  cases ry
  obtain ⟨mA, O, _, _, _, _⟩ := ins_get I.hok ha
  obtain ⟨od, J, _⟩ := O.look
  show wpAny (model X.prog X.w) X.A (richCompare .NotEq (.ref a) (.ref a)) _ _ s
  refine ne_K I.kIn J hne heq hf hm (by have := hr.units; omega) ?_
  refine thn (run_at (A := X.A.in1) F hb (hr.mono hk).in1 I.env0.in1 I (vs := [.ref a, .ref a]) (.cons rfl (.cons rfl .nil)) q) fun u s' ⟨v, H', I', rv, b, eb, q'⟩ => ?_
  subst eb
  obtain rfl : u = Value.bool b := rv
  exact ⟨b, rfl, .bl (!b), H', I', rfl, q'⟩
end
/-- isinstance(o, D), o of the class at C -/
structure InsD (K : PySem.W.Frag) (C D : Addr) (b : Bool) : Prop where
  cl : Cls K C
  ha : PySem.W.findIn K (.ref C) "__class__" = some (some (.builtin "object.__class__"))
  hn : PySem.W.specialIn K (.builtin "object.__class__") "__get__" = some (some (.builtin "getset_descriptor.__get__"))
  htk : PySem.W.takesIn K (.builtin "object.__class__") = some true
  hm : PySem.W.mroIn K C (.type "object") = some true
  me : PySem.W.kitOne K (.ref C) (.ref D) = some b
def rIsD (C D : Addr) (b : Bool) : List V → Hp → VK → Prop := fun xs H Q => ∃ (a dx : Addr) (fs : List (Str × V)), xs = [.ref a, .ref D] ∧ H a = some (.ins C dx fs) ∧ Q (.bl b) H
theorem call_isD {X : Cx} {K : PySem.W.Frag} {C D : Addr} {b : Bool} (h : X.K = K) (c : InsD K C D b) : CallR X (.builtin "isinstance") (rIsD C D b) := by
  subst h
  intro pins s σ H xs us Q I r h
  obtain ⟨a, dx, fs, rfl, ha, q⟩ := h
  obtain ⟨u, w', rfl, ru, rw'⟩ := vals2 r
  cases rw'
  exact isinst_ok I ru (TyOf.ins ha c.cl c.ha c.hn c.htk c.hm) c.me fun tk => ⟨.bl b, H, I.tok _, rfl, q⟩
end MM
/-! repr of lists of ratios, where no guard stands -/
namespace MM
open PySem PySem.Spec PyProof.Rows L2
theorem text_neg (m : Nat) : Str.ofString (toString (Int.negSucc m)) = ⟨(45 :: (Nat.toDigits 10 (m + 1)).map Char.toNat).toArray⟩ := by
  show Str.ofString ("-" ++ Nat.repr (m + 1)) = _
  rw [Str.ofString_eq_toList]
  unfold Nat.repr
  simp
theorem int_short {i : Int} (h : i.natAbs < 2 ^ 1900) : (PyData.shown (.int i)).length ≤ 700 := by
  have h10 : i.natAbs < 10 ^ 600 := Nat.lt_of_lt_of_le h (by decide +kernel)
  cases i with
  | ofNat m =>
    show (Str.ofString (toString (Int.ofNat m))).length ≤ 700
    rw [text_ofNat]
    show ((Nat.toDigits 10 m).map Char.toNat).toArray.size ≤ 700
    rw [List.size_toArray, List.length_map]
    have := digits10_le (k := 600) (n := m) (by decide) h10
    omega
  | negSucc m =>
    show (Str.ofString (toString (Int.negSucc m))).length ≤ 700
    rw [text_neg]
    show (45 :: (Nat.toDigits 10 (m + 1)).map Char.toNat).toArray.size ≤ 700
    rw [List.size_toArray, List.length_cons, List.length_map]
    have := digits10_le (k := 600) (n := m + 1) (by decide) h10
    omega
theorem short_r {r : Rat} (h : Mm.Lt 1900 r) : PyData.leavesShort 700 (rD r) = true := by
  show (decide ((PyData.shown (.int r.num)).length ≤ 700) && (decide ((PyData.shown (.int (r.den : Int))).length ≤ 700) && true)) = true
  rw [decide_eq_true (int_short h.1), decide_eq_true (int_short (i := (r.den : Int)) (by rw [Int.natAbs_natCast]; exact h.2))]
  rfl
theorem short_rs : ∀ {rs : List Rat}, (∀ x ∈ rs, Mm.Lt 1900 x) → PyData.leavesShortAll 700 (rs.map rD) = true
  | [], _ => rfl
  | r :: rs, h => by
    show (PyData.leavesShort 700 (rD r) && PyData.leavesShortAll 700 (rs.map rD)) = true
    rw [short_r (h r (by simp)), short_rs fun x hx => h x (by simp [hx])]; rfl
theorem bulk_rs : ∀ rs : List Rat, PyData.bulkAll (rs.map rD) = 3 * rs.length
  | [] => rfl
  | r :: rs => by
    show PyData.bulk (rD r) + 1 + PyData.bulkAll (rs.map rD) = 3 * (rs.length + 1)
    rw [bulk_rs rs]
    have : PyData.bulk (rD r) = 2 := rfl
    omega
theorem log_ok {i : Int} (h : i.natAbs < 2 ^ 1900) : i.natAbs.log2 < 1920 := by
  by_cases e : i.natAbs = 0
  · rw [e]; decide
  · have := (Nat.log2_lt e).mpr h
    omega
theorem show_r {r : Rat} (h : Mm.Lt 1900 r) : PyData.showable (rD r) = true := by
  show (decide (r.num.natAbs.log2 < 1920) && (decide ((r.den : Int).natAbs.log2 < 1920) && true)) = true
  rw [decide_eq_true (log_ok h.1), decide_eq_true (log_ok (i := (r.den : Int)) (by rw [Int.natAbs_natCast]; exact h.2))]
  rfl
theorem show_rs : ∀ {rs : List Rat}, (∀ x ∈ rs, Mm.Lt 1900 x) → PyData.showableAll (rs.map rD) = true
  | [], _ => rfl
  | r :: rs, h => by
    show (PyData.showable (rD r) && PyData.showableAll (rs.map rD)) = true
    rw [show_r (h r (by simp)), show_rs fun x hx => h x (by simp [hx])]; rfl
theorem shown_rs {rs : List Rat} (h : ∀ x ∈ rs, Mm.Lt 1900 x) (hl : rs.length ≤ 1000) : (PyData.shown (.list (rs.map rD))).length ≤ sizeLine := by
  have := PyData.shown_le_bulk 700 (by decide) (.list (rs.map rD)) (short_rs h)
  have e : PyData.bulk (.list (rs.map rD)) = 3 * rs.length := bulk_rs rs
  rw [e] at this
  rw [sizeLine_eq]
  omega
/-- repr of a list of ratios -/
def rReprR (K : PySem.W.Frag) : List V → Hp → VK → Prop := fun xs H Q => ∃ (a : Addr) (rs : List Rat), xs = [.ref a] ∧ SR true K H a rs ∧ (∀ x ∈ rs, Mm.Lt 1900 x) ∧ rs.length ≤ 1000 ∧ Q (.str (PyData.shown (.list (rs.map rD)))) H
theorem call_reprR {X : Cx} {K : PySem.W.Frag} (hK : X.K = K) (hg : X.A.guards = some []) (hu : X.A.units + 64 < cLine) : CallR X (.builtin "repr") (rReprR K) := by
  subst hK
  intro pins s σ H xs us Q I r h
  obtain ⟨a, rs, rfl, ⟨vs, hv, rv⟩, hlt, hl, q⟩ := h
  have hv : SqL X.K H a vs := hv
  obtain rfl := Vals.ref1 r
  obtain ⟨as, hr⟩ := Dp.reads I _ (.ref a) (.ref a) (.lst hv rv.dp) rfl
  refine repr_of_reads' (h₀ := s.heap) hr (show_rs hlt) (PyData.noDict_hsm (PyData.hasDict_of_canLay _ (lay_rs rs))) hg ?_ (fun _ _ e => e) (fun h' u tk hk => ?_) (shown_rs hlt hl)
  · show X.A.units + (PyData.depthAll (rs.map rD) + 1 + 1) < cLine
    have := dep_rs rs
    omega
  · exact ⟨.str _, H, I.kept (t' := tk) hk, ⟨_, rfl⟩, q⟩
end MM
namespace MM
open PySem PySem.Spec PyProof.Rows L2 LamX NdefX
open Mm (Tab)
/-- a def's promise where no guard stands -/
structure FnG (P : Program) (w : World) (K : PySem.W.Frag) (mg : Str → Option Value) (base : Heap) (k : Nat) (f : Addr) (fd : FuncData) (ps : List Str) (sp : Sp) : Prop where
  len : ∀ vs H Q E, sp vs H Q E → vs.length = ps.length
  run : ∀ (A : Around) (outer : List Env) (s : Shared) (H : Hp) (us : List Value) (vs : List V) (Q : VK), A.guards = some [] → Room k A → Env0 P w K mg base A outer s H → Vals vs us → sp vs H Q C8.E0 →
    codeAny (model P w) A (.call (.ref f) ⟨us, []⟩) (CR C8.CX0 outer P w H s Q C8.E0) s
structure CalG (P : Program) (w : World) (K : PySem.W.Frag) (mg : Str → Option Value) (base : Heap) (k : Nat) (x : Str) (sp : Sp) : Prop where
  ex : ∃ (f : Addr) (fd : FuncData) (ps : List Str), FnG P w K mg base k f fd ps sp ∧ mg x = some (.ref f) ∧ PySem.W.keepIn K (.ref f) = true
theorem pe_cG {X : Cx} {k j : Nat} {x : Str} {sp : Sp} {p pos : Pos} {e : Expr} {es : List Expr} {t : TA} (c : CalG X.prog X.w X.K X.mg X.base k x sp) (hgA : X.A.guards = some []) (hr : Room j X.A) (hk : k ≤ j) (hg : Gl X x) (ha : PA X (e :: es) t)
    (hdb : (x == ("__debug__" : Str)) = false := by decide) (he : starEach (e :: es) X.env = (false, eval e X.env) :: starEach es X.env := by rfl) (hpl : (backTo pos (starEach es X.env)).any (·.1) = false := by rfl) :
    PE X (.Call (.Name x p) (e :: es) [] pos) (tCall sp [] C8.E0 t) := by
  obtain ⟨f, fd, ps, F, hm, kp⟩ := c.ex
  refine ⟨fun pins s σ H Q I h => wpAny_Call_Name_kw (ld_glob I hg hm ?_ hdb)⟩
  refine PySem.W.callWith_K (h₀ := X.base) I.ok.mod.kin kp (thn (ha.run pos pins s σ H _ I h) fun us s2 ⟨vs, H2, I2, r, q⟩ => ⟨I2.kIn, ?_⟩) he hpl
  have q : sp (vs ++ []) H2 Q C8.E0 := q
  rw [List.append_nil] at q
  show wpAny _ _ (call (.ref f) us) _ _ _
  refine wpAny_call (codeAny_mono (F.run X.A X.stack s2 H2 us vs Q hgA (hr.mono hk) I2.env0 r q) fun r s' hq => ?_)
  cases r with
  | error e => exact (show False from hq).elim
  | ok fl =>
    cases fl with
    | ret u => exact I2.after hq
    | next => exact False.elim hq
    | brk => exact False.elim hq
    | cont => exact False.elim hq
abbrev s__law_same : Stmt := (topS 39)
theorem sc__law_same : FnScope ["_law_found", "_law_due"] ["_law_found", "_law_due"] (defScope s__law_same) := C8.fnScope_by (by decide +kernel)
abbrev s_law : Stmt := (topS 51)
theorem sc_law : FnScope ["_law_script", "_law_src", "_law_turn", "_law_size", "_law_rows_here", "_law_one", "_law_made", "_law_found", "_law_told", "_law_again"] ["_law_script"] (defScope s_law) := C8.fnScope_by (by decide +kernel)
section
variable {P : Program} {w : World} {K : PySem.W.Frag} {mg : Str → Option Value} {base : Heap} {f : Addr} {fd : FuncData}
def spSame (K : PySem.W.Frag) : Sp := fun vs H Q _ => ∃ (a b : Addr) (rs : List Rat), vs = [.ref a, .ref b] ∧ SR true K H a rs ∧ SR true K H b rs ∧ (∀ x ∈ rs, Mm.Lt 1900 x) ∧ rs.length ≤ 1000 ∧ Q (.bl true) H
theorem ok_same (F : FnP K "_law_same" "_law_same" s__law_same f fd) (T : Txt K mg) (hb : L2.Binds K fd ["_law_found", "_law_due"] []) : FnG P w K mg base 1 f fd ["_law_found", "_law_due"] (spSame K) := by
  obtain ⟨oc, od, dV, kV, doc, pm, an, cdv, ct, osl, rfl, lk, hcd, _, _⟩ := F.ex
  refine ⟨fun vs H Q E h => ?_, fun A outer s H us vs Q hgA0 hr e0 r h => ?_⟩
  · obtain ⟨_, _, _, rfl, _⟩ := h
    rfl
  · obtain ⟨a, b, rs, rfl, h1, h2, h3, h4, q⟩ := h
    have hl : us.length = 2 := by rw [← r.length]; rfl
    have KX : K.In s.heap := e0.mod.kin.keeps fun b o e => (e0.bs b o e).1
    have hbs := hb s us KX (by rw [List.append_nil]; exact hl)
    rw [List.append_nil] at hbs
    refine run_ofS (CX := C8.CX0) lk hcd sc__law_same hr e0 hbs r rfl fun hr => ?_
    have hgA : ((cxOf C8.CX0 P w K mg base ["_law_found", "_law_due"] "_law_same" (defScope s__law_same) f cdv A outer s H C8.E0).nox).A.guards = some [] := hgA0
    refine ⟨_, PSs.nox (pss_one (ps_ret (pe_cmpR op_eq (pe_callB (call_reprR (K := K) rfl hgA hr.units) rfl T.f_repr (by decide +kernel) (pa_cons (pv 0) pa_nil)) (pe_callB (call_reprR (K := K) rfl hgA hr.units) rfl T.f_repr (by decide +kernel) (pa_cons (pv 1) pa_nil)) (nomark _)))), ?_⟩
    refine ⟨_, rfl, a, rs, rfl, h1, h3, h4, _, rfl, b, rs, rfl, h2, h3, h4, rfl, ?_⟩
    rw [decide_eq_true rfl]
    exact q
end
end MM
namespace MM
open PySem PySem.Spec PyProof.Rows L2 LamX NdefX
open Mm (Tab)
/-- what solve answers, as the law asks -/
structure GoodS (n : Nat) (rows : List PRow) (vals : List Rat) : Prop where
  len : vals.length = n
  sz : ∀ x ∈ vals, Mm.Lt 1300 x ∧ 0 ≤ x
  row : ∀ r ∈ rows, (∀ i, i ≤ n → Mm.Lt 3000 (psum r.f vals i)) ∧ psum r.f vals n ≤ r.b ∧ (r.s = true → psum r.f vals n ≠ r.b)
structure GoodB (n : Nat) (rows : List PRow) (vals : List Rat) : Prop where
  len : vals.length = rows.length
  sz : ∀ x ∈ vals, Mm.Lt 1300 x ∧ 0 ≤ x
  cs : ∀ j i, i ≤ rows.length → Mm.Lt 3000 (psum vals (colR rows j) i)
  bs : ∀ i, i ≤ rows.length → Mm.Lt 3000 (psum vals (bndR rows) i)
  pos : ∀ j, j < n → 0 ≤ psum vals (colR rows j) rows.length
  bad : psum vals (bndR rows) rows.length < 0 ∨ (psum vals (bndR rows) rows.length = 0 ∧ ∃ i r, rows[i]? = some r ∧ r.s = true ∧ 0 < vals.getD i 0)
def Solved_ : Prop := ∀ (n : Nat) (rows : List PRow), n ≤ 4 → rows.length ≤ 9 → (∀ r ∈ rows, RowG n r) → ∃ (b : Bool) (vals : List Rat), Mm.Solve 1300 n (rows.map mrow) b vals ∧ (b = true → GoodS n rows vals) ∧ (b = false → GoodB n rows vals)
theorem SX.mv {a : Addr} {H H' : Hp} {xs : List V} (h : H a = some (.lst xs)) (e : SX a H H') : Mv H H' := fun b o hb n1 _ => e b o (fun z => by rw [z, h] at hb; exact n1 _ (Option.some.inj hb).symm) hb
theorem SrcAt.lst {H : Hp} {a c : Addr} {ns : List Int} (h : SrcAt H a c ns) : ∃ xs, H a = some (.lst xs) := by
  obtain ⟨_, _, _, _, h1, _⟩ := h
  exact ⟨_, h1⟩
theorem SrcAt.extN {H H' : Hp} {a c : Addr} {ns : List Int} (h : SrcAt H a c ns) (e : ExtN H H') : SrcAt H' a c ns := by
  obtain ⟨p, x, sd, n, h1, h2, r⟩ := h
  exact ⟨p, x, sd, n, e _ _ h1 (fun _ z => by cases z), e _ _ h2 (fun _ z => by cases z), r⟩
theorem Gain.neg {r : Rat} (h : Gain r) : Gain (-r) := by
  obtain ⟨z, h1, h2⟩ := h
  refine ⟨-z, ?_, by rw [Int.natAbs_neg]; exact h2⟩
  rw [Rat.intCast_neg]
  grind
theorem rowV_true_ext {K : PySem.W.Frag} {H H' : Hp} {v : V} {r : PRow} (h : RowV true K H v r) (e : ExtN H H') : RowV true K H' v r := by
  obtain ⟨t, a, vb, rfl, h1, ⟨vs, h2, h3⟩, h4⟩ := h
  exact ⟨t, a, vb, rfl, e.ts.tup h1, ⟨vs, sqL_ext e h2, h3.ts e.ts⟩, h4.ts e.ts⟩
theorem rowsAt_ext {K : PySem.W.Frag} {H H' : Hp} {a : Addr} {rs : List PRow} (h : RowsAt true K H a rs) (e : ExtN H H') : RowsAt true K H' a rs := by
  obtain ⟨vs, h1, h2, h3⟩ := h
  exact ⟨vs, sqL_ext e h1, h2, fun i r hr => by
    obtain ⟨v, g1, g2⟩ := h3 i r hr
    exact ⟨v, g1, rowV_true_ext g2 e⟩⟩
theorem SR.extN {K : PySem.W.Frag} {H H' : Hp} {a : Addr} {rs : List Rat} (h : SR true K H a rs) (e : ExtN H H') : SR true K H' a rs := by
  obtain ⟨vs, h1, h2⟩ := h
  exact ⟨vs, sqL_ext e h1, h2.ts e.ts⟩
section
variable {P : Program} {w : World} {K : PySem.W.Frag} {mg : Str → Option Value} {base : Heap} {f : Addr} {fd : FuncData} {C CP CT CA CS CB Pt f_eq f_sb f_bb : Addr} {fd_eq fd_sb fd_bb : FuncData} {dvs : List V}
def spLaw (K : PySem.W.Frag) (Pt : Addr) : Sp := fun vs H Q _ => ∃ (a : Addr) (ns : List Int), vs = [.ref a] ∧ SqL K H a (ns.map V.int) ∧ ns.length ≤ 63 ∧ Tabs [(Pt, lamQ)] H ∧ ∀ H', Q (.bl true) H'
theorem ok_law (hsol : Solved_) (F : FnP K "law" "law" s_law f fd) (T : Txt K mg) (hb : L2.Binds K fd ["_law_script"] [])
    (c__law_source : C8.Cal P w K mg base 1 "_law_source" (spSource K) []) (c__law_draw : C8.Cal P w K mg base 1 "_law_draw" spDraw []) (c__law_rows : C8.Cal P w K mg base 3 "_law_rows" (spRows K) []) (c__law_minus : C8.Cal P w K mg base 1 "_law_minus" (spLNeg K) []) (c__law_low : C8.Cal P w K mg base 1 "_law_low" (spLow K) [])
    (c__law_keeps : C8.Cal P w K mg base 5 "_law_keeps" (spLKeeps K) []) (c__law_barred : C8.Cal P w K mg base 4 "_law_barred" (spLBar K) []) (c__law_same : CalG P w K mg base 1 "_law_same" (spSame K))
    (c_Problem : C8.Mak P w K mg base 5 "Problem" CP (spPInit K CP) []) (c_solve : C8.Met P w K mg base 8 CP "solve" (spSolve K CP CS CB Pt) [])
    (c_problemS : Prp P w K mg base 1 CS "problem" (spProb K)) (c_problemB : Prp P w K mg base 1 CB "problem" (spProb K)) (c_holdsS : C8.Met P w K mg base 5 CS "holds" (spSHolds K CS CP) []) (c_holdsB : C8.Met P w K mg base 5 CB "holds" (spBHolds K CB CP) [])
    (c_numbers : C8.Met P w K mg base 4 CS "numbers" (spNums K CS "own_values") []) (c_bweights : C8.Met P w K mg base 4 CB "weights" (spNums K CB "own_weights") [])
    (F_eq : FnOk P w K mg base C8.CX0 1 f_eq fd_eq ["self", "other"] (spEqP K CP)) (h_ne : PySem.W.findIn K (.ref CP) "__ne__" = some (some (.builtin "object.__ne__"))) (h_eq : PySem.W.findIn K (.ref CP) "__eq__" = some (some (.ref f_eq))) (h_fn : PySem.W.isFn K (.ref f_eq) = true) (h_mo : PySem.W.mroIn K CP (.type "object") = some true) (b_eq : L2.Binds K fd_eq ["self", "other"] [])
    (F_sb : FnOk P w K mg base C8.CX0 1 f_sb fd_sb ["self"] spTrue) (h_sb : PySem.W.findIn K (.ref CS) "__bool__" = some (some (.ref f_sb))) (h_sf : PySem.W.isFn K (.ref f_sb) = true) (b_sb : L2.Binds K fd_sb ["self"] [])
    (F_bb : FnOk P w K mg base C8.CX0 1 f_bb fd_bb ["self"] spFalse) (h_bb : PySem.W.findIn K (.ref CB) "__bool__" = some (some (.ref f_bb))) (h_bf : PySem.W.isFn K (.ref f_bb) = true) (b_bb : L2.Binds K fd_bb ["self"] [])
    (g_Answer : ∃ u, mg "Answer" = some u ∧ RelV (.ref CA) u) (g_Solved : ∃ u, mg "Solved" = some u ∧ RelV (.ref CS) u) (g_Barred : ∃ u, mg "Barred" = some u ∧ RelV (.ref CB) u)
    (i_SA : InsD K CS CA true) (i_BA : InsD K CB CA true) (i_SS : InsD K CS CS true) (i_BS : InsD K CB CS false) (i_BB : InsD K CB CB true) (AS : AC K CS "own_values") (AB : AC K CB "own_weights") : FnG P w K mg base 9 f fd ["_law_script"] (spLaw K Pt) := by
  obtain ⟨oc, od, dV, kV, doc, pm, an, cdv, ct, osl, rfl, lk, hcd, _, _⟩ := F.ex
  refine ⟨fun vs H Q E h => ?_, fun A outer s H us vs Q hgA0 hr e0 r h => ?_⟩
  · obtain ⟨_, _, rfl, _⟩ := h
    rfl
  · obtain ⟨a, ns, rfl, hs, hl, tb, q⟩ := h
    have hlu : us.length = 1 := by rw [← r.length]; rfl
    have KX : K.In s.heap := e0.mod.kin.keeps fun b o e => (e0.bs b o e).1
    have hbs := hb s us KX (by rw [List.append_nil]; exact hlu)
    rw [List.append_nil] at hbs
    refine run_ofS (CX := C8.CX0) lk hcd sc_law hr e0 hbs r rfl fun hr => ?_
    have hgA : ((cxOf C8.CX0 P w K mg base ["_law_script", "_law_src", "_law_turn", "_law_size", "_law_rows_here", "_law_one", "_law_made", "_law_found", "_law_told", "_law_again"] "law" (defScope s_law) f cdv A outer s H C8.E0).nox).A.guards = some [] := hgA0
    refine ⟨_, PSs.nox (pss_cons (ps_set (i := 1) sc_law.nd rfl (.inl rfl) (C8.pe_c c__law_source hr (by first | decide | omega) rfl (pa_cons (pv 0) pa_nil)))
 (pss_cons (ps_for PassesOwn.never rfl (pi_range1 rfl T.f_range (pa_cons pe_int pa_nil)) (pg_name (i := 2) sc_law.nd rfl (.inl rfl)) (pss_cons (ps_set (i := 3) sc_law.nd rfl (.inl rfl) (C8.pe_c c__law_draw hr (by first | decide | omega) rfl (pa_cons (pv 1) (pa_cons pe_int pa_nil))))
 (pss_cons (ps_set (i := 4) sc_law.nd rfl (.inl rfl) (C8.pe_c c__law_rows hr (by first | decide | omega) rfl (pa_cons (pv 1) (pa_cons (pv 3) (pa_cons (C8.pe_c c__law_draw hr (by first | decide | omega) rfl (pa_cons (pv 1) (pa_cons pe_int pa_nil))) pa_nil)))))
 (C8.pss_cut (ps_if (PW.pt (pw_and (pt_cmpR (neNilK (K := K) rfl hr.units) (pv 4) (pe_lst pa_nil) (nomark _)) (pw_and1 (pt_cmpR op_eq (C8.pe_c c__law_draw hr (by first | decide | omega) rfl (pa_cons (pv 1) (pa_cons pe_int pa_nil))) pe_int (nomark _))))) (pss_one (ps_set (i := 4) sc_law.nd rfl (.inl rfl) (pe_op op_cat (pv 4) (pe_lst (pa_cons (pe_tup (pa_cons (pe_lc (own := [("_law_one", 5)]) (g := (gName 5)) (tt := tYes) rfl sc_law.nd (piListK (K := K) rfl (pe_ix (ixK (K := K) rfl) (pe_ix (ixK (K := K) rfl) (pv 4) pe_int (fun _ _ => rfl)) pe_int (fun _ _ => rfl))) (blkOk_by (own := [("_law_one", 5)]) (by kernel_rfl)) (fun _ _ _ _ _ => (pg_name (i := 5) sc_law.nd rfl (.inl rfl))) (fun _ _ _ _ _ => pts_nil) (fun _ _ _ _ _ => (C8.pe_c c__law_minus hr (by first | decide | omega) rfl (pa_cons (pv 5) pa_nil)))) (pa_cons (C8.pe_c c__law_minus hr (by first | decide | omega) rfl (pa_cons (pe_ix (ixK (K := K) rfl) (pe_ix (ixK (K := K) rfl) (pv 4) pe_int (fun _ _ => rfl)) pe_int (fun _ _ => rfl)) pa_nil)) (pa_cons (pe_cmpR op_eq (C8.pe_c c__law_draw hr (by first | decide | omega) rfl (pa_cons (pv 1) (pa_cons pe_int pa_nil))) pe_int (nomark _)) pa_nil)))) pa_nil))))) pss_nil)
 (pss_cons (ps_set (i := 6) sc_law.nd rfl (.inl rfl) (C8.pe_mk c_Problem hr (by first | decide | omega) rfl (pa_cons (pv 3) (pa_cons (pv 4) pa_nil))))
 (pss_cons (ps_set (i := 7) sc_law.nd rfl (.inl rfl) (C8.pe_mt0 c_solve hr (by first | decide | omega) (pv 6)))
 (pss_cons (ps_if (PW.pt (pw_or (pt_cmpR (op_neI F_eq h_ne h_eq h_fn h_mo b_eq hr (by decide)) (pe_two (pe_pp c_problemS hr (by decide) (pv 7) rfl) (pe_pp c_problemB hr (by decide) (pv 7) rfl)) (pv 6) (nomark _)) (pw_or (pt_cmpR (op_notBl) (pe_two (C8.pe_mt0 c_holdsS hr (by decide) (pv 7)) (C8.pe_mt0 c_holdsB hr (by decide) (pv 7))) pe_bl (nomark _)) (pw_or1 (pt_not (pt_val (pe_two (pe_callB (call_isD (K := K) rfl i_SA) rfl T.f_isinstance (by decide +kernel) (pa_cons (pv 7) (pa_cons (C8.pe_gc rfl g_Answer) pa_nil))) (pe_callB (call_isD (K := K) rfl i_BA) rfl T.f_isinstance (by decide +kernel) (pa_cons (pv 7) (pa_cons (C8.pe_gc rfl g_Answer) pa_nil)))))))))) (pss_one (ps_ret pe_bl)) pss_nil)
 (pss_cons (ps_if (pt_val (pe_two (pe_callB (call_isD (K := K) rfl i_SS) rfl T.f_isinstance (by decide +kernel) (pa_cons (pv 7) (pa_cons (C8.pe_gc rfl g_Solved) pa_nil))) (pe_callB (call_isD (K := K) rfl i_BS) rfl T.f_isinstance (by decide +kernel) (pa_cons (pv 7) (pa_cons (C8.pe_gc rfl g_Solved) pa_nil))))) (pss_cons (ps_set (i := 8) sc_law.nd rfl (.inl rfl) (C8.pe_mt0 c_numbers hr (by first | decide | omega) (pv 7)))
 (pss_cons (ps_if (PW.pt (pw_or (pt_cmpR (op_notBl) (pe_two (pe_callTy (call_boolI F_sb h_sb h_sf b_sb hr (by decide)) rfl T.f_bool (by decide +kernel) (pa_cons (pv 7) pa_nil)) (pe_callTy (call_boolI F_bb h_bb h_bf b_bb hr (by decide)) rfl T.f_bool (by decide +kernel) (pa_cons (pv 7) pa_nil))) pe_bl (nomark _)) (pw_or (pt_cmpR op_ne (pe_callB (lenK (K := K) rfl) rfl T.f_len (by decide +kernel) (pa_cons (pv 8) pa_nil)) (pv 3) (nomark _)) (pw_or1 (pt_not (pt_val (C8.pe_c c__law_keeps hr (by first | decide | omega) rfl (pa_cons (pv 4) (pa_cons (pv 8) (pa_cons pe_bl pa_nil)))))))))) (pss_one (ps_ret pe_bl)) pss_nil)
 (pss_one (ps_set (i := 9) sc_law.nd rfl (.inl rfl) (C8.pe_mt0 c_numbers hr (by first | decide | omega) (C8.pe_mt0 c_solve hr (by first | decide | omega) (pv 6))))))) (pss_cons (ps_set (i := 8) sc_law.nd rfl (.inl rfl) (C8.pe_mt0 c_bweights hr (by decide) (pv 7)))
 (pss_cons (ps_if (PW.pt (pw_or (pt_cmpR (op_notBl) (pe_two (pe_callTy (call_boolI F_sb h_sb h_sf b_sb hr (by decide)) rfl T.f_bool (by decide +kernel) (pa_cons (pv 7) pa_nil)) (pe_callTy (call_boolI F_bb h_bb h_bf b_bb hr (by decide)) rfl T.f_bool (by decide +kernel) (pa_cons (pv 7) pa_nil))) pe_bl (nomark _)) (pw_or (pt_not (pt_val (pe_callB (call_isD (K := K) rfl i_BB) rfl T.f_isinstance (by decide +kernel) (pa_cons (pv 7) (pa_cons (C8.pe_gc rfl g_Barred) pa_nil))))) (pw_or (pt_cmpR op_ne (pe_callB (lenK (K := K) rfl) rfl T.f_len (by decide +kernel) (pa_cons (pv 8) pa_nil)) (pe_callB (lenK (K := K) rfl) rfl T.f_len (by decide +kernel) (pa_cons (pv 4) pa_nil)) (nomark _)) (pw_or1 (pt_not (pt_val (C8.pe_c c__law_barred hr (by first | decide | omega) rfl (pa_cons (pv 3) (pa_cons (pv 4) (pa_cons (pv 8) pa_nil))))))))))) (pss_one (ps_ret pe_bl)) pss_nil)
 (pss_one (ps_set (i := 9) sc_law.nd rfl (.inl rfl) (C8.pe_mt0 c_bweights hr (by decide) (C8.pe_mt0 c_solve hr (by decide) (pv 6))))))))
 (pss_one (ps_if (PW.pt (pw_or (pt_not (pt_val (pe_cG c__law_same hgA hr (by decide) rfl (pa_cons (pv 8) (pa_cons (pv 9) pa_nil))))) (pw_or1 (pt_cmpR (neNilK (K := K) rfl hr.units) (pe_lc (own := [("_law_one", 5)]) (g := (gName 5)) rfl sc_law.nd (piListK (K := K) rfl (pv 8)) (blkOk_by (own := [("_law_one", 5)]) (by kernel_rfl)) (fun _ _ _ _ _ => (pg_name (i := 5) sc_law.nd rfl (.inl rfl))) (fun _ _ _ _ _ => (pts_one (pt_cmpR (neRK (K := K) rfl hr.units) (pv 5) (C8.pe_c c__law_low hr (by first | decide | omega) rfl (pa_cons (pe_ix (ixK (K := K) rfl) (pv 5) pe_int (fun _ _ => rfl)) (pa_cons (pe_ix (ixK (K := K) rfl) (pv 5) pe_int (fun _ _ => rfl)) pa_nil))) (nomark _)))) (fun _ _ _ _ _ => (pv 5))) (pe_lst pa_nil) (nomark _))))) (pss_one (ps_ret pe_bl)) pss_nil))))))))))
 (pss_one (ps_ret pe_bl)))), ?_⟩
    refine ⟨_, rfl, a, ns, rfl, hs, hl, fun src c H1 s1 nsrc nc S1 => ?_⟩
    have tb1 := tb.ext s1
    refine ⟨_, rfl, by decide, by decide, ?_⟩
    refine for_range (lo := 0) (n := (5 : Int).toNat) (fun i σ H' => ∃ (l2 l3 l4 l6 l7 l8 l9 : Option V), σ = [some (.ref a), some (.ref src), l2, l3, l4, none, l6, l7, l8, l9] ∧ SrcAt H' src c ns ∧ Tabs [(Pt, lamQ)] H')
      ⟨_, _, _, _, _, _, _, rfl, S1, tb1⟩ ?_ ?_
    · rintro turn σ H2 _ ⟨l2, l3, l4, l6, l7, l8, l9, rfl, S2, tb2⟩
      -- the size
      refine ⟨_, rfl, src, c, ns, 5, rfl, S2, by decide, by decide, fun d H3 d0 d5 x3 S3 => ?_⟩
      obtain ⟨n, rfl⟩ := Int.eq_ofNat_of_zero_le d0
      obtain ⟨_, hsl2⟩ := S2.lst
      obtain ⟨_, hsl3⟩ := S3.lst
      have tb3 := (SX.mv hsl2 x3).tabs tb2
      -- the rows
      refine ⟨_, rfl, _, rfl, _, rfl, src, c, ns, 9, rfl, S3, by decide, by decide, fun d H4 d0' d9 x4 S4 => ?_⟩
      obtain ⟨m, rfl⟩ := Int.eq_ofNat_of_zero_le d0'
      have tb4 := (SX.mv hsl3 x4).tabs tb3
      obtain ⟨_, hsl4⟩ := S4.lst
      refine ⟨src, c, ns, n, m, rfl, S4, by omega, by omega, fun p acc rows H5 x5 S5 np hp hR hlen hG => ?_⟩
      have tb5 := (SX.mv hsl4 x5).tabs tb4
      obtain ⟨_, hsl5⟩ := S5.lst
      have psrc : p ≠ src := fun z => by rw [z, hsl4] at np; cases np
      refine ⟨fun σ H' => ∃ (pr : Addr) (rows : List PRow) (l2 l6 l7 l8 l9 : Option V), σ = [some (.ref a), some (.ref src), l2, some (.int (n : Int)), some (.ref pr), none, l6, l7, l8, l9] ∧ SrcAt H' src c ns ∧ Tabs [(Pt, lamQ)] H' ∧ RowsAt true K H' pr rows ∧ rows.length ≤ 9 ∧ ∀ r ∈ rows, RowG n r, ?_, ?_⟩
      · have hRL : RowsL true K H5 acc rows := hR.rows
        have s6 : ∀ p0, H5 p0 = none → Same H5 (upd H5 p0 (.lst [])) := fun p0 np0 => Same.new np0
        refine ⟨_, rfl, by decide, fun p0 np0 => ⟨p, p0, acc, rows.map (rowD true), rfl, rfl, SqL.of ((s6 p0 np0) _ _ hp), SqL.of upd_same, (hRL.mono (s6 p0 np0)).dp, sh_rows true rows, _, rfl, ?_⟩⟩
        have s6 := s6 p0 np0
        have hp6 := s6 _ _ hp
        have S6 := S5.keep s6
        have tb6 := tb5.ext s6
        have hR6 := hR.keep (KeepE.of s6)
        have np0p : p0 ≠ p := fun z => by rw [z, hp] at np0; cases np0
        generalize upd H5 p0 (.lst []) = H6 at s6 hp6 S6 tb6 hR6 ⊢
        cases rows with
        | nil =>
          refine iteF (iteF ?_)
          exact ⟨p, [], _, _, _, _, _, rfl, S6, tb6, ⟨acc, SqL.of hp6, hR6.rows⟩, by simp, hG⟩
        | cons r0 rs0 =>
          refine iteT ?_
          refine ⟨_, rfl, src, c, ns, 3, rfl, S6, by decide, by decide, fun d H7 d0 d3 x7 S7 => ?_⟩
          refine ⟨rfl, _, rfl, ?_⟩
          obtain ⟨_, hsl6⟩ := S6.lst
          have hp7 := x7 _ _ psrc hp6
          have tb7 := (SX.mv hsl6 x7).tabs tb6
          have hR7 := hR6.keep (KeepE.sx hsl6 x7 (.inl rfl))
          refine ite2 (fun c3 => ?_) (fun c3 => ?_)
          · obtain ⟨v0, hv0, t, ta, vb, vf, rfl, ht, hta, nta, rf, hb⟩ := hR7.2 0 r0 rfl
            obtain ⟨gr1, gr2, gr3⟩ := hG r0 (List.mem_cons_self ..)
            have hp7' : SqL K H7 p acc := SqL.of hp7
            have hta' : SqL K H7 ta vf := SqL.of hta
            have lvf : vf.length = n := by rw [rf.1, gr1]
            refine ⟨_, rfl, _, rfl, ix_l (j := 0) rfl hp7' hv0 (ix_t (j := 0) rfl ht rfl ⟨ta, rfl, ⟨_, hta'⟩, fun D nD => ?_⟩)⟩
            refine lc_list (K := K) (a := ta) (xs := vf) (Grow K H7 D (r0.f.map fun y => -y)) (Grow.zero nD) (fun i H2 _ g => g.1.seq hta') ?_ ?_
            · intro i u H2 hu g
              obtain ⟨y, ey, hy⟩ := rf.of_v hu
              refine ⟨rfl, tyes ⟨_, rfl, u, y, rfl, hy.mono g.1, fun v3 H3 s3 hv3 => ?_⟩⟩
              exact g.step nD s3 (by rw [List.getElem?_map, ey]; rfl) hv3 (by rw [List.length_map]; omega)
            intro H8 g8
            obtain ⟨s8, acc8, hD8, hrs8⟩ := g8.done (by rw [List.length_map, lvf]; omega)
            have hp8 := s8 _ _ hp7
            have S8 := S7.keep s8
            have hR8 := hR7.keep (KeepE.of s8)
            have tb8 := tb7.ext s8
            have Dp : D ≠ p := fun z => by rw [← z, nD] at hp7; cases hp7
            obtain ⟨_, hsl7⟩ := S7.lst
            have Dsrc : D ≠ src := fun z => by rw [← z, nD] at hsl7; cases hsl7
            refine ⟨_, rfl, ix_l (j := 0) rfl (SqL.of hp8) hv0 (ix_t (j := 1) rfl (Same.tup s8 ht) rfl ⟨_, r0.b, rfl, hb.mono s8, fun vn H9 s9 hvn => ?_⟩)⟩
            have S9 := S8.keep s9
            have hD9 := s9 _ _ hD8
            obtain ⟨_, hsl9⟩ := S9.lst
            refine ⟨_, rfl, src, c, ns, 2, rfl, S9, by decide, by decide, fun d2 H10 e0 e2 x10 S10 => ?_⟩
            have hp10 := x10 _ _ psrc (s9 _ _ hp8)
            have hD10 := x10 _ _ Dsrc hD9
            have hR10 := (hR8.keep (KeepE.of s9)).keep (KeepE.sx hsl9 x10 (.inl rfl))
            have tb10 := (SX.mv hsl9 x10).tabs (tb8.ext s9)
            refine ⟨rfl, by show 3 ≤ sizeLine; decide, fun t1 nt1 => ?_⟩
            have s11 : Same H10 (upd H10 t1 (.tup [.ref D, vn, .bl (decide (V.int d2 = V.int 0))])) := Same.new nt1
            have hD11 := s11 _ _ hD10
            have hrow : RowE (fun b => b = src ∨ b = p) K (upd H10 t1 (.tup [.ref D, vn, .bl (decide (V.int d2 = V.int 0))])) (.ref t1) ⟨r0.f.map fun y => -y, -r0.b, decide (V.int d2 = V.int 0)⟩ :=
              ⟨t1, D, vn, acc8, rfl, SqT.of upd_same, hD11, fun z => z.elim Dsrc Dp, ((hrs8.mono s9).ts (SX.ts hsl9 x10)).mono s11, (hvn.ts (SX.ts hsl9 x10)).mono s11⟩
            have hR11 := (hR10.keep (KeepE.of s11)).snoc hrow
            have hp11 := s11 _ _ hp10
            have S11 := S10.keep s11
            have tb11 := tb10.ext s11
            generalize upd H10 t1 (.tup [.ref D, vn, .bl (decide (V.int d2 = V.int 0))]) = H11 at hR11 hp11 S11 tb11 ⊢
            have lac : acc.length = (r0 :: rs0).length := hR7.1
            refine ⟨by show 1 ≤ sizeLine; decide, fun l1 nl1 => ?_⟩
            have s12 : Same H11 (upd H11 l1 (.lst [.ref t1])) := Same.new nl1
            refine ⟨p, l1, acc, [.ref t1], rfl, rfl, s12 _ _ hp11, upd_same, ?_, fun p2 np2 => ?_⟩
            · rw [lac]
              exact Nat.le_trans (show (r0 :: rs0).length + 1 ≤ 1000 by omega) (by decide)
            have s13 : Same (upd H11 l1 (.lst [.ref t1])) (upd (upd H11 l1 (.lst [.ref t1])) p2 (.lst (acc ++ [.ref t1]))) := Same.new np2
            have s1113 := s12.trans s13
            refine ⟨p2, (r0 :: rs0) ++ [⟨r0.f.map fun y => -y, -r0.b, decide (V.int d2 = V.int 0)⟩], _, _, _, _, _, rfl, S11.keep s1113, tb11.ext s1113, ⟨_, SqL.of upd_same, (hR11.keep (KeepE.of s1113)).rows⟩, ?_, fun r hr => ?_⟩
            · rw [List.length_append]
              show (r0 :: rs0).length + 1 ≤ 9
              omega
            · rcases List.mem_append.mp hr with h | h
              · exact hG r h
              · rw [List.mem_singleton.mp h]
                refine ⟨by show (r0.f.map _).length = n; rw [List.length_map]; exact gr1, gr2.neg, fun y hy => ?_⟩
                obtain ⟨z, hz, rfl⟩ := List.mem_map.mp hy
                exact (gr3 z hz).neg
          · exact ⟨p, r0 :: rs0, _, _, _, _, _, rfl, S7, tb7, ⟨acc, SqL.of hp7, hR7.rows⟩, by omega, hG⟩
      · rintro σ H6 ⟨pr, rows, l2, l6, l7, l8, l9, rfl, S6, tb6, hrows, hrl, hrG⟩
        clear hG hlen hR hp np x5 S5 tb5 hsl5 psrc
        obtain ⟨b, vals, hsv, gS, gB⟩ := hsol n rows (by omega) hrl hrG
        -- the problem
        refine ⟨_, rfl, _, rfl, fun x dx nx ndx ned => ?_⟩
        have s7 : Same H6 (upd (upd H6 dx (.own x)) x (.ins CP dx [])) := (Same.new ndx).trans (Same.new (by rw [upd_ne ned.symm]; exact nx))
        refine ⟨x, dx, pr, n, rows, rfl, upd_same, hrows.mono s7, by omega, by omega, fun r hr => (hrG r hr).1, fun H8 lr pf8 pra => ⟨rfl, ?_⟩⟩
        have s68 : Same H6 H8 := fun b o e => by
          have ne : b ≠ x := fun z => by rw [z] at e; have := nx; rw [e] at this; cases this
          exact pf8 b o (s7 b o e) ne
        have tb8 := tb6.ext s68
        have S8 := S6.keep s68
        have hrows8 := hrows.mono s68
        have hLt : ∀ r ∈ rows, r.f.length = n ∧ ∀ y ∈ r.f, Mm.Lt 1300 y := fun r hr => ⟨(hrG r hr).1, fun y hy => ((hrG r hr).2.2 y hy).lt.mono (by decide)⟩
        have hLb : ∀ r ∈ rows, Mm.Lt 36 r.b ∧ ∀ y ∈ r.f, Mm.Lt 36 y := fun r hr => ⟨(hrG r hr).2.1.lt, fun y hy => ((hrG r hr).2.2 y hy).lt⟩
        -- its answer
        refine ⟨_, rfl, x, dx, _, rfl, pra.ob, rfl, strip H8, x, dx, lr, n, 1300, rows, b, vals, rfl, strip_nt, strip_ext, tb8, pra, by omega, by omega, hLt, by decide, by decide, hsv, fun H9 a2 dx2 lv ex9 tb9 ha2 hlv => ?_⟩
        have e89 : ExtN H8 H9 := same_strip ex9
        have pra9 := pra.extN e89
        have S9 := S8.extN e89
        have hrows9 := rowsAt_ext hrows8 e89
        cases b with
        | true =>
          have g := gS rfl
          have gl := g.len
          have ha2 : H9 a2 = some (.ins CS dx2 (fldA "own_values" x lv)) := ha2
          have rowC : ∀ r ∈ rows, r.f.length = vals.length ∧ Mm.Lt 36 r.b ∧ (∀ y ∈ r.f, Mm.Lt 36 y) ∧ (∀ i, i ≤ vals.length → Mm.Lt 3000 (psum r.f vals i)) ∧ psum r.f vals vals.length ≤ r.b ∧ (r.s = true → psum r.f vals vals.length ≠ r.b) := fun r hr => by
            obtain ⟨g1, g2, g3⟩ := g.row r hr
            rw [gl]
            exact ⟨(hrG r hr).1, (hLb r hr).1, (hLb r hr).2, g1, g2, g3⟩
          refine .inl ⟨_, rfl, a2, dx2, _, rfl, ha2, a2, dx2, CS, _, _, rfl, ha2, AS.cls, AS.prob, rfl, _, rfl, x, dx, _, rfl, rfl, pra9.ob, x, dx, lr, n, rows, rfl, pra9, true, rfl, _, rfl, iteF ?_⟩
          refine .inl ⟨_, rfl, a2, dx2, _, rfl, ha2, rfl, a2, dx2, x, lv, dx, lr, rows, vals, 36, 1300, 3000, rfl, ha2, by rw [gl]; exact pra9, hlv, by omega, rowC, g.sz, by decide, fun H10 s10 => ⟨true, true, rfl, rfl, _, rfl, iteF ?_⟩⟩
          have ha10 := s10 _ _ ha2
          refine .inl ⟨_, rfl, a2, dx2, _, rfl, ha10, _, rfl, iteF ?_⟩
          refine .inl ⟨_, rfl, a2, dx2, _, rfl, ha10, _, rfl, iteT ?_⟩
          have hlv10 := SR.mono hlv s10
          refine ⟨_, rfl, a2, dx2, _, rfl, ha10, rfl, a2, dx2, x, lv, vals, rfl, ha10, hlv10, by omega, fun q8 v8 H11 s11 nq8 hq8 hv8 => ?_⟩
          have ha11 := s11 _ _ ha10
          refine .inl ⟨_, rfl, a2, dx2, _, rfl, ha11, _, rfl, true, rfl, true, true, rfl, rfl, _, rfl, iteF ?_⟩
          have hsq8 : SqL K H11 q8 v8 := SqL.of hq8
          have lv8 : v8.length = n := by rw [hv8.1, gl]
          refine ⟨_, rfl, _, _, rfl, .inl hsq8, _, rfl, ?_⟩
          have eln : (!decide (V.int (v8.length : Int) = V.int (n : Int))) = false := by rw [lv8, decide_eq_true rfl]; rfl
          refine ⟨rfl, _, rfl, ?_⟩
          rw [eln]
          refine iteF ?_
          have s811 := s10.trans s11
          have hrows11 := hrows9.mono s811
          have hlv11 := SR.mono hlv s811
          have hls8 : SR true K H11 q8 vals := ⟨v8, hsq8, hv8⟩
          refine ⟨_, rfl, _, rfl, pr, q8, rows, vals, 36, 1300, 3000, rfl, hrows11, hls8, by omega, by omega, rowC, g.sz, by decide, fun H12 s12 => ⟨true, rfl, iteF ?_⟩⟩
          have s912 := s811.trans s12
          have tb12 := tb9.ext s912
          have S12 := S9.keep s912
          have pra12 := pra9.mono s912
          have hls12 := SR.mono hls8 s12
          refine ⟨_, rfl, x, dx, _, rfl, pra12.ob, rfl, strip H12, x, dx, lr, n, 1300, rows, true, vals, rfl, strip_nt, strip_ext, tb12, pra12, by omega, by omega, hLt, by decide, by decide, hsv, fun H13 a3 dx3 lv3 ex13 tb13 ha3 hlv3 => ?_⟩
          have e1213 : ExtN H12 H13 := same_strip ex13
          have S13 := S12.extN e1213
          have hls13 := hls12.extN e1213
          have ha3 : H13 a3 = some (.ins CS dx3 (fldA "own_values" x lv3)) := ha3
          refine ⟨a3, dx3, _, rfl, ha3, rfl, a3, dx3, x, lv3, vals, rfl, ha3, hlv3, by omega, fun q9 v9 H14 s14 nq9 hq9 hv9 => ?_⟩
          have hls9 : SR true K H14 q9 vals := ⟨v9, SqL.of hq9, hv9⟩
          have hls14 := SR.mono hls13 s14
          refine ⟨_, rfl, _, rfl, q8, q9, vals, rfl, hls14, hls9, fun y hy => (g.sz y hy).1.mono (by decide), by omega, true, rfl, iteF ?_⟩
          obtain ⟨v8', hq8', hv8'⟩ := hls14
          have hq8' : SqL K H14 q8 v8' := hq8'
          refine ⟨_, rfl, q8, rfl, ⟨_, hq8'⟩, fun D nD => ?_⟩
          refine lc_list (K := K) (a := q8) (xs := v8') (fun i H2 => Same H14 H2 ∧ H2 D = some (.lst [])) ⟨Same.new nD, upd_same⟩ (fun i H2 _ g => g.1.seq hq8') ?_ ?_
          · rintro i u H2 hu ⟨s2, hD⟩
            obtain ⟨y, ey, hy⟩ := hv8'.of_v hu
            have hy2 := hy.mono s2
            have by_ := (g.sz y (List.mem_of_getElem? ey)).1
            refine ⟨rfl, ?_⟩
            refine ⟨_, rfl, _, rfl, ix_num hy2 ⟨_, rfl, ix_den hy2 ⟨y.num, y.den, rfl, Int.ofNat_lt.mpr y.den_pos, Nat.lt_of_lt_of_le by_.2 (Nat.pow_le_pow_right (by decide) (by decide)), fun v3 H3 s3 hv3 => ?_⟩⟩⟩
            have ey2 : ((y.num : Rat) / ((y.den : Int) : Rat)) = y := by
              rw [Rat.intCast_natCast, ← Rat.mkRat_eq_div, Rat.mkRat_self]
            rw [ey2] at hv3
            refine ⟨y, y, hy2.mono s3, hv3, _, rfl, ?_⟩
            rw [decide_eq_true rfl]
            exact iteF ⟨s2.trans s3, s3 _ _ hD⟩
          · rintro H2 ⟨s2, hD⟩
            refine ⟨by decide, fun p np => ?_⟩
            have s3 : Same H2 (upd H2 p (.lst [])) := Same.new np
            refine ⟨D, p, [], [], rfl, rfl, SqL.of (s3 _ _ hD), SqL.of upd_same, .nil, rfl, _, rfl, iteF ?_⟩
            exact ⟨_, _, _, _, _, _, _, rfl, (S13.keep s14).keep (s2.trans s3), tb13.ext (s14.trans (s2.trans s3))⟩
        | false =>
          have g := gB rfl
          have gl := g.len
          have ha2 : H9 a2 = some (.ins CB dx2 (fldA "own_weights" x lv)) := ha2
          have rowC : ∀ r ∈ rows, r.f.length = n ∧ Mm.Lt 36 r.b ∧ ∀ y ∈ r.f, Mm.Lt 36 y := fun r hr => ⟨(hrG r hr).1, (hLb r hr).1, (hLb r hr).2⟩
          refine .inr ⟨_, rfl, a2, dx2, _, rfl, ha2, a2, dx2, CB, _, _, rfl, ha2, AB.cls, AB.prob, rfl, _, rfl, x, dx, _, rfl, rfl, pra9.ob, x, dx, lr, n, rows, rfl, pra9, true, rfl, _, rfl, iteF ?_⟩
          refine .inr ⟨_, rfl, a2, dx2, _, rfl, ha2, rfl, a2, dx2, x, lv, dx, lr, n, rows, vals, 36, 1300, 3000, rfl, ha2, pra9, hlv, by omega, by omega, by omega, by decide, rowC, g.sz, g.cs, g.bs, by decide, g.pos, g.bad, fun H10 s10 => ⟨true, true, rfl, rfl, _, rfl, iteF ?_⟩⟩
          have ha10 := s10 _ _ ha2
          refine .inr ⟨_, rfl, a2, dx2, _, rfl, ha10, _, rfl, iteF ?_⟩
          refine .inr ⟨_, rfl, a2, dx2, _, rfl, ha10, _, rfl, iteF ?_⟩
          have hlv10 := SR.mono hlv s10
          refine ⟨_, rfl, a2, dx2, _, rfl, ha10, rfl, a2, dx2, x, lv, vals, rfl, ha10, hlv10, by omega, fun q8 v8 H11 s11 nq8 hq8 hv8 => ?_⟩
          have ha11 := s11 _ _ ha10
          refine .inr ⟨_, rfl, a2, dx2, _, rfl, ha11, _, rfl, false, rfl, false, false, rfl, rfl, _, rfl, iteF ?_⟩
          refine ⟨_, rfl, a2, dx2, _, rfl, ha11, true, rfl, iteF ?_⟩
          have s811 := s10.trans s11
          have hrows11 := hrows9.mono s811
          have hlv11 := SR.mono hlv s811
          obtain ⟨vr11, hvr11, hrr11⟩ := hrows11
          have hvr11 : SqL K H11 pr vr11 := hvr11
          have hsq8 : SqL K H11 q8 v8 := SqL.of hq8
          have lv8 : v8.length = vr11.length := by rw [hv8.1, gl, hrr11.1]
          refine ⟨_, rfl, _, _, rfl, .inl hsq8, _, rfl, _, _, rfl, .inl hvr11, ?_⟩
          have eln : (!decide (V.int (v8.length : Int) = V.int (vr11.length : Int))) = false := by rw [lv8, decide_eq_true rfl]; rfl
          refine ⟨rfl, _, rfl, ?_⟩
          rw [eln]
          refine iteF ?_
          have hls8 : SR true K H11 q8 vals := ⟨v8, hsq8, hv8⟩
          refine ⟨_, rfl, _, rfl, _, rfl, n, pr, q8, rows, vals, 36, 1300, 3000, rfl, ⟨vr11, hvr11, hrr11⟩, hls8, by omega, by omega, by omega, by decide, rowC, g.sz, g.cs, g.bs, by decide, g.pos, g.bad, fun H12 s12 => ⟨true, rfl, iteF ?_⟩⟩
          have s912 := s811.trans s12
          have tb12 := tb9.ext s912
          have S12 := S9.keep s912
          have pra12 := pra9.mono s912
          have hls12 := SR.mono hls8 s12
          refine ⟨_, rfl, x, dx, _, rfl, pra12.ob, rfl, strip H12, x, dx, lr, n, 1300, rows, false, vals, rfl, strip_nt, strip_ext, tb12, pra12, by omega, by omega, hLt, by decide, by decide, hsv, fun H13 a3 dx3 lv3 ex13 tb13 ha3 hlv3 => ?_⟩
          have e1213 : ExtN H12 H13 := same_strip ex13
          have S13 := S12.extN e1213
          have hls13 := hls12.extN e1213
          have ha3 : H13 a3 = some (.ins CB dx3 (fldA "own_weights" x lv3)) := ha3
          refine ⟨a3, dx3, _, rfl, ha3, rfl, a3, dx3, x, lv3, vals, rfl, ha3, hlv3, by omega, fun q9 v9 H14 s14 nq9 hq9 hv9 => ?_⟩
          have hls9 : SR true K H14 q9 vals := ⟨v9, SqL.of hq9, hv9⟩
          have hls14 := SR.mono hls13 s14
          refine ⟨_, rfl, _, rfl, q8, q9, vals, rfl, hls14, hls9, fun y hy => (g.sz y hy).1.mono (by decide), by omega, true, rfl, iteF ?_⟩
          obtain ⟨v8', hq8', hv8'⟩ := hls14
          have hq8' : SqL K H14 q8 v8' := hq8'
          refine ⟨_, rfl, q8, rfl, ⟨_, hq8'⟩, fun D nD => ?_⟩
          refine lc_list (K := K) (a := q8) (xs := v8') (fun i H2 => Same H14 H2 ∧ H2 D = some (.lst [])) ⟨Same.new nD, upd_same⟩ (fun i H2 _ g => g.1.seq hq8') ?_ ?_
          · rintro i u H2 hu ⟨s2, hD⟩
            obtain ⟨y, ey, hy⟩ := hv8'.of_v hu
            have hy2 := hy.mono s2
            have by_ := (g.sz y (List.mem_of_getElem? ey)).1
            refine ⟨rfl, ?_⟩
            refine ⟨_, rfl, _, rfl, ix_num hy2 ⟨_, rfl, ix_den hy2 ⟨y.num, y.den, rfl, Int.ofNat_lt.mpr y.den_pos, Nat.lt_of_lt_of_le by_.2 (Nat.pow_le_pow_right (by decide) (by decide)), fun v3 H3 s3 hv3 => ?_⟩⟩⟩
            have ey2 : ((y.num : Rat) / ((y.den : Int) : Rat)) = y := by
              rw [Rat.intCast_natCast, ← Rat.mkRat_eq_div, Rat.mkRat_self]
            rw [ey2] at hv3
            refine ⟨y, y, hy2.mono s3, hv3, _, rfl, ?_⟩
            rw [decide_eq_true rfl]
            exact iteF ⟨s2.trans s3, s3 _ _ hD⟩
          · rintro H2 ⟨s2, hD⟩
            refine ⟨by decide, fun p np => ?_⟩
            have s3 : Same H2 (upd H2 p (.lst [])) := Same.new np
            refine ⟨D, p, [], [], rfl, rfl, SqL.of (s3 _ _ hD), SqL.of upd_same, .nil, rfl, _, rfl, iteF ?_⟩
            exact ⟨_, _, _, _, _, _, _, rfl, (S13.keep s14).keep (s2.trans s3), tb13.ext (s14.trans (s2.trans s3))⟩
    · rintro σ H' ⟨l2, l3, l4, l6, l7, l8, l9, rfl, S', tb'⟩
      exact q _
end
end MM
namespace MM
open PySem PySem.Spec PyProof.Rows L2 LamX NdefX
theorem colR_mrow {rows : List PRow} {j : Nat} : ((rows.map mrow).map fun r => r.f.getD j 0) = colR rows j := by
  rw [List.map_map]; rfl
theorem bndR_mrow {rows : List PRow} : ((rows.map mrow).map fun r => r.b) = bndR rows := by
  rw [List.map_map]; rfl
theorem psum_comm (xs ys : List Rat) (i : Nat) : psum xs ys i = psum ys xs i := Mm.sm_congr fun j _ => Rat.mul_comm _ _
theorem solved_all : Solved_ := by
  intro n rows hn hm hg
  have gb : ∀ r ∈ rows.map mrow, Mm.IsN 60 Mm.M0 r.b ∧ ∀ x ∈ r.f, Mm.IsN 60 Mm.M0 x := fun r hr => by
    obtain ⟨q, hq, rfl⟩ := List.mem_map.mp hr
    exact ⟨(hg q hq).2.1, (hg q hq).2.2⟩
  obtain ⟨b, vals, so, st, un⟩ := Mm.solve_ex (n := n) (rows := rows.map mrow) hn (by rw [List.length_map]; exact hm) (fun r hr => by
    obtain ⟨q, hq, rfl⟩ := List.mem_map.mp hr
    exact (hg q hq).1) gb
  refine ⟨b, vals, so, fun e => ?_, fun e => ?_⟩
  · obtain ⟨l, ⟨D', d1, d2, sz⟩, nn, row⟩ := st e
    refine ⟨l, fun x hx => ⟨Mm.isN_1300 d1 d2 (sz x hx), nn x hx⟩, fun r hr => ⟨fun i hi => ?_, ?_⟩⟩
    · exact Mm.sm_lt (hg r hr).2.2 d1 d2 sz (by omega)
    · exact row (mrow r) (List.mem_map_of_mem hr)
  · obtain ⟨l, ⟨D', d1, d2, sz⟩, nn, pos, bad⟩ := un e
    rw [List.length_map] at l pos bad
    refine ⟨l, fun x hx => ⟨Mm.isN_1300 d1 d2 (sz x hx), nn x hx⟩, fun j i hi => ?_, fun i hi => ?_, fun j hj => ?_, ?_⟩
    · rw [psum_comm]
      refine Mm.sm_lt (fun x hx => ?_) d1 d2 sz (by omega)
      obtain ⟨r, hr, rfl⟩ := List.mem_map.mp hx
      exact Mm.isN_gd (hg r hr).2.2 j
    · rw [psum_comm]
      refine Mm.sm_lt (fun x hx => ?_) d1 d2 sz (by omega)
      obtain ⟨r, hr, rfl⟩ := List.mem_map.mp hx
      exact (hg r hr).2.1
    · have := pos j hj
      rw [colR_mrow] at this
      exact this
    · rw [bndR_mrow] at bad
      refine bad.imp id fun ⟨h0, i, r, hr, hs, hp⟩ => ⟨h0, ?_⟩
      rw [List.getElem?_map] at hr
      obtain ⟨q, hq, rfl⟩ := Option.map_eq_some_iff.mp hr
      exact ⟨i, q, hq, hs, hp⟩
end MM
/-! the law is called by a caller where no guard stands; one code object has an empty table -/
namespace MM
open PySem PySem.Spec PyProof.Rows L2 LamX NdefX
def lawO (its : List Value) : Obj := { cls := .type "list", data := .seq its.toArray }
section
variable {K : PySem.W.Frag} {a Pt c : Addr} {its : List Value} {ns : List Int} {g : Heap}
/-- what is tracked ahead of the call: the table, and the script unless it is known anyhow -/
def lawH (K : PySem.W.Frag) (a Pt : Addr) (its : List Value) (ns : List Int) : Hp := fun b =>
  if b = Pt then some (.tbl #[]) else if b = a ∧ K.lookup a = none then some (.frz (lawO its) (.lst (ns.map V.int))) else none
theorem lawH_some {b : Addr} {u : HO} (h : lawH K a Pt its ns b = some u) : (b = Pt ∧ u = .tbl #[]) ∨ (b = a ∧ K.lookup a = none ∧ u = .frz (lawO its) (.lst (ns.map V.int))) := by
  unfold lawH at h
  split at h
  · exact .inl ⟨‹_›, (Option.some.inj h).symm⟩
  · split at h
    · rename_i z
      exact .inr ⟨z.1, z.2, (Option.some.inj h).symm⟩
    · cases h
theorem lawH_none {b : Addr} (h1 : b ≠ Pt) (h2 : b = a → K.lookup a = none → False) : lawH K a Pt its ns b = none := by
  unfold lawH
  rw [if_neg h1, if_neg fun z => h2 z.1 z.2]
theorem lawH_tab : lawH K a Pt its ns Pt = some (.tbl #[]) := if_pos rfl
theorem lawH_seq (hg : K.In g) (ha : g.get? a = some (lawO its)) (r : Vals (ns.map V.int) its) (hz : ns.length ≤ sizeLine) (ne : a ≠ Pt) : SqL K (lawH K a Pt its ns) a (ns.map V.int) := by
  cases q : K.lookup a with
  | none =>
    refine .inl (.inr ⟨lawO its, ?_⟩)
    unfold lawH
    rw [if_neg ne, if_pos ⟨rfl, q⟩]
  | some o =>
    have e := hg a o q
    rw [ha] at e
    cases e
    refine .inr ⟨_, its.toArray, _, q, rfl, rfl, rfl, ?_, by simpa using r⟩
    rw [List.size_toArray, ← r.length, List.length_map]
    exact hz
end
theorem enter_law {P : Program} {w : World} {K : PySem.W.Frag} {mg mb : Str → Option Value} {k : Nat} {fa a c Pt : Addr} {fd : FuncData} {x : Str} {sp : Sp} {s : Shared} {its : List Value} {ns : List Int}
    (hK : K.In s.heap) (hG : s.heap.Ns mainGlobals mg) (hB : s.heap.Ns builtinsNs mb) (hBB : ∀ y : Str, y ≠ "__name__" → mb y = bootBuiltins y) (hL : s.heap.NoLimit) (hgen : s.gens = #[])
    (bm : ∃ (b : Addr) (ob : Obj), mg "__builtins__" = some (.ref b) ∧ b ≠ builtinsNs ∧ s.heap.get? b = some ob ∧ ob.cls = .type "module" ∧ ob.dict = some builtinsNs ∧ ob.data = .plain)
    (hT : s.heap.get? Pt = some tabO) (nT : K.lookup Pt = none) (hC : PySem.W.codeHdIn K c Pt = true)
    (ha : s.heap.get? a = some (lawO its)) (hi : IntsAre its ns) (hz : ns.length ≤ sizeLine) (hr : Room k callerA)
    (F : ∀ base : Heap, K.In base → base.Ns mainGlobals mg → TabB base mg c Pt → FnG P w K mg base k fa fd [x] sp)
    (hsp : ∀ H : Hp, H Pt = some (.tbl #[]) → SqL K H a (ns.map V.int) → sp [.ref a] H (fun v _ => v = .bl true) C8.E0) :
    codeAny (model P w) callerA (.call (.ref fa) ⟨[.ref a], []⟩) (fun r t => r = .ok (.ret (.bool true)) ∧ OldK s.heap t.heap ∧ t.os = s.os ∧ AllBare t.gens) s := by
  have rv := vals_ints hi
  have ne : a ≠ Pt := fun e => by
    rw [e, hT] at ha
    have z : Data.fields #[] = Data.seq its.toArray _ := congrArg Obj.data (Option.some.inj ha)
    cases z
  have CH := PySem.W.codeHd_of_K hK hC
  -- who is not tracked
  have away : ∀ {b : Addr} {o : Obj}, s.heap.get? b = some o → o.data ≠ .fields #[] → (∀ vs n, o.data ≠ .seq vs n) → lawH K a Pt its ns b = none := fun {b o} e d1 d2 => by
    refine lawH_none (fun z => ?_) fun z _ => ?_
    · rw [z, hT] at e
      cases e
      exact d1 rfl
    · rw [z, ha] at e
      cases e
      exact d2 _ _ rfl
  have dict : ∀ {b : Addr} {m : Str → Option Value}, s.heap.Ns b m → (hidT s.heap (lawH K a Pt its ns)).Ns b m := fun {b m} ⟨o, es, n, e, d, r⟩ => by
    refine ⟨o, es, n, hidT_get e (away e (fun z => ?_) fun vs n z => ?_), d, r⟩ <;> (rw [d] at z; cases z)
  have KB : K.In (hidT s.heap (lawH K a Pt its ns)) := fun b o e => by
    refine hidT_get (hK b o e) (lawH_none (fun z => ?_) fun z1 z2 => ?_)
    · rw [z, nT] at e; cases e
    · rw [z1, z2] at e; cases e
  have GB := dict hG
  have md : L2.Mod K mg (hidT s.heap (lawH K a Pt its ns)) := ⟨KB, GB, ⟨mb, dict hB, hBB⟩, hL.elim fun mc h => ⟨mc, dict h.1, h.2⟩⟩
  have gP : mainGlobals ≠ Pt := fun z => by
    obtain ⟨o, es, n, e, d, _⟩ := hG
    rw [z, hT] at e
    cases e
    cases d
  have TBB : TabB (hidT s.heap (lawH K a Pt its ns)) mg c Pt := by
    refine tabB_of_K KB hC ?_ gP
    obtain ⟨b, ob, b1, b2, b3, b4, b5, b6⟩ := bm
    refine ⟨b, ob, b1, b2, fun z => ?_, fun z => ?_, hidT_get b3 (away b3 (fun z => ?_) fun vs n z => ?_), b4, b5, b6⟩
    · obtain ⟨o, es, n, e, d, _⟩ := hG
      rw [← z, b3] at e
      cases e
      rw [b6] at d
      cases d
    · rw [z, hT] at b3
      cases b3
      cases b6
    all_goals (rw [b6] at z; cases z)
  have held : HOk P w (lawH K a Pt its ns) s.heap := fun b u e => by
    rcases lawH_some e with ⟨rfl, rfl⟩ | ⟨rfl, _, rfl⟩
    · exact hT
    · refine ⟨ha, ?_, its, _, rv, ha⟩
      rw [List.length_map]
      exact hz
  have env : Env0 P w K mg (hidT s.heap (lawH K a Pt its ns)) callerA [] s (lawH K a Pt its ns) :=
    ⟨rfl, md, fun b o e => of_hidT e, Nat.le_of_eq (hidT_size _ _), trivial, fun b hb => (nomatch (show b ∈ ([] : List Addr) from hb)), held, .of_eq hgen⟩
  refine codeAny_mono ((F _ KB GB TBB).run callerA [] s _ [.ref a] [.ref a] _ rfl hr env (.cons rfl .nil) (hsp _ lawH_tab (lawH_seq hK ha rv hz ne))) fun r t h => ?_
  cases r with
  | error e => exact False.elim h
  | ok fl =>
    cases fl with
    | ret u =>
      obtain ⟨v, H', os, bare, un, ok', rel, rfl⟩ := h
      obtain rfl : u = Value.bool true := rel
      obtain ⟨more, em⟩ := un.tbls Pt #[] lawH_tab
      have et : t.heap.get? Pt = some { cls := .none, data := .fields (#[] ++ more) } := ok' Pt _ em
      have stay : ∀ b o, b ≠ Pt → s.heap.get? b = some o → t.heap.get? b = some o := fun b o nb e => by
        cases q : lawH K a Pt its ns b with
        | none => exact un.keep b o e q (fun z => (nomatch (show b ∈ ([] : List Addr) from z))) (fun z => by simp at z)
        | some u =>
          rcases lawH_some q with ⟨z, _⟩ | ⟨rfl, _, rfl⟩
          · exact absurd z nb
          · rw [ha] at e
            cases e
            exact (ok' _ _ (un.frzs _ _ _ q)).1
      refine ⟨rfl, ⟨fun b o e => ?_, fun b o e => ?_⟩, os, bare⟩
      · by_cases hb : b = Pt
        · subst hb
          rw [hT] at e
          cases e
          exact .inr (.inl ⟨(CH.tab hT).isCodeTable, rfl, #[], more, rfl, et⟩)
        · exact .inl (stay b o hb e)
      · by_cases hb : b = Pt
        · exact ⟨_, hb ▸ et⟩
        · exact ⟨o, stay b o hb e⟩
    | next => exact False.elim h
    | brk => exact False.elim h
    | cont => exact False.elim h
end MM
namespace MM
open PySem PySem.Spec PyProof.Rows L2 LamX NdefX
theorem insB_ok {K : PySem.W.Frag} {C D : Addr} {b : Bool} (c : Cls K C) (h : insB K C D b = true) : InsD K C D b := by
  obtain ⟨h1, h⟩ := He.ba h
  obtain ⟨h2, h⟩ := He.ba h
  obtain ⟨h3, h⟩ := He.ba h
  obtain ⟨h4, h5⟩ := He.ba h
  exact ⟨c, He.eqO_ok h1, He.eqO_ok h2, of_decide_eq_true h3, of_decide_eq_true h4, of_decide_eq_true h5⟩
theorem prpB_ok {K : PySem.W.Frag} {C : Addr} {f : Str} (h : prpB K C f = true) : PropOf K C f (He.ma K C f) (gtr K C f) := by
  obtain ⟨h1, h⟩ := He.ba h
  obtain ⟨h2, h⟩ := He.ba h
  obtain ⟨h3, h4⟩ := He.ba h
  refine ⟨He.eqO_ok h1, He.eqO_ok h2, of_decide_eq_true h3, ?_⟩
  split at h4
  · rename_i g r e
    rw [of_decide_eq_true h4] at e
    exact ⟨_, e⟩
  · cases h4
theorem DefY.ex {K : PySem.W.Frag} {d : DefY} (e : fnY K (d.at_ K) = d.val) (c : d.ok K = true) : ∃ (oc : Value) (od : Option Addr) (osl : Array (Option Value)) (kV doc pm ct cdv : Value) (an : Option Addr) (cls : List (Str × Addr)),
    K.lookup (d.at_ K) = some ⟨oc, od, .func (PySem.W.fnX d.name d.qual (defArgs d.st) (defBody d.st) (defScope d.st) cls .none kV doc pm an cdv ct), osl⟩ ∧ cls.map (·.1) = d.cl ∧ PySem.W.codeIn K cdv d.qual = true ∧ PySem.W.keepIn K (.ref (d.at_ K)) = true := by
  obtain ⟨kp, c2⟩ := He.ba c
  unfold fnY at e
  split at e
  · rename_i oc od fd osl lk
    rw [lk] at c2
    obtain ⟨n1, n2, n3, n4, n5, n6, n7, n8, n9, n10, n11, n12, n13, n14, n15⟩ := fd
    obtain ⟨k1, k2⟩ := He.ba (show (PySem.W.codeIn K n13 d.qual && noV n8) = true from c2)
    have e2 : (some (n1, n2, n3, n4, n5, n6, n7.map (·.1), n15) : FnYV) = some (d.name, d.qual, defArgs d.st, .stmts (defBody d.st), defScope d.st, mainGlobals, d.cl, builtinsNs) := e
    simp only [Option.some.injEq, Prod.mk.injEq] at e2
    obtain ⟨h1, h2, h3, h4, h5, h6, h7, h8⟩ := e2
    subst h1 h2 h3 h4 h5 h6 h8
    cases n8 with
    | none => exact ⟨_, _, _, _, _, _, _, _, _, _, lk, h7, k1, kp⟩
    | _ => cases k2
  · cases e
theorem DefY.funD {K : PySem.W.Frag} {d : DefY} (e : fnY K (d.at_ K) = d.val) (c : d.ok K = true) (h : d.cl = []) : ∃ fd, FunD K d.name d.qual (defArgs d.st) (defBody d.st) (defScope d.st) [] [] (d.at_ K) fd := by
  obtain ⟨oc, od, osl, kV, doc, pm, ct, cdv, an, cls, lk, hc, cd, kp⟩ := DefY.ex e c
  rw [h] at hc
  obtain rfl := List.map_eq_nil_iff.mp hc
  exact ⟨_, ⟨oc, od, .none, kV, doc, pm, an, cdv, ct, osl, rfl, lk, cd, .inl ⟨rfl, rfl⟩, .inl rfl⟩, kp⟩
section
variable {h : Heap} {K : PySem.W.Frag}
theorem SaysO.x (c : SaysO h K) (i : Nat) {f : PySem.W.Frag → Bool} (e : exO[i]? = some f := by rfl) : f K = true :=
  List.all_eq_true.mp (He.ba c.more).1 f (List.mem_of_getElem? e)
theorem SaysO.y (c : SaysO h K) (i : Nat) {d : DefY} (e : ysO[i]? = some d := by rfl) : fnY K (d.at_ K) = d.val ∧ d.ok K = true := by
  refine ⟨?_, List.all_eq_true.mp (He.ba c.more).2 d (List.mem_of_getElem? e)⟩
  have e2 : (ysO.map fun d => fnY K (d.at_ K))[i]? = (ysO.map DefY.val)[i]? := by rw [c.ys]
  rw [List.getElem?_map, List.getElem?_map, e] at e2
  exact Option.some.inj e2
end
end MM
namespace MM
open PySem PySem.Spec PyProof.Rows L2 LamX NdefX
section
variable {P : Program} {w : World} {K : PySem.W.Frag} {mg : Str → Option Value} {base : Heap} {f C : Addr} {fd : FuncData} {x qual : Str} {params : Arguments} {body : List Stmt} {scope : Scope} {ps : List Str} {k : Nat} {sp : Sp}
theorem cal_of (F : FunD K x x params body scope [] [] f fd) (ok : FnOk P w K mg base C8.CX0 k f fd ps sp) (g : mg x = some (.ref f))
    (hb : ∀ (kV doc pm : Value) (an : Option Addr) (cdv ct : Value) (us : List Value), us.length = ps.length → bindArgs (PySem.W.fnOf x x params body scope .none kV doc pm an cdv ct) ⟨us, []⟩ = pure (ps.zip us)) : C8.Cal P w K mg base k x sp [] :=
  ⟨f, fd, ps, [], ok, g, F.kp, F.bindsN hb, .nil⟩
theorem met_of (c : Cls K C) (m : Meth K C x f) (F : FunD K x qual params body scope [] [] f fd) (ok : FnOk P w K mg base C8.CX0 k f fd ps sp)
    (hb : ∀ (kV doc pm : Value) (an : Option Addr) (cdv ct : Value) (us : List Value), us.length = ps.length → bindArgs (PySem.W.fnOf x qual params body scope .none kV doc pm an cdv ct) ⟨us, []⟩ = pure (ps.zip us)) : C8.Met P w K mg base k C x sp [] :=
  ⟨f, fd, ps, [], c, m, ok, F.bindsN hb, .nil⟩
theorem prp_of {p g : Addr} (c : Cls K C) (m : PropOf K C x p g) (F : FunD K x qual params body scope [] [] g fd) (ok : FnOk P w K mg base C8.CX0 k g fd ps sp)
    (hb : ∀ (kV doc pm : Value) (an : Option Addr) (cdv ct : Value) (us : List Value), us.length = ps.length → bindArgs (PySem.W.fnOf x qual params body scope .none kV doc pm an cdv ct) ⟨us, []⟩ = pure (ps.zip us)) : Prp P w K mg base k C x sp :=
  ⟨p, g, fd, ps, c, m, ok, F.bindsN hb⟩
end
/-- what stands behind the names -/
theorem txt_of {h : Heap} {K : PySem.W.Frag} {mg : Str → Option Value} (c : SaysO h K) (X : K.In h) (G : h.Ns mainGlobals mg) : Txt K mg where
  f_len := He.free_ok X G (c.d.fact 40)
  f_isinstance := He.free_ok X G (c.d.fact 41)
  f_abs := He.free_ok X G (c.d.fact 42)
  f_all := He.free_ok X G (c.d.fact 43)
  f_any := He.free_ok X G (c.d.fact 44)
  f_int := He.free_ok X G (c.d.fact 45)
  f_bool := He.free_ok X G (c.d.fact 46)
  f_list := He.free_ok X G (c.d.fact 47)
  f_tuple := He.free_ok X G (c.d.fact 48)
  f_repr := He.free_ok X G (c.d.fact 49)
  f_range := He.free_ok X G (c.d.fact 50)
  f_enumerate := He.free_ok X G (c.d.fact 51)
  f_zip := He.free_ok X G (c.d.fact 52)
  f_min := He.free_ok X G (c.d.fact 53)
  f_super := He.free_ok X G (c.d.fact 54)
  f_gcd := PySem.W.mg_of X G (He.eqO_ok (c.x 0))
  gZ := ⟨_, (He.glo_ok X G (c.d.fact 33)), rfl⟩
  gO := ⟨_, (He.glo_ok X G (c.d.fact 34)), rfl⟩
  gM := by
    obtain ⟨t, e⟩ := He.int_ok X G (c.d.fact 55)
    exact ⟨_, e, t, rfl⟩
  tZ := fun H => He.tupB_ok (c.x 1) H
  tO := fun H => He.tupB_ok (c.x 2) H
theorem one_cell {y : Str} : ∀ {cls : List (Str × Addr)}, cls.map (·.1) = [y] → ∃ cc, cls = [(y, cc)]
  | [], h => by cases h
  | [(z, cc)], h => ⟨cc, by rw [show z = y from (List.cons.inj h).1]⟩
  | _ :: _ :: _, h => by
    have := congrArg List.length h
    simp at this
/-- __init__ with the cell __class__ -/
theorem sup_of {h : Heap} {K : PySem.W.Frag} {d : DefY} {C : Addr} (ea : d.at_ K = He.ma K C "__init__") (e : fnY K (d.at_ K) = d.val) (ok : d.ok K = true) (hcl : d.cl = [Str.ofString "__class__"]) (hs : supB K C = true) :
    ∃ (fd : FuncData) (cda : Addr) (kV doc pm ct : Value) (an : Option Addr), fd = PySem.W.ksFn d.name d.qual (defArgs d.st) (defBody d.st) (defScope d.st) .none kV doc pm an (.ref cda) ct (cell1 K (He.ma K C "__init__")) ∧ SupF PP K ⟨d.name, d.qual, defArgs d.st, defBody d.st, defScope d.st, [(Str.ofString "__class__", cell1 K (He.ma K C "__init__"))], cda⟩ (He.ma K C "__init__") C (cell1 K (He.ma K C "__init__")) (He.ma K (cA K) "__init__") "__init__" ∧
      ∃ (oc : Value) (od : Option Addr) (osl : Array (Option Value)), K.lookup (He.ma K C "__init__") = some ⟨oc, od, .func fd, osl⟩ := by
  obtain ⟨oc, od, osl, kV, doc, pm, ct, cdv, an, cls, lk, hc, cd, kp⟩ := DefY.ex e ok
  rw [ea] at lk
  rw [hcl] at hc
  obtain ⟨cc, rfl⟩ := one_cell hc
  obtain ⟨cda, rfl⟩ := He.codeIn_ref cd
  have e1 : cell1 K (He.ma K C "__init__") = cc := by
    unfold cell1
    rw [lk]
  have e2 : code1 K (He.ma K C "__init__") = cda := by
    unfold code1
    rw [lk]
  obtain ⟨h1, hs⟩ := He.ba hs
  obtain ⟨h2, hs⟩ := He.ba hs
  obtain ⟨h3, hs⟩ := He.ba hs
  obtain ⟨h4, hs⟩ := He.ba hs
  obtain ⟨h5, hs⟩ := He.ba hs
  obtain ⟨h6, hs⟩ := He.ba hs
  obtain ⟨h7, h8⟩ := He.ba hs
  rw [e2] at h1
  rw [e1] at h2 ⊢
  refine ⟨_, cda, kV, doc, pm, ct, an, rfl, ⟨⟨oc, od, osl, kV, doc, pm, ct, an, lk⟩, rfl, cd, ?_, ?_, Option.isSome_iff_exists.mp h3, of_decide_eq_true h4, He.eqO_ok h5, He.eqO_ok h6, of_decide_eq_true h7, h8⟩, oc, od, osl, lk⟩
  · split at h1
    · rename_i q
      split at h1
      · rename_i q2
        exact ⟨_, _, _, _, _, _, q, q2, h1⟩
      · cases h1
    · cases h1
  · split at h2
    · rename_i q
      rw [of_decide_eq_true h2] at q
      exact ⟨_, _, _, q⟩
    · cases h2
theorem law_at {h : Heap} {K : PySem.W.Frag} {mg : Str → Option Value} {fa : Addr} (c : SaysO h K) (X : K.In h) (G : h.Ns mainGlobals mg) (e : mg "law" = some (.ref fa)) : fa = He.ga K "law" := by
  have e2 := e.symm.trans (He.glo_ok X G (c.d.fact 32))
  cases e2
  rfl
/-- the law keeps its promise -/
theorem law_ok {w : World} {h : Heap} {K : PySem.W.Frag} {mg : Str → Option Value} (c : SaysO h K) (X : K.In h) (G : h.Ns mainGlobals mg) : ∃ fd : FuncData, ∀ base : Heap, TabB base mg (He.cT K impD).1 (He.cT K impD).2 → FnG PP w K mg base 9 (He.ga K "law") fd ["_law_script"] (spLaw K (He.cT K impD).2) := by
  have T := txt_of c X G
  generalize hPt : (He.cT K impD).2 = Pt
  have k_Tableau := He.cls_ok (c.d.fact 56)
  have k_Problem := He.cls_ok (c.d.fact 57)
  have k_Solved := He.cls_ok (c.d.fact 58)
  have k_Barred := He.cls_ok (c.d.fact 59)
  have TK : TC K (cT K) := ⟨k_Tableau, (He.noat_ok (c.d.fact 60)), (He.noat_ok (c.d.fact 61)), (He.noat_ok (c.d.fact 62)), (He.noat_ok (c.d.fact 63)), (He.noat_ok (c.d.fact 64)), (He.noat_ok (c.d.fact 65))⟩
  have PK : PC_ K (cP K) := ⟨k_Problem, (He.noat_ok (c.d.fact 66)), (He.noat_ok (c.d.fact 67))⟩
  have AS : AC K (cS K) "own_values" := ⟨k_Solved, (He.noat_ok (c.d.fact 68)), (He.noat_ok (c.d.fact 69))⟩
  have AB : AC K (cB K) "own_weights" := ⟨k_Barred, (He.noat_ok (c.d.fact 70)), (He.noat_ok (c.d.fact 71))⟩
  obtain ⟨fd_law, F_law⟩ := c.d.def_ 32
  refine ⟨fd_law, fun base TB => ?_⟩
  let P : Program := PP
  obtain ⟨fd_is_whole, F_is_whole⟩ := c.d.def_ 0
  have c_is_whole : C8.Cal P w K mg base 1 "is_whole" (spWhole K) [] := cal_of F_is_whole (ok_is_whole F_is_whole T) (He.glo_ok X G (c.d.fact 0)) (fun _ _ _ _ _ _ us hl => match us, hl with | [_], _ => rfl)
  obtain ⟨fd_is_number, F_is_number⟩ := c.d.def_ 1
  have c_is_number : C8.Cal P w K mg base 2 "is_number" (spNumber) [] := cal_of F_is_number (ok_is_number F_is_number T c_is_whole) (He.glo_ok X G (c.d.fact 1)) (fun _ _ _ _ _ _ us hl => match us, hl with | [_, _, _], _ => rfl)
  obtain ⟨fd_is_ratio, F_is_ratio⟩ := c.d.def_ 2
  have c_is_ratio : C8.Cal P w K mg base 2 "is_ratio" (spRatio K) [] := cal_of F_is_ratio (ok_is_ratio F_is_ratio T c_is_whole) (He.glo_ok X G (c.d.fact 2)) (fun _ _ _ _ _ _ us hl => match us, hl with | [_], _ => rfl)
  obtain ⟨fd_is_valued, F_is_valued⟩ := c.d.def_ 3
  have c_is_valued : C8.Cal P w K mg base 3 "is_valued" (spRatio K) [] := cal_of F_is_valued (ok_is_valued F_is_valued T c_is_whole c_is_ratio) (He.glo_ok X G (c.d.fact 3)) (fun _ _ _ _ _ _ us hl => match us, hl with | [_], _ => rfl)
  obtain ⟨fd_ratio_of, F_ratio_of⟩ := c.d.def_ 4
  have c_ratio_of : C8.Cal P w K mg base 3 "ratio_of" (spRatioOf K) [] := cal_of F_ratio_of (ok_ratio_of F_ratio_of T c_is_whole c_is_ratio) (He.glo_ok X G (c.d.fact 4)) (fun _ _ _ _ _ _ us hl => match us, hl with | [_], _ => rfl)
  obtain ⟨fd_lowest, F_lowest⟩ := c.d.def_ 5
  have c_lowest : C8.Cal P w K mg base 1 "lowest" (spLow K) [] := cal_of F_lowest (ok_lowest F_lowest T) (He.glo_ok X G (c.d.fact 5)) (fun _ _ _ _ _ _ us hl => match us, hl with | [_, _], _ => rfl)
  obtain ⟨fd_plus, F_plus⟩ := c.d.def_ 6
  have c_plus : C8.Cal P w K mg base 2 "plus" (spPlus K) [] := cal_of F_plus (ok_plus (lv := 0) F_plus T c_lowest) (He.glo_ok X G (c.d.fact 6)) (fun _ _ _ _ _ _ us hl => match us, hl with | [_, _], _ => rfl)
  obtain ⟨fd_minus, F_minus⟩ := c.d.def_ 7
  have c_minus : C8.Cal P w K mg base 3 "minus" (spMinus K) [] := cal_of F_minus (ok_minus F_minus T c_plus) (He.glo_ok X G (c.d.fact 7)) (fun _ _ _ _ _ _ us hl => match us, hl with | [_, _], _ => rfl)
  obtain ⟨fd_times, F_times⟩ := c.d.def_ 8
  have c_times : C8.Cal P w K mg base 2 "times" (spTimes K) [] := cal_of F_times (ok_times F_times T c_lowest) (He.glo_ok X G (c.d.fact 8)) (fun _ _ _ _ _ _ us hl => match us, hl with | [_, _], _ => rfl)
  obtain ⟨fd_inverse, F_inverse⟩ := c.d.def_ 9
  have c_inverse : C8.Cal P w K mg base 1 "inverse" (spInverse K) [] := cal_of F_inverse (ok_inverse F_inverse T) (He.glo_ok X G (c.d.fact 9)) (fun _ _ _ _ _ _ us hl => match us, hl with | [_], _ => rfl)
  obtain ⟨fd_below, F_below⟩ := c.d.def_ 10
  have c_below : C8.Cal P w K mg base 1 "below" (spBelow K) [] := cal_of F_below (ok_below F_below T) (He.glo_ok X G (c.d.fact 10)) (fun _ _ _ _ _ _ us hl => match us, hl with | [_, _], _ => rfl)
  obtain ⟨fd_dot, F_dot⟩ := c.d.def_ 11
  have c_dot : C8.Cal P w K mg base 3 "dot" (spDot K) [] := cal_of F_dot (ok_dot F_dot T c_plus c_times) (He.glo_ok X G (c.d.fact 11)) (fun _ _ _ _ _ _ us hl => match us, hl with | [_, _], _ => rfl)
  obtain ⟨fd_exchanged, F_exchanged⟩ := c.d.def_ 12
  have c_exchanged : C8.Cal P w K mg base 3 "exchanged" (spExch K) [] := cal_of F_exchanged (ok_exchanged F_exchanged T c_plus c_times) (He.glo_ok X G (c.d.fact 12)) (fun _ _ _ _ _ _ us hl => match us, hl with | [_, _, _], _ => rfl)
  obtain ⟨fd_least_weights, F_least_weights⟩ := c.d.def_ 13
  have c_least_weights : C8.Cal P w K mg base 4 "least_weights" (spLeast K) [] := cal_of F_least_weights (ok_least_weights F_least_weights T c_dot) (He.glo_ok X G (c.d.fact 13)) (fun _ _ _ _ _ _ us hl => match us, hl with | [_, _, _], _ => rfl)
  obtain ⟨fd_is_row, F_is_row⟩ := c.d.def_ 14
  have c_is_row : C8.Cal P w K mg base 4 "is_row" (spIsRow K) [] := cal_of F_is_row (ok_is_row F_is_row T c_is_valued) (He.glo_ok X G (c.d.fact 14)) (fun _ _ _ _ _ _ us hl => match us, hl with | [_, _], _ => rfl)
  obtain ⟨fd_are_ratios, F_are_ratios⟩ := c.d.def_ 15
  have c_are_ratios : C8.Cal P w K mg base 3 "are_ratios" (spAreR K) [] := cal_of F_are_ratios (ok_are_ratios F_are_ratios T c_is_ratio) (He.glo_ok X G (c.d.fact 15)) (fun _ _ _ _ _ _ us hl => match us, hl with | [_, _], _ => rfl)
  obtain ⟨fd_own_copy, F_own_copy⟩ := c.d.def_ 16
  have c_oc0 : C8.Cal P w K mg base 0 "own_copy" (fun _ _ _ _ => False) [] := cal_of F_own_copy (ps := ["value"]) ⟨fun _ _ _ _ z => z.elim, fun _ _ _ _ _ _ _ _ _ _ _ _ _ z => z.elim⟩ (He.glo_ok X G (c.d.fact 16)) (fun _ _ _ _ _ _ us hl => match us, hl with | [_], _ => rfl)
  have c_oc1 : C8.Cal P w K mg base 1 "own_copy" (spCopy K false) [] := cal_of F_own_copy (ok_own_copy (b := false) F_own_copy T c_oc0 (fun z => by cases z)) (He.glo_ok X G (c.d.fact 16)) (fun _ _ _ _ _ _ us hl => match us, hl with | [_], _ => rfl)
  have c_own_copy : C8.Cal P w K mg base 2 "own_copy" (spCopy K true) [] := cal_of F_own_copy (ok_own_copy (b := true) F_own_copy T c_oc1 (fun _ i H Q E q => ⟨_, rfl, .inl ⟨i, rfl, q⟩⟩)) (He.glo_ok X G (c.d.fact 16)) (fun _ _ _ _ _ _ us hl => match us, hl with | [_], _ => rfl)
  obtain ⟨fd_as_list, F_as_list⟩ := c.d.def_ 17
  have c_as_list : C8.Cal P w K mg base 3 "as_list" (spAsList K) [] := cal_of F_as_list (ok_as_list (k := 0) F_as_list T c_own_copy) (He.glo_ok X G (c.d.fact 17)) (fun _ _ _ _ _ _ us hl => match us, hl with | [_], _ => rfl)
  obtain ⟨fd_Tableau_improve, F_imp0⟩ := c.d.def_ 36
  have hTB : ∀ z, fd_Tableau_improve.code = .ref z → TabB base mg z Pt := fun z hz => by
    obtain ⟨oc, od, dV, kV, doc, pm, an, cdv, ct, osl, efd, lk, _, _, _⟩ := F_imp0.ex
    have e1 : He.codeOf K impD = z := He.codeOf_eq lk hz
    have e2 : (He.cT K impD).1 = He.codeOf K impD := rfl
    rw [e2, e1] at TB
    exact TB
  obtain ⟨fd_Tableau_pivot, F_Tableau_pivot⟩ := c.d.def_ 34
  have c_pivot : C8.Met P w K mg base 4 (cT K) "pivot" (spPivot K (cT K)) [] := met_of k_Tableau (He.meth_ok (c.d.fact 72)) F_Tableau_pivot (ok_pivot TK F_Tableau_pivot T c_inverse c_minus c_times c_exchanged) (fun _ _ _ _ _ _ us hl => match us, hl with | [_, _, _], _ => rfl)
  obtain ⟨fd_Tableau_row_for, F_Tableau_row_for⟩ := c.d.def_ 35
  have c_row_for : C8.Met P w K mg base 4 (cT K) "row_for" (spRowFor K (cT K)) [] := met_of k_Tableau (He.meth_ok (c.d.fact 73)) F_Tableau_row_for (ok_row_for TK F_Tableau_row_for T c_inverse c_minus c_times c_below) (fun _ _ _ _ _ _ us hl => match us, hl with | [_, _], _ => rfl)
  have c_improve : C8.Met P w K mg base 6 (cT K) "improve" (spImprove K (cT K) Pt) [] := met_of k_Tableau (He.meth_ok (c.d.fact 74)) F_imp0 (ok_improve TK F_imp0 T hTB c_row_for c_pivot) (fun _ _ _ _ _ _ us hl => match us, hl with | [_], _ => rfl)
  obtain ⟨fd_Tableau_drop, F_Tableau_drop⟩ := c.d.def_ 37
  have c_drop : C8.Met P w K mg base 5 (cT K) "drop" (spDrop K (cT K)) [] := met_of k_Tableau (He.meth_ok (c.d.fact 75)) F_Tableau_drop (ok_drop TK F_Tableau_drop T c_pivot) (fun _ _ _ _ _ _ us hl => match us, hl with | [_, _], _ => rfl)
  obtain ⟨fd_Tableau_begin, F_Tableau_begin⟩ := c.d.def_ 38
  have c_begin : C8.Met P w K mg base 7 (cT K) "begin" (spBegin K (cT K) Pt) [] := met_of k_Tableau (He.meth_ok (c.d.fact 76)) F_Tableau_begin (ok_begin TK F_Tableau_begin T c_below c_pivot c_improve c_drop) (fun _ _ _ _ _ _ us hl => match us, hl with | [_], _ => rfl)
  obtain ⟨fd_Tableau_aim, F_Tableau_aim⟩ := c.d.def_ 39
  have c_aim : C8.Met P w K mg base 3 (cT K) "aim" (spAim K (cT K)) [] := met_of k_Tableau (He.meth_ok (c.d.fact 77)) F_Tableau_aim (ok_aim TK F_Tableau_aim T c_plus c_times) (fun _ _ _ _ _ _ us hl => match us, hl with | [_, _], _ => rfl)
  obtain ⟨fd_Tableau_present, F_Tableau_present⟩ := c.d.def_ 40
  have c_present : C8.Met P w K mg base 1 (cT K) "present" (spPresent K (cT K)) [] := met_of k_Tableau (He.meth_ok (c.d.fact 78)) F_Tableau_present (ok_present TK F_Tableau_present T) (fun _ _ _ _ _ _ us hl => match us, hl with | [_], _ => rfl)
  obtain ⟨fd_Tableau_weights, F_Tableau_weights⟩ := c.d.def_ 41
  have c_weights : C8.Met P w K mg base 4 (cT K) "weights" (spWeights K (cT K)) [] := met_of k_Tableau (He.meth_ok (c.d.fact 79)) F_Tableau_weights (ok_weights TK F_Tableau_weights T c_minus) (fun _ _ _ _ _ _ us hl => match us, hl with | [_], _ => rfl)
  obtain ⟨fd_Tableau___init__, F_tinit⟩ := c.d.def_ 33
  have c_Tableau : C8.Mak P w K mg base 4 "Tableau" (cT K) (spTInit K (cT K)) [] := ⟨_, _, _, [], (He.mkr_ok (c.d.fact 87)), ok_tinit TK F_tinit T c_minus, (He.glo_ok X G (c.d.fact 35)), F_tinit.bindsN (fun _ _ _ _ _ _ us hl => match us, hl with | [_, _, _], _ => rfl), .nil⟩
  obtain ⟨fd_Problem___init__, F_pinit⟩ := c.d.def_ 42
  obtain ⟨ds_p, rel_p, b_p⟩ := FunD.binds1 (ps := ["self", "size", "rows"]) F_pinit 3 1 (by simp [He.DefD.dvs]) rfl (fun T kV doc pm an cdv ct us its h1 h2 => match us, h1, its, h2 with
    | [_, _, _], _, [_], _ => ⟨_, rfl, rfl⟩)
  have e_p : ds_p = [] := by
    cases rel_p; rfl
  subst e_p
  have c_Problem : C8.Mak P w K mg base 5 "Problem" (cP K) (spPInit K (cP K)) [] := ⟨_, _, _, [], (He.mkr_ok (c.d.fact 88)), ok_pinit PK F_pinit T c_is_number c_is_row c_ratio_of, (He.glo_ok X G (c.d.fact 36)), b_p, .nil⟩
  obtain ⟨fd_Problem_rows, F_Problem_rows⟩ := c.d.def_ 43
  have c_rows : C8.Met P w K mg base 1 (cP K) "rows" (spRowsM K (cP K)) [] := met_of k_Problem (He.meth_ok (c.d.fact 80)) F_Problem_rows (ok_rows PK F_Problem_rows T) (fun _ _ _ _ _ _ us hl => match us, hl with | [_], _ => rfl)
  obtain ⟨fd_Problem_keeps, F_keeps⟩ := c.d.def_ 44
  obtain ⟨ds_k, rel_k, b_k⟩ := FunD.binds0 (ps := ["self", "values", "loose"]) F_keeps 2 (by simp [He.DefD.kws]) rfl (fun D doc pm an cdv ct us ks h1 h2 => match us, h1, ks, h2 with
    | [_, _], _, [_], _ => ⟨_, _, _, _, _, _, rfl, rfl, rfl⟩)
  have c_keeps : C8.Met P w K mg base 4 (cP K) "keeps" (spKeeps K (cP K)) [.bl false] := ⟨_, _, _, ds_k, k_Problem, (He.meth_ok (c.d.fact 81)), ok_keeps PK F_keeps T c_is_ratio c_dot c_below, b_k, rel_k⟩
  obtain ⟨fd_size, F_size⟩ := DefY.funD (c.y 0).1 (c.y 0).2 rfl
  have c_size : Prp P w K mg base 1 (cP K) "size" (spSize K (cP K)) := prp_of k_Problem (prpB_ok (c.x 14)) F_size (ok_size PK F_size T) (fun _ _ _ _ _ _ us hl => match us, hl with | [_], _ => rfl)
  obtain ⟨fd_probS, F_probS⟩ := DefY.funD (c.y 1).1 (c.y 1).2 rfl
  have c_probS : Prp P w K mg base 1 (cS K) "problem" (spProb K) := prp_of k_Solved (prpB_ok (c.x 15)) F_probS (ok_problem F_probS T) (fun _ _ _ _ _ _ us hl => match us, hl with | [_], _ => rfl)
  obtain ⟨fd_probB, F_probB⟩ := DefY.funD (c.y 2).1 (c.y 2).2 rfl
  have c_probB : Prp P w K mg base 1 (cB K) "problem" (spProb K) := prp_of k_Barred (prpB_ok (c.x 16)) F_probB (ok_problem F_probB T) (fun _ _ _ _ _ _ us hl => match us, hl with | [_], _ => rfl)
  obtain ⟨fd_Answer___init__, F_ainit⟩ := c.d.def_ 47
  have G_a : FnR P w K mg base C8.CX0 1 (He.ma K (cA K) "__init__") (spAInit K) := fnR_of (ok_ainit F_ainit T) (F_ainit.bindsN (fun _ _ _ _ _ _ us hl => match us, hl with | [_, _], _ => rfl))
  obtain ⟨fd_iS, cda_S, kV_S, doc_S, pm_S, ct_S, an_S, efd_S, S_S, hfd_S⟩ := sup_of (h := h) (C := cS K) rfl (c.y 3).1 (c.y 3).2 rfl (c.x 17)
  have b_iS : L2.Binds K fd_iS ["self", "problem", "values"] [] := by
    rw [efd_S]
    exact .all fun us hl => match us, hl with | [_, _, _], _ => rfl
  have c_Solved : C8.Mak P w K mg base 5 "Solved" (cS K) (spAns K (cS K) "own_values") [] := ⟨_, _, _, [], (He.mkr_ok (c.d.fact 89)), ok_sinit (fd2 := fd_Answer___init__) S_S hfd_S (show (PP.main.scope.names.lookup ("super" : Str)).isSome = false by decide +kernel) AS T G_a c_as_list, (He.glo_ok X G (c.d.fact 38)), b_iS, .nil⟩
  obtain ⟨fd_iB, cda_B, kV_B, doc_B, pm_B, ct_B, an_B, efd_B, S_B, hfd_B⟩ := sup_of (h := h) (C := cB K) rfl (c.y 4).1 (c.y 4).2 rfl (c.x 18)
  have b_iB : L2.Binds K fd_iB ["self", "problem", "weights"] [] := by
    rw [efd_B]
    exact .all fun us hl => match us, hl with | [_, _, _], _ => rfl
  have c_Barred : C8.Mak P w K mg base 5 "Barred" (cB K) (spAns K (cB K) "own_weights") [] := ⟨_, _, _, [], (He.mkr_ok (c.d.fact 90)), ok_binit S_B hfd_B (show (PP.main.scope.names.lookup ("super" : Str)).isSome = false by decide +kernel) AB T G_a c_as_list, (He.glo_ok X G (c.d.fact 39)), b_iB, .nil⟩
  obtain ⟨fd_Problem_solve, F_Problem_solve⟩ := c.d.def_ 45
  have c_solve : C8.Met P w K mg base 8 (cP K) "solve" (spSolve K (cP K) (cS K) (cB K) Pt) [] := met_of k_Problem (He.meth_ok (c.d.fact 82)) F_Problem_solve (ok_solve PK TK F_Problem_solve T c_Tableau c_begin c_aim c_improve c_present c_weights c_Solved c_Barred) (fun _ _ _ _ _ _ us hl => match us, hl with | [_], _ => rfl)
  obtain ⟨fd_Solved_numbers, F_Solved_numbers⟩ := c.d.def_ 50
  have c_numbers : C8.Met P w K mg base 4 (cS K) "numbers" (spNums K (cS K) "own_values") [] := met_of k_Solved (He.meth_ok (c.d.fact 83)) F_Solved_numbers (ok_numbers AS F_Solved_numbers T c_as_list) (fun _ _ _ _ _ _ us hl => match us, hl with | [_], _ => rfl)
  obtain ⟨fd_Barred_weights, F_Barred_weights⟩ := c.d.def_ 52
  have c_bweights : C8.Met P w K mg base 4 (cB K) "weights" (spNums K (cB K) "own_weights") [] := met_of k_Barred (He.meth_ok (c.d.fact 85)) F_Barred_weights (ok_bweights AB F_Barred_weights T c_as_list) (fun _ _ _ _ _ _ us hl => match us, hl with | [_], _ => rfl)
  obtain ⟨fd_Solved_holds, F_Solved_holds⟩ := c.d.def_ 51
  have c_sholds : C8.Met P w K mg base 5 (cS K) "holds" (spSHolds K (cS K) (cP K)) [] := met_of k_Solved (He.meth_ok (c.d.fact 84)) F_Solved_holds (ok_sholds AS F_Solved_holds T c_keeps) (fun _ _ _ _ _ _ us hl => match us, hl with | [_], _ => rfl)
  obtain ⟨fd_Barred_holds, F_Barred_holds⟩ := c.d.def_ 53
  have c_bholds : C8.Met P w K mg base 5 (cB K) "holds" (spBHolds K (cB K) (cP K)) [] := met_of k_Barred (He.meth_ok (c.d.fact 86)) F_Barred_holds (ok_bholds AB F_Barred_holds T c_rows c_size c_are_ratios c_least_weights) (fun _ _ _ _ _ _ us hl => match us, hl with | [_], _ => rfl)
  obtain ⟨fd__law_source, F__law_source⟩ := c.d.def_ 18
  have c__law_source : C8.Cal P w K mg base 1 "_law_source" (spSource K) [] := cal_of F__law_source (ok_law_source F__law_source T) (He.glo_ok X G (c.d.fact 18)) (fun _ _ _ _ _ _ us hl => match us, hl with | [_], _ => rfl)
  obtain ⟨fd__law_draw, F__law_draw⟩ := c.d.def_ 19
  have c__law_draw : C8.Cal P w K mg base 1 "_law_draw" (spDraw) [] := cal_of F__law_draw (ok_law_draw F__law_draw T) (He.glo_ok X G (c.d.fact 19)) (fun _ _ _ _ _ _ us hl => match us, hl with | [_, _], _ => rfl)
  obtain ⟨fd__law_low, F__law_low⟩ := c.d.def_ 20
  have c__law_low : C8.Cal P w K mg base 1 "_law_low" (spLow K) [] := cal_of F__law_low (ok_law_low F__law_low T) (He.glo_ok X G (c.d.fact 20)) (fun _ _ _ _ _ _ us hl => match us, hl with | [_, _], _ => rfl)
  obtain ⟨fd__law_plus, F__law_plus⟩ := c.d.def_ 21
  have c__law_plus : C8.Cal P w K mg base 2 "_law_plus" (spPlus K) [] := cal_of F__law_plus (ok_law_plus F__law_plus T c__law_low) (He.glo_ok X G (c.d.fact 21)) (fun _ _ _ _ _ _ us hl => match us, hl with | [_, _], _ => rfl)
  obtain ⟨fd__law_times, F__law_times⟩ := c.d.def_ 22
  have c__law_times : C8.Cal P w K mg base 2 "_law_times" (spTimes K) [] := cal_of F__law_times (ok_law_times F__law_times T c__law_low) (He.glo_ok X G (c.d.fact 22)) (fun _ _ _ _ _ _ us hl => match us, hl with | [_, _], _ => rfl)
  obtain ⟨fd__law_minus, F__law_minus⟩ := c.d.def_ 23
  have c__law_minus : C8.Cal P w K mg base 1 "_law_minus" (spLNeg K) [] := cal_of F__law_minus (ok_law_minus F__law_minus T) (He.glo_ok X G (c.d.fact 23)) (fun _ _ _ _ _ _ us hl => match us, hl with | [_], _ => rfl)
  obtain ⟨fd__law_less, F__law_less⟩ := c.d.def_ 24
  have c__law_less : C8.Cal P w K mg base 1 "_law_less" (spBelow K) [] := cal_of F__law_less (ok_law_less F__law_less T) (He.glo_ok X G (c.d.fact 24)) (fun _ _ _ _ _ _ us hl => match us, hl with | [_, _], _ => rfl)
  obtain ⟨fd__law_total, F__law_total⟩ := c.d.def_ 25
  have c__law_total : C8.Cal P w K mg base 3 "_law_total" (spTotal K) [] := cal_of F__law_total (ok_law_total F__law_total T c__law_plus) (He.glo_ok X G (c.d.fact 25)) (fun _ _ _ _ _ _ us hl => match us, hl with | [_], _ => rfl)
  obtain ⟨fd__law_dot, F__law_dot⟩ := c.d.def_ 26
  have c__law_dot : C8.Cal P w K mg base 4 "_law_dot" (spLDot K) [] := cal_of F__law_dot (ok_law_dot F__law_dot T c__law_times c__law_total) (He.glo_ok X G (c.d.fact 26)) (fun _ _ _ _ _ _ us hl => match us, hl with | [_, _], _ => rfl)
  obtain ⟨fd__law_gain, F__law_gain⟩ := c.d.def_ 27
  have c__law_gain : C8.Cal P w K mg base 2 "_law_gain" (spGain K) [] := cal_of F__law_gain (ok_law_gain F__law_gain T c__law_draw c__law_low) (He.glo_ok X G (c.d.fact 27)) (fun _ _ _ _ _ _ us hl => match us, hl with | [_], _ => rfl)
  obtain ⟨fd__law_rows, F__law_rows⟩ := c.d.def_ 28
  have c__law_rows : C8.Cal P w K mg base 3 "_law_rows" (spRows K) [] := cal_of F__law_rows (ok_law_rows F__law_rows T c__law_draw c__law_gain) (He.glo_ok X G (c.d.fact 28)) (fun _ _ _ _ _ _ us hl => match us, hl with | [_, _, _], _ => rfl)
  obtain ⟨fd__law_keeps, F__law_keeps⟩ := c.d.def_ 29
  have c__law_keeps : C8.Cal P w K mg base 5 "_law_keeps" (spLKeeps K) [] := cal_of F__law_keeps (ok_law_keeps F__law_keeps T c__law_less c__law_dot) (He.glo_ok X G (c.d.fact 29)) (fun _ _ _ _ _ _ us hl => match us, hl with | [_, _, _], _ => rfl)
  obtain ⟨fd__law_barred, F__law_barred⟩ := c.d.def_ 30
  have c__law_barred : C8.Cal P w K mg base 4 "_law_barred" (spLBar K) [] := cal_of F__law_barred (ok_law_barred F__law_barred T c__law_times c__law_total) (He.glo_ok X G (c.d.fact 30)) (fun _ _ _ _ _ _ us hl => match us, hl with | [_, _, _], _ => rfl)
  obtain ⟨fd__law_same, F_same⟩ := c.d.def_ 31
  have c__law_same : CalG P w K mg base 1 "_law_same" (spSame K) := ⟨_, _, _, ok_same F_same T (F_same.bindsN (fun _ _ _ _ _ _ us hl => match us, hl with | [_, _], _ => rfl)), (He.glo_ok X G (c.d.fact 31)), F_same.kp⟩
  obtain ⟨fd_Problem___eq__, F_eqp⟩ := c.d.def_ 46
  obtain ⟨fd_Solved___bool__, F_sbl⟩ := c.d.def_ 49
  obtain ⟨fd_Answer___bool__, F_abl⟩ := c.d.def_ 48
  have i_PP := insB_ok k_Problem (c.x 8)
  have gP : ∃ u, mg "Problem" = some u ∧ RelV (.ref (cP K)) u := ⟨_, (He.glo_ok X G (c.d.fact 36)), rfl⟩
  have gA : ∃ u, mg "Answer" = some u ∧ RelV (.ref (cA K)) u := ⟨_, (He.glo_ok X G (c.d.fact 37)), rfl⟩
  have gS : ∃ u, mg "Solved" = some u ∧ RelV (.ref (cS K)) u := ⟨_, (He.glo_ok X G (c.d.fact 38)), rfl⟩
  have gB : ∃ u, mg "Barred" = some u ∧ RelV (.ref (cB K)) u := ⟨_, (He.glo_ok X G (c.d.fact 39)), rfl⟩
  have O_eq : FnOk P w K mg base C8.CX0 1 _ _ _ _ := ok_eqp PK F_eqp T gP ⟨i_PP.cl, i_PP.ha, i_PP.hn, i_PP.htk, i_PP.hm, i_PP.me⟩
  have O_sb : FnOk P w K mg base C8.CX0 1 _ _ _ _ := ok_sbool F_sbl T
  have O_ab : FnOk P w K mg base C8.CX0 1 _ _ _ _ := ok_abool F_abl T
  obtain ⟨h_eq, h_fn⟩ := He.ba (c.x 10)
  obtain ⟨h_sb, h_sf⟩ := He.ba (c.x 12)
  obtain ⟨h_bb, h_bf⟩ := He.ba (c.x 13)
  exact ok_law solved_all F_law T (F_law.bindsN (fun _ _ _ _ _ _ us hl => match us, hl with | [_], _ => rfl)) c__law_source c__law_draw c__law_rows c__law_minus c__law_low c__law_keeps c__law_barred c__law_same c_Problem c_solve c_probS c_probB c_sholds c_bholds c_numbers c_bweights
    O_eq (He.eqO_ok (c.x 9)) (He.eqO_ok h_eq) h_fn (of_decide_eq_true (c.x 11)) (F_eqp.bindsN (fun _ _ _ _ _ _ us hl => match us, hl with | [_, _], _ => rfl))
    O_sb (He.eqO_ok h_sb) h_sf (F_sbl.bindsN (fun _ _ _ _ _ _ us hl => match us, hl with | [_], _ => rfl))
    O_ab (He.eqO_ok h_bb) h_bf (F_abl.bindsN (fun _ _ _ _ _ _ us hl => match us, hl with | [_], _ => rfl))
    gA gS gB (insB_ok k_Solved (c.x 3)) (insB_ok k_Barred (c.x 4)) (insB_ok k_Solved (c.x 5)) (insB_ok k_Barred (c.x 6)) (insB_ok k_Barred (c.x 7)) AS AB
end MM
open PySem PySem.W PySem.Calls PyProof.Rows
set_option maxRecDepth 100000 in
set_option maxHeartbeats 8000000 in
theorem PySem.Challenge.cw_missingmiles_k09_whole_problems_solved_holds : PySem.Challenge.rw_missingmiles_k09_whole_problems_solved.Holds := by
  w_on; o_law
  refine HandSHeadRun.head_imp (r := OpenLaw.row PySem.Challenge.rw_missingmiles_k09_whole_problems_solved) (q := MM.viewO) (H := MM.hkO) (ob := MM.obO) (M := 6000) (loose := MM.namesO) (d := HandSHeadRun.topDef (OpenLaw.row PySem.Challenge.rw_missingmiles_k09_whole_problems_solved).prog 51) (kwd := []) MM.obO_eq
    MM.run_o (by kernel_rfl) (by kernel_rfl) (by kernel_rfl) (by rfl) (by first | assumption | decide +kernel) (by decide +kernel) ⟨rfl, rfl, rfl, rfl, rfl, by decide +kernel⟩ ?hw ?hc
  case hw => w_witness2
  case hc =>
    refine Att.attach_callB (n := 63) rfl (by kernel_rfl) fun w s₀ s mg mb fa o pm cd doc a its ns G Y ho hd hcd hmg ha hi hz hbits hg => ?_
    obtain ⟨K, KX, c⟩ := Y
    obtain ⟨fd, hF⟩ := MM.law_ok (w := w) c KX G.T.g
    have hn : (HandSHeadRun.topDef (OpenLaw.row PySem.Challenge.rw_missingmiles_k09_whole_problems_solved).prog 51).name = ("law" : PySem.Str) := by kernel_rfl
    have e : fa = He.ga K "law" := by
      rw [hn] at hmg
      exact MM.law_at c KX G.T.g hmg
    subst e
    exact MM.enter_law KX G.T.g G.T.b G.T.builtins G.T.nolimit hg G.T.bmain c.empty c.out c.hd ha hi (Nat.le_trans hz (by decide)) ⟨rfl, by decide, by decide⟩ (fun base _ _ TB => hF base TB)
      fun H hP hS => ⟨a, ns, rfl, hS, hz, fun p hp => by
        rw [List.mem_singleton.mp hp]
        exact LamX.TabS.nil hP, fun _ => rfl⟩
